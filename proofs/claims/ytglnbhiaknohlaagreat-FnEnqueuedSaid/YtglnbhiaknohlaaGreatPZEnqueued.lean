/-
  Plain laws. Nothing here is a claim.
-/
import Derived.Test.YtglnbhiaknohlaaGreatPYEnqueued
namespace Go.Proofs.YtglnbhiaknohlaaGreat
open Go.RowKit
set_option linter.unusedVariables false
set_option linter.unusedSimpArgs false
set_option maxRecDepth 100000
theorem afH{g:aN}{m:kC}{l:Int}(C:cF g=true)(D:aJ m.order 0 2=true)(E:0<=l)(hl:l<cX g):Uk g m l=some (v8 g m l,true)/\dA g (v8 g m l)=true:=by
 have J:=nW g;have I:aJ l 0 (W6 (cX g-1))=true:=by rw[bf (by omega) (by omega)];exact bC.2 ⟨E,by omega⟩
 refine afG C D E hl _ ?_;unfold Uk;rw[yI,au,C,bR,aq,UQ,au,D,bR,aq,NV,au,fC,au,I,bR,aq,rz,au]
theorem auI{g:aN}{m:kC}{l:Int}(E:cF g=true)(C:aJ m.order 0 2=true)(D:0<=l)(hl:l<cX g):Mt g m l=some (v8 g m l,true):=by
 have J:=nW g;have I:aJ l 0 (W6 (cX g-1))=true:=by rw[bf (by omega) (by omega)];exact bC.2 ⟨D,by omega⟩
 refine(afG E C D hl _ ?_).1;unfold Mt;rw[show C8 m=some (aJ m.order 0 2)from UQ m,au,C,bR,aq,yJ,au,ei,au,I,bR,aq,nU,au]
def gx(c:av)(l:Int):aL:=
 let a:=v8 (cU c.config.ay c.spare) c.config.mapping l
 ⟨a.az,c.spare.map.getD (a.az*(c.config.ay.rows-c.spare.bH)+a.row).toNat 0,a.bT⟩
theorem Ju{g:aN}{s:c9}(h:jV g s=true):cU g s=⟨g.ck,g.aF,g.rows-s.bH,g.aO⟩/\cF g=true/\cF (cU g s)=true/\aV (cU g s)=aV g/\0<=s.bH/\s.bH<=2/\2<=g.rows-s.bH/\g.rows<=16:=by
 have E:=h;simp only[jV,aK]at h;obtain⟨C,I,J,L,O⟩:=N5 h.1;have Q:=fP C;have e:cU g s=⟨g.ck,g.aF,g.rows-s.bH,g.aO⟩:=by
  unfold cU;rw[E,ak,bf (by omega) (by omega)]
 have D:cF (cU g s)=true:=by
  rw[e];unfold cF;simp only[aK,bC];refine⟨⟨⟨?_,?_⟩,?_⟩,?_⟩<;>omega
 refine⟨e,C,D,?_,I,J,L,O⟩;unfold aV;rw[C,D,e]
theorem afI{g:aN}{s:c9}(h:jV g s=true){b r:Int}(hb:0<=b/\b<aV g)(E:0<=r/\r<g.rows-s.bH):(b*(g.rows-s.bH)+r).toNat<s.map.length/\0<=s.map.getD (b*(g.rows-s.bH)+r).toNat 0/\s.map.getD (b*(g.rows-s.bH)+r).toNat 0<g.rows:=by
 obtain⟨_,T,_,_,U,Y,Z,h4⟩:=Ju h;have I:=fG g;simp only[jV,aK,eS,cv,eD]at h;obtain⟨_,hl,J⟩:=h;obtain⟨b,rfl⟩:=fI hb.1;obtain⟨r,rfl⟩:=fI E.1;obtain⟨R,hR⟩:=fI (show 0<=g.rows-s.bH by omega);obtain⟨C,L⟩:=fI I.1;rw[hR,L,bJ,bJ]at hl;have hl:s.map.length=C*R:=by exact_mod_cast hl
 have O:b<C:=by omega
 have D:r<R:=by omega
 have e:((b:Int)*(g.rows-s.bH)+(r:Int)).toNat=b*R+r:=by rw[hR,<-Int.natCast_mul,<-Int.natCast_add,bJ]
 have dn:=yP (R:=R) O (show r+1<=R from D);have hi:b*R+r<s.map.length:=by omega
 have h5:=J b (by omega) r (by omega);rw[e];refine⟨hi,?_⟩;rw[eX,bK hi,Option.getD_some];have Q:(gk s.map R b)[r]?=some s.map[b*R+r]:=by rw[DW,List.getElem?_take_of_lt D,List.getElem?_drop,bK hi]
 rw[hR,bJ]at h5;unfold pQ at h5;rw[Q]at h5;simp only[dy,aK,eS,bC]at h5;rcases h5 with h5|h5
 ·omega
 ·have:=h5.1;omega
theorem auJ{c:av}(h:Pk c)(E:jV c.config.ay c.spare=true)(he:c.spare.bH=c.config.bH)(hm:aJ c.config.mapping.order 0 2=true){l:Int}(h0:0<=l)(hl:l<cX (cU c.config.ay c.spare)):vS c l=some (gx c l,true)/\dA c.config.ay (gx c l)=true:=by
 obtain⟨T,U,Y,Z,s1,s2,s3,s4⟩:=Ju E;obtain⟨m1,m3⟩:=afH Y hm h0 hl;obtain⟨_,C,D,I,J,b5,b6⟩:=rA m3;rw[Z]at D;have gb:=fP U;have hb:=fG c.config.ay;have er:(cU c.config.ay c.spare).rows=c.config.ay.rows-c.spare.bH:=by rw[T]
 have ec:(cU c.config.ay c.spare).aO=c.config.ay.aO:=by rw[T]
 rw[er]at J;rw[ec]at b6;obtain⟨k1,k2,k3⟩:=afI E ⟨C,D⟩ ⟨I,J⟩;have hmul:=yK C D I J;have hM:=NU (a:=aV c.config.ay) (b:=c.config.ay.rows-c.spare.bH) (A:=8) (B:=16) hb.1 hb.2 (by omega) (by omega);unfold gx;generalize hA:v8 (cU c.config.ay c.spare) c.config.mapping l=A at *
 dsimp only;refine⟨?_,vU U C D k2 k3 b5 b6⟩;unfold vS;rw[Oe,au,m1,au];dsimp only;rw[bR,aq];unfold adu xI;have hx:Ul (cU c.config.ay c.spare) A.az A.row=some true:=by
  unfold Ul;rw[aei,au,vU (a:=⟨A.az,A.row,0⟩) Y C (by rw[Z];exact D) I (by rw[er];exact J) (Int.le_refl 0) (by rw[ec];show (0:Int)<_;omega)]
 obtain⟨b,hbN⟩:=fI C;obtain⟨r,hrN⟩:=fI I;obtain⟨R,hR⟩:=fI (show 0<=c.config.ay.rows-c.spare.bH by omega);obtain⟨bn,hn⟩:=fI hb.1;have O:c.spare.map.length=bn*R:=by
  simp only[jV,aK,eS]at E;have:=E.2.1;rw[hR,hn,bJ,bJ]at this
  exact_mod_cast this
 have L:b<bn:=by omega
 have Q:r<R:=by omega
 have dn:=yP (R:=R) L (show r+1<=R from Q);have auK:=yP (R:=R) L (dV R);have hi:b*R+r<c.spare.map.length:=by omega
 rw[Oe,au,hx,au,bR,aq,hbN,aeX hR (by omega) (by omega) L O,au];have ht:((c.spare.map.take ((b+1)*R)).drop (b*R))=gk c.spare.map R b:=rfl;have iI:(gk c.spare.map R b).length=R:=Bq (by rw[O];exact gS R L);have hgx:(gk c.spare.map R b)[r]?=some c.spare.map[b*R+r]:=by rw[DW,List.getElem?_take_of_lt Q,List.getElem?_drop,bK hi]
 have hgy:(gk c.spare.map R b)[r]'(by omega)=c.spare.map[b*R+r]:=by
  have:=bK (l:=gk c.spare.map R b) (i:=r) (by omega);rw[hgx]at this;injection this with this;exact this.symm
 dsimp only;rw[iE (by rw[fQ];omega),iE (by rw[fQ,O];omega),cM,ak,hrN,aG ⟨by omega,by rw[ht,iI,bJ];exact Q⟩];simp only[bJ,ht,hgy,au];rw[hR,<-Int.natCast_mul,<-Int.natCast_add,bJ,eX,bK hi,Option.getD_some]
theorem auL{c:av}(h:Pk c)(I:jV c.config.ay c.spare=true)(Y:c.spare.bH=c.config.bH)(J:aJ c.config.mapping.order 0 2=true){l:Int}(L:0<=l)(hl:l<cX (cU c.config.ay c.spare)):vG c l=some (gx c l):=by
 obtain⟨C,Z,O,eb,s1,s2,s3,s4⟩:=Ju I;obtain⟨m1,m3⟩:=afH O J L hl;have m2:=auI O J L hl;obtain⟨_,Q,D,T,E,b5,b6⟩:=rA m3;rw[eb]at D;have gb:=fP Z;have hb:=fG c.config.ay;have er:(cU c.config.ay c.spare).rows=c.config.ay.rows-c.spare.bH:=by rw[C]
 have ec:(cU c.config.ay c.spare).aO=c.config.ay.aO:=by rw[C]
 rw[er]at E;rw[ec]at b6;obtain⟨U,k2,k3⟩:=afI I ⟨Q,D⟩ ⟨T,E⟩;have hmul:=yK Q D T E;have hM:=NU (a:=aV c.config.ay) (b:=c.config.ay.rows-c.spare.bH) (A:=8) (B:=16) hb.1 hb.2 (by omega) (by omega);unfold gx;generalize hA:v8 (cU c.config.ay c.spare) c.config.mapping l=A at *
 dsimp only;unfold vG xI;have hw:W6 (c.config.ay.rows-c.config.bH)=c.config.ay.rows-c.spare.bH:=by rw[<-Y];exact bf (by omega) (by omega)
 have hw1:W6 (A.az*(c.config.ay.rows-c.spare.bH))=A.az*(c.config.ay.rows-c.spare.bH):=bf (by omega) (by omega);have hw2:W6 (A.az*(c.config.ay.rows-c.spare.bH)+A.row)=A.az*(c.config.ay.rows-c.spare.bH)+A.row:=bf (by omega) (by omega);simp only[hw];rw[<-C,m2,au];simp only[hw1,hw2];rw[aG ⟨hmul.2.1,U⟩,eX,bK U,Option.getD_some]
theorem D2{c:eH}{p:dF}(hl:p.weights.length<1073741823)(h:mG c p=true):ni c=true/\nZ p=true:=by
 obtain⟨b,e,D⟩:=UX c p hl;have hb:b=true:=by
  rw[Jk c p hl]at e;injection e with e;rw[<-e,h]
 subst hb;have C:=D rfl;refine⟨C,?_⟩;unfold ry at e;obtain⟨y,E⟩:=UW p.eB;simp only[N7,N8 _ hl,E,au,C]at e;cases I:nZ p with
 |true=>rfl
 | false=>
  rw[I]at e;exact absurd e (by simp)
structure Pq (c:av):Prop where
 p:Pk c
 sp:jV c.config.ay c.spare=true
 se:c.spare.bH=c.config.bH
 mo:aJ c.config.mapping.order 0 2=true
 q:∀r∈c.queue,(0<=r.line/\r.line<cX (cU c.config.ay c.spare))/\(0<=r.dj/\r.dj<=3)/\(0<=r.at_/\r.at_<=1000000)
 ql:c.queue.length<=12
 pe:∀a∈c.pending,dA c.config.ay a=true
 pl:c.pending.length<=128
 rf:fq c.bu=true
 dl:(c.bu.aU.length:Int)=aV c.config.ay
 sh:gj c.shares=true
 shl:c.shares.length=4
 dr:lS c.drain=true
 pw:ji c.bg=true
 ps:c.bg.state=c.bh.bg
 nw:0<=c.now/\c.now<=1000000
 cap:0<=c.box.bZ.cap/\c.box.bZ.cap<=100000
 dW:yN c.box.bZ.dW=true
theorem Pq.of{c:av}(D:dO c)(h:dU c=true):Pq c:=by
 have J:=Pk.of D h;have z1:c.box.bZ.weights.length<=1048576:=D.1.1;simp only[dU,aK]at h;obtain⟨L,h2,O,h4,h5,h6,Q,T,C,E,U,I,Y,Z,kj,jq,oe,qb,qc,sZ,uA,uB⟩:=h;obtain⟨f1,f2⟩:=D2 (by omega) L;simp only[ni,aK]at f1;simp only[nZ,aK]at f2;obtain⟨f3,f4,f5,f6,f7,f8,f9⟩:=f2;simp only[rI,aK,eS,fM,lY,cv,eD]at C;obtain⟨C,g1,g2,g3,g4,g5,g6⟩:=C;simp only[eV,aK,cv,eD,fH]at E;obtain⟨q1,q2⟩:=E;have e12:c.shares.length=4:=by
  have I:(c.shares.length:Int)=4:=by simpa using I
  omega
 refine⟨J,Q,by simpa using T,f1.2.2.1,λr hr=>?_,by omega,λa ha=>?_,by omega,C,g1,U,e12,Y,Z,by simpa using kj,bC.1 O,bC.1 f4,f9⟩
 ·obtain⟨i,hi,rfl⟩:=iX.1 hr;have hb:=q1 i hi;unfold oO at hb;rw[bK hi]at hb;simp only[kT,aK,fH]at hb;obtain⟨⟨k1,k2,k3,k4,k5,k6,k7⟩,_⟩:=hb;exact⟨⟨k3,k4⟩,bC.1 k2,bC.1 k7⟩
 ·obtain⟨i,hi,rfl⟩:=iX.1 ha;have hb:=g6 i hi;unfold yR at hb;rw[bK hi]at hb;simp only[aK]at hb;exact hb.1
def D3(r:cK)(a:aL):Bool:=(jW r a.az).open_&&((jW r a.az).row==a.row)
def BA(r:cK)(a:aL)(w:Bool):aI:=
 bif !(jW r a.az).open_ then ⟨1,a.az,a.row,0⟩else bif (jW r a.az).row != a.row then ⟨4,a.az,0,0⟩else bif w then ⟨3,a.az,0,a.bT⟩else ⟨2,a.az,0,a.bT⟩
theorem Jv{r:cK}{b:Int}(h:b.toNat<r.aF.length):jW r b=r.aF[b.toNat]:=by
 unfold jW;rw[eX,bK h];rfl
theorem Vo{b:Int}{n:Nat}(C:0<=b)(h:b.toNat<n)(D:n<=1048576):aJ b 0 (W6 ((n:Int)-1))=true:=by
 rw[bf (by omega) (by omega)];exact bC.2 ⟨C,by omega⟩
theorem Vp{r:cK}{a:aL}(w:Bool)(C:0<=a.az)(h:a.az.toNat<r.aF.length)(hl:r.aF.length<=1048576):Bd r a w=some (BA r a w):=by
 unfold Bd BA xI;rw[fC,au,Vo C h hl,bR,aq,aG ⟨C,h⟩,Jv h];dsimp only;cases r.aF[a.az.toNat].open_ with
 |false=>rfl
 | true=>
  rw[bR,aq,aG ⟨C,h⟩,aq];cases r.aF[a.az.toNat].row != a.row<;>cases w<;>rfl
theorem afJ:yo=Bd:=rfl
theorem auM{r:cK}{b:Int}(C:0<=b)(h:b.toNat<r.aF.length)(hl:r.aF.length<=1048576):NP r b=some (bif (jW r b).open_ then (jW r b).row else -1):=by
 unfold NP xI;rw[fC,au,Vo C h hl,bR,aq,aG ⟨C,h⟩,Jv h];dsimp only;cases r.aF[b.toNat].open_ with
 |false=>rfl
 |true=>rw[bR,aq,aG ⟨C,h⟩];rfl
theorem auN:MX=NP:=rfl
theorem afK{r:cK}{a:aL}(D:0<=a.row)(C:0<=a.az)(h:a.az.toNat<r.aF.length)(hl:r.aF.length<=1048576):Hz r a=some (D3 r a):=by
 unfold Hz D3;rw[auN,auM C h hl,au,au];cases (jW r a.az).open_ with
 |false=>rw[aq,jw (by omega:¬ (-1:Int)=a.row)];rfl
 | true=>
  rw[ak,cM];by_cases e:(jW r a.az).row=a.row
  ·rw[e,ld,ak,iT (by omega:¬ a.row = -1)]
  ·rw[jw e];rfl
theorem auO{g:aN}{r:cK}{a:aL}(w:Bool)(h:dA g a=true):eK g (BA r a w)=true:=by
 obtain⟨I,J,Q,L,T,O,U⟩:=rA h;have C:aJ a.az 0 (aV g-1)=true:=bC.2 ⟨J,by omega⟩;have D:aJ a.row 0 (g.rows-1)=true:=bC.2 ⟨L,by omega⟩;have E:aJ a.bT 0 (g.aO-1)=true:=bC.2 ⟨O,by omega⟩;unfold BA eK sO;cases (jW r a.az).open_<;>cases (jW r a.az).row != a.row<;>cases w<;>simp[I,aJ,C,D,E]<;>simp only[aJ,aK,fH]at C D E<;>omega
theorem Jw{g:aN}{k b:Int}(C:cF g=true)(D:k=4\/k=5)(hb:0<=b/\b<aV g):eK g ⟨k,b,0,0⟩=true:=by
 have E:aJ b 0 (aV g-1)=true:=bC.2 ⟨hb.1,by omega⟩;unfold eK sO;rcases D with rfl|rfl<;>simp[C,aJ]<;>simp only[aJ,aK,fH]at E<;>omega
theorem auP{g:aN}{a:aL}(h:dA g a=true):eK g ⟨1,a.az,a.row,0⟩=true:=by
 obtain⟨C,D,E,I,J,L,O⟩:=rA h;unfold eK sO;simp[C,aJ];omega
theorem afL{g:aN}{k:Int}(C:cF g=true)(D:6<=k/\k<=9):eK g ⟨k,0,0,0⟩=true:=by
 obtain⟨n,rfl⟩:=fI (show 0<=k by omega);have:n=6\/n=7\/n=8\/n=9:=by omega
 unfold eK;rw[C];rcases this with rfl|rfl|rfl|rfl<;>rfl
def D4(t:cw)(row:Int):aj Nat:=match t.rows.findIdx? (λe=>e==row)with
 |some i=>some i
 |none=>t.counts.findIdx? (λe=>e==t.ep)
def pS(t:cw)(row:Int):cw:=match t.rows.findIdx? (λe=>e==row)with
 |some i=>⟨t.rows,t.counts.set i (t.counts.getD i 0+1),t.ep⟩
 | none=>match t.counts.findIdx? (λe=>e==t.ep)with
  |some i=>⟨t.rows.set i row,t.counts.set i (t.ep+1),t.ep⟩
  |none=>⟨t.rows,t.counts,t.ep+1⟩
def zb(t:cw)(row dm:Int):cw×Bool:=bif jy t&&(aJ row 0 15&&aJ dm 2 1000)then (bif jy (pS t row)then (pS t row,match D4 t row with
    |some i=>((pS t row).counts.getD i 0).tmod dm==0
    |none=>false)else (t,false))else (t,false)
structure Tk (t:cw):Prop where
 rl:t.rows.length<=16
 cl:t.counts.length=t.rows.length
 sp:0<=t.ep/\t.ep<=100000
 cs:∀i (h:i<t.counts.length),0<=t.counts[i]/\t.counts[i]<=100000
theorem Tk.of{t:cw}(h:jy t=true):Tk t:=by
 simp only[jy,aK,eS,cv,eD]at h;obtain⟨D,I,C,E⟩:=h;have D:=bC.1 D;have C:=bC.1 C
 refine⟨by omega,by omega,C,λi hi=>?_⟩
 have hb:=E i (by omega);rw[Oc (by omega) hi,aK,aK]at hb;have:=bC.1 hb.2.1;omega
theorem Vq{T:Type}{p:T->Bool}{l:aa T}{i:Nat}(h:l.findIdx? p=some i):∃ hi:i<l.length,p l[i]=true:=by
 obtain⟨hi,C,_⟩:=nA.1 h;exact⟨hi,C⟩
theorem auQ{t:cw}(h:Tk t)(row:Int):Mz t row=some ((match D4 t row with | some i=>(i:Int) | none=>-1),(pS t row,())):=by
 have L:=h.rl;have O:=h.cl;have E:=Bm (step:=GZ) t.rows (λe=>e==row) (λi=>(((),row,(i:Int),()),(((),(),t.ep,()),t.rows,t.counts,()))) (λi=>.inl (((i:Int),()),(((),(),t.ep,()),t.rows,t.counts.set i (t.counts.getD i 0+1),()))) (.inr (.inl (((),row,()),(((),(),t.ep,()),t.rows,t.counts,())))) aZ (λk D=>by
  have C:k<t.counts.length:=by omega
  have I:=h.cs k C;unfold GZ aB bq xG xL;dsimp only;rw[aW (by omega),ak,aG ⟨by omega,by omega⟩,aG (by omega)];simp only[bJ];cases t.rows[k]==row with
  |false=>rw[aq,aq,bP (by omega)]
  | true=>
   rw[ak,ak,aG ⟨by omega,C⟩,aG C,aG ⟨by omega,C⟩,aG C,bf (n:=t.counts[k]+1) (by omega) (by omega),eX,bK C];rfl) (by
  unfold GZ aB bq xG xL;dsimp only;rw[br (by omega),aq]) (bY (by omega))
 have J:=Bm (step:=G0) t.counts (λe=>e==t.ep) (λi=>(((),row,(i:Int),()),(((),(),t.ep,()),t.rows,t.counts,()))) (λi=>.inl (((i:Int),()),(((),(),t.ep,()),t.rows.set i row,t.counts.set i (t.ep+1),()))) (.inr (.inl (((),()),(((),(),t.ep,()),t.rows,t.counts,())))) aZ (λk D=>by
  have C:k<t.rows.length:=by omega
  have I:=h.sp;unfold G0 aB bq xG xL;dsimp only;rw[aW (by omega),ak,aG ⟨by omega,by omega⟩,aG (by omega)];simp only[bJ];cases t.counts[k]==t.ep with
  |false=>rw[aq,aq,bP (by omega)]
  |true=>rw[ak,ak,aG ⟨by omega,C⟩,aG C,aG ⟨by omega,D⟩,aG D,bf (n:=t.ep+1) (by omega) (by omega)]) (by
  unfold G0 aB bq xG xL;dsimp only;rw[br (by omega),aq]) (bY (by omega))
 have Q:=h.sp;unfold Mz D4 pS cg
 refine(bD (λo=>Option.bind o _) E).trans ?_
 rw[au];cases T:t.rows.findIdx? (λe=>e==row)with
 |some i=>rfl
 | none=>
  simp only[eO,Sum.elim_inr]
  refine(bD (λo=>Option.bind o _) J).trans ?_
  rw[au];cases U:t.counts.findIdx? (λe=>e==t.ep)with
  |some i=>rfl
  | none=>
   simp only[eO,Sum.elim_inr];rw[bf (n:=t.ep+1) (by omega) (by omega)]
theorem afM{t:cw}(row:Int):(pS t row).rows.length=t.rows.length/\(pS t row).counts.length=t.counts.length:=by
 unfold pS;cases t.rows.findIdx? (λe=>e==row)with
 |some i=>simp
 | none=>
  cases t.counts.findIdx? (λe=>e==t.ep)with
  |some i=>simp
  |none=>simp
theorem auR{t:cw}(h:Tk t){row:Int}{i:Nat}(hi:D4 t row=some i):i<t.counts.length:=by
 have:=h.cl;unfold D4 at hi;split at hi
 next j C=>injection hi with hi;subst hi;obtain⟨D,_⟩:=Vq C;omega
 ·exact(Vq hi).1
theorem afN(t:cw)(D:kU t)(row dm:Int):G1 t row dm=some (zb t row dm):=by
 unfold G1 zb xL;rw[afq t D,au,aeT,au];cases E:jy t with
 |false=>rfl
 | true=>
  have C:=Tk.of E;rw[bR,aq,ei,au,cM];cases L:aJ row 0 15 with
  |false=>rfl
  | true=>
   rw[bR,aq,ei,au,cM];cases I:aJ dm 2 1000 with
   |false=>rfl
   | true=>
    have hl:=bC.1 I;rw[bR,aq,ak,auQ C,au,aeT,au];dsimp only;cases O:jy (pS t row)with
    | false=>
     rw[gU,ak,au,aq]
    | true=>
     rw[bR,aq,ak];cases J:D4 t row with
     |none=>rfl
     | some i=>
      have hi:i<(pS t row).counts.length:=by rw[(afM row).2];exact auR C J
      dsimp only;simp only[bJ];rw[aW (by omega),ak,aG ⟨by omega,hi⟩,aG hi,bB (by omega),eX,bK hi];rfl
def v9(k:Int):cw:=⟨List.replicate k.toNat (-1),List.replicate k.toNat 0,0⟩
theorem auS{k:Int}(h:aJ k 1 16=true):Db k=some (v9 k,true):=by
 have hb:=bC.1 h;obtain⟨n,rfl⟩:=fI (show 0<=k by omega);unfold Db;rw[ei,au,h,bR,aq,afc n (by omega),au,bk ⟨by omega,Int.le_refl _,by omega⟩];rfl
def zc(r:dc)(b:Int):dc:=bif decide (r.aU.getD b.toNat 0 = -2)then r else ⟨r.aU.set b.toNat (r.aU.getD b.toNat 0-1),r.wait,r.dR⟩
theorem Vr{r:dc}(h:fq r=true):∀ x∈r.aU,-2<=x/\x<=5:=by
 simp only[fq,aK,cv,ud]at h;exact λx C=>bC.1 (h.1 x C)
theorem auT{α β:Type}{o:aj (α×β)}{a:α}(h:o.map Prod.fst=some a):∃ b,o=some (a,b):=by
 cases o with
 |none=>cases h
 | some x=>
  obtain⟨D,C⟩:=x;injection h with h;exact⟨C,by rw[<-h]⟩
theorem auU{r:dc}(h:fq r=true){b:Int}(D:0<=b)(C:b.toNat<r.aU.length):∃ y,MD r b=some (zc r b,y):=by
 have hl:=v5 h;have J:=Vr h _ (cP C);have I:r.aU.getD b.toNat 0=r.aU[b.toNat]:=by rw[eX,bK C];rfl
 unfold MD AD zc xI xL;rw[dh (by simp;omega),ak,au,N9 _ (by omega),au,h,bR,aq,ei,au,Vo D C (by omega),bR,aq,aG ⟨D,C⟩,I];dsimp only;by_cases E:r.aU[b.toNat] = -2
 ·rw[aW (show r.aU[b.toNat] <= -2 by omega),aW E];exact⟨_,rfl⟩
 ·rw[br (show ¬ r.aU[b.toNat] <= -2 by omega),br E,aq,aq,List.nil_append,aG ⟨D,C⟩,aG ⟨D,C⟩,aG C,bf (n:=r.aU[b.toNat]-1) (by omega) (by omega)];exact⟨_,rfl⟩
def BB(p:eY)(k now:Int):eY:=bif ji p&&aJ now p.since 1000000 then
 (bif (k==6)&&(p.state==0)then ⟨1,now,p.idle⟩else bif (k==8)&&(p.state==0)then ⟨2,now,p.idle⟩else bif (k==7)&&(p.state==1)then ⟨0,now,p.idle⟩else bif (k==9)&&(p.state==2)then ⟨0,now,p.idle⟩else p)else p
theorem OE(p:eY){k:Int}(C:6<=k/\k<=9)(now:Int):∃ y,MQ p k now=some (BB p k now,y):=by
 refine auT ?_;unfold MQ BB;simp only[U1,au,ei];have:k=6\/k=7\/k=8\/k=9:=by omega
 rcases this with rfl|rfl|rfl|rfl
 ·cases ji p<;>cases aJ now p.since 1000000<;>cases h:p.state==0<;>simp[bne,h]
 ·cases ji p<;>cases aJ now p.since 1000000<;>cases h:p.state==1<;>simp[bne,h]
 ·cases ji p<;>cases aJ now p.since 1000000<;>cases h:p.state==0<;>simp[bne,h]
 ·cases ji p<;>cases aJ now p.since 1000000<;>cases h:p.state==2<;>simp[bne,h]
theorem auV{T:Type}{p:T->Bool}{l:aa T}{k:Nat}(h:l.findIdx? p=some k):l.filter (λx=>!p x)=l.take k++(l.drop (k+1)).filter (λx=>!p x):=by
 obtain⟨C,D,E⟩:=nA.1 h;have e:l=l.take k++l[k] :: l.drop (k+1):=by
  rw[<-List.drop_eq_getElem_cons C,List.take_append_drop]
 have I:(l.take k).filter (λx=>!p x)=l.take k:=by
  rw[List.filter_eq_self];intro a J;obtain⟨i,hi,rfl⟩:=iX.1 J;rw[fR]at hi;rw[List.getElem_take]
  simpa using E i (by omega)
 conv=>lhs;rw[e]
 rw[List.filter_append,List.filter_cons_of_neg (by simp[D]),I]
def nq(b:Int)(pd:aa aL)(n:Int):aa aL:=bif pd.any (iL ⟨b,n,0⟩)then pd else pd++[⟨b,n,0⟩]
def BE(c:av)(t:aa cw)(C:aa Int)(pd:aa aL):av:=⟨c.config,c.box,c.now,c.bh,c.ready,c.array,c.spare,c.bu,t,C,pd,c.queue,c.shares,c.drain,c.bg,c.cT,c.errors,c.trace,c.cC⟩
theorem auW{T:Type}(p:T->Bool)(l:aa T):decide (mD p l<0) = !l.any p/\decide (mD p l >= 0)=l.any p:=by
 unfold mD;cases C:l.findIdx? p with
 | none=>
  have e:l.any p=false:=by
   rw[iW];intro x D;simp[List.findIdx?_eq_none_iff.1 C x D]
  rw[e];exact⟨rfl,rfl⟩
 | some k=>
  obtain⟨E,I,J⟩:=nA.1 C;have e:l.any p=true:=List.any_eq_true.2 ⟨_,cP E,I⟩;rw[e];exact⟨br (by simp only;omega),aW (by simp only;omega)⟩
theorem Vs(b:Int):∀ (ns:aa Int) (pd:aa aL),(ns.foldl (nq b) pd).length<=pd.length+ns.length
 |[],pd=>dV _
 | n :: ns,pd=>by
  have:=Vs b ns (nq b pd n);have C:(nq b pd n).length<=pd.length+1:=by
   unfold nq;cases pd.any (iL ⟨b,n,0⟩)<;>simp
  simp only[List.foldl_cons,kB];omega
theorem auX{T U:Type}(f:U->T->U)(l:aa T)(u:U){k:Nat}(h:k<l.length):(l.take (k+1)).foldl f u=f ((l.take k).foldl f u) l[k]:=by
 rw[List.take_add_one,bK h,List.foldl_append];rfl
theorem auY(c:av)(x:aI)(ns:aa Int)(C:ns.length<=1000)(D:c.pending.length<=1000):iter sG aZ (((),(),true,(),(0:Int),()),(c,(x.kind,x.az,x.row,x.bT,()),ns,()))=some (.inl ((),(BE c c.bN c.guard (ns.foldl (nq x.az) c.pending),()))):=by
 have e:=dx (step:=sG) ns.length (λi=>(((),(),true,(),(i:Int),()),(BE c c.bN c.guard ((ns.take i).foldl (nq x.az) c.pending),(x.kind,x.az,x.row,x.bT,()),ns,()))) (.inl ((),(BE c c.bN c.guard ((ns.take ns.length).foldl (nq x.az) c.pending),()))) aZ (λk h=>by
  have hl:=Vs x.az (ns.take k) c.pending;rw[fR]at hl;rw[auX _ _ _ h];generalize (ns.take k).foldl (nq x.az) c.pending=pd at hl;unfold sG nq BE aB xG xL;dsimp only;rw[aW (by omega),ak,ak,aG ⟨by omega,by omega⟩,aG (by omega)];simp only[bJ];rw[ae0 _ _ (by omega),au,(auW _ _).1,bP (by omega),dh (by simp;omega)];cases pd.any (iL ⟨x.az,ns[k],0⟩)<;>rfl) (by
  unfold sG BE aB xG xL;dsimp only;rw[br (by omega),aq]) (bY (by omega))
 rw[cA,List.take_zero,jF]at e;exact e
theorem auZ(c:av)(x:aI)(ns:aa Int):iter sG aZ (((),(),false,(),(0:Int),()),(c,(x.kind,x.az,x.row,x.bT,()),ns,()))=some (.inl ((),(c,()))):=by
 have e:=dx (step:=sG) 0 (λi=>(((),(),false,(),(i:Int),()),(c,(x.kind,x.az,x.row,x.bT,()),ns,()))) (.inl ((),(c,()))) aZ (λk h=>by omega) (by
  unfold sG aB xG xL;dsimp only;cases decide (((0:Nat):Int)<(ns.length:Int))<;>rfl) (bY (by omega))
 rw[cA]at e;exact e
def zT:cw:=⟨[],[],0⟩
def rO(c:av)(x:aI):cw×Bool:=zb (c.bN.getD x.az.toNat zT) x.row (c.guard.getD x.az.toNat 0)
def pT(c:av)(x:aI):aa aL:=c.pending.filter (λa=>!iL ⟨x.az,x.row,0⟩ a)
def we(c:av)(x:aI):av:=
 BE (eG c (yW c.config.ay c.config.ew c.array x.az x.row)) (c.bN.set x.az.toNat (rO c x).1) c.guard (bif (rO c x).2 then (rJ c.config.ay.rows x.row).foldl (nq x.az) (pT c x)else pT c x)
theorem nt{T:Type}{l:aa T}{i:Nat}(d:T)(h:i<l.length):l.getD i d=l[i]:=by
 rw[eX,bK h];rfl
theorem afO(R r:Int):(rJ R r).length<=2:=by
 unfold rJ;cases decide (0<r)<;>cases decide (r<R-1)<;>simp
theorem Vt{T:Type}(p:T->Bool)(l:aa T):(l.filter p).length<=l.length:=List.length_filter_le p l
def uh(l:aa aL):Prop:=∀i (h:i<l.length),(l.take i).any (iL l[i])=false
theorem Jx{a b:aL}:iL a b=true ↔ a=b:=by
 obtain⟨C,D,E⟩:=a;obtain⟨I,J,L⟩:=b;simp only[iL,aK,eS,and_true,aL.mk.injEq];constructor
 ·rintro⟨rfl,rfl,rfl⟩;exact⟨rfl,rfl,rfl⟩
 ·rintro⟨rfl,rfl,rfl⟩;exact⟨rfl,rfl,rfl⟩
theorem uh.cut{l:aa aL}(h:uh l){a:aL}{k:Nat}(C:l.findIdx? (iL a)=some k):l.take k++l.drop (k+1)=l.filter (λx=>!iL a x):=by
 obtain⟨O,D,Q⟩:=nA.1 C;rw[auV C];congr 1;symm;rw[List.filter_eq_self];intro x E;obtain⟨i,hi,rfl⟩:=iX.1 E;rw[List.length_drop]at hi;rw[List.getElem_drop];cases I:iL a (l[k+1+i]'(by omega))with
 |false=>rfl
 | true=>
  exfalso;have J:=Jx.1 I;have L:=Jx.1 D;have:=iW.1 (h (k+1+i) (by omega)) l[k] (iX.2 ⟨k,by rw[fR];omega,by rw[List.getElem_take]⟩);rw[<-J,<-L]at this;simp[iL]at this
theorem au0{B:Int}(c:av)(x:aI)(J:cF c.config.ay=true)(I:fD c.config.ay B c.array)(hp:c.pending.length<=200)(hu:uh c.pending)(L:∀ t∈c.bN,kU t)(D:0<=x.az)(h2:x.az<aV c.config.ay)(O:0<=x.row)(Q:x.row<c.config.ay.rows)(C:x.az.toNat<c.bN.length)(E:x.az.toNat<c.guard.length):MA c x=some ((),(we c x,())):=by
 obtain⟨_,_,_,_,g5,g6,g7,g8⟩:=fP J;have T:=afy J c.config.ew c I D h2 O Q;have e2:=ae0 c.pending ⟨x.az,x.row,0⟩ (by omega);have hf:(pT c x).length<=c.pending.length:=List.length_filter_le _ _;have r5:=afO c.config.ay.rows x.row;have U:TS c.config.ay.rows x.row=some (rJ c.config.ay.rows x.row):=atJ (by omega) (by omega) O Q;simp only[eG]at T;unfold MA bw xL xM
 refine(bD (λo=>Option.bind o _) T).trans ?_
 rw[au];dsimp only
 refine(bD (λo=>Option.bind o _) e2).trans ?_
 rw[au];have Y:∀ pd:aa aL,pd=pT c x->∀ t:cw×Bool,t=rO c x->(iter sG aZ (((),(),t.2,(),(0:Int),()),((⟨c.config,c.box,c.now,c.bh,c.ready,yW c.config.ay c.config.ew c.array x.az x.row,c.spare,c.bu,(c.bN.set x.az.toNat t.1),c.guard,pd,c.queue,c.shares,c.drain,c.bg,c.cT,c.errors,c.trace,c.cC⟩:av),(x.kind,x.az,x.row,x.bT,()),rJ c.config.ay.rows x.row,()))).bind (Sum.elim (λz22=>some ((),(z22.2.1,()))) (λz=>nomatch z))=some ((),(we c x,())):=by
  rintro pd rfl ⟨t1,t2⟩ C;unfold we;rw[<-C];cases t2 with
  | false=>
   refine(bD (λo=>Option.bind o _) (auZ _ x _)).trans ?_
   rfl
  | true=>
   refine(bD (λo=>Option.bind o _) (auY _ x _ (by omega) (by dsimp only;omega))).trans ?_
   rfl
 have Z:rO c x=zb (c.bN[x.az.toNat]'C) x.row (c.guard[x.az.toNat]'E):=by
  unfold rO;rw[nt _ C,nt _ E]
 unfold mD;cases hi:c.pending.findIdx? (iL ⟨x.az,x.row,0⟩)with
 | none=>
  have e:pT c x=c.pending:=by
   unfold pT;rw[List.filter_eq_self];intro a I;have:=List.findIdx?_eq_none_iff.1 hi a I;simp[this]
  dsimp only;rw[br (by omega),aq,aG ⟨D,C⟩,aG C,aG ⟨D,E⟩,aG E,aG C,aG C];rw[afN _ (L _ (cP C)),au,aG ⟨D,C⟩,aG C,U,au];exact Y _ e.symm _ Z.symm
 | some k=>
  obtain⟨k1,L3,hq⟩:=nA.1 hi;have e:=hu.cut hi;dsimp only;rw[aW (by omega),ak,bP (by omega),bk ⟨by omega,by omega,by omega⟩,bk ⟨by omega,by omega,by omega⟩];simp only[bJ,Int.toNat_zero,List.drop_zero,List.nil_append,jF];rw[dh (by simp;omega),ak,dh (by simp;omega),ak,aG ⟨D,C⟩,aG C,aG ⟨D,E⟩,aG E,aG C,aG C];rw[afN _ (L _ (cP C)),au,aG ⟨D,C⟩,aG C,U,au];exact Y _ e _ Z.symm
theorem zd{U:Type}(f:U->Nat->U)(u:U)(k:Nat):(List.range (k+1)).foldl f u=f ((List.range k).foldl f u) k:=by
 rw[List.range_succ,List.foldl_append];rfl
def sR(g:aN)(l:lg)(a:dP)(b:Int)(n:Nat):dP:=(List.range n).foldl (λa (r:Nat)=>yW g l a b (r:Int)) a
theorem Jy{g:aN}(C:cF g=true)(l:lg){B:Int}(hB:0<=B){a:dP}(D:fD g B a){b:Int}(E:0<=b)(I:b<aV g):∀ n:Nat,(n:Int)<=g.rows->fD g B (sR g l a b n)
 |0,_=>D
 | n+1,h=>by
  unfold sR;rw[zd];exact Vg C l hB (Jy C l hB D E I n (by omega)) E I (by omega) (by omega)
theorem au1{B:Int}(hB:0<=B)(c:av)(C:cF c.config.ay=true)(J:fD c.config.ay B c.array){b:Int}(D:0<=b)(E:b<aV c.config.ay):MB c.config.ay c.config.ew c b=some ((),(eG c (sR c.config.ay c.config.ew c.array b c.config.ay.rows.toNat),())):=by
 obtain⟨_,_,_,_,L,O,Q,T⟩:=fP C;have e:=dx (step:=G6) c.config.ay.rows.toNat (λi=>(((),b,(),(),(i:Int),()),(eG c (sR c.config.ay c.config.ew c.array b i),(c.config.ay.ck,c.config.ay.aF,c.config.ay.rows,c.config.ay.aO,()),(c.config.ew.bI,c.config.ew.bG,()),()))) (.inl ((),(eG c (sR c.config.ay c.config.ew c.array b c.config.ay.rows.toNat),()))) aZ (λk h=>by
  have I:=afy C c.config.ew (eG c (sR c.config.ay c.config.ew c.array b k)) (Jy C c.config.ew hB J D E k (by omega)) D E (show 0<=(k:Int) by omega) (by omega);simp only[eG]at I;unfold G6 eG aB xG;dsimp only;rw[aW (by omega),ak,I,au,bP (by omega)];dsimp only;unfold sR;rw[zd]) (by
  unfold G6 eG aB xG;dsimp only;rw[br (by omega),aq]) (bY (by omega))
 rw[cA]at e;unfold MB bw
 refine(bD (λo=>Option.bind o _) e).trans ?_
 rfl
def Jz(c:av)(b:Int)(pd:aa aL):av:=
 BE (eG c (sR c.config.ay c.config.ew c.array b c.config.ay.rows.toNat)) (c.bN.set b.toNat (v9 c.config.ir)) (c.guard.set b.toNat c.box.bZ.eB) pd
theorem au2(c:av)(b:Int)(D:c.pending.length<=1000):iter Di aZ (((),b,(),(0:Int),()),(c,([]:aa aL),()))=some (.inl (((),(),()),(c,c.pending.filter (λa=>!(a.az==b)),()))):=by
 have e:=dx (step:=Di) c.pending.length (λi=>(((),b,(),(i:Int),()),(c,(c.pending.take i).filter (λa=>!(a.az==b)),()))) (.inl (((),(),()),(c,(c.pending.take c.pending.length).filter (λa=>!(a.az==b)),()))) aZ (λk h=>by
  have hl:=Vt (λa:aL=>!(a.az==b)) (c.pending.take k);rw[fR]at hl;have C:c.pending.take (k+1)=c.pending.take k++[c.pending[k]]:=by rw[List.take_add_one,bK h];rfl
  rw[C,List.filter_append];generalize (c.pending.take k).filter (λa=>!(a.az==b))=ls at hl;unfold Di aB xG xL;dsimp only;rw[aW (by omega),ak,aG ⟨by omega,by omega⟩,aG (by omega)];simp only[bJ];rw[bP (by omega),bne];cases hb:c.pending[k].az==b with
  |true=>rw[List.filter_cons_of_neg (by simp[hb])];simp
  | false=>
   rw[gU,ak,aG ⟨by omega,by omega⟩,aG (by omega),dh (by simp;omega),ak,List.filter_cons_of_pos (by simp[hb])];rfl) (by
  unfold Di aB xG xL;dsimp only;rw[br (by omega),aq]) (bY (by omega))
 rw[cA,jF]at e;exact e
theorem afP{B:Int}(hB:0<=B)(c:av)(J:cF c.config.ay=true)(L:fD c.config.ay B c.array)(O:aJ c.config.ir 1 16=true)(T:c.pending.length<=200){b:Int}(C:0<=b)(Q:b<aV c.config.ay)(D:b.toNat<c.bN.length)(E:b.toNat<c.guard.length):G7 c b=some ((),(Jz c b (c.pending.filter (λa=>!(a.az==b))),())):=by
 have I:=au1 hB c J L C Q;simp only[eG]at I;unfold G7 bw xL
 refine(bD (λo=>Option.bind o _) I).trans ?_
 rw[au];dsimp only;rw[auS O,au,aG ⟨C,D⟩,aG D,aG ⟨C,E⟩,aG E]
 refine(bD (λo=>Option.bind o _) (au2 _ b (by dsimp only;omega))).trans ?_
 rfl
def mJ(c:av)(k:Nat)(pd:aa aL):av:=
 ⟨c.config,c.box,c.now,c.bh,c.ready,(List.range k).foldl (λa (b:Nat)=>sR c.config.ay c.config.ew a (b:Int) c.config.ay.rows.toNat) c.array,c.spare,⟨(List.range k).foldl (λd b=>d.set b 0) c.bu.aU,c.bu.wait,c.bu.dR⟩,(List.range k).foldl (λd b=>d.set b (v9 c.config.ir)) c.bN,(List.range k).foldl (λd b=>d.set b c.box.bZ.eB) c.guard,pd,c.queue,c.shares,c.drain,c.bg,c.cT,c.errors,c.trace,c.cC⟩
theorem wg{T:Type}(x:T)(l:aa T):∀ k:Nat,((List.range k).foldl (λd b=>d.set b x) l).length=l.length
 |0=>rfl
 |k+1=>by rw[zd,jE,wg x l k]
theorem OF{g:aN}(C:cF g=true)(l:lg){B:Int}(hB:0<=B){a:dP}(D:fD g B a):∀ k:Nat,(k:Int)<=aV g->fD g B ((List.range k).foldl (λa (b:Nat)=>sR g l a (b:Int) g.rows.toNat) a)
 |0,_=>D
 | k+1,h=>by
  obtain⟨_,_,_,_,E,I,J,L⟩:=fP C;rw[zd];exact Jy C l hB (OF C l hB D k (by omega)) (by omega) (by omega) _ (by omega)
structure wh (B:Int) (c:av):Prop where
 hB:0<=B
 g:cF c.config.ay=true
 a:fD c.config.ay B c.array
 k:aJ c.config.ir 1 16=true
 p:c.pending.length<=200
 t:(c.bN.length:Int)=aV c.config.ay
 d:(c.guard.length:Int)=aV c.config.ay
 r:(c.bu.aU.length:Int)=aV c.config.ay
theorem wh.Vu{B:Int}{c:av}(h:wh B c)(k:Nat)(C:(k:Int)<=aV c.config.ay)(pd:aa aL)(D:pd.length<=200):wh B (mJ c k pd):=
 ⟨h.hB,h.g,OF h.g c.config.ew h.hB h.a k C,h.k,D,(bD (λn:Nat=>(n:Int)) (wg _ _ k)).trans h.t,(bD (λn:Nat=>(n:Int)) (wg _ _ k)).trans h.d,(bD (λn:Nat=>(n:Int)) (wg _ _ k)).trans h.r⟩
theorem au3(c:av)(k:Nat)(pd C:aa aL):mJ c (k+1) C=⟨c.config,c.box,c.now,c.bh,c.ready,(Jz (mJ c k pd) (k:Int) C).array,c.spare,⟨(mJ c k pd).bu.aU.set k 0,c.bu.wait,c.bu.dR⟩,(Jz (mJ c k pd) (k:Int) C).bN,(Jz (mJ c k pd) (k:Int) C).guard,C,c.queue,c.shares,c.drain,c.bg,c.cT,c.errors,c.trace,c.cC⟩:=by
 unfold mJ;simp only[zd];rfl
def oQ(pd:aa aL):Nat->aa aL
 |0=>pd
 |k+1=>(oQ pd k).filter (λa=>!(a.az==(k:Int)))
theorem afQ(pd:aa aL):∀ k,(oQ pd k).length<=pd.length
 |0=>dV _
 |k+1=>Nat.le_trans (Vt _ _) (afQ pd k)
theorem afR(pd:aa aL){a:aL}:∀ k,a∈oQ pd k->a∈pd/\∀ b:Nat,b<k->a.az≠(b:Int)
 |0,h=>⟨h,λb hb=>by omega⟩
 | k+1,h=>by
  unfold oQ at h;obtain⟨C,D⟩:=List.mem_filter.1 h;obtain⟨E,I⟩:=afR pd k C
  refine⟨E,λb hb=>?_⟩
  by_cases e:b=k
  ·subst e
   simpa using D
  ·exact I b (by omega)
theorem au4{pd:aa aL}{k:Nat}(h:∀ a∈pd,0<=a.az/\a.az<(k:Int)):oQ pd k=[]:=by
 rw[List.eq_nil_iff_forall_not_mem];intro a C;obtain⟨D,E⟩:=afR pd k C;have:=h a D;exact E a.az.toNat (by omega) (by omega)
theorem au5{B:Int}{c:av}(h:wh B c)(U:c.bh.aF.length=c.bN.length)(E:∀ a∈c.pending,0<=a.az/\a.az<aV c.config.ay):iter AP aZ (((),(0:Int),()),(c,()))=some (.inl ((),(mJ c c.bN.length [],()))):=by
 have Y:=fG c.config.ay;have Z:=h.t;have e:=dx (step:=AP) c.bN.length (λi=>(((),(i:Int),()),(mJ c i (oQ c.pending i),()))) (.inl ((),(mJ c c.bN.length (oQ c.pending c.bN.length),()))) aZ (λk hk=>by
  have C:=h.Vu k (by omega) (oQ c.pending k) (Nat.le_trans (afQ _ _) h.p);have w1:=C.t;have I:=C.d;have J:=C.r;have D:aV (mJ c k (oQ c.pending k)).config.ay=aV c.config.ay:=rfl;rw[D]at w1 I J;have L:=afP C.hB _ C.g C.a C.k C.p (b:=(k:Int)) (by omega) (by rw[D];omega) (by omega) (by omega);rw[au3 c k (oQ c.pending k) (oQ c.pending (k+1))];unfold AP aB xG xL;dsimp only;rw[aW (by show (k:Int)<((c.bh.aF.length:Nat):Int);omega),ak,L,au,bP (by omega)];rw[aG ⟨by omega,by show (k:Int).toNat<(mJ c k (oQ c.pending k)).bu.aU.length;omega⟩,aG (by show (k:Int).toNat<(mJ c k (oQ c.pending k)).bu.aU.length;omega)];rfl) (by
  unfold AP aB xG xL;dsimp only;rw[br (by show ¬ ((c.bN.length:Nat):Int)<((c.bh.aF.length:Nat):Int);omega),aq]) (bY (by omega))
 have O:oQ c.pending c.bN.length=[]:=au4 (λa Q=>by have:=E a Q;omega);have T:mJ c 0 (oQ c.pending 0)=c:=rfl;rw[cA,O,T]at e;exact e
def wv(l:aa Int):Nat->Int
 |0=>0
 |i+1=>bits .or .i64 (wv l i) (W6 (l.getD i 0*2 ^ (min (4*(i:Int)).toNat IntKind.i64.bits)))
theorem au6{l:aa Int}(h:l.length=8)(C:∀ s∈l,0<=s/\s<=15):rF l 8=true:=by
 simp only[rF,aK,cv,fH,uc,bC];exact⟨λx D=>C x D,by rw[h];rfl⟩
theorem au7{l:aa Int}(h:l.length=8)(D:∀ s∈l,0<=s/\s<=15):MK l=some (wv l 8,true):=by
 unfold MK bw;rw[NY _ _ (by omega),au6 h D,au];have e:=dx (step:=Hi) 8 (λi=>((l,wv l i,(i:Int),()),())) (.inl ((wv l 8,()),())) aZ (λi hi=>by
  have C:i<l.length:=by omega
  have E:W6 (4*(i:Int))=4*(i:Int):=bf (by omega) (by omega);have I:IntKind.u64.wrap (4*(i:Int))=4*(i:Int):=afd (by omega) (by omega);have J:¬ 4*(i:Int)<0:=by omega
  have L:l.getD i 0=l[i]:=by rw[eX,bK C];rfl
  have O:wv l (i+1)=bits .or .i64 (wv l i) (W6 (l.getD i 0*2 ^ (min (4*(i:Int)).toNat IntKind.i64.bits))):=rfl;unfold Hi aB xG xI;rw[O,L];simp (disch:=omega) [C,E,I,J,bP]) (by unfold Hi aB xG xI;simp[h]) (bY (by omega))
 rw[cA]at e;simp only[bR,aq];have Q:wv l 0=0:=rfl;rw[Q]at e;rw[e];rfl
theorem au8{w:aa Nat}(D:dL w)(hl:w.length=11):ML (aX w)=some (aX (w.drop 3)):=by
 have E:=(I5 D hl).ok;have hlen:(aX w).length=11:=by rw[gi,hl]
 have C:(aX w).drop 3=aX (w.drop 3):=by simp[aX,List.map_drop]
 unfold ML;rw[NY _ _ (by rw[gi];omega),E,au];generalize aX w=W at hlen C ⊢;rw[<-C];have I:W.take 11=W:=by rw[<-hlen,jF]
 simp[hlen,aT,I]
theorem au9{w:aa Nat}(D:dL w)(hl:w.length=11):(aX (w.drop 3)).length=8/\∀ s∈aX (w.drop 3),0<=s/\s<=15:=by
 refine⟨by rw[gi];simp[hl],λs C=>?_⟩
 simp only[aX,List.mem_map]at C;obtain⟨x,E,rfl⟩:=C;have:=D x (List.mem_of_mem_drop E);omega
def D5(w:aa Nat):Int:=bif (gO w).2.1==2 then 0 else wv (aX ((gO w).1.drop 3)) 8
theorem ava{w:aa Nat}(C:dL w)(hl:w.length=11):MM (aX w)=some (D5 w,(gO w).2.1,(gO w).2.2):=by
 obtain⟨D,E,_⟩:=Jj C hl;obtain⟨I,J⟩:=au9 E D;unfold MM D5;rw[atW C hl,au];dsimp only;cases h:(gO w).2.1==2 with
 |true=>simp
 | false=>
  rw[aq,aq,au8 E D,au,au7 I J];rfl
def nw(c:bW):aa Nat:=c.symbols.map Int.toNat
theorem Vv{c:bW}(h:Sy c.symbols):aX (nw c)=c.symbols/\dL (nw c)/\(nw c).length=11:=by
 obtain⟨C,D⟩:=UL c.symbols h.2;exact⟨C,D,by simp[nw,h.1]⟩
def lU(c:bW):Int:=bif c.iO then 2 else (gO (nw c)).2.1
def rP(c:bW):bW:=bif c.iO then c else bif (gO (nw c)).2.1==1 then ⟨aX (gO (nw c)).1,c.iO⟩else bif (gO (nw c)).2.1==2 then ⟨c.symbols,true⟩else c
theorem avb{l:aa bW}{j:Nat}(h:j<l.length):l.set j l[j]=l:=List.set_getElem_self h
theorem Vw{c:bW}(h:Sy c.symbols):Sy (rP c).symbols:=by
 obtain⟨J,C,D⟩:=Vv h;obtain⟨E,I,_⟩:=Jj C D;unfold rP;cases c.iO with
 |true=>exact h
 | false=>
  cases (gO (nw c)).2.1==1 with
  |true=>exact I5 I E
  |false=>cases (gO (nw c)).2.1==2<;>exact h
def D6(x:Int)(k:Nat):Int:=bits .and .i64 (x.fdiv (2 ^ (min (4*(k:Int)).toNat IntKind.i64.bits))) 15
def jj(x:Int):Nat->aa Int
 |0=>[]
 |k+1=>jj x k++[D6 x k]
theorem JA(x:Int):∀ k,(jj x k).length=k
 |0=>rfl
 |k+1=>by simp[jj,JA x k]
theorem Vx(x:Int):∀ k,∀ s∈jj x k,0<=s/\s<=15
 |0,s,h=>by cases h
 | k+1,s,h=>by
  rcases List.mem_append.1 h with h|h
  ·exact Vx x k s h
  ·rw[kY.1 h];exact atM _
theorem avc{x:Int}(Q:0<=x)(T:x<=4294967295):MH x=some (jj x 8):=by
 have C:aJ x 0 4294967295=true:=by rw[bC];omega
 unfold MH bw;have e:=dx (step:=Hg) 8 (λk=>((x,(),(k:Int),()),(jj x k,()))) (.inl (((),()),(jj x 8,()))) aZ (λk U=>by
  have D:(k:Int)<8:=by omega
  have E:aT ((jj x k).length+1)=true:=dh (by rw[JA];omega);have I:W6 (4*(k:Int))=4*(k:Int):=bf (by omega) (by omega);have J:IntKind.u64.wrap (4*(k:Int))=4*(k:Int):=afd (by omega) (by omega);have L:¬ 4*(k:Int)<0:=by omega
  unfold Hg GC aB xG;simp (disch:=omega) [D,ei,C,I,J,L,E,bP,jj,D6]) (by
  unfold Hg aB xG;simp) (bY (by omega))
 rw[cA]at e;have O:jj x 0=[]:=rfl;rw[O]at e;rw[e];rfl
theorem avd{x:Int}(O:0<=x)(Q:x<=4294967295):Uo x=some (jj x 8):=by
 have C:aJ x 0 4294967295=true:=by rw[bC];omega
 unfold Uo Ba bw;rw[fC,au,au,C,bR,aq];have e:=dx (step:=NM) 8 (λk=>((x,(),(k:Int),()),(jj x k,()))) (.inl (((),()),(jj x 8,()))) aZ (λk T=>by
  have D:(k:Int)<8:=by omega
  have E:aT ((jj x k).length+1)=true:=dh (by rw[JA];omega);have I:W6 (4*(k:Int))=4*(k:Int):=bf (by omega) (by omega);have J:¬ 4*(k:Int)<0:=by omega
  unfold NM aB xG;simp (disch:=omega) [D,I,J,E,bP,jj,D6]) (by
  unfold NM aB xG;simp) (bY (by omega))
 rw[cA]at e;have L:jj x 0=[]:=rfl;rw[L]at e;rw[e];rfl
theorem afS:(kS λx=>kS λy=>kS λz=>(λC D E=>Nat.beq (gm (gm 2 (C ^^^ D) ^^^ gm 5 (C ^^^ E)) 13) y&&(Nat.beq (gm (gm 3 (C ^^^ E) ^^^ gm 5 (C ^^^ D)) 13) z&&Nat.beq (C ^^^ (y ^^^ z)) x)) (gm x (pw 0) ^^^ (gm y (pw 0) ^^^ gm z (pw 0))) (gm x (pw 0) ^^^ (gm y (pw 1) ^^^ gm z (pw 2))) (gm x (pw 0) ^^^ (gm y (pw 2) ^^^ gm z (pw 4))))=true:=by kernel_rfl
theorem ave{x y z:Nat}{d:aa Nat}(j:Nat):bU (x :: y :: z :: d) j 11=(gm x (pw (0*j)) ^^^ (gm y (pw (1*j)) ^^^ gm z (pw (2*j)))) ^^^ bU (0 :: 0 :: 0 :: d) j 11:=by
 simp only[bU,List.getD_cons_zero,List.getD_cons_succ,Nat.xor_assoc,Nat.zero_xor,NX (sL _)]
theorem D7{a b:Nat}(h:a ^^^ b=0):a=b:=by
 have C:(a ^^^ b) ^^^ b=0 ^^^ b:=by rw[h]
 rw[Nat.xor_assoc,Nat.xor_self,Nat.xor_zero,Nat.zero_xor]at C;exact C
theorem afT{w v:aa Nat}(hw:dL w)(hv:dL v)(lw:w.length=11)(lv:v.length=11)(hd:w.drop 3=v.drop 3)(zw:n6 w=true)(zv:n6 v=true):w=v:=by
 obtain⟨x,y,z,d,rfl⟩:∃ x y z d,w=x :: y :: z :: d:=by
  match w,lw with
  |x::y::z::d,_=>exact⟨x,y,z,d,rfl⟩
 obtain⟨C,D,E,d',rfl⟩:∃ x y z d,v=x :: y :: z :: d:=by
  match v,lv with
  |x::y::z::d,_=>exact⟨x,y,z,d,rfl⟩
 have hd:d=d':=hd;subst hd;simp only[n6,aK]at zw zv;obtain⟨w0,w1,J⟩:=zw;obtain⟨I,L,O⟩:=zv;rw[ave]at w0 w1 J I L O;have w0:gm x (pw 0) ^^^ (gm y (pw 0) ^^^ gm z (pw 0))=bU (0::0::0::d) 0 11:=D7 (bQ w0);have w1:gm x (pw 0) ^^^ (gm y (pw 1) ^^^ gm z (pw 2))=bU (0::0::0::d) 1 11:=D7 (bQ w1);have J:gm x (pw 0) ^^^ (gm y (pw 2) ^^^ gm z (pw 4))=bU (0::0::0::d) 2 11:=D7 (bQ J);have I:gm C (pw 0) ^^^ (gm D (pw 0) ^^^ gm E (pw 0))=bU (0::0::0::d) 0 11:=D7 (bQ I);have L:gm C (pw 0) ^^^ (gm D (pw 1) ^^^ gm E (pw 2))=bU (0::0::0::d) 1 11:=D7 (bQ L);have O:gm C (pw 0) ^^^ (gm D (pw 2) ^^^ gm E (pw 4))=bU (0::0::0::d) 2 11:=D7 (bQ O);have m:∀{l:aa Nat} {n:Nat},dL l->n∈l->n<16:=λh hn=>h _ hn
 have k1:=iU (iU (iU afS (m hw (n:=x) (by simp))) (m hw (n:=y) (by simp))) (m hw (n:=z) (by simp));have k2:=iU (iU (iU afS (m hv (n:=C) (by simp))) (m hv (n:=D) (by simp))) (m hv (n:=E) (by simp));simp only[aK]at k1 k2;obtain⟨Q,T,U⟩:=k1;obtain⟨Y,Z,b3⟩:=k2;have Q:=bQ Q;have T:=bQ T;have U:=bQ U;have Y:=bQ Y;have Z:=bQ Z;have b3:=bQ b3;rw[w0,w1,J]at Q T;rw[w0]at U;rw[I,L,O]at Y Z;rw[I]at b3;have ey:y=D:=by rw[<-Q,<-Y]
 have ez:z=E:=by rw[<-T,<-Z]
 subst ey ez;have ex:x=C:=by rw[<-U,<-b3]
 rw[ex]
theorem afU(w r:aa Nat):∀ k,k<=3->(pN w r k).drop 3=w.drop 3
 |0,_=>rfl
 | k+1,h=>by
  show (List.set _ _ _).drop 3=_;rw[List.drop_set_of_lt (by omega),afU w r k (by omega)]
theorem Vy{a b:aa Nat}(h:aX a=aX b):a=b:=(List.map_inj_right (λx y h=>by
 have h:(x:Int)=(y:Int):=h;omega)).1 h
theorem avf{d:aa Nat}(D:dL d)(hl:d.length=8):∃ w,yw (aX d)=some (aX w)/\w.length=11/\dL w/\w.drop 3=d/\n6 w=true:=by
 have E:dL (0 :: 0 :: 0 :: d):=by
  intro x hx;simp only[fF]at hx;rcases hx with rfl|rfl|rfl|hx
  ·decide
  ·decide
  ·decide
  ·exact D x hx
 have C:(0::0::0::d).length=11:=by simp[hl]
 obtain⟨w,e,I,J,L,O,Q⟩:=asu D hl;refine⟨w,e,I,J,?_,by simp[n6,L,O,Q]⟩;have T:yw (aX d)=some (aX (pN (0 :: 0 :: 0 :: d) (out (0 :: 0 :: 0 :: d) 8) 3)):=by
  unfold yw bw;have c0:((d.length:Int)==(8:Int))=true:=by rw[hl];rfl
  have U:aT ((List.replicate (3:Int).toNat (0:Int)).length+(aX d).length)=true:=by
   rw[gi,hl];rfl
  have Y:aT (([]:aa Int).length+(aX (0 :: 0 :: 0 :: d)).length)=true:=by
   rw[gi,C];rfl
  have Z:W6 (((aX (0 :: 0 :: 0 :: d)).length:Int)-(1:Int))=10:=by
   rw[gi,C];rfl
  have eW:List.replicate (3:Int).toNat (0:Int)++aX d=aX (0::0::0::d):=rfl;rw[aev D (by omega),au,c0,show (!true)=false from rfl,aq,bk (by decide),U,ak,eW,aeu,au,eO];dsimp only;rw[List.nil_append,Y,ak,Z,aew E C,au,eO];dsimp only;rw[aeC C (by rw[Bg,C]),au,eO]
 rw[T]at e;injection e with e;rw[<-Vy e,afU _ _ 3 (dV _)];rfl
def BF(x:Int):aa Int:=(IU x).getD []
theorem OG{x:Int}(J:0<=x)(L:x<=4294967295):IU x=some (BF x)/\Sy (BF x)/\∃ w,BF x=aX w/\w.length=11/\dL w/\aX (w.drop 3)=jj x 8/\n6 w=true:=by
 have O:aJ x 0 4294967295=true:=by rw[bC];omega
 obtain⟨C,t2⟩:=UL (jj x 8) (Vx x 8);have tl:((jj x 8).map Int.toNat).length=8:=by rw[cZ,JA]
 obtain⟨w,D,l1,E,Q,T,U,Y⟩:=asm t2 tl;have Z:n6 w=true:=by simp[n6,T,U,Y]
 rw[C]at D;have I:IU x=some (aX w):=by
  unfold IU Ba;rw[fC,au,au,O,bR,aq,avd J L,au,D,au]
 have ee:BF x=aX w:=by unfold BF;rw[I];rfl
 rw[ee];exact⟨I,I5 E l1,w,rfl,l1,E,by rw[Q,C],Z⟩
theorem afV{x:Int}(C:0<=x)(D:x<=4294967295):Dp x=some (BF x):=by
 obtain⟨E,t2⟩:=UL (jj x 8) (Vx x 8);have tl:((jj x 8).map Int.toNat).length=8:=by rw[cZ,JA]
 obtain⟨_,_,w,J,l1,L,O,Q⟩:=OG C D;obtain⟨v,I,l2,T,U,Y⟩:=avf t2 tl;have Z:=afT L T l1 l2 (by rw[U];exact Vy (by rw[O,E])) Q Y;subst Z;rw[E]at I;unfold Dp;rw[avc C D,au,I,au,J]
theorem avg{a b:Nat}(E:a<9223372036854775808)(hb:b<9223372036854775808):bits .or .i64 (a:Int) (b:Int)=((a ||| b:Nat):Int):=by
 have e:bits .or .i64 (a:Int) (b:Int)=W6 ((BitVec.ofInt 64 (a:Int) |||BitVec.ofInt 64 (b:Int)).toNat:Int):=rfl;have h:a |||b<2 ^ 63:=Nat.or_lt_two_pow (by omega) (by omega);have C:BitVec.ofInt 64 (a:Int)=BitVec.ofNat 64 a:=BitVec.ofInt_natCast 64 a;have D:BitVec.ofInt 64 (b:Int)=BitVec.ofNat 64 b:=BitVec.ofInt_natCast 64 b;rw[e,C,D,BitVec.toNat_or,BitVec.toNat_ofNat,BitVec.toNat_ofNat,Nat.mod_eq_of_lt (by omega),Nat.mod_eq_of_lt (by omega),bf (by omega) (by omega)]
theorem avh(a:Nat)(I:a<9223372036854775808):bits .and .i64 (a:Int) 15=((a % 16:Nat):Int):=by
 have e:bits .and .i64 (a:Int) 15=W6 ((BitVec.ofInt 64 (a:Int) &&& BitVec.ofInt 64 15).toNat:Int):=rfl;have C:BitVec.ofInt 64 (a:Int)=BitVec.ofNat 64 a:=BitVec.ofInt_natCast 64 a;have D:(BitVec.ofInt 64 15).toNat=15:=rfl;have E:a &&& 15=a % 16:=Nat.and_two_pow_sub_one_eq_mod a 4;rw[e,C,BitVec.toNat_and,BitVec.toNat_ofNat,Nat.mod_eq_of_lt (by omega),D,E,bf (by omega) (by omega)]
def nv(d:aa Nat):Nat->Nat
 |0=>0
 |k+1=>nv d k+d.getD k 0*16 ^ k
theorem JB{d:aa Nat}(C:dL d):∀ k,nv d k<16 ^ k
 |0=>Nat.one_pos
 | k+1=>by
  have D:=JB C k;have E:=C.get k;have I:d.getD k 0*16 ^ k<=15*16 ^ k:=gS _ (by omega);show nv d k+d.getD k 0*16 ^ k<16 ^ (k+1);rw[Nat.pow_succ];omega
theorem afW(k:Nat)(C:k<8):(min (4*(k:Int)).toNat IntKind.i64.bits)=4*k:=by
 have:IntKind.i64.bits=64:=rfl;rw[this];omega
theorem Vz{d:aa Nat}(C:dL d)(hl:d.length=8):∀ k,k<=8->wv (aX d) k=(nv d k:Int)
 |0,_=>rfl
 | k+1,h=>by
  have E:=JB C k;have L:=C.get k;have O:(16:Nat) ^ k<=16 ^ 7:=Nat.pow_le_pow_right (by decide) (by omega);have D:(2:Nat) ^ (4*k)=16 ^ k:=by rw[Nat.pow_mul]
  have Q:d.getD k 0*16 ^ k<=15*16 ^ k:=gS _ (by omega);have I:(aX d).getD k 0=((d.getD k 0:Nat):Int):=by
   rw[eX,bK (by rw[gi];omega)];exact tZ (by rw[gi];omega)
  have J:((d.getD k 0:Nat):Int)*2 ^ (4*k)=((d.getD k 0*16 ^ k:Nat):Int):=by
   rw[<-D]
   push_cast
   rfl
  show bits .or .i64 (wv (aX d) k) (W6 ((aX d).getD k 0*2 ^ (min (4*(k:Int)).toNat IntKind.i64.bits)))=((nv d k+d.getD k 0*16 ^ k:Nat):Int)
  rw[Vz C hl k (by omega),afW k (by omega),I,J,bf (by omega) (by omega),avg (by omega) (by omega)];congr 1;have:=Nat.two_pow_add_eq_or_of_lt (i:=4*k) (b:=nv d k) (by rw[D];exact E) (d.getD k 0);rw[D,Nat.mul_comm]at this;rw[Nat.or_comm,<-this];omega
theorem afX{d:aa Nat}(C:dL d):∀ n k,k<n->nv d n / 16 ^ k % 16=d.getD k 0
 |0,k,h=>by omega
 | n+1,k,h=>by
  have D:=JB C n;have J:=C.get n;show (nv d n+d.getD n 0*16 ^ n) / 16 ^ k % 16=_;by_cases e:k=n
  ·subst e;rw[Nat.add_mul_div_right _ _ (Nat.pow_pos (by decide)),Nat.div_eq_of_lt D,eN];omega
  ·have E:n=(n-k-1)+1+k:=by omega
   have I:d.getD n 0*16 ^ n=(d.getD n 0*16 ^ (n-k-1)*16)*16 ^ k:=by
    conv=>lhs;rw[show (16:Nat) ^ n=16 ^ ((n-k-1)+1+k) by rw[<-E],Nat.pow_add,Nat.pow_succ]
    simp only[Nat.mul_assoc]
   rw[I,Nat.add_mul_div_right _ _ (Nat.pow_pos (by decide)),Nat.add_mul_mod_self_right,afX C n k (by omega)]
theorem avi{d:aa Nat}(C:dL d)(hl:d.length=8):jj (wv (aX d) 8) 8=aX d:=by
 have O:nv d 8<16 ^ 8:=JB C 8;rw[Vz C hl 8 (dV _)];have key:∀ k,k<=8->jj (nv d 8:Int) k=aX (d.take k):=by
  intro k
  induction k with
  |zero=>intro _;rfl
  | succ k D=>
   intro Q;have E:(2:Nat) ^ (4*k)=16 ^ k:=by rw[Nat.pow_mul]
   have I:(nv d 8:Int).fdiv (2 ^ (4*k))=((nv d 8 / 16 ^ k:Nat):Int):=by
    have J:(2:Int) ^ (4*k)=((2 ^ (4*k):Nat):Int):=by push_cast;rfl
    rw[J,Int.fdiv_eq_ediv_of_nonneg _ (Int.natCast_nonneg _),E];rfl
   have L:D6 (nv d 8:Int) k=((d.getD k 0:Nat):Int):=by
    unfold D6;rw[afW k (by omega),I,avh _ (Nat.lt_of_le_of_lt (Nat.div_le_self _ _) (by omega)),afX C 8 k (by omega)]
   show jj (nv d 8:Int) k++[D6 (nv d 8:Int) k]=_;rw[D (by omega),L,List.take_add_one,bK (by omega),eX,bK (by omega)];exact(List.map_append (f:=λn:Nat=>(n:Int)) (l₁:=d.take k) (l₂:=[d[k]])).symm
 rw[key 8 (dV _),<-hl,jF]
theorem avj{d:aa Nat}(C:dL d)(hl:d.length=8):0<=wv (aX d) 8/\wv (aX d) 8<=4294967295:=by
 have D:nv d 8<16 ^ 8:=JB C 8;rw[Vz C hl 8 (dV _)];omega
theorem avk{w:aa Nat}(C:dL w)(hl:w.length=11)(h:(gO w).2.1=1):Dp (D5 w)=some (aX (gO w).1):=by
 obtain⟨D,E,_⟩:=Jj C hl;have T:=atY C hl (by omega);have I:dL ((gO w).1.drop 3):=λx U=>E x (List.mem_of_mem_drop U)
 have J:((gO w).1.drop 3).length=8:=by rw[List.length_drop,D]
 have Y:D5 w=wv (aX ((gO w).1.drop 3)) 8:=by
  unfold D5;rw[h];rfl
 obtain⟨L,O⟩:=avj I J;have Z:=afV L O;obtain⟨_,_,v,ev,vl,v16,Q,vz⟩:=OG L O;rw[avi I J]at Q;have:=afT v16 E vl D (Vy Q) vz T;rw[Y,Z,ev,this]
def VA(d:bW):Int:=bif d.iO then 0 else D5 (nw d)
def uj(c:av)(j:Nat)(d:bW):av:=eG c ⟨c.array.cells.set j d,c.array.bI,c.array.bG⟩
theorem avl{c:av}{j:Nat}(h:j<c.array.cells.length):uj c j c.array.cells[j]=c:=by
 unfold uj eG;rw[avb h]
theorem afY{c:av}{j:Nat}(C:j<c.array.cells.length)(L:Sy c.array.cells[j].symbols):AO c (j:Int)=some ((VA c.array.cells[j],lU c.array.cells[j]),(uj c j (rP c.array.cells[j]),())):=by
 obtain⟨O,D,E⟩:=Vv L;have I:=ava D E;rw[O]at I;have J:=avl C;unfold AO lU rP VA xL xM;rw[aG ⟨by omega,by omega⟩,aG (by omega)];simp only[bJ];cases Q:c.array.cells[j].iO with
 | true=>
  rw[ak,ak,ak,ak,J]
 | false=>
  rw[aq,aq,aq,aq,aG C,I,au];dsimp only;rcases(Jj D E).2.2 with q|q|q
  ·rw[q,jw (by omega),aq,jw (by omega),aq,aq,aq,J]
  ·rw[q,ld,ak,avk D E q,au,aG ⟨by omega,C⟩,aG C,jw (by omega),aq,ak,Q];rfl
  ·rw[q,jw (by omega),aq,ld,ak,aq,ak,aG ⟨by omega,C⟩,aG C];rfl
def BG(q:aa aM)(i:Nat):Bool:=match q[i]? with
 |some r=>(q.take i).any λx=>x.line==r.line
 |none=>false
theorem avm{q:aa aM}{i:Nat}(h:i<q.length):BG q i=(q.take i).any λx=>x.line==q[i].line:=by
 unfold BG;rw[bK h]
theorem avn{α:Type}(p:α->Bool)(q:aa α)(i:Nat)(hi:i<=q.length):eF p (q.take i)=min (eF p q) i:=by
 have J:=yU p q;have E:=yU p (q.take i);rw[fR,Nat.min_eq_left hi]at E;rcases Nat.lt_or_ge (eF p (q.take i)) i with h|h
 ·have I:eF p (q.take i)<(q.take i).length:=by rw[fR,Nat.min_eq_left hi];exact h
  have D:=ug I;rw[List.getElem_take]at D;rcases Nat.lt_or_ge (eF p q) (eF p (q.take i))with h5|h5
  ·have h6:=ug (p:=p) (q:=q) (by omega);have C:=rL h5 (by rw[fR];omega);rw[List.getElem_take,h6]at C;cases C
  ·rcases Nat.lt_or_ge (eF p (q.take i)) (eF p q)with h6 | h6
   ·have C:=rL h6 (by omega);rw[D]at C;cases C
   ·omega
 ·have e:eF p (q.take i)=i:=by omega
  rw[e];rcases Nat.lt_or_ge (eF p q) i with h5|h5
  ·have h6:=ug (p:=p) (q:=q) (by omega);have C:=rL (p:=p) (q:=q.take i) (i:=eF p q) (by omega) (by rw[fR];omega);rw[List.getElem_take,h6]at C;cases C
  ·omega
theorem afZ{q:aa aM}{i:Nat}(h:i<q.length)(I:q.length<=1000):Hw q (i:Int)=some (BG q i):=by
 have J:=avn (λx:aM=>x.line==q[i].line) q i (by omega);have L:=yU (λx:aM=>x.line==q[i].line) (q.take i);have hlen:(q.take i).length=i:=by rw[fR];omega
 unfold Hw cg;rw[avm h,Ou,hlen];generalize O:eF (λx:aM=>x.line==q[i].line) (q.take i)=n at *
 have e:=dx (step:=Dx) n (λj=>((q,(i:Int),(j:Int),()),())) (if n<i then .inl ((true,()),())else .inr (.inl ((),()))) aZ (λk Q=>by
  have D:=rL (p:=λx:aM=>x.line==q[i].line) (q:=q) (i:=k) (by omega) (by omega);unfold Dx aB bq xG xI;dsimp only;rw[aW (by omega),ak,aW (by omega),ak,aG ⟨by omega,by omega⟩,aG ⟨by omega,by omega⟩];simp only[bJ];rw[D,aq,bP (by omega)]) (by
  by_cases C:n<i
  ·have D:((q[n]'(by omega)).line==q[i].line)=true:=by
    have E:eF (λx:aM=>x.line==q[i].line) q=n:=by omega
    have:=ug (p:=λx:aM=>x.line==q[i].line) (q:=q) (by omega);simp only[E]at this;exact this
   unfold Dx aB bq xG xI;dsimp only;rw[aW (by omega),ak,aW (by omega),ak,aG ⟨by omega,by omega⟩,aG ⟨by omega,by omega⟩];simp only[bJ];rw[D,ak,bk C]
  ·unfold Dx aB bq xG xI;dsimp only;rw[br (by omega),aq,bB C]) (bY (by omega))
 rw[cA]at e
 refine(bD (λo=>Option.bind o _) e).trans ?_
 by_cases C:n<i
 ·rw[bk C,aW C];rfl
 ·rw[bB C,br C];rfl
def OH(d:iq)(n:Int)(w:Bool):Bool:=bif w then d.on ||decide (n<1)else !d.on
theorem avo{d:iq}(n:Int)(w:Bool)(h:lS d=true):MV d n w=some (OH d n w):=by
 unfold MV OH;rw[UT,au,h];cases w<;>cases d.on<;>rfl
def ze(p:Nat->Bool)(k:Nat):Int:=((List.range k).countP p:Nat)
theorem af0(p:Nat->Bool)(k:Nat):ze p (k+1)=ze p k+(bif p k then 1 else 0):=by
 unfold ze;rw[List.range_succ,List.countP_append,List.countP_singleton];cases p k<;>simp
theorem af1(p:Nat->Bool)(k:Nat):0<=ze p k/\ze p k<=k:=by
 unfold ze;have:=List.countP_le_length (p:=p) (l:=List.range k);rw[dD]at this;omega
theorem OI{f:Nat->Bool}{n k:Nat}(h:k<n)(C:k<((List.range n).map f).length):((List.range n).map f)[k]=f k:=by simp
def sS(q:aa aM)(i:Nat):Bool:=match q[i]? with
 |some r=>r.write
 |none=>false
theorem OJ{q:aa aM}{i:Nat}(h:i<q.length):sS q i=q[i].write:=by
 unfold sS;rw[bK h]
def wj(q:aa aM)(i:Nat):Bool:=!BG q i
def D8(q:aa aM)(k:Nat):Int:=ze (λi=>wj q i && !sS q i) k
def JC(q:aa aM)(k:Nat):Int:=ze (λi=>wj q i&&sS q i) k
def nu(c:av)(i:Nat):Bool:=wj c.queue i&&(OH c.drain (D8 c.queue c.queue.length) (sS c.queue i) ||(!sS c.queue i&&JC c.queue c.queue.length==0))
theorem avp{c:av}(h:Pq c):MW c=some ((List.range c.queue.length).map (nu c)):=by
 have I:=h.ql;have e:=dx (step:=Hx) c.queue.length (λi=>((c,D8 c.queue i,JC c.queue i,(i:Int),()),())) (.inl ((c,D8 c.queue c.queue.length,JC c.queue c.queue.length,()),())) aZ (λk C=>by
  have J:=af1 (λi=>wj c.queue i && !sS c.queue i) k;have L:=af1 (λi=>wj c.queue i&&sS c.queue i) k;unfold Hx aB xG xI;dsimp only;rw[aW (by omega),ak,afZ C (by omega),au,bP (by omega)];unfold D8 JC at *
  have E:wj c.queue k = !BG c.queue k:=rfl;rw[af0,af0];simp only[E,OJ C];cases BG c.queue k with
  |true=>simp
  | false=>
   rw[aq,aG ⟨by omega,by omega⟩];simp only[bJ];cases c.queue[k].write with
   |true=>rw[ak,bf (by omega) (by omega)];simp[wj]
   |false=>rw[aq,bf (by omega) (by omega)];simp[wj]) (by
  unfold Hx aB xG xI;dsimp only;rw[br (by omega),aq]) (bY (by omega))
 have D:=dx (step:=Hy) c.queue.length (λi=>((c,D8 c.queue c.queue.length,JC c.queue c.queue.length,(),(i:Int),()),((List.range i).map (nu c),()))) (.inl (((),()),((List.range c.queue.length).map (nu c),()))) aZ (λk C=>by
  have hl:((List.range k).map (nu c)).length=k:=by simp
  unfold Hy aB xG xI;dsimp only;rw[aW (by omega),ak,aG ⟨by omega,by omega⟩,afZ C (by omega),au,bP (by omega),List.range_succ,List.map_append,hl,List.map_singleton];simp only[bJ,ij,dh (show k+1<1073741824 by omega),ak,avo _ _ h.dr,au];unfold nu wj;rw[OJ C];cases BG c.queue k<;>cases c.queue[k].write<;>cases OH c.drain (D8 c.queue c.queue.length) _<;>first|rfl|simp) (by
  unfold Hy aB xG xI;dsimp only;rw[br (by omega),aq]) (bY (by omega))
 rw[cA]at e D;unfold MW bw
 refine(bD (λo=>Option.bind o _) e).trans ?_
 rw[au]
 refine(bD (λo=>Option.bind o _) D).trans ?_
 rfl
def jC(c:av):aa aL:=c.queue.map λr=>gx c r.line
theorem BH(c:av):(jC c).length=c.queue.length:=by unfold jC;rw[cZ]
theorem avq{c:av}{i:Nat}(h:i<c.queue.length)(C:i<(jC c).length):(jC c)[i]=gx c c.queue[i].line:=by simp only[jC,List.getElem_map]
theorem VB{c:av}(h:Pq c){r:aM}(C:r∈c.queue):vS c r.line=some (gx c r.line,true)/\dA c.config.ay (gx c r.line)=true:=
 auJ h.p h.sp h.se h.mo (h.q r C).1.1 (h.q r C).1.2
theorem VC{c:av}(h:Pq c){r:aM}(C:r∈c.queue):vG c r.line=some (gx c r.line):=
 auL h.p h.sp h.se h.mo (h.q r C).1.1 (h.q r C).1.2
theorem af2{c:av}(h:Pq c):Hv c=some (jC c):=by
 have D:=h.ql;have e:=dx (step:=Hu) c.queue.length (λi=>((c,(),(i:Int),()),((c.queue.take i).map (λr=>gx c r.line),()))) (.inl (((),()),(jC c,()))) aZ (λk C=>by
  have hl:((c.queue.take k).map (λr=>gx c r.line)).length=k:=by simp;omega
  unfold Hu aB xG xI;dsimp only;rw[aW (by omega),ak,aG ⟨by omega,by omega⟩];simp only[bJ];rw[VC h (cP C),au,bP (by omega),hl,ij,dh (by omega),ak,sK C,List.map_append];rfl) (by
  unfold Hu aB xG xI;dsimp only;rw[br (by omega),aq,jF];rfl) (bY (by omega))
 rw[cA]at e;unfold Hv bw
 refine(bD (λo=>Option.bind o _) e).trans ?_
 rfl
def zA:aL:=⟨0,0,0⟩
def zQ:aM:=⟨0,0,0,false,0,0⟩
def gR(c:av)(i:Nat):aL:=(jC c).getD i zA
def ny(c:av)(i:Nat):aM:=c.queue.getD i zQ
theorem JD{c:av}{i:Nat}(h:i<(jC c).length):(jC c)[i]=gR c i:=by
 unfold gR;rw[eX,bK h];rfl
theorem wm{c:av}{i:Nat}(h:i<c.queue.length):c.queue[i]=ny c i:=by
 unfold ny;rw[eX,bK h];rfl
theorem JE{c:av}(h:Pq c){i:Nat}(hi:i<c.queue.length):dA c.config.ay (gR c i)=true/\0<=(gR c i).az/\(gR c i).az.toNat<c.bh.aF.length/\(gR c i).az.toNat<c.bu.aU.length/\(gR c i).az<aV c.config.ay/\0<=(gR c i).row:=by
 have e:=avq hi (by rw[BH];exact hi);rw[JD]at e;have C:=(VB h (cP hi)).2;rw[<-e]at C;obtain⟨_,D,E,I,J,L,O⟩:=rA C;have:=h.p.bl;have:=h.dl;exact⟨C,D,by omega,by omega,E,I⟩
theorem OK{c:av}(h:Pq c):c.bh.aF.length<=1048576:=by
 have:=h.p.bl;have:=fG c.config.ay;omega
def jX(c:av)(i:Nat):Bool:=D3 c.bh (gR c i)
def JF(c:av)(k:Nat)(b:Int):Bool:=(List.range k).any λi=>nu c i&&jX c i&&b==(gR c i).az
def VD(e:bX):bX:=⟨e.line,e.code,(if (999:Int)<(W6 (e.times+(1:Int)))then (999:Int)else (W6 (e.times+(1:Int))))⟩
def zEE:bX:=⟨0,0,0⟩
def sU(l:aa bX)(line code:Int):aa bX:=match l.findIdx? (jU ⟨line,code,1⟩)with
 |some i=>l.set i (VD (l.getD i zEE))
 |none=>bif ((l.length:Int)==(6:Int))then l.drop 1++[⟨line,code,1⟩]else l++[⟨line,code,1⟩]
theorem avr{l:aa bX}(h:mE l=true){line code:Int}(D:0<=line/\line<=1023)(E:code=1\/code=2):MO l line code=some (sU l line code,true):=by
 have hl:l.length<=6:=by
  simp only[mE,aK,fH]at h;omega
 have I:aJ line 0 1023=true:=bC.2 D;have J:aJ 1 1 999=true:=rfl;have L:Dt ⟨line,code,1⟩=some true:=by
  unfold Dt;rw[ei,au,I,ak,ei,J];rcases E with rfl|rfl<;>rfl
 unfold MO sU xC;rw[dh (by simp;omega),ak,as5,au,h,bR,aq,L,au,bR,aq];have C:=aeS l ⟨line,code,1⟩ (by omega);dsimp only at C;rw[C,au,List.nil_append];unfold mD;cases hi:l.findIdx? (jU ⟨line,code,1⟩)with
 | some i=>
  obtain⟨O,T,U⟩:=nA.1 hi;dsimp only;rw[aW (by omega),ak,aG ⟨by omega,by omega⟩,aG (by omega),aG ⟨by omega,by omega⟩,aG (by omega)];simp only[bJ];rw[nt _ O];rfl
 | none=>
  dsimp only;rw[br (by omega),aq];by_cases Q:l.length=6
  ·rw[aW (by omega),ak,show ((l.length:Int)==(6:Int))=true by rw[Q];rfl,ak,bk ⟨by omega,by omega,by omega⟩,dh (by simp;omega),ak,dh (by simp;omega),ak];simp
  ·rw[br (by omega),aq,jw (by omega),aq,dh (by simp;omega),ak]
def OL(c:av)(l:aa bX):av:=⟨c.config,c.box,c.now,c.bh,c.ready,c.array,c.spare,c.bu,c.bN,c.guard,c.pending,c.queue,c.shares,c.drain,c.bg,c.cT,l,c.trace,c.cC⟩
def OM(c:av)(n code:Int):av:=bif code != 0 then OL c (sU c.errors n code)else c
theorem af3{c:av}(h:mE c.errors=true){n code:Int}(C:0<=n/\n<=1023)(h2:code=0\/code=1\/code=2):AN c n code=some ((),(OM c n code,())):=by
 unfold AN OM;rcases h2 with rfl|h2
 ·rfl
 ·rw[avr h C h2,iT (by omega)];rfl
def af4(q:aa aM):Prop:=∀i (h:i<q.length),(q.take i).any (λx=>x.id==q[i].id)=false
theorem avs{q:aa aM}(C:af4 q){i:Nat}(h:i<q.length)(hl:q.length<=12):ME q q[i].id=some (q.take i++q.drop (i+1),true):=by
 have D:q.findIdx? (λr=>r.id==q[i].id)=some i:=by
  rw[nA]
  refine⟨h,by simp,λj E=>?_⟩
  have:=iW.1 (C i h) q[j] (iX.2 ⟨j,by rw[fR];omega,by rw[List.getElem_take]⟩)
  simpa using this
 unfold ME;rw[UY _ _ (by omega),au];unfold mD;rw[D];dsimp only;rw[br (by omega),aq,bk ⟨by omega,by omega,by omega⟩,dh (by simp;omega),ak,bP (by omega),bk ⟨by omega,by omega,by omega⟩,dh (by simp;omega),ak];simp only[bJ,Int.toNat_zero,List.drop_zero,List.nil_append,jF]
def wo:aM:=⟨0,0,0,false,0,0⟩
def wq(s:aa cq)(t:Int):aa cq:=match qJ s ((List.replicate 4 false).set t.toNat true)with
 |some (l,_)=>l
 |none=>[]
def pU(c:av)(i:Nat)(a:dP)(e:aa bX)(x:dz):av:=
 ⟨c.config,c.box,c.now,c.bh,c.ready,a,c.spare,c.bu,c.bN,c.guard,c.pending,c.queue.take i++c.queue.drop (i+1),wq c.shares (c.queue.getD i wo).dj,c.drain,c.bg,c.cT,e,c.trace,c.cC++[x]⟩
def wu(c:av)(i:Nat):av:=
 let r:=c.queue.getD i wo
 let n:=hU c.config.ay (gx c r.line)
 bif r.write then pU c i ⟨c.array.cells.set n ⟨BF r.data,false⟩,c.array.bI,c.array.bG⟩ c.errors ⟨r.id,c.now,0,0⟩
 else pU c i ⟨c.array.cells.set n (rP (c.array.cells.getD n yV)),c.array.bI,c.array.bG⟩ (bif lU (c.array.cells.getD n yV) != 0 then sU c.errors (n:Int) (lU (c.array.cells.getD n yV))else c.errors) ⟨r.id,c.now,VA (c.array.cells.getD n yV),lU (c.array.cells.getD n yV)⟩
theorem VE{d:bW}(h:Sy d.symbols):lU d=0\/lU d=1\/lU d=2:=by
 obtain⟨E,C,D⟩:=Vv h;unfold lU;cases d.iO with
 |true=>exact .inr (.inr rfl)
 |false=>exact(Jj C D).2.2
structure pV (c:av) (i:Nat) (B:Int):Prop where
 ad:∀r∈c.queue,vS c r.line=some (gx c r.line,true)/\dA c.config.ay (gx c r.line)=true
 tn:∀r∈c.queue,0<=r.dj/\r.dj<=3
 ql:c.queue.length<=12
 sh:gj c.shares=true
 shl:c.shares.length=4
 u:af4 c.queue
 i:i<c.queue.length
 d:∀r∈c.queue,0<=r.data/\r.data<=4294967295
 a:fD c.config.ay B c.array
 e:mE c.errors=true
 r:c.cC.length<=1000
theorem pV.facts{c:av}{i:Nat}{B:Int}(h:pV c i B){r:aM}(C:r∈c.queue):vS c r.line=some (gx c r.line,true)/\vV c.config.ay (gx c r.line)=(hU c.config.ay (gx c r.line):Int)/\hU c.config.ay (gx c r.line)<c.array.cells.length/\(hU c.config.ay (gx c r.line):Int)<=1023/\qJ c.shares ((List.replicate 4 false).set r.dj.toNat true)=some (wq c.shares r.dj,(qJ c.shares ((List.replicate 4 false).set r.dj.toNat true)).get!.2)/\0<=r.dj/\r.dj.toNat<4:=by
 obtain⟨D,E⟩:=h.ad _ C;have I:=h.tn _ C;obtain⟨J,L⟩:=Jh E;have O:=h.a.cells;have hl:=nW c.config.ay;obtain⟨y,t,e,_⟩:=Vl ((List.replicate 4 false).set r.dj.toNat true) (by have:=h.shl;omega) h.sh (by simp[h.shl]);refine⟨D,J,by omega,by omega,?_,I.1,by omega⟩;unfold wq;rw[e];rfl
theorem af5{c:av}{i:Nat}{B:Int}(h:pV c i B)(L:∀ r∈c.queue,vG c r.line=some (gx c r.line)):MP c (i:Int)=some ((),(wu c i,())):=by
 have hi:=h.i;obtain⟨f1,O,C,Q,T,U,E⟩:=h.facts (cP hi);have f2:=L _ (cP hi);have I:=h.d _ (cP hi);have J:=h.a.syms _ (cP C);have D:c.queue.getD i wo=c.queue[i]:=nt _ hi;have Z:=h.r;unfold MP xL;rw[aG ⟨by omega,by omega⟩,aG (by omega)];simp only[bJ];rw[f2,au,NW,au,O,avs h.u hi h.ql,au,bk (by decide)];have Y:(4:Int).toNat=4:=rfl;rw[Y,aG ⟨U,by simpa using E⟩,aG (by simpa using E)];dsimp only;rw[afF _ _ (by have:=h.shl;omega),T,au];dsimp only;unfold wu;rw[D];dsimp only;cases hw:c.queue[i].write with
 | true=>
  rw[ak,ak,afV I.1 I.2,au,aG ⟨by omega,by omega⟩,aG (by omega),dh (by simp;omega),ak];unfold pU;rw[D];rfl
 | false=>
  rw[aq,aq,nt _ C]
  refine(bD (λo=>Option.bind o _) (afY (c:=⟨c.config,c.box,c.now,c.bh,c.ready,c.array,c.spare,c.bu,c.bN,c.guard,c.pending,c.queue.take i++c.queue.drop (i+1),wq c.shares c.queue[i].dj,c.drain,c.bg,c.cT,c.errors,c.trace,c.cC⟩) C J)).trans ?_
  rw[au];dsimp only
  refine(bD (λo=>Option.bind o _) (af3 (by exact h.e) ⟨by omega,Q⟩ (VE J))).trans ?_
  rw[au];unfold OM pU OL uj eG;rw[D];dsimp only;cases lU c.array.cells[hU c.config.ay (gx c c.queue[i].line)] != 0 with
  | true=>
   rw[ak,ak];dsimp only;rw[dh (by simp;omega)];rfl
  | false=>
   rw[aq,aq];dsimp only;rw[dh (by simp;omega)];rfl
def ff(c:av)(x:aI):av:=⟨c.config,c.box,c.now,fZ c.bh x,vX c.config.ay c.ready ⟨c.now,x⟩,c.array,c.spare,c.bu,c.bN,c.guard,c.pending,c.queue,c.shares,c.drain,c.bg,c.cT,c.errors,c.trace++[⟨c.now,x⟩],c.cC⟩
def af6(c:av)(p:eY):av:=⟨c.config,c.box,c.now,c.bh,c.ready,c.array,c.spare,c.bu,c.bN,c.guard,c.pending,c.queue,c.shares,c.drain,p,c.cT,c.errors,c.trace,c.cC⟩
def pW(c:av)(r:dc):av:=⟨c.config,c.box,c.now,c.bh,c.ready,c.array,c.spare,r,c.bN,c.guard,c.pending,c.queue,c.shares,c.drain,c.bg,c.cT,c.errors,c.trace,c.cC⟩
def af7(c:av)(r:cK):av:=⟨c.config,c.box,c.now,r,c.ready,c.array,c.spare,c.bu,c.bN,c.guard,c.pending,c.queue,c.shares,c.drain,c.bg,c.cT,c.errors,c.trace,c.cC⟩
def BI(c:av)(k:Int):av:=af6 c (BB c.bg k c.now)
def ON(c:av)(b:Int):av:=pW (Jz c b (c.pending.filter (λa=>!(a.az==b)))) (zc c.bu b)
def wz(c:av)(x:aI)(i:Int):av:=
 bif x.kind==1 then we (ff c x) x else
 bif x.kind==5 then ON (ff c x) x.az else
 bif x.kind==2 ||x.kind==3 then wu (ff c x) i.toNat else
 bif x.kind==4 then ff c x else
 bif x.kind==9 then mJ (BI (ff c x) 9) c.bN.length []else BI (ff c x) x.kind
structure Bs (c:av):Prop where
 w:wh 100000 c
 u:uh c.pending
 pk:∀a∈c.pending,0<=a.az/\a.az<aV c.config.ay
 zt:∀t∈c.bN,kU t
 rf:fq c.bu=true
 bl:(c.bh.aF.length:Int)=aV c.config.ay
 l1:c.ready.last.length<1073741824
 l2:c.ready.bx.length<1073741824
 tl:c.trace.length<10000
theorem Bs.ff{c:av}(h:Bs c)(x:aI):wh 100000 (ff c x):=⟨h.w.hB,h.w.g,h.w.a,h.w.k,h.w.p,h.w.t,h.w.d,h.w.r⟩
theorem pV.ff{c:av}{n:Nat}{B:Int}(h:pV c n B)(x:aI):pV (ff c x) n B:=⟨h.ad,h.tn,h.ql,h.sh,h.shl,h.u,h.i,h.d,h.a,h.e,h.r⟩
theorem avt{c:av}{x:aI}(C:1<=x.kind/\x.kind<=9)(hb:x.kind<=5->0<=x.az/\x.az.toNat<c.bh.aF.length):MR c x=some ((),(af7 c (fZ c.bh x),())):=by
 unfold MR fZ af7 xL;rcases kinds C with h|h|h|h|h|h|h|h|h<;>(try (have hb:=hb (by omega)))<;>simp[h,hb]
theorem VF{g:aN}{x:aI}(h:eK g x=true)(C:x.kind=1):0<=x.row/\x.row<g.rows:=by
 simp only[eK,aK]at h;have D:=h.2.2.2.1;rw[sO,C,show ((1:Int)==1)=true from rfl,ak,bC]at D;omega
theorem avu{c:av}(h:Bs c){x:aI}(D:qK c.config.ay c.bh x=true){i:Int}(I:x.kind=2\/x.kind=3->pV c i.toNat 100000/\0<=i)(J:∀ r∈c.queue,vG c r.line=some (gx c r.line)):yx c x i=some ((),(wz c x i,())):=by
 obtain⟨hg,hlen,L,hb⟩:=Of D;have O:eK c.config.ay x=true:=by
  simp only[qK,aK]at D;exact D.2.1
 have b1:=fG c.config.ay;have w:=h.ff x;have ht:=h.w.t;have hd:=h.w.d;have hr:=h.w.r;have VG:=h.tl;unfold yx wz bw;rw[dh (by simp;omega),ak,atA _ _ _ h.l1 h.l2,au]
 refine(bD (λo=>Option.bind o _) (avt L (λQ=>by have:=hb Q;exact⟨this.1,this.2⟩))).trans ?_
 rw[au];rcases kinds L with q|q|q|q|q|q|q|q|q<;>rw[q]<;>simp only[Int.reduceBEq,Int.reduceBNe,ak,aq,Bool.or_true,Bool.or_false,Bool.true_or,Bool.false_or,Bool.or_self]
 ·obtain⟨C,T⟩:=hb (by omega);obtain⟨U,Y⟩:=VF O q
  refine(bD (λo=>Option.bind o _) (au0 (c:=ff c x) x w.g w.a w.p h.u h.zt C (by show x.az<aV c.config.ay;omega) U Y (by show x.az.toNat<c.bN.length;omega) (by show x.az.toNat<c.guard.length;omega))).trans ?_
  rfl
 ·obtain⟨s,E⟩:=I (.inl q);have e:=af5 (s.ff x) J;rw[Int.toNat_of_nonneg E]at e
  refine(bD (λo=>Option.bind o _) e).trans ?_
  rfl
 ·obtain⟨s,E⟩:=I (.inr q);have e:=af5 (s.ff x) J;rw[Int.toNat_of_nonneg E]at e
  refine(bD (λo=>Option.bind o _) e).trans ?_
  rfl
 ·rfl
 ·obtain⟨C,T⟩:=hb (by omega);obtain⟨y,Z⟩:=auU h.rf (b:=x.az) C (by omega)
  refine(bD (λo=>Option.bind o _) (afP w.hB (ff c x) w.g w.a w.k w.p C (by show x.az<aV c.config.ay;omega) (by show x.az.toNat<c.bN.length;omega) (by show x.az.toNat<c.guard.length;omega))).trans ?_
  rw[au]
  refine(bD (λo=>Option.bind o _) Z).trans ?_
  rfl
 ·obtain⟨y,e⟩:=OE c.bg (k:=6) (by omega) c.now
  refine(bD (λo=>Option.bind o _) e).trans ?_
  rfl
 ·obtain⟨y,e⟩:=OE c.bg (k:=7) (by omega) c.now
  refine(bD (λo=>Option.bind o _) e).trans ?_
  rfl
 ·obtain⟨y,e⟩:=OE c.bg (k:=8) (by omega) c.now
  refine(bD (λo=>Option.bind o _) e).trans ?_
  rfl
 ·obtain⟨y,e⟩:=OE c.bg (k:=9) (by omega) c.now
  refine(bD (λo=>Option.bind o _) e).trans ?_
  rw[au]
  refine(bD (λo=>Option.bind o _) (au5 (c:=BI (ff c x) 9) ⟨w.hB,w.g,w.a,w.k,w.p,w.t,w.d,w.r⟩ (by show (fZ c.bh x).aF.length=c.bN.length;rw[ae5];omega) h.pk)).trans ?_
  rfl
theorem avv{l m:aa Int}(h:l.length=m.length)(D:(l.zip m).all Bi=true):(∀ x∈l,0<=x/\x<=100000)/\∀ x∈m,0<=x/\x<=100000:=by
 rw[cv]at D;have key:∀ i (E:i<l.length) (I:i<m.length),(0<=l[i]/\l[i]<=100000)/\(0<=m[i]/\m[i]<=100000):=λi E I=>by
  have J:i<(l.zip m).length:=by rw[List.length_zip];omega
  have:=D _ (cP J);rw[List.getElem_zip]at this;simp only[Bi,aK,bC]at this;exact this
 constructor
 ·intro x C;obtain⟨i,hi,rfl⟩:=iX.1 C;exact(key i hi (by omega)).1
 ·intro x C;obtain⟨i,hi,rfl⟩:=iX.1 C;exact(key i (by omega) hi).2
theorem fD.uk{g:aN}{a:dP}(h:pO g a=true):fD g 100000 a:=by
 simp only[pO,aK,fH]at h;obtain⟨T,C,D,E,I,J⟩:=h;obtain⟨L,O⟩:=avv (by omega) J
 refine⟨C,λc Q=>?_,D,E,L,O⟩
 exact Sy.of (cv.1 I c Q)
theorem Bs.of{c:av}(D:dO c)(h:dU c=true)(I:c.trace.length<10000):Bs c:=by
 have E:=Pq.of D h;have z1:c.box.bZ.weights.length<=1048576:=D.1.1;have h0:=h;simp only[dU,aK]at h;obtain⟨J,h2,h3,h4,L,O,h7,h8,C,NH,OB,jJ,jo,kF,kj,jq,oe,qb,qc,sZ,uA,uB⟩:=h;obtain⟨f1,f2⟩:=D2 (by omega) J;simp only[ni,aK]at f1;simp only[rI,aK,eS,fM,lY,cv,eD]at C;obtain⟨C,Q,T,U,g4,g5,Y⟩:=C;have wZ:=E.pl;obtain⟨Z,rl,ra⟩:=U5 L;have b1:=fG c.config.ay
 refine⟨⟨by decide,Z,fD.uk O,f1.2.2.2.2.2.1,by omega,T,U,Q⟩,λi hi=>?_,λa ha=>?_,D.2.2.2.2.2.2.1.2,C,E.p.bl,by omega,by omega,I⟩
 ·have hb:=Y i hi;unfold yR at hb;rw[bK hi]at hb;simp only[aK,fM]at hb;exact hb.2.2
 ·obtain⟨_,k1,k2,_⟩:=rA (E.pe a ha);exact⟨k1,k2⟩
theorem pV.of{c:av}(J:dO c)(h:dU c=true){n:Nat}(L:n<c.queue.length)(C:c.cC.length<=1000):pV c n 100000:=by
 have D:=Pq.of J h;have T:=h;simp only[dU,aK]at h;obtain⟨U,Y,Z,h4,h5,O,h7,h8,h9,E,OB,jJ,jo,kF,kj,jq,oe,qb,qc,Q,uA,uB⟩:=h;simp only[eV,aK,cv,eD,fH]at E;obtain⟨I,q2⟩:=E
 refine⟨λr C=>VB D C,λr C=>(D.q r C).2.1,D.ql,D.sh,D.shl,λi hi=>?_,L,λr C=>?_,fD.uk O,Q,C⟩
 ·cases i with
  |zero=>simp
  | succ i=>
   have hb:=I (i+1) hi;rw[Ja hi]at hb;simp only[aK,fM]at hb;exact hb.2.2
 ·obtain⟨i,hi,rfl⟩:=iX.1 C;have hb:=I i hi;unfold oO at hb;rw[bK hi]at hb;simp only[kT,I9,aK,bC]at hb;exact hb.1.2.2.2.2.1
theorem um{g:aN}{B:Int}{a:dP}(h:fD g B a):Oo a:=by
 have D:=h.cells;have E:=h.bI;have I:=h.bG;have J:=nW g;have L:=sJ g;exact⟨⟨by omega,λc C=>by unfold U8;rw[(h.syms c C).1];omega⟩,by omega,by omega⟩
theorem VH{l:aa cw}(h:l.length<=1048576/\∀ y∈l,kU y){t:cw}(D:kU t)(i:Nat):(l.set i t).length<=1048576/\∀ y∈l.set i t,kU y:=by
 refine⟨by rw[jE];exact h.1,λy C=>?_⟩
 rcases List.mem_or_eq_of_mem_set C with C|rfl
 ·exact h.2 y C
 ·exact D
theorem af8{k:Int}(h:aJ k 1 16=true):kU (v9 k):=by
 have:=bC.1 h;unfold v9 kU;simp only[lX];omega
theorem avw{t:cw}(h:kU t)(row dm:Int):kU (zb t row dm).1:=by
 have hl:=afM (t:=t) row;unfold kU at h ⊢;unfold zb;cases jy t&&(aJ row 0 15&&aJ dm 2 1000)with
 |false=>exact h
 | true=>
  rw[ak];cases jy (pS t row)with
  |false=>exact h
  | true=>
   rw[ak];show (pS t row).rows.length<=_/\(pS t row).counts.length<=_;omega
theorem avx{c:av}(E:dO c)(I:c.ready.bx.length<=4)(ht:c.trace.length<=10000)(x:aI):dO (ff c x):=by
 obtain⟨J,C,⟨L,z4⟩,O,Q,T,U,Y,Z,kV,jz,jA,jB,mH⟩:=E;have D:=atH c.config.ay c.ready ⟨c.now,x⟩;refine⟨J,by unfold aff at C ⊢;show (fZ c.bh x).aF.length<=_;rw[ae5];exact C,⟨by show (vX _ _ _).last.length<=_;rw[D.1];exact L,Nat.le_trans (D.2 I) (by decide)⟩,O,Q,T,U,Y,Z,kV,jz,jA,by simp[ff];omega,mH⟩
theorem OO{c:av}(D:dO c){a:dP}(E:Oo a){r:dc}(I:Bw r){t:aa cw}(J:t.length<=1048576/\∀ y∈t,kU y){C:aa Int}(L:C.length<=1048576){pd:aa aL}(O:pd.length<=1048576)(pw:eY):dO ⟨c.config,c.box,c.now,c.bh,c.ready,a,c.spare,r,t,C,pd,c.queue,c.shares,c.drain,pw,c.cT,c.errors,c.trace,c.cC⟩:=by
 obtain⟨Q,T,U,z5,Y,z7,z8,z9,kA,Z,jz,jA,jB,mH⟩:=D;exact⟨Q,T,U,E,Y,I,J,L,O,Z,jz,jA,jB,mH⟩
theorem avy{c:av}(C:dO c)(h:wh 100000 c)(x:aI)(D:0<=x.az)(E:x.az<aV c.config.ay)(I:0<=x.row)(J:x.row<c.config.ay.rows):dO (we c x):=by
 have zt:=C.2.2.2.2.2.2.1;have hb:x.az.toNat<c.bN.length:=by have:=h.t;omega
 have L:=h.p;refine OO C (um (Vg h.g c.config.ew h.hB h.a D E I J)) C.2.2.2.2.2.1 (VH zt ?_ _) C.2.2.2.2.2.2.2.1 ?_ c.bg
 ·unfold rO;rw[nt _ hb];exact avw (zt.2 _ (cP hb)) _ _
 ·have O:(pT c x).length<=c.pending.length:=List.length_filter_le _ _;have Q:=afO c.config.ay.rows x.row;have T:=Vs x.az (rJ c.config.ay.rows x.row) (pT c x);cases (rO c x).2 with
  |false=>rw[aq];omega
  |true=>rw[ak];omega
theorem af9(r:dc)(b:Int):(zc r b).aU.length=r.aU.length:=by
 unfold zc;cases decide (r.aU.getD b.toNat 0 = -2)<;>simp
theorem avz{c:av}(C:dO c)(h:wh 100000 c){b:Int}(D:0<=b)(E:b<aV c.config.ay):dO (ON c b):=by
 obtain⟨_,_,_,_,I,J,L,O⟩:=fP h.g;have zt:=C.2.2.2.2.2.2.1;have Q:=h.p;have T:=Vt (λa:aL=>!(a.az==b)) c.pending;exact OO C (um (Jy h.g c.config.ew h.hB h.a D E _ (by omega))) (by unfold Bw;rw[af9];exact C.2.2.2.2.2.1) (VH zt (af8 h.k) _) (by show (c.guard.set _ _).length<=_;rw[jE];exact C.2.2.2.2.2.2.2.1) (by show (c.pending.filter (λa=>!(a.az==b))).length<=_;omega) c.bg
theorem aga{l:aa cw}(h:l.length<=1048576/\∀ y∈l,kU y){t:cw}(C:kU t):∀ k:Nat,((List.range k).foldl (λd b=>d.set b t) l).length<=1048576/\∀ y∈(List.range k).foldl (λd b=>d.set b t) l,kU y
 |0=>h
 |k+1=>by rw[zd];exact VH (aga h C k) C k
theorem avA{c:av}(C:dO c)(h:wh 100000 c)(k:Nat)(D:(k:Int)<=aV c.config.ay):dO (mJ c k []):=
 OO C (um (OF h.g c.config.ew h.hB h.a k D)) (by unfold Bw;rw[wg];exact C.2.2.2.2.2.1) (aga C.2.2.2.2.2.2.1 (af8 h.k) k) (by rw[wg];exact C.2.2.2.2.2.2.2.1) (by simp) c.bg
theorem agb{l:aa bX}(n code:Int):(sU l n code).length<=l.length+1:=by
 unfold sU;cases l.findIdx? (jU ⟨n,code,1⟩)with
 |some i=>simp
 | none=>
  dsimp only;cases (l.length:Int)==(6:Int)<;>simp<;>omega
theorem agc{c:av}(J:dO c){i:Nat}(h:pV c i 100000):dO (wu c i):=by
 obtain⟨L,O,Q,z5,T,U,Y,Z,kA,kV,jz,jA,jB,mH⟩:=J;have hi:=h.i;have hql:=h.ql;have hr:=h.r;obtain⟨f1,f3,C,f5,f6,f7,f8⟩:=h.facts (cP hi);have D:c.queue.getD i wo=c.queue[i]:=nt _ hi;have E:=h.d _ (cP hi);have Ti:(wq c.shares c.queue[i].dj).length<=1048576:=by
  obtain⟨y,t,e,hl⟩:=Vl ((List.replicate 4 false).set c.queue[i].dj.toNat true) (by have:=h.shl;omega) h.sh (by simp[h.shl]);unfold wq;rw[e];have:=h.shl;show y.length<=_;omega
 have iH:c.errors.length<=6:=by
  have I:=h.e;simp only[mE,aK,fH]at I;omega
 have key:∀ (a:dP) (e:aa bX) (x:dz),Oo a->e.length<=100->dO (pU c i a e x):=λa e x ha I=>
  ⟨L,O,Q,ha,T,U,Y,Z,kA,by simp[pU];omega,by unfold pU;rw[D];exact Ti,by show e.length<=_;omega,jB,by simp[pU];omega⟩
 unfold wu;rw[D];dsimp only;cases c.queue[i].write with
 |true=>exact key _ _ _ (um (h.a.Bv _ (c:=⟨_,false⟩) (OG E.1 E.2).2.1)) (by omega)
 | false=>
  rw[aq,nt _ C];refine key _ _ _ (um (h.a.Bv _ (Vw (h.a.syms _ (cP C))))) ?_;have:=agb (l:=c.errors) (hU c.config.ay (gx c c.queue[i].line):Int) (lU c.array.cells[hU c.config.ay (gx c c.queue[i].line)]);cases lU c.array.cells[hU c.config.ay (gx c c.queue[i].line)] != 0 with
  |true=>rw[ak];omega
  |false=>rw[aq];omega
theorem avB{c:av}(J:dO c)(h:Bs c)(L:c.ready.bx.length<=4){x:aI}(D:qK c.config.ay c.bh x=true){i:Int}(I:x.kind=2\/x.kind=3->pV c i.toNat 100000/\0<=i):dO (wz c x i):=by
 obtain⟨Z,hlen,O,hb⟩:=Of D;have Q:eK c.config.ay x=true:=by
  simp only[qK,aK]at D;exact D.2.1
 have w:=h.ff x;have ht:=h.w.t;have VG:=h.tl;have z:=avx J L (by omega) x;have C:∀k,dO (BI (ff c x) k):=λk=>OO z z.2.2.2.1 z.2.2.2.2.2.1 z.2.2.2.2.2.2.1 z.2.2.2.2.2.2.2.1 z.2.2.2.2.2.2.2.2.1 _
 unfold wz;rcases kinds O with q|q|q|q|q|q|q|q|q<;>rw[q]<;>simp only[Int.reduceBEq,Int.reduceBNe,ak,aq,Bool.or_true,Bool.or_false,Bool.true_or,Bool.false_or,Bool.or_self]
 ·obtain⟨E,T⟩:=hb (by omega);obtain⟨U,Y⟩:=VF Q q;exact avy z w x E (by show x.az<aV c.config.ay;omega) U Y
 ·exact agc z ((I (.inl q)).1.ff x)
 ·exact agc z ((I (.inr q)).1.ff x)
 ·exact z
 ·obtain⟨E,T⟩:=hb (by omega);exact avz z w E (by show x.az<aV c.config.ay;omega)
 ·exact C 6
 ·exact C 7
 ·exact C 8
 ·exact avA (C 9) ⟨w.hB,w.g,w.a,w.k,w.p,w.t,w.d,w.r⟩ _ (by show (c.bN.length:Int)<=aV c.config.ay;omega)
def sV(c:av)(b:Int):Bool:=decide (c.bu.aU.getD b.toNat 0 >= 4)
def OP(c:av)(b:Int):Bool:=c.pending.any λa=>a.az==b
def pX(c:av)(i:Nat):aI:=BA c.bh (gR c i) (sS c.queue i)
def OQ(c:av)(i:Nat):Bool:=decide (c.now-(ny c i).at_<c.box.bZ.cap)
def pY(c:av)(i:Nat):Bool:=
 nu c i&&(!sV c (gR c i).az&&(iN c (pX c i)&&(!(((pX c i).kind==1 ||(pX c i).kind==4)&&OP c (gR c i).az) && !((pX c i).kind==4&&(JF c c.queue.length (gR c i).az&&OQ c i)))))
theorem OR{c:av}{b:Int}(hl:c.bu.aU.length<=8)(C:0<=b)(h:b.toNat<c.bu.aU.length):AT c b=some (sV c b):=by
 unfold AT sV xI;rw[aG ⟨C,h⟩,eX,bK h];rfl
theorem avC{c:av}(h:Pq c){i:Nat}(hi:i<c.queue.length):eK c.config.ay (pX c i)=true:=auO _ (JE h hi).1
def sW(c:av):Nat->aa Bool
 |0=>List.replicate 4 false
 |k+1=>bif pY c k then (sW c k).set (ny c k).dj.toNat true else sW c k
theorem VI(c:av):∀ k,(sW c k).length=4
 |0=>rfl
 | k+1=>by
  have C:=VI c k;show (bif pY c k then _ else _:aa Bool).length=4;cases pY c k with
  |true=>rw[ak,jE,C]
  |false=>exact C
def avD(y x:aI):Bool:=(y.kind==x.kind)&&((y.az==x.az)&&((y.row==x.row)&&((y.bT==x.bT)&&true)))
def OS(c:av)(x:aI)(i:Int):Bool:=aJ i 0 ((c.queue.length:Int)-1)&&(decide ((c.cC.length:Int)<400)&&avD (BA c.bh (gx c (c.queue.getD i.toNat wo).line) (c.queue.getD i.toNat wo).write) x)
def zf(c:av)(x:aI)(i:Int):Bool:=eK c.config.ay x&&(iN c x&&(!decide ((c.trace.length:Int) >= 2000)&&bif x.kind==2 ||x.kind==3 then OS c x i else i == -1 ||aJ i 0 ((c.queue.length:Int)-1)))
theorem agd{c:av}(h:Pq c){i:Int}(hi:aJ i 0 ((c.queue.length:Int)-1)=true):∃ C:i.toNat<c.queue.length,0<=i/\c.queue.getD i.toNat wo=c.queue[i.toNat]/\vS c c.queue[i.toNat].line=some (gx c c.queue[i.toNat].line,true)/\Bd c.bh (gx c c.queue[i.toNat].line) c.queue[i.toNat].write=some (BA c.bh (gx c c.queue[i.toNat].line) c.queue[i.toNat].write):=by
 have hb:=bC.1 hi;have C:i.toNat<c.queue.length:=by omega
 obtain⟨D,E⟩:=VB h (cP C);obtain⟨_,I,J,_⟩:=rA E;have L:=h.p.bl;have O:=fG c.config.ay;exact⟨C,hb.1,nt _ C,D,Vp _ I (by omega) (by omega)⟩
theorem avE{c:av}(h:Pq c)(x:aI)(i:Int):yp c x i=some (zf c x i):=by
 have T:=h.ql;unfold yp zf;rw[ae3,au];cases O:eK c.config.ay x with
 |false=>rfl
 |true=>
 rw[bR,aq,OC h.p O,au];cases iN c x with
 |false=>rfl
 |true=>
 rw[bR,aq];cases decide ((c.trace.length:Int) >= 2000)with
 |true=>rfl
 |false=>
 rw[aq,cM,cM,gU,cM,ei,bf (n:=(c.queue.length:Int)-1) (by omega) (by omega),au];unfold OS;have J:yo=Bd:=rfl;cases hi:aJ i 0 ((c.queue.length:Int)-1)with
 | true=>
  obtain⟨E,I,Q,f1,L⟩:=agd h hi;have f2:=VC h (cP E);rw[iT (show ¬ i = -1 by omega),ak,bR,aq,aW (show i >= 0 from I),cM,Bool.or_true,Q];by_cases C:x.kind=2
  ·rw[show (x.kind != 2)=false by rw[C];rfl,show (x.kind==2)=true by rw[C];rfl,aq,ak,Bool.true_or,ak];cases decide ((c.cC.length:Int)<400)with
   |false=>rfl
   | true=>
    rw[ak,aG ⟨I,E⟩,aG ⟨I,E⟩];dsimp only;rw[f2,au,J,L,au];rfl
  ·rw[iT C,jw C,ak,Bool.false_or];by_cases D:x.kind=3
   ·rw[show (x.kind != 3)=false by rw[D];rfl,show (x.kind==3)=true by rw[D];rfl,aq,ak,ak];cases decide ((c.cC.length:Int)<400)with
    |false=>rfl
    | true=>
     rw[ak,aG ⟨I,E⟩,aG ⟨I,E⟩];dsimp only;rw[f2,au,J,L,au];rfl
   ·rw[iT D,jw D,ak,aq]
 | false=>
  rw[Bool.false_and,gU,ak,Bool.or_false];by_cases e:i = -1
  ·subst e;rw[bne_self_eq_false,aq,ld,show decide ((-1:Int) >= 0)=false from rfl,aq];by_cases C:x.kind=2
   ·rw[C];rfl
   ·rw[iT C,jw C,ak,Bool.false_or];by_cases D:x.kind=3
    ·rw[D];rfl
    ·rw[iT D,jw D];rfl
  ·rw[iT e,jw e,ak];cases x.kind==2 ||x.kind==3<;>rfl
theorem agf{c:av}(D:dO c)(h:Pq c){x:aI}{i:Int}(E:zf c x i=true):Bs c/\qK c.config.ay c.bh x=true/\(x.kind=2\/x.kind=3->pV c i.toNat 100000/\0<=i)/\c.ready.bx.length<=4:=by
 simp only[zf,aK,fM,lY]at E;obtain⟨J,I,T,C⟩:=E;simp only[iN,aK]at I
 refine⟨Bs.of D h.p.ok (by omega),?_,λL=>?_,(U5 h.p.rdy).2.2⟩
 ·unfold qK;rw[h.p.rk,J,I.1];rfl
 ·have e:(x.kind==2 || x.kind==3)=true:=by rcases L with q | q <;>rw[q] <;>rfl
  rw[e,ak]at C;simp only[OS,aK,fH]at C;obtain⟨O,Q,_⟩:=agd h C.1;exact⟨pV.of D h.p.ok O (by omega),Q⟩
structure Ck (c:av):Prop where
 f1:mG c.config c.box.bZ=true
 f2:mG c.config c.box.next=true
 nw:aJ c.now 0 1000000=true
 rk:oN c.config.ay c.bh=true
 rd:lT c.config.ay c.ready=true
 ar:pO c.config.ay c.array=true
 sp:jV c.config.ay c.spare=true
 se:c.spare.bH=c.config.bH
 rf:fq c.bu=true
 pa:rI c=true
 qu:eV (cX (cU c.config.ay c.spare)) c.queue=true
 sh:gj c.shares=true
 sl:(c.shares.length:Int)=4
 dr:lS c.drain=true
 pw:ji c.bg=true
 ps:c.bg.state=c.bh.bg
 si:c.bg.since<=c.now
 s1:aJ c.cT.every 1 100000=true
 s2:aJ c.cT.wait 1 c.cT.every=true
 s3:aJ c.cT.next 0 (W6 (cX c.config.ay-1))=true
 er:mE c.errors=true
 tr:c.trace.length<=2000
 rp:c.cC.length<=400
theorem Ck.of{c:av}(h:dU c=true):Ck c:=by
 simp only[dU,aK,eS,fH,fM,lY]at h;obtain⟨C,D,E,I,J,L,O,Q,⟨T,U⟩,Y,Z,jJ,jo,kF,kj,jq,oe,qb,qc,sZ,uA,uB⟩:=h;exact⟨C,D,E,I,J,L,O,Q,T,U,Y,Z,jJ,jo,kF,kj,by omega,oe,qb,qc,sZ,by omega,by omega⟩
theorem Ck.ok{c:av}(h:Ck c):dU c=true:=by
 obtain⟨C,D,E,I,J,L,O,Q,T,U,Y,Z,jJ,jo,kF,kj,jq,oe,qb,qc,sZ,uA,uB⟩:=h;simp only[dU,aK,eS,fH,fM,lY];exact⟨C,D,E,I,J,L,O,Q,⟨T,U⟩,Y,Z,jJ,jo,kF,kj,by omega,oe,qb,qc,sZ,by omega,by omega⟩
theorem agh:∀ (l:aa Nat) (a:Nat),l.Pairwise (λx y=>x≠y)->l.length<=(l.filter (λx=>decide (x≠a))).length+1
 |[],a,_=>by simp
 | x :: l,a,h=>by
  obtain⟨C,D⟩:=List.pairwise_cons.1 h;by_cases e:x=a
  ·subst e;have:(x :: l).filter (λy=>decide (y≠x))=l:=by
    rw[List.filter_cons_of_neg (by simp)];exact List.filter_eq_self.2 λy E=>by simpa using (C y E).symm
   rw[this,kB];exact dV _
  ·rw[List.filter_cons_of_pos (by simpa using e)];have:=agh l a D;simp only[kB];omega
theorem pig:∀ (n:Nat) (l:aa Nat),(∀ x∈l,x<n)->l.Pairwise (λx y=>x≠y)->l.length<=n
 | 0,l,h,_=>by
  cases l with
  |nil=>simp
  |cons x l=>exact absurd (h x (.head _)) (by omega)
 | n+1,l,h,C=>by
  have E:=agh l n C;have I:=pig n (l.filter (λx=>decide (x≠n))) (λx D=>by
   have:=List.mem_filter.1 D;have J:=h x this.1;have L:x≠n:=by simpa using this.2
   omega) (C.filter _)
  omega
theorem uh.pw{l:aa aL}(h:uh l):l.Pairwise (λx y=>x≠y):=by
 rw[List.pairwise_iff_getElem];intro i j hi D I e;have C:=h j D;rw[iW]at C;have E:l[i]∈l.take j:=by
  rw[List.mem_take_iff_getElem];exact⟨i,by omega,rfl⟩
 exact C _ E (Jx.2 e.symm)
theorem uh.mk{l:aa aL}(h:l.Pairwise (λx y=>x≠y)):uh l:=by
 rw[List.pairwise_iff_getElem]at h;intro j C;rw[iW];intro x D e;obtain⟨i,hi,rfl⟩:=List.mem_take_iff_getElem.1 D;exact h i j (by omega) C (by omega) (Jx.1 e).symm
structure fV (c:av):Prop where
 dl:(c.bu.aU.length:Int)=aV c.config.ay
 tl:(c.bN.length:Int)=aV c.config.ay
 gl:(c.guard.length:Int)=aV c.config.ay
 t:∀x∈c.bN,jy x=true
 g:∀x∈c.guard,3<=x/\x<=1000
 pd:∀a∈c.pending,dA c.config.ay a=true/\a.bT=0
 u:c.pending.Pairwise (λx y=>x≠y)
theorem fV.of{c:av}(h:rI c=true):fV c:=by
 simp only[rI,aK,eS,fM,lY,cv,eD]at h;obtain⟨J,L,O,Y,Q,T⟩:=h;have key:∀ i (C:i<c.bN.length) (I:i<c.guard.length),jy c.bN[i]=true/\3<=c.guard[i]/\c.guard[i]<=1000:=λi C I=>by
  have:=Q i C;unfold partAt at this;rw[bK C,bK I,aK,bC]at this;exact this
 have D:∀ i (C:i<c.pending.length),dA c.config.ay c.pending[i]=true/\c.pending[i].bT=0/\(c.pending.take i).any (iL c.pending[i])=false:=λi C=>by
  have:=T i C;unfold yR at this;rw[bK C]at this
  simpa [aK]using this
 refine⟨J,L,O,λx E=>?_,λx E=>?_,λa U=>?_,uh.pw λi hi=>(D i hi).2.2⟩
 ·obtain⟨i,hi,rfl⟩:=iX.1 E;exact(key i hi (by omega)).1
 ·obtain⟨i,hi,rfl⟩:=iX.1 E;exact(key i (by omega) hi).2
 ·obtain⟨i,hi,rfl⟩:=iX.1 U;exact⟨(D i hi).1,(D i hi).2.1⟩
theorem avF{g:aN}{l:aa aL}(E:∀ a∈l,dA g a=true/\a.bT=0)(J:l.Pairwise (λx y=>x≠y)):l.length<=128:=by
 have I:∀ a∈l,0<=a.az/\a.az<8/\0<=a.row/\a.row<16:=λa C=>by
  obtain⟨D,Q,T,U,Y,_⟩:=rA (E a C).1;have Z:=fG g;have b2:=fP D;omega
 have D:=pig 128 (l.map λa=>(a.az*16+a.row).toNat) (λx L=>by
  obtain⟨a,C,rfl⟩:=List.mem_map.1 L;have:=I a C;omega) (by
  rw[List.pairwise_map]
  refine J.imp_of_mem λ{a b} C hb O e=>O ?_
  have r1:=I a C;have r2:=I b hb;have c1:=(E a C).2;have c2:=(E b hb).2;cases a;cases b;simp only at *
  congr 1<;>omega)
 rw[cZ]at D;exact D
theorem fV.ok{c:av}(h:fV c):rI c=true:=by
 obtain⟨I,J,L,O,Q,C,D⟩:=h;have hl:=avF C D;have T:=uh.mk D;simp only[rI,aK,eS,fM,lY,cv,eD]
 refine⟨I,J,L,by omega,λi hi=>?_,λi hi=>?_⟩
 ·have E:i<c.guard.length:=by omega
  unfold partAt;rw[bK hi,bK E,aK,bC];exact⟨O _ (cP hi),Q _ (cP E)⟩
 ·unfold yR;rw[bK hi];simp only[aK,eS,fM];exact⟨(C _ (cP hi)).1,(C _ (cP hi)).2,T i hi⟩
theorem avG{g:aN}{b n:Int}{l:aa aL}(E:dA g ⟨b,n,0⟩=true)(C:∀ a∈l,dA g a=true/\a.bT=0)(D:l.Pairwise (λx y=>x≠y)):(∀ a∈nq b l n,dA g a=true/\a.bT=0)/\(nq b l n).Pairwise (λx y=>x≠y):=by
 unfold nq;cases h:l.any (iL ⟨b,n,0⟩)with
 |true=>exact⟨C,D⟩
 | false=>
  rw[aq];rw[iW]at h
  refine⟨λa ha=>?_,?_⟩
  ·rcases List.mem_append.1 ha with ha | ha
   ·exact C a ha
   ·rw[kY.1 ha];exact⟨E,rfl⟩
  ·rw[List.pairwise_append]
   refine⟨D,List.pairwise_singleton _ _,λx I y J e=>?_⟩
   rw[kY.1 J]at e;exact h x I (Jx.2 e.symm)
theorem agi{g:aN}{b:Int}:∀ (ns:aa Int) {l:aa aL},(∀ n∈ns,dA g ⟨b,n,0⟩=true)->(∀ a∈l,dA g a=true/\a.bT=0)->l.Pairwise (λx y=>x≠y)->(∀ a∈ns.foldl (nq b) l,dA g a=true/\a.bT=0)/\(ns.foldl (nq b) l).Pairwise (λx y=>x≠y)
 |[],l,_,C,D=>⟨C,D⟩
 | n :: ns,l,E,C,D=>by
  obtain⟨I,J⟩:=avG (E n (.head _)) C D;exact agi ns (λm L=>E m (.tail _ L)) I J
theorem D9{T:Type}{p:T->Prop}{l:aa T}{i:Nat}{x:T}(h:∀ y∈l,p y)(D:p x):∀ y∈l.set i x,p y:=λy C=>by
 rcases List.mem_or_eq_of_mem_set C with C|rfl
 ·exact h y C
 ·exact D
theorem avH{t:cw}(h:jy t=true)(row dm:Int):jy (zb t row dm).1=true:=by
 unfold zb;cases jy t&&(aJ row 0 15&&aJ dm 2 1000)with
 |false=>exact h
 | true=>
  cases C:jy (pS t row)with
  |false=>exact h
  |true=>exact C
theorem agj{k:Int}(h:aJ k 1 16=true):jy (v9 k)=true:=by
 have hb:=bC.1 h;simp only[jy,v9,aK,eS,cv,eD,lX,bC]
 refine⟨by omega,trivial,by omega,λi hi=>?_⟩
 rw[Oc (by simpa using hi) (by simpa using hi)];simp[aJ]
theorem agk{c:eH}{p:dF}(hl:p.weights.length<1073741823)(h:mG c p=true):3<=p.eB/\p.eB<=1000:=by
 obtain⟨_,f2⟩:=D2 hl h;simp only[nZ,aK,bC]at f2;exact f2.2.2.1
theorem wA{g:aN}{a:dP}(C:cF g=true)(h:fD g 100000 a):pO g a=true:=by
 simp only[pO,aK,fH,cv]
 refine⟨C,h.cells,h.bI,h.bG,λc D=>Sy.ok (h.syms c D),λp E=>?_⟩
 obtain⟨x,y⟩:=p;obtain⟨I,J⟩:=List.of_mem_zip E;simp only[Bi,aK,bC];exact⟨h.I4 x I,h.oM y J⟩
theorem avI{g:aN}{c:aI}(h:eK g c=true):sM g (mF g c).toNat=true:=by
 obtain⟨I,D,hb,_⟩:=Jf h;obtain⟨E,J⟩:=ae8 h;have L:=fG g;unfold sM;rw[Int.toNat_of_nonneg E];unfold mF at *
 cases C:aJ c.kind 1 5 with
 | true=>
  have C:=bC.1 C;have:=hb C.2;rw[ak,aW (by omega),aW (by omega)];rfl
 | false=>
  have O:¬ c.kind<=5:=λh=>by rw[bC.2 ⟨D.1,h⟩]at C;cases C
  rw[aq,br (by omega),br (by omega)];rfl
theorem agl{l:aa Int}(h:∀ i,i<l.length->n5 l i=true){i:Nat}(hi:i<l.length):aJ l[i] 0 1000000=true:=by
 have:=h i hi;cases i with
 |zero=>rw[Jc hi]at this;exact this
 |succ i=>rw[DV hi,aK]at this;exact this.1
theorem agm{l:aa Int}(h:∀ i,i<l.length->n5 l i=true){i:Nat}(hi:i+1<l.length):l[i]<l[i+1]:=by
 have:=h (i+1) hi;rw[DV hi,aK,fM,lY]at this;omega
theorem agn{l:aa Int}(C:∀ i (hi:i<l.length),aJ l[i] 0 1000000=true)(D:∀ i (hi:i+1<l.length),l[i]<l[i+1]):∀ i,i<l.length->n5 l i=true:=λi hi=>by
 cases i with
 |zero=>rw[Jc hi];exact C 0 hi
 | succ i=>
  have:=D i hi;rw[DV hi,aK,fM,lY];exact⟨C _ hi,by omega⟩
theorem avJ{l:aa Int}(h:∀ i,i<l.length->n5 l i=true){x:Int}(E:aJ x 0 1000000=true)(hl:DX ⟨[],l⟩ x=false):∀ i,i<(l++[x]).length->n5 (l++[x]) i=true:=by
 refine agn (λi hi=>?_) λi hi=>?_
 ·by_cases C:i<l.length
  ·rw[List.getElem_append_left C];exact agl h C
  ·have e:i=l.length:=by simp at hi;omega
   subst e
   simpa using E
 ·have D:i<l.length:=by simp at hi;omega
  by_cases C:i+1<l.length
  ·rw[List.getElem_append_left C,List.getElem_append_left D];exact agm h C
  ·have e:i+1=l.length:=by omega
   have I:(l++[x])[i+1]=x:=by simp[e]
   rw[I,List.getElem_append_left D];unfold DX at hl;have J:l.getLast?=some l[i]:=by
    rw[List.getLast?_eq_getElem?,show l.length-1=i by omega,bK D]
   dsimp only at hl;rw[J,lY]at hl;omega
theorem avK{l:aa Int}(h:∀ i,i<l.length->n5 l i=true)(k:Nat):∀ i,i<(l.drop k).length->n5 (l.drop k) i=true:=by
 refine agn (λi hi=>?_) λi hi=>?_
 ·rw[List.getElem_drop];exact agl h _
 ·rw[List.getElem_drop,List.getElem_drop];rw[List.length_drop]at hi;exact agm h (i:=k+i) (by omega)
theorem ago{g:aN}{r:dM}(e:fj)(h:lT g r=true):lT g (vX g r e)=true:=by
 unfold vX;cases C:lT g r&&(eK g e.cmd&&(aJ e.at_ 0 1000000 && !(e.cmd.kind==1&&DX r e.at_)))with
 |false=>exact h
 | true=>
  rw[ak];simp only[aK,fM]at C;obtain⟨_,L,D,E⟩:=C;simp only[lT,aK,eS,fM,lY,cv,eD]at h ⊢;obtain⟨O,Q,T,U,I⟩:=h
  refine⟨O,by rw[jE];exact Q,?_,λi hi=>?_,?_⟩
  ·cases e.cmd.kind==1 with
   |false=>exact T
   | true=>
    rw[ak];unfold Jg;rw[List.length_drop,mK,ij];omega
  ·rw[jE]at hi;have hb:=U i hi;rw[Jb hi]at hb;rw[Jb (by rw[jE];exact hi)];by_cases J:(mF g e.cmd).toNat=i
   ·subst J;rw[List.getElem_set_self,avI L];have:=bC.1 D;rw[bC.2 ⟨by omega,by omega⟩];rfl
   ·rw[List.getElem_set_ne J];exact hb
  ·cases Y:e.cmd.kind==1 with
   |false=>exact I
   | true=>
    rw[Y,cM]at E;rw[ak];exact avK (avJ I D E) _
structure Qk (n:Int) (q:List aM):Prop where
 r:∀x∈q,kT n x=true
 b:q.Pairwise λx y=>cJ x y=true
 i:q.Pairwise λx y=>x.id≠y.id
 l:q.length<=12
theorem avL{x y z:aM}(C:cJ x y=true)(D:cJ y z=true):cJ x z=true:=by
 simp only[cJ,dy,aK,fH,eS]at *
 omega
theorem Qk.of{n:Int}{q:aa aM}(h:eV n q=true):Qk n q:=by
 have I:=h;simp only[eV,aK,cv,eD,fH]at h;obtain⟨E,Q⟩:=h;have J:∀ x∈q,kT n x=true:=λx L=>by
  obtain⟨i,hi,rfl⟩:=iX.1 L;have:=E i hi;unfold oO at this;rw[bK hi,aK]at this;exact this.1
 have hb:∀ j i (D:i<j) (C:j<q.length),cJ q[i] q[j]=true:=by
  intro j
  induction j with
  |zero=>intro i D;omega
  | succ j O=>
   intro i D C;have:=E (j+1) C;rw[Ja C,aK,aK]at this;by_cases e:i=j
   ·subst e;exact this.2.1
   ·exact avL (O i (by omega) (by omega)) this.2.1
 refine⟨J,?_,?_,by omega⟩
 ·rw[List.pairwise_iff_getElem];exact λi j hi C D=>hb j i D C
 ·rw[List.pairwise_iff_getElem];intro i j hi C D e;have:=Va I D C;rw[e,ld]at this;cases this
theorem Qk.ok{n:Int}{q:aa aM}(h:Qk n q):eV n q=true:=by
 obtain⟨C,D,E,J⟩:=h;rw[List.pairwise_iff_getElem]at D E;simp only[eV,aK,cv,eD,fH]
 refine⟨λi hi=>?_,by omega⟩
 cases i with
 |zero=>rw[UZ hi];exact C _ (cP hi)
 | succ i=>
  rw[Ja hi,aK,aK,fM];refine⟨C _ (cP hi),D i (i+1) (by omega) hi (by omega),?_⟩;rw[iW];intro x I e;obtain⟨k,L,rfl⟩:=List.mem_take_iff_getElem.1 I;exact E k (i+1) (by omega) hi (by omega) (by simpa using e)
theorem Qk.sub{n:Int}{q s:aa aM}(h:Qk n q)(C:s.Sublist q):Qk n s:=
 ⟨λx D=>h.r x (C.subset D),h.b.sublist C,h.i.sublist C,Nat.le_trans C.length_le h.l⟩
theorem agp{T:Type}(l:aa T)(i:Nat):(l.take i++l.drop (i+1)).Sublist l:=by
 rw[<-List.eraseIdx_eq_take_drop_succ];exact List.eraseIdx_sublist l i
def avM(e x:bX):Prop:=¬ (e.line=x.line/\e.code=x.code)
structure Ek (l:List bX):Prop where
 e:∀x∈l,ue x=true
 k:l.Pairwise avM
 l:l.length<=6
theorem VJ{e x:bX}:jU e x=true ↔ x.line=e.line/\x.code=e.code:=by
 simp only[jU,aK,eS]
theorem Ek.of{l:aa bX}(h:mE l=true):Ek l:=by
 simp only[mE,aK,cv,eD,fH]at h;obtain⟨D,J⟩:=h;have key:∀ i (hi:i<l.length),ue l[i]=true/\(l.take i).any (jU l[i])=false:=λi hi=>by
  have:=D i hi;rw[Ob hi,aK,fM]at this;exact this
 refine⟨λx E=>?_,?_,by omega⟩
 ·obtain⟨i,hi,rfl⟩:=iX.1 E;exact(key i hi).1
 ·rw[List.pairwise_iff_getElem];intro i j hi I L e;have C:=(key j I).2;rw[iW]at C;exact C l[i] (List.mem_take_iff_getElem.2 ⟨i,by omega,rfl⟩) (VJ.2 e)
theorem Ek.ok{l:aa bX}(h:Ek l):mE l=true:=by
 obtain⟨D,C,I⟩:=h;rw[List.pairwise_iff_getElem]at C;simp only[mE,aK,cv,eD,fH]
 refine⟨λi hi=>?_,by omega⟩
 rw[Ob hi,aK,fM];refine⟨D _ (cP hi),?_⟩;rw[iW];intro x E e;obtain⟨k,J,rfl⟩:=List.mem_take_iff_getElem.1 E;exact C k i (by omega) hi (by omega) (VJ.1 e)
theorem agq{l:aa bX}(h:mE l=true){n code:Int}(h1:0<=n/\n<=1023)(h2:code=1\/code=2):mE (sU l n code)=true:=by
 have C:=Ek.of h;have hl:=C.l;have U:ue ⟨n,code,1⟩=true:=by
  simp only[ue,aK,dy,eS,bC];omega
 refine Ek.ok ?_;unfold sU;cases I:l.findIdx? (jU ⟨n,code,1⟩)with
 | some i=>
  obtain⟨hi,hp⟩:=Vq I;dsimp only;rw[nt _ hi];have D:=C.e _ (cP hi);have Y:ue (VD l[i])=true:=by
   simp only[ue,aK,dy,eS,bC]at D ⊢;unfold VD;dsimp only;rw[bf (n:=l[i].times+1) (by omega) (by omega)];refine⟨D.1,D.2.1,?_⟩;split<;>omega
  refine⟨D9 C.e Y,?_,by rw[jE];exact hl⟩;have J:=C.k;rw[List.pairwise_iff_getElem]at J ⊢;intro a b L hb Z;rw[jE]at L hb;have:=J a b L hb Z;rw[List.getElem_set,List.getElem_set];by_cases O:i=a
  ·subst O;rw[bk rfl,bB (by omega)];exact this
  ·rw[bB O];by_cases Q:i=b
   ·subst Q;rw[bk rfl];exact this
   ·rw[bB Q];exact this
 | none=>
  have hn:∀ x∈l,¬ (x.line=n/\x.code=code):=λx hx e=>by
   have:=List.findIdx?_eq_none_iff.1 I x hx;rw[VJ.2 e]at this;cases this
  have T:∀ m:aa bX,m.Sublist l->m.length<=5->Ek (m++[⟨n,code,1⟩]):=λm E hml=>by
   refine⟨λx hx=>?_,?_,by rw[mK,ij];omega⟩
   ·rcases List.mem_append.1 hx with hx | hx
    ·exact C.e x (E.subset hx)
    ·rw[kY.1 hx];exact U
   ·rw[List.pairwise_append]
    refine⟨C.k.sublist E,List.pairwise_singleton _ _,λx hx y hy e=>?_⟩
    rw[kY.1 hy]at e;exact hn x (E.subset hx) e
  dsimp only;by_cases e6:l.length=6
  ·rw[show ((l.length:Int)==(6:Int))=true by rw[e6];rfl,ak];exact T _ (List.drop_sublist 1 l) (by rw[List.length_drop];omega)
  ·rw[jw (show ¬ (l.length:Int)=6 by omega),aq];exact T l (List.Sublist.refl l) (by omega)
theorem agr{l:aa cq}(h:∀ s∈l,nj s=true){k:Nat}(C:k<l.length)(E:1<=l[k].fz):∀ s∈l.set k ⟨l[k].weight,W6 (l[k].fz-1)⟩,nj s=true:=by
 have D:=h _ (cP C);simp only[nj,aK,bC]at D;rw[bf (n:=l[k].fz-1) (by omega) (by omega)];refine D9 h ?_;simp only[nj,aK,bC];omega
theorem avN{l:aa cq}(w:aa Bool)(hl:l.length<1073741823)(D:gj l=true)(hw:l.length=w.length):∃ y t,qJ l w=some (y,t)/\y.length=l.length/\gj y=true:=by
 have mk:∀ y:aa cq,y.length=l.length->(∀ s∈y,nj s=true)->y.length=l.length/\gj y=true:=λy C U=>by
  refine⟨C,?_⟩;simp only[gj,aK,cv]at D ⊢;exact⟨U,by rw[C];exact D.2⟩
 have E:∀ s∈l,nj s=true:=by
  simp only[gj,aK,cv]at D;exact D.1
 unfold qJ xC bw xL;have hb:=v7 (λi=>w.getD i false) (λi=>(l.getD i ⟨0,0⟩).fz) (min l.length w.length);have L:(ia l).length=l.length:=by simp[ia]
 have Y:=v7 (λi=>w.getD i false) (λi=>((ia l).getD i ⟨0,0⟩).fz) (min (ia l).length w.length);have Z:=Vi (λi=>w.getD i false) (λi=>(l.getD i ⟨0,0⟩).fz) (min l.length w.length);rw[List.nil_append,Jt l w (by omega),au,I7 _ (by omega),au,D,bR,aq,List.length_nil,eN,dh (by omega),ak];unfold rM;generalize hr:iC (λi=>w.getD i false) (λi=>(l.getD i ⟨0,0⟩).fz) (min l.length w.length)=b at *
 by_cases O:b<0
 ·rw[aW O];exact⟨_,_,rfl,mk _ rfl E⟩
 ·have C:b.toNat<l.length:=by omega
  rw[br O,aq,aG ⟨by omega,C⟩,aG C];dsimp only;have hsb:=E _ (cP C);simp only[nj,aK,bC]at hsb;cases Q:l[b.toNat].fz==0 with
  | false=>
   have Q:¬ l[b.toNat].fz=0:=by simpa using Q
   rw[aq,aG ⟨by omega,C⟩,aG C,aG ⟨by omega,C⟩,aG C];exact⟨_,_,rfl,mk _ (by simp) (agr E C (by omega))⟩
  | true=>
   have avO:∀ s∈ia l,nj s=true:=λs D=>by
    obtain⟨x,J,rfl⟩:=List.mem_map.1 D;have:=E x J;simp only[nj,aK,bC,rN]at this ⊢;omega
   rw[ak,Vk l w (by omega),au];simp only[eO];rw[Jt _ w (by omega),au];have T:0<=rM (ia l) w:=Vj _ (i:=b.toNat) (by rcases Z with h|h;exact absurd h (by omega);exact h) _ (by rw[L];omega);have hq:rM (ia l) w<((min (ia l).length w.length:Nat):Int):=Y.2;have I:(rM (ia l) w).toNat<(ia l).length:=by omega
   have h4:1<=(ia l)[(rM (ia l) w).toNat].fz:=by
    have dn:(rM (ia l) w).toNat<l.length:=by omega
    have J:=E _ (cP dn);simp only[nj,aK,bC]at J;simp only[ia,List.getElem_map,rN];simp only[ia]at J;omega
   rw[aG ⟨T,I⟩,aG I,aG ⟨T,I⟩,aG I];exact⟨_,_,rfl,mk _ (by simp[L]) (agr avO I h4)⟩
theorem ags{r:dc}(h:fq r=true)(k:Nat){d:Int}(C:-2<=d/\d<=5):fq ⟨r.aU.set k d,r.wait,r.dR⟩=true:=by
 simp only[fq,aK]at h ⊢;refine⟨U6 h.1 ?_,by rw[jE];exact h.2.1,h.2.2⟩;unfold ud;exact bC.2 C
theorem avP{r:dc}(h:fq r=true){b:Int}(hb:b.toNat<r.aU.length):fq (zc r b)=true:=by
 have C:=Vr h _ (cP hb);unfold zc;rw[nt _ hb];by_cases e:r.aU[b.toNat] = -2
 ·rw[aW e];exact h
 ·rw[br e,aq];exact ags h _ (by omega)
theorem avQ{r:cK}{p:eY}{x:aI}{now:Int}(E:ji p=true)(C:p.state=r.bg)(I:p.since<=now)(J:now<=1000000)(O:6<=x.kind/\x.kind<=9)(D:pR r x=true):ji (BB p x.kind now)=true/\(BB p x.kind now).state=(fZ r x).bg/\(BB p x.kind now).since<=now:=by
 have hb:0<=p.since:=by
  simp only[ji,aK,bC]at E;omega
 have hi:0<=p.idle/\p.idle<=1000000:=by
  simp only[ji,aK,bC]at E;omega
 have L:aJ now p.since 1000000=true:=bC.2 ⟨I,J⟩;unfold BB;rw[E,L,Bool.and_self,ak];have mk:∀ s:Int,0<=s/\s<=2->ji ⟨s,now,p.idle⟩=true:=λs C=>by
  simp only[ji,aK,bC];omega
 have:x.kind=6\/x.kind=7\/x.kind=8\/x.kind=9:=by omega
 rcases this with h|h|h|h
 ·have e:r.bg=0:=by simpa [pR,h]using D
  simp[fZ,h,C,e,mk]
 ·have e:r.bg=1:=by simpa [pR,h]using D
  simp[fZ,h,C,e,mk]
 ·have e:r.bg=0:=by have:=D;simp[pR,h]at this;exact this.1
  simp[fZ,h,C,e,mk]
 ·have e:r.bg=2:=by simpa [pR,h]using D
  simp[fZ,h,C,e,mk]
def rQ(f g:Nat->Bool)(n k:Nat):aa Bool:=(List.range n).map λi=>bif Nat.blt i k then f i else g i
theorem avR(f g:Nat->Bool)(n:Nat):rQ f g n 0=(List.range n).map g:=rfl
theorem avS(f g:Nat->Bool)(n:Nat):rQ f g n n=(List.range n).map f:=by
 unfold rQ
 refine ic λi hi=>?_
 have hi:=eD.1 hi;rw[show Nat.blt i n=true from iE hi];rfl
theorem VK(f g:Nat->Bool)(n k:Nat):(rQ f g n k).length=n:=by unfold rQ;simp
theorem avT(k:Nat):Nat.blt k k=false:=by
 cases h:Nat.blt k k with
 |false=>rfl
 |true=>have:=cB h;omega
theorem avU{f g:Nat->Bool}{n k:Nat}(C:k<(rQ f g n k).length):(rQ f g n k)[k]=g k:=by
 simp only[rQ,List.getElem_map,kZ,avT,aq]
theorem avV{f g:Nat->Bool}{n k:Nat}(h:k<n):(rQ f g n k).set k (f k)=rQ f g n (k+1):=by
 apply List.ext_getElem
 ·rw[jE,VK,VK]
 ·intro i E I;rw[List.getElem_set];simp only[rQ,List.getElem_map,kZ];by_cases e:k=i
  ·subst e;rw[bk rfl,show Nat.blt k (k+1)=true from iE (dV _)];rfl
  ·rw[bB e];rcases Nat.lt_or_gt_of_ne e with h3 | h3
   ·have C:Nat.blt i k=false:=by
     cases hb:Nat.blt i k with
     |false=>rfl
     |true=>have:=cB hb;omega
    have D:Nat.blt i (k+1)=false:=by
     cases hb:Nat.blt i (k+1)with
     |false=>rfl
     |true=>have:=cB hb;omega
    rw[C,D]
   ·rw[show Nat.blt i k=true from iE h3,show Nat.blt i (k+1)=true from iE (by omega)]
def uq(c:av)(t:Int)(i:Nat):Bool:=pY c i&&(ny c i).dj==t
def lV(p:Nat->Bool):Nat->Int
 |0=>-1
 |k+1=>bif decide (lV p k<0)&&p k then (k:Int)else lV p k
theorem OT(p:Nat->Bool)(k:Nat):lV p (k+1)=bif decide (lV p k<0)&&p k then (k:Int)else lV p k:=rfl
theorem wB(p:Nat->Bool):∀ n,(lV p n = -1/\∀ k,k<n->p k=false)\/∃ j:Nat,j<n/\lV p n=(j:Int)/\p j=true/\∀ k,k<j->p k=false
 |0=>.inl ⟨rfl,λk D=>absurd D (Nat.not_lt_zero k)⟩
 | n+1=>by
  rw[OT];rcases wB p n with ⟨E,C⟩|⟨j,E,C,J,L⟩
  ·rw[E];cases I:p n with
   |true=>exact .inr ⟨n,by omega,rfl,I,C⟩
   | false=>
    refine .inl ⟨rfl,λk D=>?_⟩
    by_cases e:k=n
    ·rw[e,I]
    ·exact C k (by omega)
  ·rw[C,br (by omega),Bool.false_and,aq];exact .inr ⟨j,by omega,rfl,J,L⟩
def zg(D oM C:Nat->Bool)(n:Nat):Int:=
 bif decide (lV (λi=>C i&&D i) n<0)then (bif decide (lV (λi=>C i&&oM i) n<0)then lV C n else lV (λi=>C i&&oM i) n)else lV (λi=>C i&&D i) n
def rR(c:av)(i:Nat):Bool:=decide ((ny c i).at_<=c.now-c.box.bZ.cap)
def rkN(D oM C:Nat->Bool)(n:Nat):Int:=
 bif decide (lV (λi=>C i&&D i) n<0)then (bif decide (lV (λi=>C i&&oM i) n<0)then (bif decide (lV C n<0)then 0 else 1)else 2)else 3
theorem avW{c:av}(h:Pq c)(C:Nat->Bool):MZ c.queue ((List.range c.queue.length).map C) ((List.range c.queue.length).map (jX c)) c.box.bZ.cap c.now=some (zg (rR c) (jX c) C c.queue.length):=by
 have O:=h.ql;have E:=h.nw;have I:=h.cap;have J:W6 (c.now-c.box.bZ.cap)=c.now-c.box.bZ.cap:=bf (by omega) (by omega);unfold MZ bw;rw[ei,au,bC.2 ⟨I.1,by omega⟩,bR,aq,ei,au,bC.2 E,bR,aq];have e:=dx (step:=HA) c.queue.length (λk=>((c.queue,(List.range c.queue.length).map C,(List.range c.queue.length).map (jX c),c.box.bZ.cap,c.now,zg (rR c) (jX c) C k,rkN (rR c) (jX c) C k,(k:Int),()),())) (.inl ((zg (rR c) (jX c) C c.queue.length,()),())) aZ (λk D=>by
  have Q:=wB C k;have T:=wB (λi=>C i&&jX c i) k;have U:=wB (λi=>C i&&rR c i) k;unfold HA aB xG xI;dsimp only;simp only[cZ,dD];rw[aW (by omega),ak,ak,aG ⟨by omega,by omega⟩];simp only[bJ,OI D,J,wm];rw[bP (by omega)];unfold zg rkN;rw[OT,OT,OT];have hold:decide ((ny c k).at_<=c.now-c.box.bZ.cap)=rR c k:=rfl;rw[hold];cases L:C k with
  |false=>simp[L]
  | true=>
   simp only[bR,aq,cM];rw[aG ⟨by omega,by omega⟩,aG ⟨by omega,by omega⟩];generalize lV (λi=>C i&&rR c i) k=o at *
   generalize lV (λi=>C i&&jX c i) k=u at *
   generalize lV C k=a at *
   have ao:a<0\/0<=a:=by omega
   have uo:u<0\/0<=u:=by omega
   have oo:o<0\/0<=o:=by omega
   have kn:¬ (k:Int)<0:=by omega
   rcases ao with ao|ao<;>rcases uo with uo|uo<;>rcases oo with oo|oo<;>cases jX c k<;>cases rR c k<;>simp[D,ao,uo,oo,kn,Int.not_lt.2 ao,Int.not_lt.2 uo,Int.not_lt.2 oo]) (by
  unfold HA aB xG xI;dsimp only;rw[br (by omega),aq]) (bY (by omega))
 rw[cA]at e
 refine(bD (λo=>Option.bind o _) e).trans ?_
 rfl
def BJ:aI:=⟨0,0,0,0⟩
def pZ(c:av):Int:=match qJ c.shares (sW c c.queue.length)with
 |some y=>y.2
 |none=>0
def qL(c:av):Int:=zg (rR c) (jX c) (uq c (pZ c)) c.queue.length
def JG(c:av):aI×Int:=bif decide (qL c<0)then (BJ,-1)else (pX c (qL c).toNat,qL c)
theorem avX{c:av}(h:Pq c):∃ l,qJ c.shares (sW c c.queue.length)=some (l,pZ c):=by
 obtain⟨y,t,e,_⟩:=Vl (sW c c.queue.length) (by have:=h.shl;omega) h.sh (by rw[VI,h.shl]);refine⟨y,?_⟩;unfold pZ;rw[e]
theorem avY(c:av):-1<=qL c/\qL c<c.queue.length:=by
 unfold qL zg;rcases wB (λi=>uq c (pZ c) i&&rR c i) c.queue.length with ⟨C,_⟩|⟨j,C,E,_⟩
 ·rw[C,aW (by omega),ak];rcases wB (λi=>uq c (pZ c) i&&jX c i) c.queue.length with ⟨D,_⟩ | ⟨j,D,I,_⟩
  ·rw[D,aW (by omega),ak];rcases wB (uq c (pZ c)) c.queue.length with ⟨J,_⟩|⟨j,J,L,_⟩<;>omega
  ·rw[I,br (by omega),aq];omega
 ·rw[E,br (by omega),aq];omega
theorem VL(l:aa aL)(b:Int)(hl:l.length<=1048576):Dw l b=some (l.any λa=>a.az==b):=by
 have E:=yU (λa:aL=>a.az==b) l;unfold Dw cg;rw[Ou];have e:=dx (step:=Dv) (eF (λa:aL=>a.az==b) l) (λi=>((l,b,(i:Int),()),())) (if eF (λa:aL=>a.az==b) l<l.length then .inl ((true,()),())else .inr (.inl ((),()))) aZ (λk h=>by
  have D:=rL h (by omega);unfold Dv aB bq xG xI;dsimp only;rw[aW (by omega),ak,aG ⟨by omega,by omega⟩];simp only[bJ];rw[D,aq,bP (by omega)]) (by
  by_cases C:eF (λa:aL=>a.az==b) l<l.length
  ·have D:=ug C;unfold Dv aB bq xG xI;dsimp only;rw[aW (by omega),ak,aG ⟨by omega,by omega⟩];simp only[bJ];rw[D,ak,bk C]
  ·unfold Dv aB bq xG xI;dsimp only;rw[br (by omega),aq,bB C]) (bY (by omega))
 rw[cA]at e
 refine(bD (λo=>Option.bind o _) e).trans ?_
 by_cases C:eF (λa:aL=>a.az==b) l<l.length
 ·rw[bk C,aW C];rfl
 ·rw[bB C,br C];rfl
theorem agt{c:av}(h:Pq c)(a:aL):(iter Dy aZ ((c,jC c,(List.range c.queue.length).map (nu c),(),(0:Int),()),((a.az,a.row,a.bT,()),()))).bind (Sum.elim (λD=>some D.1.1) (Sum.elim (λU=>some true) (λz=>nomatch z)))=some (!JF c c.queue.length a.az):=by
 have Y:=h.ql;have E:=OK h;have e:=gv (step:=Dy) (List.range c.queue.length) (λi=>!(nu c i&&jX c i&&a.az==(gR c i).az)) (λi=>((c,jC c,(List.range c.queue.length).map (nu c),(),(i:Int),()),((a.az,a.row,a.bT,()),()))) (.inl ((false,()),())) (.inr (.inl ((),()))) aZ (λk C=>by
  rw[dD]at C;have I:=BH c;have Z:((List.range c.queue.length).map (nu c)).length=c.queue.length:=by simp
  obtain⟨ho,J,L,o3,o4,O⟩:=JE h C;have Q:=afK (r:=c.bh) (a:=gR c k) O J L E;rw[kZ];unfold Dy aB bq xG xI;dsimp only;rw[aW (by omega),ak,aG ⟨by omega,by omega⟩];simp only[bJ,OI C];rw[bP (by omega)];cases nu c k with
  |false=>rfl
  | true=>
   rw[ak,aG ⟨by omega,by omega⟩];simp only[JD];rw[aG ⟨by omega,by omega⟩,Q,au,Bool.beq_comm];have oM:jX c k=D3 c.bh (gR c k):=rfl;rw[oM];cases a.az==(gR c k).az<;>cases D3 c.bh (gR c k)<;>rfl) (by
  rw[dD];have I:=BH c;unfold Dy aB bq xG xI;dsimp only;rw[br (by omega),aq]) (by rw[dD];exact bY (by omega))
 rw[cA]at e;rw[e,au];have T:(List.range c.queue.length).all (λi=>!(nu c i&&jX c i&&a.az==(gR c i).az)) = !JF c c.queue.length a.az:=by
  unfold JF;rw[List.any_eq_not_all_not,Bool.not_not]
 rw[T];cases JF c c.queue.length a.az<;>rfl
theorem avZ{c:av}(h:Pq c){k:Nat}(C:k<c.queue.length):MY c (jC c) ((List.range c.queue.length).map (nu c)) (k:Int)=some (pY c k):=by
 have hq:=h.ql;have wZ:=h.pl;have J:=v5 h.rf;have L:=OK h;have VM:=BH c;have hl4:((List.range c.queue.length).map (nu c)).length=c.queue.length:=by simp
 obtain⟨ho,E,O,Q,o4,o5⟩:=JE h C;obtain⟨q1,q2,T⟩:=h.q _ (cP C);rw[wm C]at T;have hnw:=h.nw;have U:(ny c k).write=sS c.queue k:=by rw[OJ C,wm C]
 have Y:yo c.bh (gR c k) (ny c k).write=some (pX c k):=by rw[U,afJ];exact Vp _ E O L
 have Z:W6 (c.now-(ny c k).at_)=c.now-(ny c k).at_:=bf (by omega) (by omega);unfold MY xI cg;rw[aG ⟨by omega,by omega⟩];simp only[bJ,JD];rw[aG ⟨by omega,by omega⟩];simp only[OI C,(OR J.1 E Q),au,wm];unfold pY;cases nu c k with
 |false=>rfl
 | true=>
  simp only[bR,aq,cM];cases sV c (gR c k).az with
  |true=>rfl
  | false=>
   rw[aq,aG ⟨by omega,by omega⟩,Y,au,OC h.p (avC h C),au];cases iN c (pX c k)with
   |false=>rfl
   | true=>
    simp only[bR,gU,aq,cM,VL _ _ (show c.pending.length<=1048576 by omega),au,agt h,Z];have Am:(c.pending.any λa=>a.az==(gR c k).az)=OP c (gR c k).az:=rfl;have hyg:decide (c.now-(ny c k).at_ >= c.box.bZ.cap) = !OQ c k:=by
     unfold OQ;by_cases I:c.now-(ny c k).at_<c.box.bZ.cap
     ·rw[aW I,br (by omega)];rfl
     ·rw[br I,aW (by omega)];rfl
    rw[Am,hyg];by_cases D:(pX c k).kind=1
    ·have k4:((pX c k).kind==(4:Int))=false:=by rw[D];rfl
     have k4':((pX c k).kind != (4:Int))=true:=by rw[D];rfl
     have D:((pX c k).kind==(1:Int))=true:=by rw[D];rfl
     rw[D,k4,k4'];cases OP c (gR c k).az<;>rfl
    ·have D:((pX c k).kind==(1:Int))=false:=by simpa using D
     rw[D,bne];cases (pX c k).kind==(4:Int)with
     |false=>rfl
     | true=>
      cases OP c (gR c k).az with
      |true=>rfl
      | false=>
       simp only[Bool.false_or,bR,ak,aq,cM,gU];refine(aG (⟨by omega,C⟩:0<=(k:Int)/\k<c.queue.length)).trans ?_;cases OQ c k with
       |false=>rw[Bool.and_false];rfl
       |true=>rw[Bool.and_true];exact agt h _
theorem av0{c:av}(h:Pq c):M0 c=some (JG c):=by
 have hq:=h.ql;have O:=OK h;have VM:=BH c;obtain⟨l,hl⟩:=avX h;have hb:=avY c;have e:=dx (step:=HB) c.queue.length (λi=>((c,(),(),(),(),(),(),(i:Int),()),(((0:Int),(0:Int),(0:Int),(0:Int),()),jC c,(List.range c.queue.length).map (nu c),(List.range i).map (pY c),(List.range i).map (jX c),sW c i,()))) (.inl ((c,(),(),(),(),(),()),(((0:Int),(0:Int),(0:Int),(0:Int),()),jC c,(List.range c.queue.length).map (pY c),(List.range c.queue.length).map (jX c),sW c c.queue.length,()))) aZ (λk C=>by
  obtain⟨T,E,I,U,Y,Q⟩:=JE h C;obtain⟨q1,Z,q3⟩:=h.q _ (cP C);rw[wm C]at Z;have hwl:=VI c k;have hh:=afK (r:=c.bh) (a:=gR c k) Q E I O;have oM:jX c k=D3 c.bh (gR c k):=rfl;have hwt:sW c (k+1)=bif pY c k then (sW c k).set (ny c k).dj.toNat true else sW c k:=rfl;unfold HB aB xG xI xL;dsimp only;simp only[cZ,dD,ij];rw[aW (by omega),ak,avZ h C,au,dh (by omega),ak,aG ⟨by omega,by omega⟩,aG (by omega)];simp only[bJ,JD];rw[hh,au,ak,bP (by omega),List.range_succ,List.map_append,List.map_append,List.map_singleton,List.map_singleton,oM,hwt];cases pY c k with
  |false=>rfl
  | true=>
   rw[ak,aG ⟨by omega,by omega⟩];simp only[wm];rw[aG ⟨by omega,by omega⟩,aG (by omega)];rfl) (by
  unfold HB aB xG xI xL;dsimp only;rw[br (by omega),aq]) (bY (by omega))
 have J:=dx (step:=HC) c.queue.length (λi=>((c,(),(),(),(),pZ c,(i:Int),()),(((0:Int),(0:Int),(0:Int),(0:Int),()),jC c,rQ (uq c (pZ c)) (pY c) c.queue.length i,(List.range c.queue.length).map (jX c),()))) (.inl ((c,(),(),(),(),()),(((0:Int),(0:Int),(0:Int),(0:Int),()),jC c,(List.range c.queue.length).map (uq c (pZ c)),(List.range c.queue.length).map (jX c),()))) aZ (λk C=>by
  have D:=VK (uq c (pZ c)) (pY c) c.queue.length k;have ht:uq c (pZ c) k=(pY c k&&(ny c k).dj==pZ c):=rfl;rw[<-avV C,ht];unfold HC aB xG xI xL;dsimp only;rw[aW (by omega),ak,aG ⟨by omega,by omega⟩,aG (by omega),bP (by omega)];simp only[bJ,avU];cases pY c k with
  |false=>rw[aq,aG ⟨by omega,by omega⟩,aG (by omega)];rfl
  | true=>
   rw[ak,aG ⟨by omega,by omega⟩];simp only[wm];rw[aG ⟨by omega,by omega⟩,aG (by omega)];rfl) (by
  unfold HC aB xG xI xL;dsimp only;rw[br (by omega),aq,avS]) (bY (by omega))
 rw[cA]at e J;rw[avR]at J;unfold M0 xI bw xL;rw[af2 h,au,avp h,au,bk (by decide)]
 refine(bD (λo=>Option.bind o _) e).trans ?_
 rw[au];simp only[eO];rw[afF _ _ (by have:=h.shl;omega),hl,au]
 refine(bD (λo=>Option.bind o _) J).trans ?_
 rw[au];simp only[eO];rw[avW h,au];show (bif decide (qL c<0)then _ else _)=_;unfold JG;by_cases L:qL c<0
 ·rw[aW L];rfl
 ·have D:(qL c).toNat<c.queue.length:=by omega
  obtain⟨T,E,I,U,Y,Q⟩:=JE h D;rw[br L,aq,aq];have mR:¬ zg (rR c) (jX c) (uq c (pZ c)) c.queue.length<0:=L;have auK:(zg (rR c) (jX c) (uq c (pZ c)) c.queue.length).toNat<c.queue.length:=D;rw[aG ⟨by omega,by omega⟩,aG (by omega)];simp only[JD];rw[aG ⟨by omega,by omega⟩];simp only[wm];have Ty:(ny c (qL c).toNat).write=sS c.queue (qL c).toNat:=by rw[OJ D,wm D]
  show (yo c.bh (gR c (qL c).toNat) (ny c (qL c).toNat).write).bind _=_;rw[Ty,afJ,Vp _ E I O,au];rfl
theorem av1{α:Type}(p:α->Bool)(l:aa α):(eF p l=l.length/\l.find? p=none)\/∃ h:eF p l<l.length,l.find? p=some l[eF p l]:=by
 have E:=yU p l;rcases Nat.lt_or_ge (eF p l) l.length with h|h
 ·refine .inr ⟨h,?_⟩;rw[List.find?_eq_some_iff_getElem]
  refine⟨ug h,_,h,rfl,λj C=>?_⟩
  rw[rL C (by omega)];rfl
 ·refine .inl ⟨by omega,?_⟩;rw[List.find?_eq_none];intro x D;obtain⟨j,C,rfl⟩:=iX.1 D;rw[rL (p:=p) (i:=j) (by omega) C];simp
def JH(c:av)(l:aa aI):aI×Bool:=match l.find? (iN c)with
 |some x=>(x,true)
 |none=>(BJ,false)
theorem agu{c:av}(h:Pq c){l:aa aI}(hl:l.length<=1000)(I:∀ x∈l,eK c.config.ay x=true):Hr c l=some (JH c l):=by
 have hi:=yU (iN c) l;have ur:∀ (k:Nat) (C:k<l.length),AS ((c,l,(),(k:Int),()),(((0:Int),(0:Int),(0:Int),(0:Int),()),()))=some (bif iN c l[k]then .inr (.inl (((),true,()),((l[k].kind,l[k].az,l[k].row,l[k].bT,()),())))else .inl ((c,l,(),((k+1:Nat):Int),()),(((0:Int),(0:Int),(0:Int),(0:Int),()),()))):=by
  intro k C;unfold AS aB bq xG xI;dsimp only;rw[aW (by omega),ak,aG ⟨by omega,by omega⟩];simp only[bJ];rw[OC h.p (I _ (cP C)),au];cases iN c l[k]with
  |false=>rw[aq,bP (by omega)];rfl
  |true=>rw[ak,aG ⟨by omega,C⟩];rfl
 unfold Hr JH cg;rcases av1 (iN c) l with ⟨D,E⟩|⟨D,E⟩
 ·have e:=dx (step:=AS) l.length (λk=>((c,l,(),(k:Int),()),(((0:Int),(0:Int),(0:Int),(0:Int),()),()))) (.inr (.inl (((),()),(((0:Int),(0:Int),(0:Int),(0:Int),()),())))) aZ (λk C=>by
   rw[ur k C,rL (p:=iN c) (i:=k) (by omega) C];rfl) (by
   unfold AS aB bq xG xI;dsimp only;rw[br (by omega),aq]) (bY (by omega))
  rw[cA]at e
  refine(bD (λo=>Option.bind o _) e).trans ?_
  rw[E];rfl
 ·have e:=dx (step:=AS) (eF (iN c) l) (λk=>((c,l,(),(k:Int),()),(((0:Int),(0:Int),(0:Int),(0:Int),()),()))) (.inl (((),true,()),((l[eF (iN c) l].kind,l[eF (iN c) l].az,l[eF (iN c) l].row,l[eF (iN c) l].bT,()),()))) aZ (λk C=>by
   rw[ur k (by omega),rL (p:=iN c) (i:=k) C (by omega)];rfl) (by
   rw[ur _ D,ug D];rfl) (bY (by omega))
  rw[cA]at e
  refine(bD (λo=>Option.bind o _) e).trans ?_
  rw[E];rfl
def Ea(c:av)(b:Int)(x:aI):aI:=bif (jW c.bh b).open_ then ⟨4,b,0,0⟩else x
theorem VN{c:av}(x:aI)(C:0<=x.az)(h:x.az.toNat<c.bh.aF.length):Du c x=some (Ea c x.az x):=by
 unfold Du Ea xI;rw[aG ⟨C,h⟩,Jv h];dsimp only;cases c.bh.aF[x.az.toNat].open_<;>rfl
theorem VO{c:av}{b:Int}{x:aI}(h:Pq c)(C:0<=b/\b<aV c.config.ay)(D:eK c.config.ay x=true):eK c.config.ay (Ea c b x)=true:=by
 unfold Ea;cases (jW c.bh b).open_ with
 |false=>exact D
 |true=>exact Jw h.p.R.By (.inl rfl) C
def JI(c:av)(b:Int):aI:=Ea c b ⟨5,b,0,0⟩
def p6(c:av)(i:Nat):aL:=c.pending.getD i zA
theorem agv{c:av}{i:Nat}(h:i<c.pending.length):c.pending[i]=p6 c i:=by
 unfold p6;rw[eX,bK h];rfl
def JJ(c:av)(i:Nat):Bool:=!sV c (p6 c i).az && !((c.pending.take i).any λa=>a.az==(p6 c i).az)
def VP(c:av)(i:Nat):aI:=Ea c (p6 c i).az ⟨1,(p6 c i).az,(p6 c i).row,0⟩
def rS(c:av):aa aI:=(iB 0 c.bu.aU).map (JI c)
def sX(c:av)(k:Nat):aa aI:=((List.range k).filter (JJ c)).map (VP c)
theorem agw{c:av}(h:Pq c){i:Nat}(hi:i<c.pending.length):dA c.config.ay (p6 c i)=true/\0<=(p6 c i).az/\(p6 c i).az.toNat<c.bh.aF.length/\(p6 c i).az.toNat<c.bu.aU.length/\(p6 c i).az<aV c.config.ay:=by
 have C:=h.pe _ (cP hi);rw[agv hi]at C;obtain⟨_,D,E,I,J,L,O⟩:=rA C;have:=h.p.bl;have:=h.dl;exact⟨C,D,by omega,by omega,E⟩
theorem av2{c:av}(h:Pq c){b:Int}(hb:b∈iB 0 c.bu.aU):(0<=b/\b<aV c.config.ay)/\eK c.config.ay (JI c b)=true:=by
 obtain⟨j,rfl,C,_⟩:=auD hb;have:=h.dl;have hb:0<=((0+j:Nat):Int)/\((0+j:Nat):Int)<aV c.config.ay:=by omega
 exact⟨hb,VO h hb (Jw h.p.R.By (.inr rfl) hb)⟩
theorem av3{c:av}(h:Pq c){i:Nat}(hi:i<c.pending.length):eK c.config.ay (VP c i)=true:=by
 obtain⟨C,D,I,J,E⟩:=agw h hi;exact VO h ⟨D,E⟩ (auP C)
theorem agx(c:av)(k:Nat):(sX c k).length<=k:=by
 unfold sX;rw[cZ];have:=List.length_filter_le (JJ c) (List.range k);rw[dD]at this;exact this
theorem av4{c:av}(h:Pq c):MU c=some (rS c++sX c c.pending.length):=by
 have E:=v5 h.rf;have wZ:=h.pl;have hdn:=h.dl;have VQ:=h.p.bl;have ul:=OD 0 c.bu.aU;have e:=dx (step:=Hs) c.bu.aU.length (λi=>((c,(),(i:Int),()),((iB 0 (c.bu.aU.take i)).map (JI c),()))) (.inl ((c,(),()),(rS c,()))) aZ (λk C=>by
  have J:=OD 0 (c.bu.aU.take k);rw[fR]at J;have L:=(OR (c:=c) (b:=(k:Int)) E.1 (by omega) (by omega))
  have O:sV c (k:Int)=decide (c.bu.aU[k] >= 4):=by
   unfold sV;rw[bJ,eX,bK C];rfl
  unfold Hs aB xG;dsimp only;rw[aW (by omega),ak,L,au,bP (by omega),afC C,O];cases decide (c.bu.aU[k] >= 4)with
  |false=>rfl
  | true=>
   rw[ak,ak,VN _ (by show 0<=(k:Int);omega) (by show (k:Int).toNat<_;omega),au,cZ,ij,dh (by omega),ak,List.map_append];rfl) (by
  unfold Hs aB xG;dsimp only;rw[br (by omega),aq,jF];rfl) (bY (by omega))
 have D:=dx (step:=Ht) c.pending.length (λi=>((c,(),(i:Int),()),(rS c++sX c i,()))) (.inl (((),()),(rS c++sX c c.pending.length,()))) aZ (λk C=>by
  obtain⟨ho,I,Q,T,o4⟩:=agw h C;have hpk:=agx c k;have hul:(rS c).length<=8:=by unfold rS;rw[cZ];omega
  have U:sX c (k+1)=sX c k++(bif JJ c k then [VP c k]else []):=by
   unfold sX;rw[List.range_succ,List.filter_append,List.map_append];cases Y:JJ c k<;>simp[Y]
  rw[U];unfold Ht aB xG xI;dsimp only;rw[aW (by omega),ak,aG ⟨by omega,by omega⟩,bP (by omega)];simp only[bJ,agv,(OR E.1 I T),au,Int.toNat_zero,List.drop_zero];unfold JJ;cases sV c (p6 c k).az with
  |true=>rw[bR,aq,Bool.false_and,aq,List.append_nil]
  | false=>
   rw[gU,ak,bk ⟨by omega,by omega,by omega⟩,VL _ _ (by rw[fR];omega),au,cM];cases (c.pending.take k).any λa=>a.az==(p6 c k).az with
   |true=>rw[bR,aq,aq,List.append_nil]
   | false=>
    rw[gU,ak,ak,VN _ I Q,au,mK,ij,dh (by omega),ak,List.append_assoc];rfl) (by
  unfold Ht aB xG xI;dsimp only;rw[br (by omega),aq]) (bY (by omega))
 rw[cA]at e D;unfold MU bw
 refine(bD (λo=>Option.bind o _) e).trans ?_
 rw[au];have Z:rS c++sX c 0=rS c:=List.append_nil _;rw[Z]at D
 refine(bD (λo=>Option.bind o _) D).trans ?_
 rfl
def Eb(u:Bool)(l:aa Int)(idle:Nat->Bool)(i:Nat):Bool:=bif u then decide (l.getD i 0 >= 4)else decide (l.getD i 0 > 0)&&idle i
def Ec(r:dc)(idle:Nat->Bool):Int:=iC (Eb (decide (((iB 0 r.aU).length:Int) > 0)) r.aU idle) (λi=>r.aU.getD i 0) r.aU.length
theorem agy(r:dc)(idle:Nat->Bool):-1<=Ec r idle/\Ec r idle<r.aU.length:=v7 _ _ _
theorem av5{r:dc}(D:fq r=true)(idle:Nat->Bool):M1 r ((List.range r.aU.length).map idle)=some (Ec r idle):=by
 have hl:=v5 D;unfold M1 bw;rw[N9 _ (by omega),au,D,bR,aq,afD D,au];generalize L:decide (((iB 0 r.aU).length:Int) > 0)=u;have e:=dx (step:=HD) r.aU.length (λi=>(((List.range r.aU.length).map idle,(),u,iC (Eb u r.aU idle) (λi=>r.aU.getD i 0) i,(i:Int),()),((r.aU,r.wait,r.dR,()),()))) (.inl ((iC (Eb u r.aU idle) (λi=>r.aU.getD i 0) r.aU.length,()),())) aZ (λk E=>by
  have hb:=v7 (Eb u r.aU idle) (λi=>r.aU.getD i 0) k;rw[Js];generalize iC (Eb u r.aU idle) (λi=>r.aU.getD i 0) k=C at hb;have O:r.aU.getD k 0=r.aU[k]:=by rw[eX,bK E];rfl
  have Q:0<=(k:Int)/\k<r.aU.length:=⟨by omega,E⟩
  unfold HD Bz Eb aB xG xI;dsimp only;rw[aW (by omega),ak,aG ⟨by omega,by omega⟩];simp only[bJ,O,cZ,dD,aG Q];rw[bP (by omega),aW (by omega:(k:Int)<(r.aU.length:Int)),ak];simp only[OI E];by_cases I:C<0
  ·rw[aW I,Bool.true_or];cases u<;>cases decide (r.aU[k] > 0)<;>cases decide (r.aU[k] >= 4)<;>cases idle k<;>rfl
  ·have J:C.toNat<r.aU.length:=by omega
   have T:r.aU.getD C.toNat 0=r.aU[C.toNat]:=by rw[eX,bK J];rfl
   have U:0<=C/\C.toNat<r.aU.length:=⟨by omega,J⟩
   rw[br I,Bool.false_or,T];simp only[aG U,aq];cases u<;>cases decide (r.aU[k] > 0)<;>cases decide (r.aU[k] >= 4)<;>cases idle k<;>cases decide (r.aU[k] > r.aU[C.toNat])<;>rfl) (by
  unfold HD aB xG xI;dsimp only;rw[br (by omega),aq]) (bY (by omega))
 rw[cA]at e
 refine(bD (λo=>Option.bind o _) e).trans ?_
 unfold Ec;rw[L];rfl
def OU(w:aa aL)(r:cK)(b:Nat):Bool:=w.any λa=>a.az==(b:Int)&&a.row==(jW r (b:Int)).row
def JK(w:aa aL)(r:cK)(b:Nat):Bool:=(jW r (b:Int)).open_ && !OU w r b
def BM(r:cK)(eT:Int)(w:aa aL):Int:=bif eT != 1 then -1 else lV (JK w r) r.aF.length
theorem agz(r:cK)(eT:Int)(w:aa aL):-1<=BM r eT w/\BM r eT w<r.aF.length:=by
 unfold BM;cases eT != 1 with
 |true=>rw[ak];omega
 | false=>
  rw[aq];rcases wB (JK w r) r.aF.length with ⟨C,_⟩|⟨j,C,D,_⟩<;>omega
theorem av6{w:aa aL}{r:cK}{b:Nat}(hb:b<r.aF.length)(hl:r.aF.length<=1048576)(D:w.length<=1000)(o:Bool):iter Dz aZ ((w,(),(b:Int),o,(0:Int),()),((r.aF,r.bg,()),()))=some (.inl ((w,(),(b:Int),o || OU w r b,()),((r.aF,r.bg,()),()))):=by
 have e:=dx (step:=Dz) w.length (λk=>((w,(),(b:Int),o || ((w.take k).any λa=>a.az==(b:Int)&&a.row==(jW r (b:Int)).row),(k:Int),()),((r.aF,r.bg,()),()))) (.inl ((w,(),(b:Int),o || OU w r b,()),((r.aF,r.bg,()),()))) aZ (λk C=>by
  rw[sK C,List.any_append,List.any_cons,List.any_nil,Bool.or_false,Jv (by rw[bJ];exact hb)];unfold Dz aB xG xI;dsimp only;rw[aW (by omega),ak,aG ⟨by omega,by omega⟩,bP (by omega)];simp only[bJ];cases w[k].az==(b:Int)with
  |false=>rw[aq,Bool.false_and,Bool.or_false]
  | true=>
   rw[ak,aG ⟨by omega,C⟩,aG ⟨by omega,hb⟩,cM];cases w[k].row==r.aF[b].row with
   |false=>rw[aq,Bool.or_false]
   |true=>rw[ak,Bool.or_true,Bool.or_true]) (by
  unfold Dz aB xG xI;dsimp only;rw[br (by omega),aq,jF];rfl) (bY (by omega))
 rw[cA,List.take_zero,List.any_nil,Bool.or_false]at e;exact e
theorem av7(i:Nat)(l:aa eP)(x:Int)(h:x∈opens i l):∃ j:Nat,j<l.length/\x=((i+j:Nat):Int):=by
 induction l generalizing i with
 |nil=>cases h
 | cons d l D=>
  have e:opens i (d :: l)=bif d.open_ then (i:Int) :: opens (i+1) l else opens (i+1) l:=rfl;rw[e]at h;have tl:x∈opens (i+1) l->∃ j:Nat,j<(d :: l).length/\x=((i+j:Nat):Int):=λh=>by
   obtain⟨j,E,I⟩:=D _ h;exact⟨j+1,by simpa using E,by rw[I];congr 1;omega⟩
  cases C:d.open_ with
  |false=>rw[C]at h;exact tl h
  | true=>
   rw[C,ak]at h;rcases fF.1 h with rfl|h
   ·exact⟨0,by simp,rfl⟩
   ·exact tl h
theorem av8{r:cK}(eT:Int){w:aa aL}(hl:r.aF.length<=1048576)(I:w.length<=1000):M3 r eT w=some (BM r eT w):=by
 unfold M3 BM cg;cases eT != 1 with
 |true=>rfl
 | false=>
  rw[aq,aq];have ur:∀ (k:Nat) (C:k<r.aF.length),AV ((w,(),(k:Int),()),((r.aF,r.bg,()),()))=some (bif JK w r k then .inr (.inl (((k:Int),()),()))else .inl ((w,(),((k+1:Nat):Int),()),((r.aF,r.bg,()),()))):=by
   intro k C;have hb:(jW r (k:Int)).open_=r.aF[k].open_:=by rw[Jv (by rw[bJ];omega)];simp only[bJ]
   unfold AV JK aB bq xG xI bw;dsimp only;rw[aW (by omega),ak,aG ⟨by omega,by omega⟩,hb];simp only[bJ];rw[av6 C hl I,au];simp only[eO];rw[bP (by omega)];cases r.aF[k].open_<;>cases OU w r k<;>rfl
  rcases wB (JK w r) r.aF.length with ⟨D,E⟩|⟨j,D,E,J,L⟩
  ·have e:=dx (step:=AV) r.aF.length (λk=>((w,(),(k:Int),()),((r.aF,r.bg,()),()))) (.inr (.inl ((),()))) aZ (λk C=>by
    rw[ur k C,E k C];rfl) (by
    unfold AV aB bq xG xI bw;dsimp only;rw[br (by omega),aq]) (bY (by omega))
   rw[cA]at e
   refine(bD (λo=>Option.bind o _) e).trans ?_
   rw[D];rfl
  ·have e:=dx (step:=AV) j (λk=>((w,(),(k:Int),()),((r.aF,r.bg,()),()))) (.inl (((j:Int),()),())) aZ (λk C=>by
    rw[ur k (by omega),L k C];rfl) (by
    rw[ur j D,J];rfl) (bY (by omega))
   rw[cA]at e
   refine(bD (λo=>Option.bind o _) e).trans ?_
   rw[E];rfl
def eo(c:av):Int:=yY c.box.bZ.dW c.bg (D0 c)
def OV(c:av)(i:Nat):Bool:=!((jC c).any λa=>a.az==(i:Int))
def lW(c:av):Int:=Ec c.bu (OV c)
def jY(c:av):Int:=BM c.bh c.box.bZ.eT (jC c)
def Ed(c:av):aa aI:=bif decide (lW c >= 0) && !sV c (lW c)then [JI c (lW c)]else []
def zh(c:av):aa aI:=bif decide (jY c >= 0)then [⟨4,jY c,0,0⟩]else []
def sY(c:av):aa aI:=bif eo c==8&&decide (((opens 0 c.bh.aF).length:Int) > 0)then [⟨4,(opens 0 c.bh.aF).headD 0,0,0⟩]else bif eo c != 0 then [⟨eo c,0,0,0⟩]else []
def VR(c:av)(l:aa aI):aI:=(l.find? (iN c)).getD BJ
theorem agA(c:av):eo c=0\/6<=eo c/\eo c<=9:=auF _ _ _
theorem av9(l:aa Int)(h:0<l.length):l.headD 0=l[0]:=by
 cases l with
 |nil=>cases h
 |cons x l=>rfl
theorem agB(c:av)(h:Pq c)(C:0<(opens 0 c.bh.aF).length):(0<=(opens 0 c.bh.aF)[0]/\(opens 0 c.bh.aF)[0]<aV c.config.ay)/\(opens 0 c.bh.aF).headD 0=(opens 0 c.bh.aF)[0]:=by
 obtain⟨j,D,E⟩:=av7 0 _ _ (cP C);have:=h.p.bl;exact⟨by omega,av9 _ C⟩
theorem awa{c:av}(h:Pq c):(sY c).length<=1/\∀ x∈sY c,eK c.config.ay x=true:=by
 have Q:=agA c;have D:=h.p.R.By;have E:(bif eo c != 0 then [(⟨eo c,0,0,0⟩:aI)]else []).length<=1/\∀ x∈(bif eo c != 0 then [(⟨eo c,0,0,0⟩:aI)]else []),eK c.config.ay x=true:=by
  by_cases I:eo c=0
  ·rw[I];exact⟨gn _,λx C=>by cases C⟩
  ·rw[iT I,ak];exact⟨dV _,λx C=>by rw[kY.1 C];exact afL D (by omega)⟩
 unfold sY;cases eo c==8 with
 |false=>exact E
 | true=>
  by_cases J:0<(opens 0 c.bh.aF).length
  ·obtain⟨L,O⟩:=agB c h J;rw[aW (by omega:((opens 0 c.bh.aF).length:Int) > 0),O];exact⟨dV _,λx C=>by rw[kY.1 C];exact Jw D (.inl rfl) L⟩
  ·rw[br (by omega:¬ ((opens 0 c.bh.aF).length:Int) > 0)];exact E
theorem awb{c:av}(h:Pq c):(zh c).length<=1/\∀ x∈zh c,eK c.config.ay x=true:=by
 have E:=h.p.bl;have hb:-1<=jY c/\jY c<c.bh.aF.length:=agz _ _ _;unfold zh;by_cases D:jY c >= 0
 ·rw[aW D,ak];exact⟨dV _,λx C=>by rw[kY.1 C];exact Jw h.p.R.By (.inl rfl) (by omega)⟩
 ·rw[br D,aq];exact⟨gn _,λx C=>by cases C⟩
theorem awc{c:av}(h:Pq c):(Ed c).length<=1/\∀ x∈Ed c,eK c.config.ay x=true:=by
 have I:=h.dl;have hb:-1<=lW c/\lW c<c.bu.aU.length:=agy _ _;unfold Ed;by_cases D:lW c >= 0
 ·have E:0<=lW c/\lW c<aV c.config.ay:=by omega
  rw[aW D,cM];cases sV c (lW c)with
  |true=>exact⟨gn _,λx C=>by cases C⟩
  |false=>exact⟨dV _,λx C=>by rw[kY.1 C];exact VO h E (Jw h.p.R.By (.inr rfl) E)⟩
 ·rw[br D,Bool.false_and,aq];exact⟨gn _,λx C=>by cases C⟩
theorem awd{c:av}(h:Pq c):M4 c (eo c)=some (Ed c++(zh c++sY c)):=by
 have Q:=OK h;have hq:=h.ql;have VQ:=h.p.bl;have hdn:=h.dl;have T:=v5 h.rf;have U:c.bh.aF.length=c.bu.aU.length:=by omega
 have yg:-1<=lW c/\lW c<c.bu.aU.length:=agy _ _;have iw:-1<=jY c/\jY c<c.bh.aF.length:=agz _ _ _;have hol:=UG 0 c.bh.aF;have e:=dx (step:=HE) c.bh.aF.length (λi=>((c,eo c,(),(),(),(i:Int),()),(([]:aa aI),jC c,(List.range i).map (OV c),()))) (.inl ((c,eo c,(),(),(),()),(([]:aa aI),jC c,(List.range c.bh.aF.length).map (OV c),()))) aZ (λk hk=>by
  unfold HE aB xG;dsimp only;rw[aW (by omega),ak,VL _ _ (by rw[BH];omega),au,cZ,dD,ij,dh (by omega),ak,bP (by omega),List.range_succ,List.map_append];rfl) (by
  unfold HE aB xG;dsimp only;rw[br (by omega),aq]) (bY (by omega))
 rw[cA]at e;have D:∀l:aa aI,l.length<=5->aT (l.length+1)=true:=λl hl=>dh (by omega)
 -- the end
 have tl:∀ l:aa aI,l.length<=5->(bif (eo c==(8:Int))then (bif (decide (((opens 0 c.bh.aF).length:Int) > (0:Int)))then (if I:0<=(0:Int)/\(0:Int).toNat<(opens 0 c.bh.aF).length then if C:(0:Int).toNat<(opens 0 c.bh.aF).length then (bif aT (l.length+([(⟨(4:Int),(opens 0 c.bh.aF)[(0:Int).toNat]'C,(0:Int),(0:Int)⟩:aI)]:aa aI).length)then some (l++([(⟨(4:Int),(opens 0 c.bh.aF)[(0:Int).toNat]'C,(0:Int),(0:Int)⟩:aI)]:aa aI))else none)else none else none)else (bif (eo c != (0:Int))then bif aT (l.length+([(⟨eo c,(0:Int),(0:Int),(0:Int)⟩:aI)]:aa aI).length)then some (l++([(⟨eo c,(0:Int),(0:Int),(0:Int)⟩:aI)]:aa aI))else none else some l))else (bif (eo c != (0:Int))then bif aT (l.length+([(⟨eo c,(0:Int),(0:Int),(0:Int)⟩:aI)]:aa aI).length)then some (l++([(⟨eo c,(0:Int),(0:Int),(0:Int)⟩:aI)]:aa aI))else none else some l))=some (l++sY c):=by
  intro l hl;have z:(bif (eo c != (0:Int))then bif aT (l.length+([(⟨eo c,(0:Int),(0:Int),(0:Int)⟩:aI)]:aa aI).length)then some (l++([(⟨eo c,(0:Int),(0:Int),(0:Int)⟩:aI)]:aa aI))else none else some l)=some (l++(bif eo c != 0 then [(⟨eo c,0,0,0⟩:aI)]else [])):=by
   rw[ij,D l hl];cases eo c != 0 with
   |true=>rfl
   |false=>rw[aq,aq,List.append_nil]
  unfold sY;cases eo c==8 with
  |false=>exact z
  | true=>
   rw[ak,cM];by_cases E:0<(opens 0 c.bh.aF).length
   ·obtain⟨k1,Y⟩:=agB c h E;rw[aW (by omega:((opens 0 c.bh.aF).length:Int) > 0),ak,ak,aG ⟨by omega,E⟩,aG (show Int.toNat 0<(opens 0 c.bh.aF).length from E),ij,D l hl,ak,Y];rfl
   ·rw[br (by omega:¬ ((opens 0 c.bh.aF).length:Int) > 0),aq,aq];exact z
 unfold M4 bw xL;rw[af2 h,au]
 refine(bD (λo=>Option.bind o _) e).trans ?_
 rw[au,U];simp only[eO,av5 h.rf,au,av8 _ Q (show (jC c).length<=1000 by rw[BH];omega),ae4 _ (show c.bh.aF.length<1073741823 by omega)];have er:Ec c.bu (OV c)=lW c:=rfl;have Z:BM c.bh c.box.bZ.eT (jC c)=jY c:=rfl;rw[er,Z];have h1:∀ l:aa aI,l.length<=4->(bif decide (jY c >= 0)then bif aT (l.length+([(⟨4,jY c,0,0⟩:aI)]:aa aI).length)then some ((l++([(⟨4,jY c,0,0⟩:aI)]:aa aI))++sY c)else none else some (l++sY c))=some (l++(zh c++sY c)):=by
  intro l hl;unfold zh;rw[ij,D l (by omega)];cases decide (jY c >= 0)with
  |true=>rw[ak,ak,List.append_assoc];rfl
  |false=>rfl
 have J:∀ l:aa aI,l.length<=1->(bif decide (jY c >= 0)then bif aT (l.length+([(⟨4,jY c,0,0⟩:aI)]:aa aI).length)then (bif (eo c==(8:Int))then (bif (decide (((opens 0 c.bh.aF).length:Int) > (0:Int)))then (if I:0<=(0:Int)/\(0:Int).toNat<(opens 0 c.bh.aF).length then if C:(0:Int).toNat<(opens 0 c.bh.aF).length then (bif aT ((l++([(⟨4,jY c,0,0⟩:aI)]:aa aI)).length+([(⟨(4:Int),(opens 0 c.bh.aF)[(0:Int).toNat]'C,(0:Int),(0:Int)⟩:aI)]:aa aI).length)then some ((l++([(⟨4,jY c,0,0⟩:aI)]:aa aI))++([(⟨(4:Int),(opens 0 c.bh.aF)[(0:Int).toNat]'C,(0:Int),(0:Int)⟩:aI)]:aa aI))else none)else none else none)else (bif (eo c != (0:Int))then bif aT ((l++([(⟨4,jY c,0,0⟩:aI)]:aa aI)).length+([(⟨eo c,(0:Int),(0:Int),(0:Int)⟩:aI)]:aa aI).length)then some ((l++([(⟨4,jY c,0,0⟩:aI)]:aa aI))++([(⟨eo c,(0:Int),(0:Int),(0:Int)⟩:aI)]:aa aI))else none else some (l++([(⟨4,jY c,0,0⟩:aI)]:aa aI))))else (bif (eo c != (0:Int))then bif aT ((l++([(⟨4,jY c,0,0⟩:aI)]:aa aI)).length+([(⟨eo c,(0:Int),(0:Int),(0:Int)⟩:aI)]:aa aI).length)then some ((l++([(⟨4,jY c,0,0⟩:aI)]:aa aI))++([(⟨eo c,(0:Int),(0:Int),(0:Int)⟩:aI)]:aa aI))else none else some (l++([(⟨4,jY c,0,0⟩:aI)]:aa aI))))else none else (bif (eo c==(8:Int))then (bif (decide (((opens 0 c.bh.aF).length:Int) > (0:Int)))then (if I:0<=(0:Int)/\(0:Int).toNat<(opens 0 c.bh.aF).length then if C:(0:Int).toNat<(opens 0 c.bh.aF).length then (bif aT (l.length+([(⟨(4:Int),(opens 0 c.bh.aF)[(0:Int).toNat]'C,(0:Int),(0:Int)⟩:aI)]:aa aI).length)then some (l++([(⟨(4:Int),(opens 0 c.bh.aF)[(0:Int).toNat]'C,(0:Int),(0:Int)⟩:aI)]:aa aI))else none)else none else none)else (bif (eo c != (0:Int))then bif aT (l.length+([(⟨eo c,(0:Int),(0:Int),(0:Int)⟩:aI)]:aa aI).length)then some (l++([(⟨eo c,(0:Int),(0:Int),(0:Int)⟩:aI)]:aa aI))else none else some l))else (bif (eo c != (0:Int))then bif aT (l.length+([(⟨eo c,(0:Int),(0:Int),(0:Int)⟩:aI)]:aa aI).length)then some (l++([(⟨eo c,(0:Int),(0:Int),(0:Int)⟩:aI)]:aa aI))else none else some l)))=some (l++(zh c++sY c)):=by
  intro l hl;rw[tl _ (by rw[mK,ij];omega),tl _ (by omega)];exact h1 l (by omega)
 have L:=J [] (by simp);unfold Ed;by_cases O:lW c >= 0
 ·have hv:0<=lW c/\lW c<aV c.config.ay:=by omega
  rw[aW O,ak,cM,(OR T.1 (by omega) (by omega)),au];cases sV c (lW c)with
  |true=>exact L
  | false=>
   rw[gU,ak,ak,VN _ (by show 0<=lW c;omega) (by show (lW c).toNat<_;omega),au,List.length_nil,ij,dh (by omega),ak];exact J [JI c (lW c)] (dV _)
 ·rw[br O,aq,Bool.false_and,aq];exact L
def agC(c:av):aj aI:=(rS c++sX c c.pending.length).find? (iN c)
def VS(c:av):aI×Int:=
 bif c.bg.state != 0 then (bif eo c != 0 then (bif iN c ⟨eo c,0,0,0⟩then (⟨eo c,0,0,0⟩,-1)else (BJ,-1))else (BJ,-1))else
 match agC c with
 |some x=>(x,-1)
 |none=>bif decide ((JG c).2 >= 0)then JG c else (VR c (Ed c++(zh c++sY c)),-1)
theorem awe(c:av)(l:aa aI):JH c l=(VR c l,(l.find? (iN c)).isSome):=by
 unfold JH VR;cases l.find? (iN c)<;>rfl
theorem awf{c:av}(h:Pq c):yA c=some (bif decide ((c.trace.length:Int) >= 2000)then (BJ,-1)else VS c):=by
 have D:=h.p.R.By;have O:=agA c;have Q:=h.pl;have T:=v5 h.rf;have U:=OD 0 c.bu.aU;have E:=awc h;have I:=awb h;have J:=awa h;unfold yA;cases decide ((c.trace.length:Int) >= 2000)with
 |true=>rfl
 | false=>
  rw[aq,aq,afE h.rf,au,auE _ _ _ h.dW h.pw,au];have L:yY c.box.bZ.dW c.bg (D0 c)=eo c:=rfl;rw[L];unfold VS;cases c.bg.state != 0 with
  | true=>
   rw[ak,ak];by_cases C:eo c=0
   ·rw[C];rfl
   ·rw[jw C,iT C,aq,ak,OC h.p (afL D (by omega)),au];cases iN c ⟨eo c,0,0,0⟩<;>rfl
  | false=>
   rw[aq,aq,av4 h,au,agu h (by
    rw[mK];have:=agx c c.pending.length;have:(rS c).length=(iB 0 c.bu.aU).length:=by unfold rS;rw[cZ]
    omega) (λx hx=>by
    rcases List.mem_append.1 hx with hx|hx
    ·obtain⟨b,hb,rfl⟩:=List.mem_map.1 hx;exact(av2 h hb).2
    ·obtain⟨i,hi,rfl⟩:=List.mem_map.1 hx;exact av3 h (eD.1 (List.mem_filter.1 hi).1)),au]
   unfold JH agC;cases (rS c++sX c c.pending.length).find? (iN c)with
   |some x=>rfl
   | none=>
    dsimp only;rw[aq,av0 h,au];cases decide ((JG c).2 >= 0)with
    |true=>rfl
    | false=>
     rw[aq,aq,awd h,au,agu h (by rw[mK,mK];omega) (λx hx=>by
      rcases List.mem_append.1 hx with hx|hx
      ·exact E.2 x hx
      ·rcases List.mem_append.1 hx with hx | hx
       ·exact I.2 x hx
       ·exact J.2 x hx),au,awe]
theorem awg{r:cK}{x:aI}(C:x.kind<=5):(fZ r x).bg=r.bg:=by
 unfold fZ;rw[jw (show ¬ x.kind=6 by omega),jw (show ¬ x.kind=8 by omega),jw (show ¬ x.kind=7 by omega),jw (show ¬ x.kind=9 by omega)];cases x.kind==1<;>cases x.kind==4<;>rfl
theorem fV.ff{c:av}(p:fV c)(x:aI):fV (ff c x):=⟨p.dl,p.tl,p.gl,p.t,p.g,p.pd,p.u⟩
theorem Ck.ff{c:av}(h:Ck c){x:aI}(C:qK c.config.ay c.bh x=true)(D:x.kind<=5)(E:c.trace.length<2000):Ck (ff c x):=by
 simp only[qK,aK]at C;exact⟨h.f1,h.f2,h.nw,afb C.1 C.2.1 C.2.2,ago _ h.rd,h.ar,h.sp,h.se,h.rf,((fV.of h.pa).ff x).ok,h.qu,h.sh,h.sl,h.dr,h.pw,h.ps.trans (awg D).symm,h.si,h.s1,h.s2,h.s3,h.er,by simp[Proofs.YtglnbhiaknohlaaGreat.ff];omega,h.rp⟩
theorem Ck.opn{c:av}(h:Ck c){x:aI}(E:0<=x.az)(I:x.az<aV c.config.ay)(J:0<=x.row)(L:x.row<c.config.ay.rows):Ck (we c x):=by
 have C:=(yT h.rk).1;have Z:=fP C;have p:=fV.of h.pa;have VG:=p.tl;have hgl:=p.gl;have O:x.az.toNat<c.bN.length:=by omega
 have D:fD c.config.ay 100000 (yW c.config.ay c.config.ew c.array x.az x.row):=Vg C c.config.ew (by decide) (fD.uk h.ar) E I J L;have Q:∀a∈pT c x,dA c.config.ay a=true/\a.bT=0:=λa D=>p.pd a (List.mem_filter.1 D).1
 have T:(pT c x).Pairwise (λx y=>x≠y):=p.u.filter _;have q:(∀ a∈(we c x).pending,dA c.config.ay a=true/\a.bT=0)/\(we c x).pending.Pairwise (λx y=>x≠y):=by
  show (∀a∈(bif (rO c x).2 then (rJ c.config.ay.rows x.row).foldl (nq x.az) (pT c x)else pT c x),dA c.config.ay a=true/\a.bT=0)/\(bif (rO c x).2 then (rJ c.config.ay.rows x.row).foldl (nq x.az) (pT c x)else pT c x).Pairwise (λx y=>x≠y);cases (rO c x).2 with
  |false=>exact⟨Q,T⟩
  | true=>
   rw[ak]
   refine agi _ (λn U=>?_) Q T
   have:=atK J L n U;exact vU C E I this.1 this.2 (Int.le_refl 0) (by show (0:Int)<_;omega)
 have Y:fV (we c x):=⟨p.dl,by show ((c.bN.set x.az.toNat (rO c x).1).length:Int)=_;rw[jE];exact p.tl,p.gl,D9 p.t (by unfold rO;rw[nt _ O];exact avH (p.t _ (cP O)) _ _),p.g,q.1,q.2⟩
 exact⟨h.f1,h.f2,h.nw,h.rk,h.rd,wA C D,h.sp,h.se,h.rf,Y.ok,h.qu,h.sh,h.sl,h.dr,h.pw,h.ps,h.si,h.s1,h.s2,h.s3,h.er,h.tr,h.rp⟩
theorem Ck.ref{c:av}(h:Ck c)(hl:c.box.bZ.weights.length<1073741823)(E:aJ c.config.ir 1 16=true){b:Int}(I:0<=b)(J:b<aV c.config.ay):Ck (ON c b):=by
 have C:=(yT h.rk).1;have O:=fP C;have p:=fV.of h.pa;have Q:=p.dl;have D:fD c.config.ay 100000 (sR c.config.ay c.config.ew c.array b c.config.ay.rows.toNat):=Jy C c.config.ew (by decide) (fD.uk h.ar) I J _ (by omega);have L:fV (ON c b):=⟨by show ((zc c.bu b).aU.length:Int)=_;rw[af9];exact p.dl,by show ((c.bN.set b.toNat (v9 c.config.ir)).length:Int)=_;rw[jE];exact p.tl,by show ((c.guard.set b.toNat c.box.bZ.eB).length:Int)=_;rw[jE];exact p.gl,D9 p.t (agj E),D9 p.g (agk hl h.f1),λa D=>p.pd a (List.mem_filter.1 D).1,p.u.filter _⟩
 exact⟨h.f1,h.f2,h.nw,h.rk,h.rd,wA C D,h.sp,h.se,avP h.rf (by omega),L.ok,h.qu,h.sh,h.sl,h.dr,h.pw,h.ps,h.si,h.s1,h.s2,h.s3,h.er,h.tr,h.rp⟩
theorem VT{T:Type}{p:T->Prop}{l:aa T}{x:T}(h:∀ y∈l,p y)(C:p x):∀ k:Nat,∀ y∈(List.range k).foldl (λd b=>d.set b x) l,p y
 |0=>h
 | k+1=>by
  rw[zd];exact D9 (VT h C k) C
theorem agD{r:dc}(h:fq r=true):∀ k:Nat,fq ⟨(List.range k).foldl (λd b=>d.set b 0) r.aU,r.wait,r.dR⟩=true
 |0=>h
 | k+1=>by
  rw[zd];exact ags (agD h k) k (by omega)
theorem Ck.Vu{c:av}(h:Ck c)(hl:c.box.bZ.weights.length<1073741823)(E:aJ c.config.ir 1 16=true)(n:Nat)(I:(n:Int)<=aV c.config.ay):Ck (mJ c n []):=by
 have D:=(yT h.rk).1;have p:=fV.of h.pa;have C:=OF D c.config.ew (by decide) (fD.uk h.ar) n I;have J:fV (mJ c n []):=⟨by show (((List.range n).foldl (λd b=>d.set b 0) c.bu.aU).length:Int)=_;rw[wg];exact p.dl,by show (((List.range n).foldl (λd b=>d.set b (v9 c.config.ir)) c.bN).length:Int)=_;rw[wg];exact p.tl,by show (((List.range n).foldl (λd b=>d.set b c.box.bZ.eB) c.guard).length:Int)=_;rw[wg];exact p.gl,VT p.t (agj E) n,VT p.g (agk hl h.f1) n,λa C=>(by cases C),List.Pairwise.nil⟩
 exact⟨h.f1,h.f2,h.nw,h.rk,h.rd,wA D C,h.sp,h.se,agD h.rf n,J.ok,h.qu,h.sh,h.sl,h.dr,h.pw,h.ps,h.si,h.s1,h.s2,h.s3,h.er,h.tr,h.rp⟩
theorem Ck.acc{c:av}(h:Ck c){i:Nat}(C:pV c i 100000)(hr:c.cC.length<400):Ck (wu c i):=by
 have O:=(yT h.rk).1;have p:=fV.of h.pa;have hi:=C.i;obtain⟨f1,f3,E,Q,f6,f7,f8⟩:=C.facts (cP hi);have D:c.queue.getD i wo=c.queue[i]:=nt _ hi;have I:=C.d _ (cP hi);have T:=C.shl;have J:gj (wq c.shares c.queue[i].dj)=true/\((wq c.shares c.queue[i].dj).length:Int)=4:=by
  obtain⟨y,t,e,hl,U⟩:=avN ((List.replicate 4 false).set c.queue[i].dj.toNat true) (by omega) h.sh (by simp[T]);unfold wq;rw[e];exact⟨U,by show (y.length:Int)=4;omega⟩
 have Y:eV (cX (cU c.config.ay c.spare)) (c.queue.take i++c.queue.drop (i+1))=true:=((Qk.of h.qu).sub (agp _ _)).ok;have key:∀ (a:dP) (e:aa bX) (x:dz),fD c.config.ay 100000 a->mE e=true->Ck (pU c i a e x):=λa e x Z he=>
  ⟨h.f1,h.f2,h.nw,h.rk,h.rd,wA O Z,h.sp,h.se,h.rf,(show fV (pU c i a e x)from ⟨p.dl,p.tl,p.gl,p.t,p.g,p.pd,p.u⟩).ok,Y,by unfold pU;rw[D];exact J.1,by unfold pU;rw[D];exact J.2,h.dr,h.pw,h.ps,h.si,h.s1,h.s2,h.s3,he,h.tr,by simp[pU];omega⟩
 unfold wu;rw[D];dsimp only;cases c.queue[i].write with
 |true=>exact key _ _ _ (C.a.Bv _ (c:=⟨_,false⟩) (OG I.1 I.2).2.1) h.er
 | false=>
  have L:=C.a.syms _ (cP E);rw[aq,nt _ E];refine key _ _ _ (C.a.Bv _ (Vw L)) ?_;have hec:=VE L;by_cases e:lU c.array.cells[hU c.config.ay (gx c c.queue[i].line)]=0
  ·rw[e];exact h.er
  ·rw[iT e,ak];exact agq h.er ⟨by omega,Q⟩ (by omega)
theorem Ck.OW{c:av}(h:Ck c){x:aI}(C:qK c.config.ay c.bh x=true)(D:6<=x.kind/\x.kind<=9)(O:c.trace.length<2000):Ck (BI (Proofs.YtglnbhiaknohlaaGreat.ff c x) x.kind):=by
 simp only[qK,aK]at C;have E:=bC.1 h.nw;obtain⟨I,J,L⟩:=avQ (r:=c.bh) (p:=c.bg) (x:=x) h.pw h.ps h.si E.2 D C.2.2;have p:=fV.of h.pa;exact⟨h.f1,h.f2,h.nw,afb C.1 C.2.1 C.2.2,ago _ h.rd,h.ar,h.sp,h.se,h.rf,(show fV (BI (Proofs.YtglnbhiaknohlaaGreat.ff c x) x.kind)from ⟨p.dl,p.tl,p.gl,p.t,p.g,p.pd,p.u⟩).ok,h.qu,h.sh,h.sl,h.dr,I,J,L,h.s1,h.s2,h.s3,h.er,by simp[BI,af6,Proofs.YtglnbhiaknohlaaGreat.ff];omega,h.rp⟩
theorem Ck.iss{c:av}(I:dO c)(h:Ck c){x:aI}{i:Int}(E:zf c x i=true):Ck (wz c x i):=by
 have Q:=Pq.of I h.ok;have J:c.box.bZ.weights.length<1073741823:=by
  have:=I.1.1;unfold Om at this;omega
 have T:aJ c.config.ir 1 16=true:=by
  have:=(D2 J h.f1).1;simp only[ni,aK]at this;exact this.2.2.2.2.2.1
 obtain⟨hb,C,U,hr⟩:=agf I Q E;have D:c.trace.length<2000:=by
  simp only[zf,aK,fM,lY]at E;omega
 have Y:x.kind=2\/x.kind=3->c.cC.length<400:=λL=>by
  simp only[zf,aK]at E;have e:(x.kind==2 ||x.kind==3)=true:=by rcases L with q|q<;>rw[q]<;>rfl
  have E:=E.2.2.2;rw[e,ak]at E;simp only[OS,aK,fH]at E;omega
 obtain⟨hg,hlen,L,Z⟩:=Of C;have hc:eK c.config.ay x=true:=by
  simp only[qK,aK]at C;exact C.2.1
 have VG:=(fV.of h.pa).tl;have iI:=Q.p.bl;unfold wz;rcases kinds L with q|q|q|q|q|q|q|q|q<;>rw[q]<;>simp only[Int.reduceBEq,Int.reduceBNe,ak,aq,Bool.or_true,Bool.or_false,Bool.true_or,Bool.false_or,Bool.or_self]
 ·obtain⟨O,yg⟩:=Z (by omega);obtain⟨r0,r1⟩:=VF hc q;exact(h.ff C (by omega) D).opn O (by show x.az<aV c.config.ay;omega) r0 r1
 ·exact(h.ff C (by omega) D).acc ((U (.inl q)).1.ff x) (Y (.inl q))
 ·exact(h.ff C (by omega) D).acc ((U (.inr q)).1.ff x) (Y (.inr q))
 ·exact h.ff C (by omega) D
 ·obtain⟨O,yg⟩:=Z (by omega);exact(h.ff C (by omega) D).ref J T O (by show x.az<aV c.config.ay;omega)
 ·have:=h.OW C (by omega) D;rw[q]at this;exact this
 ·have:=h.OW C (by omega) D;rw[q]at this;exact this
 ·have:=h.OW C (by omega) D;rw[q]at this;exact this
 ·have:=h.OW C (by omega) D;rw[q]at this;exact this.Vu J T _ (by show (c.bN.length:Int)<=aV c.config.ay;omega)
def Nx(c y:av):Prop:=y.now=c.now/\y.config=c.config/\y.queue.Sublist c.queue/\(∀r∈y.cC,r∈c.cC\/∃q∈c.queue,r.id=q.id)/\(y.trace=c.trace\/∃x,y.trace=c.trace++[⟨c.now,x⟩])
theorem Nx.refl(c:av):Nx c c:=⟨rfl,rfl,List.Sublist.refl _,λr C=>.inl C,.inl rfl⟩
theorem agE{c:av}(x:aI){i:Nat}(hi:i<c.queue.length):Nx c (wu (ff c x) i):=by
 have key:∀ (a:dP) (e:aa bX) (t:dz),t.id=c.queue[i].id->Nx c (pU (ff c x) i a e t):=λa e t C=>by
  refine⟨rfl,rfl,agp _ _,λr hr=>?_,.inr ⟨x,rfl⟩⟩
  rcases List.mem_append.1 hr with hr|hr
  ·exact .inl hr
  ·rw[kY.1 hr];exact .inr ⟨_,cP hi,C⟩
 have D:(ff c x).queue.getD i wo=c.queue[i]:=nt _ hi;unfold wu;rw[D];dsimp only;cases c.queue[i].write with
 |true=>exact key _ _ _ rfl
 |false=>exact key _ _ _ rfl
theorem awh{c:av}{x:aI}{i:Int}(I:1<=x.kind/\x.kind<=9)(D:x.kind=2\/x.kind=3->i.toNat<c.queue.length):Nx c (wz c x i):=by
 have C:∀y:av,y.now=c.now->y.config=c.config->y.queue=c.queue->y.cC=c.cC->y.trace=c.trace++[⟨c.now,x⟩]->Nx c y:=λy J L O Q T=>⟨J,L,by rw[O];exact List.Sublist.refl _,λr E=>by rw[Q]at E;exact .inl E,.inr ⟨x,T⟩⟩
 unfold wz;rcases kinds I with q|q|q|q|q|q|q|q|q<;>rw[q]<;>simp only[Int.reduceBEq,Int.reduceBNe,ak,aq,Bool.or_true,Bool.or_false,Bool.true_or,Bool.false_or,Bool.or_self]
 ·exact C _ rfl rfl rfl rfl rfl
 ·exact agE x (D (.inl q))
 ·exact agE x (D (.inr q))
 ·exact C _ rfl rfl rfl rfl rfl
 ·exact C _ rfl rfl rfl rfl rfl
 ·exact C _ rfl rfl rfl rfl rfl
 ·exact C _ rfl rfl rfl rfl rfl
 ·exact C _ rfl rfl rfl rfl rfl
 ·exact C _ rfl rfl rfl rfl rfl
def wC(d:Int):Int:=if (5:Int)<W6 (d+1)then 5 else W6 (d+1)
theorem awi{c:eH}{p:dF}(hl:p.weights.length<1073741823)(h:mG c p=true):∃ l t,A4 p.weights=some (l,t)/\gj l=true/\(l.length:Int)=4/\lS ⟨false,p.low,p.high⟩=true:=by
 obtain⟨_,f2⟩:=D2 hl h;simp only[nZ,aK,eS]at f2;obtain⟨I,J,L,D,E,C,O⟩:=f2;refine⟨p.weights.map hJ,true,?_,C,by rw[cZ];exact E,D⟩;rw[UR _ hl];unfold vW;rw[C];rfl
def OX(c y:av):Prop:=y.now=c.now+1/\y.config=c.config/\y.queue.Sublist c.queue/\(∀r∈y.cC,r∈c.cC\/∃q∈c.queue,r.id=q.id)/\(y.trace=c.trace\/∃x,y.trace=c.trace++[⟨c.now+1,x⟩])
def OY(R:Nat)(M:Int)(m:aa Int)(b j:Nat):Prop:=m.getD (b*R+j) 0=(j:Int)\/((R:Int)<=m.getD (b*R+j) 0/\m.getD (b*R+j) 0<=M/\∀k,k<j->m.getD (b*R+k) 0≠m.getD (b*R+j) 0)
theorem VU{m:aa Int}{R b k:Nat}(C:k<R)(hl:(b+1)*R<=m.length):(gk m R b)[k]?=some (m.getD (b*R+k) 0):=by
 rw[fQ]at hl;rw[DW,List.getElem?_take_of_lt C,List.getElem?_drop,bK (by omega),nt _ (by omega)]
theorem agF{R:Nat}{M:Int}{m:aa Int}{b j:Nat}(E:j<R)(hl:(b+1)*R<=m.length):sN (R:Int) M (gk m R b) j=true ↔ OY R M m b j:=by
 unfold sN OY;rw[VU E hl];simp only[dy,aK,eS,bC,fM,iW];have key:(∀ x∈(gk m R b).take j,¬ x=m.getD (b*R+j) 0) ↔ ∀ k,k<j->m.getD (b*R+k) 0≠m.getD (b*R+j) 0:=by
  have J:=Bq hl;constructor
  ·intro h k C;refine h _ ?_;rw[List.mem_iff_getElem?];exact⟨k,by rw[List.getElem?_take_of_lt C,VU (by omega) hl]⟩
  ·intro h x I;obtain⟨k,C⟩:=List.mem_iff_getElem?.1 I;have D:k<j:=by
    have:=(c7.1 C).1;rw[fR]at this;omega
   rw[List.getElem?_take_of_lt D,VU (by omega) hl]at C;injection C with C;rw[<-C];exact h k D
 rw[key,and_assoc]
structure Sp (g:aN) (s:c9) (bn R:Nat):Prop where
 sb:jh g s.bH=true
 hb:aV g=(bn:Int)
 hR:g.rows-s.bH=(R:Int)
 hl:s.map.length=bn*R
 f:∀b,b<bn->∀j,j<R->OY R (g.rows-1) s.map b j
theorem Sp.of{g:aN}{s:c9}(h:jV g s=true):∃ C R,Sp g s C R:=by
 obtain⟨_,U,_,_,E,Y,Z,h4⟩:=Ju h;have Q:=fG g;simp only[jV,aK,eS,cv,eD]at h;obtain⟨T,hl,J⟩:=h;obtain⟨R,hR⟩:=fI (show 0<=g.rows-s.bH by omega);obtain⟨C,I⟩:=fI Q.1;rw[hR,I,bJ,bJ]at hl;have hl:s.map.length=C*R:=by exact_mod_cast hl
 rw[hR,I,bJ,bJ]at J
 refine⟨C,R,T,I,hR,hl,λb hb j D=>?_⟩
 have L:(b+1)*R<=s.map.length:=by rw[hl];exact gS R hb
 have O:=Bq L;have e:=U2 (R:Int) (g.rows-1) (gk s.map R b) (by rw[O]);rw[O]at e;have E:(List.range R).all (pQ (R:Int) (g.rows-1) (gk s.map R b))=true:=cv.2 λj D=>J b hb j (eD.1 D)
 rw[e]at E;exact(agF D L).1 (cv.1 E j (eD.2 D))
theorem Sp.ok{g:aN}{s:c9}{J R:Nat}(h:Sp g s J R):jV g s=true:=by
 obtain⟨L,O,hR,hl,Q⟩:=h;simp only[jV,aK,eS,cv,eD];rw[hR,O,bJ,bJ]
 refine⟨L,by exact_mod_cast hl,λb hb=>?_⟩
 have D:(b+1)*R<=s.map.length:=by rw[hl];exact gS R hb
 have E:=Bq D;have e:=U2 (R:Int) (g.rows-1) (gk s.map R b) (by rw[E]);rw[E]at e;have I:(List.range R).all (sN (R:Int) (g.rows-1) (gk s.map R b))=true:=cv.2 λj C=>(agF (eD.1 C) D).2 (Q b hb j (eD.1 C))
 rw[<-e]at I;exact λj C=>cv.1 I j (eD.2 C)
theorem awj{R b c r j:Nat}(C:r<R)(D:j<R)(h:b*R+r=c*R+j):b=c/\r=j:=by
 have key:∀ {b c r j:Nat},r<R->b*R+r=c*R+j->¬ b<c:=λ{b c r j} C h E=>by
  have:=gS R (show b+1<=c from E);rw[fQ]at this;omega
 have I:=key (j:=j) C h;have J:=key (j:=r) D h.symm;have e:b=c:=by omega
 subst e;exact⟨rfl,by omega⟩
theorem Ee{m:aa Int}{p:Nat}(C:p<m.length)(i:Int)(q:Nat):(m.set p i).getD q 0=if q=p then i else m.getD q 0:=by
 rw[eX,List.getElem?_set,eX];by_cases e:q=p
 ·subst e;simp[C]
 ·rw[bB (λh=>e h.symm),bB e]
theorem Sp.set{g:aN}{s:c9}{I R:Nat}(h:Sp g s I R){b r:Nat}(hb:b<I)(T:r<R){i:Int}(Z:(R:Int)<=i)(h2:i<=g.rows-1)(U:∀ k,k<R->s.map.getD (b*R+k) 0≠i):Sp g ⟨s.bH,s.map.set (b*R+r) i⟩ I R:=by
 have D:b*R+r<s.map.length:=by
  have:=yP (R:=R) hb (show r+1<=R from T);rw[h.hl];omega
 refine⟨h.sb,h.hb,h.hR,by rw[jE];exact h.hl,λc hc j J=>?_⟩
 have C:=h.f c hc j J;unfold OY at C ⊢;dsimp only;by_cases e:c=b
 ·subst e;by_cases ej:j=r
  ·subst ej;refine .inr ?_;rw[Ee D,bk rfl]
   refine⟨Z,h2,λk E=>?_⟩
   rw[Ee D,bB (by omega)];exact U k (by omega)
  ·rw[Ee D,bB (by omega)];rcases C with C | ⟨L,O,Q⟩
   ·exact .inl C
   ·refine .inr ⟨L,O,λk E=>?_⟩
    rw[Ee D];by_cases ek:k=r
    ·rw[bk (by omega)];exact(U j J).symm
    ·rw[bB (by omega)];exact Q k E
 ·have Y:∀ k,k<R->¬ c*R+k=b*R+r:=λk E he=>e (awj E T he).1
  rw[Ee D,bB (Y j J)];rcases C with C|⟨L,O,Q⟩
  ·exact .inl C
  ·refine .inr ⟨L,O,λk E=>?_⟩
   rw[Ee D,bB (Y k (by omega))];exact Q k E
theorem Sp.wD{g:aN}{s:c9}{C R:Nat}(h:Sp g s C R):cF g=true/\cF (cU g s)=true/\cU g s=⟨g.ck,g.aF,(R:Int),g.aO⟩/\aV (cU g s)=(C:Int)/\C<=8/\R<=16/\2<=R/\1<=g.aO/\g.rows<=16/\0<=s.bH:=by
 obtain⟨e,D,E,I,J,O,Q,L⟩:=Ju h.ok;have T:=fG g;have U:=fP D;have:=h.hb;have hR:=h.hR;rw[h.hR]at e;exact⟨D,E,e,by rw[I];exact h.hb,by omega,by omega,by omega,by omega,L,J⟩
theorem Sp.bound{g:aN}{s:c9}{C R:Nat}(h:Sp g s C R){b r:Nat}(hb:b<C)(D:r<R):0<=s.map.getD (b*R+r) 0/\s.map.getD (b*R+r) 0<g.rows:=by
 have hR:=h.hR;have E:=h.wD.2.2.2.2.2.2.2.2.2;rcases h.f b hb r D with e|⟨I,J,_⟩
 ·omega
 ·omega
theorem Sp.ex{g:aN}{s:c9}{I R:Nat}(h:Sp g s I R)(b r:Int):dA (cU g s) ⟨b,r,0⟩=true ↔ (0<=b/\b<(I:Int))/\0<=r/\r<(R:Int):=by
 obtain⟨_,L,e,J,_,_,_,T,_⟩:=h.wD;have er:(cU g s).rows=(R:Int):=by rw[e]
 have O:(cU g s).aO=g.aO:=by rw[e]
 constructor
 ·intro Q;obtain⟨_,D,C,E,a4,_⟩:=rA Q;rw[J]at C;rw[er]at a4;exact⟨⟨D,C⟩,E,a4⟩
 ·rintro⟨⟨D,C⟩,E,a4⟩;exact vU L D (by rw[J];exact C) E (by rw[er];exact a4) (Int.le_refl 0) (by rw[O];show (0:Int)<_;omega)
theorem Sp.lens{g:aN}{s:c9}{C R:Nat}(h:Sp g s C R){b:Nat}(hb:b<C):(b+1)*R<=s.map.length/\s.map.length<=128/\(gk s.map R b).length=R/\Nat.ble (b*R) ((b+1)*R)=true/\Nat.ble ((b+1)*R) s.map.length=true:=by
 have hl:=h.hl;have E:=h.wD.2.2.2.2.1;have I:=h.wD.2.2.2.2.2.1;have D:(b+1)*R<=s.map.length:=by rw[hl];exact gS R hb
 have J:C*R<=8*16:=Nat.mul_le_mul E I;exact⟨D,by omega,Bq D,iE (by rw[fQ];omega),iE D⟩
def OZ:cw:=⟨List.replicate 16 (-1),List.replicate 16 0,0⟩
def VV:bW:=⟨List.replicate 11 0,false⟩
def O0(g:aN):dP:=⟨List.replicate (cX g).toNat VV,List.replicate (gw g).toNat 0,List.replicate (gw g).toNat 0⟩
def rT(c:eH)(p:dF):av:=⟨c,⟨p,p,false⟩,0,Og c.ay,Ol c.ay,O0 c.ay,(rH c.ay c.bH).1,⟨List.replicate (aV c.ay).toNat 0,c.interval,false⟩,List.replicate (aV c.ay).toNat OZ,List.replicate (aV c.ay).toNat p.eB,[],[],p.weights.map hJ,⟨false,p.low,p.high⟩,⟨0,0,0⟩,⟨0,10,10⟩,[],[],[]⟩
theorem BN{p:dF}(h:vY p):nZ p=true/\gj (p.weights.map hJ)=true/\p.weights.length=4:=by
 obtain⟨⟨⟨E,I⟩,⟨J,Q⟩,⟨L,T⟩,⟨O,U⟩,⟨i,w,hi,Y,Z,C⟩,⟨h9,NH⟩,OB,jJ⟩,jo,kF⟩:=h;have hl:p.weights.length=4:=by rw[C,jE];rfl
 have D:gj (p.weights.map hJ)=true:=by
  rw[C];rcases(by omega:i=0\/i=1\/i=2\/i=3)with rfl|rfl|rfl|rfl<;>rcases(by omega:w=1\/w=2\/w=3\/w=4)with rfl|rfl|rfl|rfl<;>rfl
 refine⟨?_,D,hl⟩;unfold nZ lS yN;rw[D,hl];simp only[aJ,aK,fH,eS];refine⟨⟨E,I⟩,⟨J,by omega⟩,⟨by omega,by omega⟩,⟨L,O,by omega⟩,rfl,trivial,⟨by omega,by omega⟩,by omega,by omega⟩
theorem awk{n:Int}(C:8<=n)(D:n<=17):yD n=some (2*n+2):=by
 unfold yD;rw[fC,au,bC.2 ⟨by omega,by omega⟩,bR,aq,bf (n:=2*n) (by omega) (by omega),bf (by omega) (by omega)]
theorem O1{g:aN}(h:Oq g):cF g=true:=by
 obtain⟨⟨C,D⟩,⟨E,I⟩,⟨J,L⟩,O,Q⟩:=h;simp only[cF,aJ,aK,fH];omega
theorem awl:∀ r∈[(1:Int),2,3,4],∀ w∈[(4:Int),5,6,7,8],iV (U9 r w)=true/\decide (Bl (U9 r w)<=200)=true:=by
 intro r C w D;simp only[fF,List.not_mem_nil,or_false]at C D;rcases C with rfl|rfl|rfl|rfl<;>rcases D with rfl|rfl|rfl|rfl|rfl<;>exact⟨by kernel_rfl,by kernel_rfl⟩
theorem awm{c:eH}(h:uf c):ni c=true:=by
 obtain⟨C,⟨r,w,L,O,Q,T,D⟩,⟨U,Y⟩,⟨Z,VW⟩,⟨hi1,O2⟩,E,hl⟩:=h;have I:=O1 C;obtain⟨J,t2⟩:=awl r (by simp;omega) w (by simp;omega);have t2:=of_decide_eq_true t2;obtain⟨⟨h1,h2⟩,⟨h3,h4⟩,⟨h5,h6⟩,h7,h8⟩:=C;unfold ni jh;rw[I,D,J,hl,E];dsimp only;rw[bf (n:=6*c.interval) (by omega) (by omega)];simp only[aJ,aK,fH,true_and];omega
theorem agG{c:eH}{p:dF}(C:uf c)(D:vY p):ry c p=some true:=by
 have I:=awm C;obtain⟨J,_,Y⟩:=BN D;obtain⟨Z,⟨r,w,Xg,zn,hw1,hw2,E⟩,⟨hm1,hm2⟩,⟨hs1,VW⟩,⟨hi1,O2⟩,L,hl⟩:=C;obtain⟨_,O,Q⟩:=D;have T:c.cc.ga=7:=by rw[E];rfl
 have U:c.cc.rp=3:=by rw[E];rfl
 unfold ry;rw[N7,au,I,ak,N8 _ (by omega),au,J,ak,awk O Q,au,hl,L,T,U,bf (n:=2*p.eB+2+2) (by omega) (by omega)];dsimp only;rw[aW (by omega),ak,bf (n:=7+3) (by omega) (by omega),bB (by omega),bf (n:=5*c.interval) (by omega) (by omega),qM (by omega),bf (n:=16+1) (by omega) (by omega),bf (n:=(16+1)*p.eB) (by omega) (by omega),bf (n:=5*c.interval / (7+3)) (by omega) (by omega),bf (by omega) (by omega),aW (by omega)]
def grow(x:av)(l:Int)(i:Nat):av:=⟨x.config,x.box,x.now,x.bh,x.ready,x.array,x.spare,x.bu,x.bN++List.replicate i OZ,x.guard++List.replicate i l,x.pending,x.queue,x.shares,x.drain,x.bg,x.cT,x.errors,x.trace,x.cC⟩
def VX(g:aN)(sp:Int):aN:=⟨g.ck,g.aF,g.rows-sp,g.aO⟩
def O3(g:aN)(sp:Int):Bool:=oN g (Og g)&&(lT g (Ol g)&&(pO g (O0 g)&&(jV g (rH g sp).1&&((rH g sp).1.bH==sp&&(cF (VX g sp)&&(decide (0<cX (VX g sp))&&(W6 (W6 ((cX g).tdiv g.rows)*W6 (g.rows-sp))==cX (VX g sp)&&(decide (1<=cX g)&&decide ((rH g sp).1.map.length<=1048576)))))))))
theorem awn:(([1,2]:aa Int).all λG=>([1,2]:aa Int).all λB=>([4,5,6]:aa Int).all λR=>([1,2]:aa Int).all λC=>([0,1,2]:aa Int).all λsp=>O3 ⟨G,B,R,C⟩ sp)=true:=by kernel_rfl
theorem agH{g:aN}{sp:Int}(h:Oq g)(C:0<=sp)(D:sp<=2):O3 g sp=true:=by
 obtain⟨⟨E,I⟩,⟨J,L⟩,⟨O,Q⟩,T,U⟩:=h;have e:=awn;simp only[cv]at e;exact e g.ck (by simp;omega) g.aF (by simp;omega) g.rows (by simp;omega) g.aO (by simp;omega) sp (by simp;omega)
theorem awo:jy OZ=true:=by kernel_rfl
theorem awp{c:eH}{p:dF}(C:uf c)(I:vY p):dO (rT c p):=by
 have hb:=fG c.ay;have hl:=nW c.ay;have J:=sJ c.ay;obtain⟨_,_,L⟩:=BN I;have E:=agH C.1 C.2.2.2.1.1 C.2.2.2.1.2;simp only[O3,aK,fH]at E
 refine⟨⟨?_,?_⟩,?_,⟨?_,?_⟩,⟨⟨?_,λy D=>?_⟩,?_,?_⟩,E.2.2.2.2.2.2.2.2.2,?_,⟨?_,λy D=>?_⟩,?_,?_,?_,?_,?_,?_,?_⟩
 ·show p.weights.length<=_;omega
 ·show p.weights.length<=_;omega
 ·show (List.replicate _ _).length<=_;rw[lX];omega
 ·show (List.replicate _ _).length<=_;rw[lX];omega
 ·exact gn _
 ·show (List.replicate _ _).length<=_;rw[lX];omega
 ·obtain rfl:=List.eq_of_mem_replicate D;exact cB rfl
 ·show (List.replicate _ _).length<=_;rw[lX];omega
 ·show (List.replicate _ _).length<=_;rw[lX];omega
 ·show (List.replicate _ _).length<=_;rw[lX];omega
 ·show (List.replicate _ _).length<=_;rw[lX];omega
 ·obtain rfl:=List.eq_of_mem_replicate D;exact⟨cB rfl,cB rfl⟩
 ·show (List.replicate _ _).length<=_;rw[lX];omega
 ·exact gn _
 ·exact gn _
 ·show (p.weights.map hJ).length<=_;rw[cZ];omega
 ·exact gn _
 ·exact gn _
 ·exact gn _
theorem awq{c:eH}{p:dF}(C:uf c)(D:vY p):dU (rT c p)=true:=by
 have hb:=fG c.ay;have Y7:=IY (O1 C.1);have hl:=nW c.ay;obtain⟨_,J,L⟩:=BN D;have E:=agH C.1 C.2.2.2.1.1 C.2.2.2.1.2;simp only[O3,aK,fH]at E;obtain⟨O,Q,T,U,Y,g6,g7,g8,g9,g10⟩:=E;have I:mG c p=true:=by unfold mG;rw[agG C D];rfl
 have hiv:200<=c.interval/\c.interval<=259:=C.2.2.2.2.1;obtain⟨⟨_,_,⟨l1,l2⟩,⟨Z,l4⟩,_⟩,p1,p2⟩:=D;have e1:fq (rT c p).bu=true:=by
  unfold fq;simp only[rT,lX,aJ,aK,fH,List.all_replicate];refine⟨?_,by omega,aW (by omega),aW (by omega)⟩;split<;>rfl
 have e2:rI (rT c p)=true:=by
  unfold rI;simp only[rT,lX,aK,eS,List.length_nil,List.range_zero,List.all_nil];refine⟨by omega,by omega,by omega,rfl,?_,trivial⟩;rw[cv];intro i hi;have hi:i<(aV c.ay).toNat:=eD.1 hi;unfold partAt;simp only[List.getElem?_replicate,hi,if_true,awo,cM];exact bC.2 ⟨by omega,by omega⟩
 have e3:lS (rT c p).drain=true:=by
  unfold lS;simp only[rT,aK];exact⟨aW l1,aW Z,aW (by omega)⟩
 have e4:aJ 0 0 (W6 (cX c.ay-1))=true:=by
  rw[bf (by omega) (by omega)];exact bC.2 ⟨by omega,by omega⟩
 have e5:((p.weights.map hJ).length:Int)==4:=by rw[cZ,L];rfl
 unfold dU;simp only[aK];exact⟨I,I,rfl,O,Q,T,U,Y,⟨e1,e2⟩,rfl,J,e5,e3,rfl,rfl,rfl,rfl,rfl,e4,rfl,rfl,rfl⟩
theorem agI{c:av}(E:dU c=true)(r:aM):dU (kW c r).1=true/\((kW c r).2=false->(kW c r).1=c):=by
 have h:=Ck.of E;have p:=fV.of h.pa;unfold kW;cases hb:((!dU c) ||((!(iM c r).2) ||(c.cC.any λx=>x.id==r.id)))with
 |true=>exact⟨E,λ_=>rfl⟩
 | false=>
  refine⟨?_,λh=>by cases h⟩
  rw[aq];simp only[lZ,Bool.not_eq_false']at hb;have I:eV (cX (cU c.config.ay c.spare)) (iM c r).1=true:=by
   have C:=hb.2.1;unfold iM rK at C ⊢;cases D:(eV (cX (cU c.config.ay c.spare)) c.queue&&eV (cX (cU c.config.ay c.spare)) (fU (λx=>cJ (gQ c r) x) c.queue (gQ c r)))with
   |false=>rw[D]at C;cases C
   | true=>
    rw[aK]at D;exact D.2
  exact Ck.ok ⟨h.f1,h.f2,h.nw,h.rk,h.rd,h.ar,h.sp,h.se,h.rf,(show fV { c with queue:=(iM c r).1 } from ⟨p.dl,p.tl,p.gl,p.t,p.g,p.pd,p.u⟩).ok,I,h.sh,h.sl,h.dr,h.pw,h.ps,h.si,h.s1,h.s2,h.s3,h.er,h.tr,h.rp⟩
theorem awr{b:aa Int}{c:bF}(E:jx b c):Dr b (Nk c) λ_=>True:=by
 unfold Nk;rw[E.eq]
 refine(eU E 4).bind λx L O D=>?_
 dsimp only;rw[D.eta];cases hb:(x==(0:Int))with
 | true=>
  rw[ak]
  refine(N0 D _ (by decide)).bind λy I _ C=>?_
  dsimp only;rw[C.eta];exact Dr.pure C trivial
 | false=>
  rw[aq];cases Q:(x==(1:Int))with
  | true=>
   rw[ak]
   refine(eU D 200).bind λy I _ C=>?_
   dsimp only;rw[C.eta];exact Dr.pure C trivial
  | false=>
   rw[aq]
   refine(eU D 65536).bind λy I _ C=>?_
   dsimp only;rw[C.eta]
   refine(eU C 65536).bind λy T _ J=>?_
   dsimp only;rw[J.eta];exact Dr.pure J trivial
theorem aws{b:aa Int}{c:bF}(D:jx b c)(n:Int):Dr b (Nl c n) λ_=>True:=by
 unfold Nl;rw[D.eq]
 refine(eU D 60).bind λT U Y E=>?_
 dsimp only;rw[E.eta]
 refine(eU E 3).bind λZ k2 h2 I=>?_
 dsimp only;rw[I.eta]
 refine(eU I n).bind λx3 k3 h3 J=>?_
 dsimp only;rw[J.eta]
 refine(eU J 50).bind λx4 k4 h4 L=>?_
 dsimp only;rw[L.eta]
 refine(N1 L 2).bind λQ k5 h5 C=>?_
 dsimp only;rw[C.eta];cases Q with
 | true=>
  rw[ak]
  refine(awr C).bind λx6 k6 h6 O=>?_
  dsimp only;rw[O.eta];exact Dr.pure O trivial
 |false=>exact Dr.pure C trivial
def JL(a:iP):Prop:=a.nD.weights.length<=1048576
def WtI(i:Int)(a:iP):Prop:=JL a/\(a.request.id=0\/a.request.id=i)
theorem awt{b:aa Int}{c:bF}(J:jx b c){x:eH}(hx:uf x)(i:Int):Dr b (Nn c x i) (WtI i):=by
 have L:=O1 hx.1;have gb:=fP L;unfold Nn;rw[yJ,au,bB (by omega),J.eq];dsimp only
 refine(eU J 12).bind λD k2 h2 C=>?_
 dsimp only;rw[C.eta];have O:∀ l:aa Int,0<l.length->Dr b ((yB k2 l).bind λE=>some ((⟨(2:Int),⟨(0:Int),(0:Int),(0:Int),false,(0:Int),(0:Int)⟩,E.1,(0:Int),⟨(0:Int),(0:Int),(0:Int)⟩,⟨(0:Int),(0:Int),(0:Int),(0:Int),(0:Int),[],⟨(0:Int),(0:Int)⟩⟩⟩:iP),((⟨b,E.2.1.i,E.2.1.h⟩:bF),()))) (WtI i):=λl hl=>by
  refine(N0 C l hl).bind λy k hy Q=>?_
  dsimp only;rw[Q.eta];exact Dr.pure Q ⟨by show (0:Nat)<=1048576;omega,.inl rfl⟩
 cases h0:D==(0:Int)with
 | true=>
  rw[ak,ak];exact O _ (by simp)
 |false=>
 rw[aq];cases h1:D==(1:Int)with
 | true=>
  rw[ak];exact O _ (by simp)
 |false=>
 rw[aq];cases D==(2:Int)with
 | true=>
  rw[ak]
  refine(asA C L).bind λy5 k5 h5 T=>?_
  dsimp only;rw[T.eta]
  refine(eU T 11).bind λy6 k6 h6 U=>?_
  dsimp only;rw[U.eta]
  refine(eU U 16).bind λy7 k7 h7 Y=>?_
  dsimp only;rw[Y.eta];exact Dr.pure Y ⟨by show (0:Nat)<=1048576;omega,.inl rfl⟩
 |false=>
 rw[aq];cases D==(3:Int)with
 | true=>
  rw[ak]
  refine(N0 C _ (by simp)).bind λy8 k8 h8 Z=>?_
  dsimp only;rw[Z.eta]
  refine(eU Z 2).bind λy9 k9 h9 Bu=>?_
  rw[nU,au];dsimp only;rw[Bu.eta]
  refine(eU Bu _).bind λyz Uj OB agJ=>?_
  dsimp only;rw[agJ.eta]
  refine(eU agJ _).bind λnh Ui jJ agK=>?_
  dsimp only;rw[agK.eta]
  refine(afj agK).bind λpL Uq jo agL=>?_
  dsimp only;rw[agL.eta];have hl:=(BN jo).2.2;exact Dr.pure agL ⟨by show pL.weights.length<=1048576;omega,.inl rfl⟩
 |false=>
 rw[aq]
 refine(aws C _).bind λtW k14 kF agM=>?_
 dsimp only;rw[agM.eta]
 refine(N1 agM 2).bind λAY k15 kj I=>?_
 dsimp only;rw[I.eta];cases AY with
 | true=>
  rw[ak]
  refine(eU I 3).bind λpM k16 jq agN=>?_
  dsimp only;rw[agN.eta];exact Dr.pure agN ⟨by show (0:Nat)<=1048576;omega,.inr rfl⟩
 |false=>exact Dr.pure I ⟨by show (0:Nat)<=1048576;omega,.inr rfl⟩
theorem awu{b:aa Int}{c:bF}(O:jx b c){x:eH}(Y:uf x)(m:Nat)(hm:m<=100):Dr b (Np c x (m:Int)) λl=>l.length<=m+1/\∀ a∈l,JL a/\a.request.id<=(m:Int)+1:=by
 unfold Np bw;rw[O.eq];obtain⟨z,e,C,bx,D,hl,E,rfl⟩:=UE (step:=H7) (m+1) (λk s=>∃ (C:bF) (bx:aa iP),jx b C/\bx.length=k/\(∀ a∈bx,JL a/\a.request.id<=(m:Int)+1)/\s=(((),(m:Int),(),(),(k:Int),()),(((),C.i,C.h,()),x,bx,b,())))
  (λz=>∃(C:bF) (bx:aa iP),jx b C/\bx.length<=m+1/\(∀a∈bx,JL a/\a.request.id<=(m:Int)+1)/\z = .inl (((),()),(bx,((),C.i,C.h,()),b,()))) aZ (x:=(((),(m:Int),(),(),(0:Int),()),(((),c.i,c.h,()),x,([]:aa iP),b,()))) ⟨c,[],O,rfl,λa ha=>(by cases ha),rfl⟩ (by
  rintro k hk s ⟨C,bx,D,hl,E,rfl⟩;unfold H7 aB xG;dsimp only;rw[D.eta,bf (n:=(m:Int)+1) (by omega) (by omega)];obtain⟨Q,J,L,I,T⟩:=eU D ((m:Int)+1);rw[L,au];dsimp only;by_cases U:(k:Int)<Q
  ·obtain⟨Z,k2,e2,An,h2,h3⟩:=awt I Y (W6 ((k:Int)+1));rw[aW U,ak,I.eta,e2,au];dsimp only;rw[bf (n:=(k:Int)+1) (by omega) (by omega)]at h3;rw[dh (by rw[ij];omega),ak,bP (by omega)]
   refine .inl ⟨_,rfl,k2,bx++[Z],An,by rw[mK,ij,hl],λa ha=>?_,rfl⟩
   rcases List.mem_append.1 ha with ha|ha
   ·exact E a ha
   ·rw[kY.1 ha];exact⟨h2,by omega⟩
  ·rw[br U,aq];exact .inr ⟨_,rfl,J,bx,I,by omega,E,rfl⟩) (by
  rintro s ⟨C,bx,D,hl,E,rfl⟩;unfold H7 aB xG;dsimp only;rw[D.eta,bf (n:=(m:Int)+1) (by omega) (by omega)];obtain⟨Q,J,L,I,T⟩:=eU D ((m:Int)+1);have WX:=T.2.2 (by omega);rw[L,au];dsimp only;rw[br (by omega),aq];exact⟨_,rfl,J,bx,I,by omega,E,rfl⟩) (bY (by omega))
 rw[e,au];simp only[eO];rw[D.eta];exact Dr.pure D ⟨hl,E⟩
abbrev JM:=aj (af×(av×af))
def Ks(s:av)(o:JM):Prop:=∃y,o=some ((),(y,()))/\dO y/\dU y=true/\Nx s y
theorem awv{c:av}(h:fq c.bu=true){n:Int}(U:2<=n/\n<=10000):∃ r,HL c n=some ((),(pW c r,()))/\fq r=true/\r.aU.length=c.bu.aU.length:=by
 have hl:=v5 h;have C:=Vr h;have Y:1<=c.bu.wait/\c.bu.wait<=10000:=by
  simp only[fq,aK,bC]at h;exact h.2.2
 have mk:∀ (l:aa Int) (w:Int) (b:Bool),l.length=c.bu.aU.length->(∀ x∈l,-2<=x/\x<=5)->1<=w/\w<=10000->fq ⟨l,w,b⟩=true:=λl w b Z J L=>by
  simp only[fq,aK,cv,ud,bC];exact⟨J,by omega,L⟩
 have D:W6 (c.bu.wait-1)=c.bu.wait-1:=bf (by omega) (by omega);unfold HL bw;by_cases E:c.bu.wait-1 > 0
 ·rw[D,aW E,ak];exact⟨⟨c.bu.aU,c.bu.wait-1,c.bu.dR⟩,rfl,mk _ _ _ rfl C (by omega),rfl⟩
 ·have e:=dx (step:=HK) c.bu.aU.length (λi=>(((),n,(i:Int),()),(pW c ⟨upto wC c.bu.aU i,c.bu.wait-1,c.bu.dR⟩,()))) (.inl (((),n,()),(pW c ⟨c.bu.aU.map wC,c.bu.wait-1,c.bu.dR⟩,()))) aZ (λi hi=>by
   have hlen:=IX wC c.bu.aU i;unfold HK pW aB xG xL;dsimp only;rw[aW (by omega),ak,aG ⟨by omega,by omega⟩,aG (by omega),aG ⟨by omega,by omega⟩,aG (by omega),bP (by omega)];simp only[bJ];rw[NS wC c.bu.aU i hi,<-NT wC c.bu.aU i hi];rfl) (by
   unfold HK pW aB xG xL;dsimp only;rw[NR,br (by rw[cZ];omega),aq]) (bY (by omega))
  rw[cA,NQ]at e;have I:∀ x∈c.bu.aU.map wC,-2<=x/\x<=5:=λx O=>by
   obtain⟨d,Q,rfl⟩:=List.mem_map.1 O;have:=C d Q;unfold wC;rw[bf (n:=d+1) (by omega) (by omega)];split<;>omega
  have T:W6 (n.tdiv 2)=n / 2:=by rw[qM (by omega)];exact bf (by omega) (by omega)
  rw[D,br E,aq]
  refine(bD (λo=>∃r,Option.bind o _=some ((),(pW c r,()))/\fq r=true/\r.aU.length=c.bu.aU.length) e).mpr ?_
  rw[au];simp only[eO,pW];rw[T];cases c.bu.dR with
  |true=>exact⟨⟨c.bu.aU.map wC,n / 2,true⟩,rfl,mk _ _ _ (by simp) I (by omega),by simp⟩
  |false=>exact⟨⟨c.bu.aU.map wC,n,false⟩,rfl,mk _ _ _ (by simp) I (by omega),by simp⟩
theorem aww{c:av}(h:pO c.config.ay c.array=true):∃ a,HN c 1=some ((),(eG c a,()))/\pO c.config.ay a=true:=by
 have E:cF c.config.ay=true:=(at3 h).1;have C:=fD.uk h;have hb:=sJ c.config.ay;have hl:=C.bI
 refine⟨⟨c.array.cells,c.array.bI.map (rG 1),c.array.bG⟩,?_,wA E ⟨C.cells,C.syms,by rw[cZ];exact C.bI,C.bG,λx D=>?_,C.oM⟩⟩
 ·have e:=dx (step:=HM) c.array.bI.length (λi=>(((),(1:Int),(i:Int),()),(eG c ⟨c.array.cells,upto (rG 1) c.array.bI i,c.array.bG⟩,()))) (.inl ((),(eG c ⟨c.array.cells,c.array.bI.map (rG 1),c.array.bG⟩,()))) aZ (λi hi=>by
   have hlen:=IX (rG 1) c.array.bI i;have D:=C.I4 _ (cP hi);unfold HM eG aB xG xL;dsimp only;rw[aW (by omega),ak,aG ⟨by omega,by omega⟩,aG (by omega),aG ⟨by omega,by omega⟩,aG (by omega),bP (by omega)];simp only[bJ];rw[NS (rG 1) c.array.bI i hi,bf (n:=c.array.bI[i]+1) (by omega) (by omega),<-NT (rG 1) c.array.bI i hi];rfl) (by
   unfold HM eG aB xG xL;dsimp only;rw[NR,br (by rw[cZ];omega),aq]) (bY (by omega))
  rw[cA,NQ]at e;unfold HN bw;exact(bD (λo=>Option.bind o _) e).trans rfl
 ·obtain⟨y,I,rfl⟩:=List.mem_map.1 D;exact aeE (C.I4 y I) (by decide)
theorem awx(q:aa aM)(w:Bool)(hl:q.length<1073741824):∃ n,HH q w=some n:=by
 unfold HH bw;have e:=dx (step:=HG) q.length (λi=>((q,w,(((q.take i).countP λr=>r.write==w:Nat):Int),(i:Int),()),())) (.inl (((((q.take q.length).countP λr=>r.write==w:Nat):Int),()),())) aZ (λk C=>by
  have D:=List.countP_le_length (p:=λr:aM=>r.write==w) (l:=q.take k);rw[fR]at D;unfold HG aB xG xI;dsimp only;rw[aW (by omega),ak,aG ⟨by omega,by omega⟩,bP (by omega)];simp only[bJ];rw[sK C,List.countP_append,List.countP_singleton];cases q[k].write==w with
  |true=>rw[ak,bP (by omega)];rfl
  |false=>rw[aq,bP (by omega)];rfl) (by
  unfold HG aB xG xI;dsimp only;rw[br (by omega),aq]) (bY (by omega))
 rw[cA]at e;exact⟨_,(bD (λo=>Option.bind o _) e).trans rfl⟩
theorem awy{d:iq}(h:lS d=true)(n:Int):∃ y,HF d n=some y/\lS y=true:=by
 unfold HF;rw[UT,au,h,bR,aq];cases decide (n >= d.high)with
 | true=>
  cases decide (n<=d.low)with
  |true=>exact⟨_,rfl,h⟩
  |false=>exact⟨_,rfl,h⟩
 | false=>
  cases decide (n<=d.low)with
  |true=>exact⟨_,rfl,h⟩
  |false=>exact⟨_,rfl,h⟩
theorem awz{p:eY}(h:ji p=true)(w:Bool):∃ y,HI p w=some y/\ji y=true/\y.state=p.state/\y.since=p.since:=by
 unfold HI;rw[U1,au,h,bR,aq];simp only[ji,aK,bC]at h;cases w with
 |true=>exact⟨_,rfl,by simp only[ji,aK,bC];omega,rfl,rfl⟩
 | false=>
  refine⟨_,rfl,?_,rfl,rfl⟩;rw[bf (n:=p.idle+1) (by omega) (by omega)];simp only[ji,aK,bC];split<;>omega
theorem awA(b:gz)(h:DZ b)(x:Bool):∃ t,HJ b x=some (bif t then ⟨b.next,b.next,false⟩else b,t):=by
 have C:b.next.weights.length<=1048576:=h.2
 unfold HJ;rw[Vd b h,au];cases x with
 |false=>exact⟨false,rfl⟩
 | true=>
  cases b.waits with
  |false=>exact⟨false,rfl⟩
  | true=>
   refine⟨true,?_⟩;unfold tU;rw[gP _ (by omega)];rfl
theorem awB{c:eH}{p:dF}(hl:p.weights.length<1073741823)(h:mG c p=true):∃ l t,yj p.weights=some (l,t)/\gj l=true/\(l.length:Int)=4/\lS ⟨false,p.low,p.high⟩=true:=by
 obtain⟨l,t,e,C⟩:=awi hl h;rw[UR _ hl]at e;exact⟨l,t,by rw[US _ hl];exact e,C⟩
theorem awC{s:l5}{n:Int}(C:aJ s.every 1 100000=true)(D:aJ s.wait 1 s.every=true)(E:aJ s.next 0 (W6 (n-1))=true)(T:1<=n/\n<=1000000):∃ y m,AX s n=some (y,m)/\aJ y.every 1 100000=true/\aJ y.wait 1 y.every=true/\aJ y.next 0 (W6 (n-1))=true/\m<n:=by
 have L:=bC.1 C;have U:=bC.1 D;have I:W6 (n-1)=n-1:=bf (by omega) (by omega);have O:=bC.1 E;rw[I]at O;unfold AX;rw[ei,au,C,bR,aq,ei,au,D,bR,aq,br (show ¬ n<1 by omega),aq,br (show ¬ s.next<0 by omega),aq,br (show ¬ s.next >= n by omega),aq,bf (n:=s.wait-1) (by omega) (by omega)];by_cases J:s.wait-1 > 0
 ·rw[aW J,ak];exact⟨_,_,rfl,C,bC.2 ⟨by dsimp only;omega,by dsimp only;omega⟩,E,by omega⟩
 ·rw[br J,aq,bB (by omega),bf (n:=s.next+1) (by omega) (by omega)];refine⟨_,_,rfl,C,bC.2 ⟨L.1,Int.le_refl _⟩,?_,by omega⟩;rw[I,p9 (by omega)];have Q:=Int.emod_nonneg (s.next+1) (show n≠0 by omega);have Y:=Int.emod_lt_of_pos (s.next+1) (show 0<n by omega);exact bC.2 ⟨Q,by dsimp only;omega⟩
def uv(j:av)(b:gz)(s:aa cq)(d:iq)(p:eY)(u:l5):av:=⟨j.config,b,j.now,j.bh,j.ready,j.array,j.spare,j.bu,j.bN,j.guard,j.pending,j.queue,s,d,p,u,j.errors,j.trace,j.cC⟩
def O4(x:av):JM:=(yA x).bind λC=>(let D:Bool -> JM:=λE=>bif E then (yx x C.1 C.2).bind λI=>some ((),(I.2.1,()))else some ((),(x,()));bif (C.1.kind != (0:Int))then (yp x C.1 C.2).bind λJ=>(D J)else (D false))
def O5(x:av)(n:Int):JM:=bif (decide (n >= (0:Int)))then (AO x n).bind λC=>(AN C.2.1 n C.1.2).bind λD=>O4 D.2.1 else O4 x
def Ef(j:av):JM:=(HH j.queue true).bind λL=>(HF j.drain L).bind λD=>(AR (uv j j.box j.shares D j.bg j.cT)).bind λO=>(HI j.bg O).bind λE=>(HJ j.box ((j.queue.length:Int)==(0:Int))).bind λC=>bif C.2 then (yj C.1.bZ.weights).bind λQ=>(rq j.config.ay).bind λT=>(AX j.cT T).bind λI=>O5 (uv j C.1 Q.1 ⟨false,C.1.bZ.low,C.1.bZ.high⟩ E I.1) I.2 else (rq j.config.ay).bind λU=>(AX j.cT U).bind λJ=>O5 (uv j C.1 j.shares D E J.1) J.2
theorem VY{x:av}(C:dO x)(D:dU x=true):Ks x (O4 x):=by
 have h:=Pq.of C D;have same:Ks x (some ((),(x,()))):=⟨x,rfl,C,D,Nx.refl x⟩
 unfold O4;rw[awf h,au];dsimp only;generalize (bif decide ((x.trace.length:Int) >= 2000)then (BJ,-1)else VS x:aI×Int)=p;obtain⟨cmd,i⟩:=p;dsimp only;cases cmd.kind != (0:Int)with
 |false=>exact same
 | true=>
  rw[ak,avE h,au];cases hm:zf x cmd i with
  |false=>exact same
  | true=>
   obtain⟨hb,E,I,J⟩:=agf C h hm;rw[ak,avu hb E I (λr J=>VC h J),au];exact⟨wz x cmd i,rfl,avB C hb J E I,(Ck.iss C (Ck.of D) hm).ok,awh (Of E).2.2.1 λq=>(I q).1.i⟩
theorem agO{x:av}(L:dO x)(h:dU x=true){n:Int}(hn:n<cX x.config.ay):Ks x (O5 x n):=by
 unfold O5;by_cases E:n >= 0
 ·have C:=Ck.of h;have I:=fD.uk C.ar;have O:=(yT C.rk).1;have hl:=I.cells;have hb:=nW x.config.ay;obtain⟨j,rfl⟩:=fI E;have Q:j<x.array.cells.length:=by omega
  have J:=I.syms _ (cP Q);have hec:=VE J;have D:fD x.config.ay 100000 ⟨x.array.cells.set j (rP x.array.cells[j]),x.array.bI,x.array.bG⟩:=I.Bv _ (Vw J);have p:=fV.of C.pa;have iH:=(Ek.of C.er).l;rw[aW E,ak,afY Q J,au];dsimp only;rw[af3 (c:=uj x j (rP x.array.cells[j])) C.er ⟨by omega,by omega⟩ hec,au];dsimp only;obtain⟨T,U,Y,z5,Z,z7,z8,z9,kA,kV,jz,jA,jB,mH⟩:=L;have Td:dO (uj x j (rP x.array.cells[j])):=⟨T,U,Y,um D,Z,z7,z8,z9,kA,kV,jz,jA,jB,mH⟩
  have R0:Ck (uj x j (rP x.array.cells[j])):=⟨C.f1,C.f2,C.nw,C.rk,C.rd,wA O D,C.sp,C.se,C.rf,(show fV (uj x j (rP x.array.cells[j]))from ⟨p.dl,p.tl,p.gl,p.t,p.g,p.pd,p.u⟩).ok,C.qu,C.sh,C.sl,C.dr,C.pw,C.ps,C.si,C.s1,C.s2,C.s3,C.er,C.tr,C.rp⟩
  unfold OM;by_cases e:lU x.array.cells[j]=0
  ·rw[e];exact VY Td R0.ok
  ·rw[iT e,ak];have he:=agq (l:=x.errors) C.er (n:=(j:Int)) ⟨by omega,by omega⟩ (code:=lU x.array.cells[j]) (by omega);have hle:=agb (l:=x.errors) (j:Int) (lU x.array.cells[j]);exact VY (x:=OL (uj x j (rP x.array.cells[j])) (sU x.errors (j:Int) (lU x.array.cells[j]))) ⟨T,U,Y,um D,Z,z7,z8,z9,kA,kV,jz,by show (sU x.errors (j:Int) (lU x.array.cells[j])).length<=_;omega,jB,mH⟩ (Ck.ok ⟨C.f1,C.f2,C.nw,C.rk,C.rd,wA O D,C.sp,C.se,C.rf,(show fV (OL (uj x j (rP x.array.cells[j])) (sU x.errors (j:Int) (lU x.array.cells[j])))from ⟨p.dl,p.tl,p.gl,p.t,p.g,p.pd,p.u⟩).ok,C.qu,C.sh,C.sl,C.dr,C.pw,C.ps,C.si,C.s1,C.s2,C.s3,he,C.tr,C.rp⟩)
 ·rw[br E,aq];exact VY L h
theorem agP{c:av}(O:dO c)(Q:dU c=true):Ks c (Ef c):=by
 have h:=Ck.of Q;obtain⟨C,T,U,Y,Z,z7,z8,z9,kA,kV,jz,jA,jB,mH⟩:=O;have p:=fV.of h.pa;have hb:=nW c.config.ay;have hLp:1<=cX c.config.ay:=by
  have:=bC.1 h.s3;rw[bf (n:=cX c.config.ay-1) (by omega) (by omega)]at this;omega
 have w2:c.box.next.weights.length<=1048576:=C.2
 obtain⟨n,e1⟩:=awx c.queue true (by omega);obtain⟨d,e2,D⟩:=awy h.dr n;have e3:AR (uv c c.box c.shares d c.bg c.cT)=some (D0 (uv c c.box c.shares d c.bg c.cT)):=afE (c:=uv c c.box c.shares d c.bg c.cT) h.rf;obtain⟨pw,e4,L3,FY,hp3⟩:=awz h.pw (D0 (uv c c.box c.shares d c.bg c.cT));obtain⟨t,e5⟩:=awA c.box C ((c.queue.length:Int)==(0:Int));obtain⟨u,m,J,QS,QT,hu3,L⟩:=awC h.s1 h.s2 h.s3 ⟨hLp,by omega⟩;have key:∀ (b:gz) (s:aa cq) (d:iq),DZ b->mG c.config b.bZ=true->mG c.config b.next=true->gj s=true->(s.length:Int)=4->lS d=true->dO (uv c b s d pw u)/\dU (uv c b s d pw u)=true:=λb s d yg iw hb3 hs1 VW D=>
  ⟨⟨yg,T,U,Y,Z,z7,z8,z9,kA,kV,by show s.length<=_;omega,jA,jB,mH⟩,Ck.ok ⟨iw,hb3,h.nw,h.rk,h.rd,h.ar,h.sp,h.se,h.rf,(show fV (uv c b s d pw u)from ⟨p.dl,p.tl,p.gl,p.t,p.g,p.pd,p.u⟩).ok,h.qu,hs1,VW,D,L3,FY.trans h.ps,by show pw.since<=c.now;rw[hp3];exact h.si,QS,QT,hu3,h.er,h.tr,h.rp⟩⟩
 unfold Ef;rw[e1,au,e2,au,e3,au,e4,au,e5,au];dsimp only;cases t with
 | false=>
  rw[aq,aq,yJ,au,J,au];obtain⟨E,I⟩:=key c.box c.shares d C h.f1 h.f2 h.sh h.sl D;exact agO E I L
 | true=>
  obtain⟨l,t2,e7,th,lD,VM⟩:=awB (p:=c.box.next) (by omega) h.f2;rw[ak,ak];dsimp only;rw[e7,au,yJ,au,J,au];obtain⟨E,I⟩:=key ⟨c.box.next,c.box.next,false⟩ l ⟨false,c.box.next.low,c.box.next.high⟩ ⟨C.2,C.2⟩ h.f2 h.f2 th lD VM;exact agO E I L
def wE(c:av)(n:Int):av:=⟨c.config,c.box,n,c.bh,c.ready,c.array,c.spare,c.bu,c.bN,c.guard,c.pending,c.queue,c.shares,c.drain,c.bg,c.cT,c.errors,c.trace,c.cC⟩
theorem awD{c:av}(hz:dO c)(hk:dU c=true)(hi:2<=c.config.interval/\c.config.interval<=10000)(hn:c.now<1000000):∃ y,M5 c=some ((),(y,()))/\dO y/\dU y=true/\OX c y:=by
 have h:=Ck.of hk;have p:=fV.of h.pa;have hnw:=bC.1 h.nw;have z:=hz;obtain⟨z1,z2,z3,z5,z6,z7,z8,z9,kA,kV,jz,jA,jB,mH⟩:=z;have e1:W6 (c.now+1)=c.now+1:=bf (by omega) (by omega);have O:∀ (j:av),j.now=c.now+1->j.config=c.config->j.queue=c.queue->j.cC=c.cC->j.trace=c.trace->Ks j (Ef j)->∃ y,Ef j=some ((),(y,()))/\dO y/\dU y=true/\OX c y:=λj Q j2 j3 j4 j5 hj=>by
  obtain⟨y,f1,f2,f3,T,U,Y,D,Z⟩:=hj;rw[Q]at T;rw[j2]at U;rw[j3]at Y D;rw[j4]at D;rw[Q,j5]at Z;exact⟨y,f1,f2,f3,T,U,Y,D,Z⟩
 have key:∀ (r:dc) (a:dP),fq r=true->r.aU.length=c.bu.aU.length->pO c.config.ay a=true->dO (eG (pW (wE c (c.now+1)) r) a)/\dU (eG (pW (wE c (c.now+1)) r) a)=true:=λr a E I C=>by
  refine⟨⟨z1,z2,z3,um (fD.uk C),z6,by have:=z7;unfold Bw at this ⊢;show r.aU.length<=_;omega,z8,z9,kA,kV,jz,jA,jB,mH⟩,Ck.ok ⟨h.f1,h.f2,bC.2 ⟨by show 0<=c.now+1;omega,by show c.now+1<=_;omega⟩,h.rk,h.rd,C,h.sp,h.se,E,(show fV (eG (pW (wE c (c.now+1)) r) a)from ⟨by show (r.aU.length:Int)=_;rw[I];exact p.dl,p.tl,p.gl,p.t,p.g,p.pd,p.u⟩).ok,h.qu,h.sh,h.sl,h.dr,h.pw,h.ps,by show c.bg.since<=c.now+1;have:=h.si;omega,h.s1,h.s2,h.s3,h.er,h.tr,h.rp⟩⟩
 unfold M5;rw[br (show ¬ c.now >= 1000000 by omega),aq,e1];show ∃y,(bif (c.bh.bg != (2:Int))then (HL (wE c (c.now+1)) c.config.interval).bind λy1=>(HN y1.2.1 (1:Int)).bind λy2=>Ef y2.2.1 else Ef (wE c (c.now+1)))=some ((),(y,()))/\dO y/\dU y=true/\OX c y;cases c.bh.bg != (2:Int)with
 | true=>
  obtain⟨r,f1,E,I⟩:=awv (c:=wE c (c.now+1)) h.rf hi;obtain⟨a,f2,C⟩:=aww (c:=pW (wE c (c.now+1)) r) h.ar;obtain⟨J,L⟩:=key r a E I C;rw[ak,f1,au];dsimp only;rw[f2,au];exact O _ rfl rfl rfl rfl rfl (agP J L)
 | false=>
  obtain⟨J,L⟩:=key c.bu c.array h.rf rfl h.ar;rw[aq];exact O (wE c (c.now+1)) rfl rfl rfl rfl rfl (agP (c:=wE c (c.now+1)) J L)
theorem VZ{g:aN}{s:c9}{D R:Nat}(h:Sp g s D R)(b r:Int):HT g s b r=some (bif dA (cU g s) ⟨b,r,0⟩then b*(R:Int)+r else -1):=by
 obtain⟨T,U,Y,Z,h8,jq,jP,hc,Od,KE⟩:=h.wD;have hR:W6 (g.rows-s.bH)=(R:Int):=by rw[h.hR];exact bf (by omega) (by omega)
 unfold HT;rw[aeZ,au,h.ok,bR,aq,nU,au,h.hb,hR,bf (n:=(D:Int)-1) (by omega) (by omega),bf (n:=(R:Int)-1) (by omega) (by omega),ei,au];by_cases E:0<=b/\b<(D:Int)
 ·rw[bC.2 ⟨E.1,by omega⟩,bR,aq,ei,au];by_cases J:0<=r/\r<(R:Int)
  ·have I:=(h.ex b r).2 ⟨E,J⟩;obtain⟨b,rfl⟩:=fI E.1;have O:=(h.lens (b:=b) (by omega)).1;have axw:=(h.lens (b:=b) (by omega)).2.1;rw[fQ]at O;have Q:W6 ((b:Int)*(R:Int))=((b*R:Nat):Int):=by rw[<-Int.natCast_mul];exact bf (by omega) (by omega)
   rw[bC.2 ⟨J.1,by omega⟩,bR,aq,I,ak,Q,bf (by omega) (by omega),Int.natCast_mul]
  ·have I:dA (cU g s) ⟨b,r,0⟩=false:=by
    cases C:dA (cU g s) ⟨b,r,0⟩with
    |false=>rfl
    |true=>exact absurd ((h.ex b r).1 C).2 J
   have L:aJ r 0 ((R:Int)-1)=false:=by
    cases C:aJ r 0 ((R:Int)-1)with
    |false=>rfl
    |true=>have:=bC.1 C;exact absurd ⟨this.1,by omega⟩ J
   rw[L,I];rfl
 ·have I:dA (cU g s) ⟨b,r,0⟩=false:=by
   cases C:dA (cU g s) ⟨b,r,0⟩with
   |false=>rfl
   |true=>exact absurd ((h.ex b r).1 C).1 E
  have L:aJ b 0 ((D:Int)-1)=false:=by
   cases C:aJ b 0 ((D:Int)-1)with
   |false=>rfl
   |true=>have:=bC.1 C;exact absurd ⟨this.1,by omega⟩ E
  rw[L,I];rfl
theorem agQ{g:aN}{s:c9}{C R:Nat}(h:Sp g s C R){b r:Nat}(hb:b<C)(I:r<R):vM g s (b:Int) (r:Int)=some (s.map.getD (b*R+r) 0):=by
 have D:=(h.lens hb).1;rw[fQ]at D;have E:=(h.ex (b:Int) (r:Int)).2 ⟨⟨by omega,by omega⟩,by omega,by omega⟩;have e:(b:Int)*(R:Int)+(r:Int)=((b*R+r:Nat):Int):=by rw[Int.natCast_add,Int.natCast_mul]
 unfold vM xI;rw[VZ h,au,E,ak,e,br (by omega),aq,aG ⟨by omega,by rw[bJ];omega⟩];simp only[bJ];rw[nt _ (by omega)]
theorem agR{g:aN}{s:c9}{C R:Nat}(h:Sp g s C R){b r:Int}(D:dA (cU g s) ⟨b,r,0⟩=false):vM g s b r=some (-1):=by
 unfold vM xI;rw[VZ h,au,D];rfl
theorem agS{g:aN}{s:c9}{D R:Nat}(h:Sp g s D R)(b r:Int):∃ y,vM g s b r=some y/\(dA (cU g s) ⟨b,r,0⟩=true->0<=y/\y<g.rows):=by
 cases C:dA (cU g s) ⟨b,r,0⟩with
 |false=>exact⟨-1,agR h C,λh=>by cases h⟩
 | true=>
  obtain⟨⟨E,J⟩,I,a4⟩:=(h.ex b r).1 C;obtain⟨b,rfl⟩:=fI E;obtain⟨r,rfl⟩:=fI I;exact⟨_,agQ h (by omega) (by omega),λ_=>h.bound (by omega) (by omega)⟩
theorem awE{g:aN}{s:c9}{J R:Nat}(h:Sp g s J R){b:Nat}(hb:b<J){x:Int}(E:0<=x):∃ y,Na g s (b:Int) x=some y/\(y<0->∀ k,k<R->s.map.getD (b*R+k) 0≠x):=by
 have U:=h.wD.2.2.2.2.2.1;unfold Na cg;obtain⟨z,e,L⟩:=UE (step:=HU) 16 (λk t=>t=(((b:Int),x,(),(),(k:Int),()),((g.ck,g.aF,g.rows,g.aO,()),(s.bH,s.map,()),()))/\∀ j,j<k->j<R->s.map.getD (b*R+j) 0≠x)
  (λz=>(∃r:Int,0<=r/\z = .inl ((r,()),()))\/(z = .inr (.inl ((),()))/\∀j,j<R->s.map.getD (b*R+j) 0≠x)) aZ (x:=(((b:Int),x,(),(),(0:Int),()),((g.ck,g.aF,g.rows,g.aO,()),(s.bH,s.map,()),()))) ⟨rfl,λj D=>by omega⟩ (by
  rintro k Y t ⟨rfl,C⟩;unfold HU aB bq xG;dsimp only;rw[nY,show (⟨s.bH,s.map⟩:c9)=s from rfl,aW (show (k:Int)<16 by omega),ak,aW (show x >= 0 from E),ak];by_cases O:k<R
  ·rw[agQ h hb O,au];by_cases e:s.map.getD (b*R+k) 0=x
   ·rw[e,ld,ak];exact .inr ⟨_,rfl,.inl ⟨(k:Int),by omega,rfl⟩⟩
   ·rw[jw e,aq,bP (by omega)]
    refine .inl ⟨_,rfl,rfl,λj D I=>?_⟩
    by_cases Q:j=k
    ·subst Q;exact e
    ·exact C j (by omega) I
  ·have T:dA (cU g s) ⟨(b:Int),(k:Int),0⟩=false:=by
    cases E:dA (cU g s) ⟨(b:Int),(k:Int),0⟩with
    |false=>rfl
    |true=>have:=((h.ex (b:Int) (k:Int)).1 E).2;omega
   rw[agR h T,au,jw (show ¬ (-1:Int)=x by omega),aq,bP (by omega)];exact .inl ⟨_,rfl,rfl,λj D I=>C j (by omega) I⟩) (by
  rintro t ⟨rfl,C⟩;unfold HU aB bq xG;dsimp only;rw[br (by omega),aq];exact⟨_,rfl,.inr ⟨rfl,λj D=>C j (by omega) D⟩⟩) (bY (by omega))
 rw[e,au];rcases L with ⟨r,Z,rfl⟩|⟨rfl,C⟩
 ·exact⟨r,rfl,λhn=>by omega⟩
 ·exact⟨-1,rfl,λ_=>C⟩
theorem awF{g:aN}{s:c9}{C R:Nat}(h:Sp g s C R)(b r:Int):∃ y t,Nb g s b r=some (y,t)/\Sp g y C R/\y.bH=s.bH/\(t=true->dA (cU g s) ⟨b,r,0⟩=true):=by
 obtain⟨hg,EY,eg,eb,E,I,jP,hc,Od,KE⟩:=h.wD;have hm:s.map.length<=128:=by
  rw[h.hl];exact Nat.mul_le_mul E I
 have hR:=h.hR;have J:W6 (g.rows-s.bH)=(R:Int):=by rw[h.hR];exact bf (by omega) (by omega)
 unfold Nb Gq cg;rw[dh (by simp;omega),ak,List.nil_append,au,VZ h,au];cases L:dA (cU g s) ⟨b,r,0⟩with
 |false=>exact⟨s,false,rfl,h,rfl,λh=>by cases h⟩
 | true=>
  obtain⟨⟨O,a2⟩,Q,a4⟩:=(h.ex b r).1 L;obtain⟨b,rfl⟩:=fI O;obtain⟨r,rfl⟩:=fI Q;have hb:b<C:=by omega
  have T:r<R:=by omega
  have U:=(h.lens hb).1;have hp:b*R+r<s.map.length:=by
   rw[fQ]at U;omega
  have Y:(b:Int)*(R:Int)+(r:Int)=((b*R+r:Nat):Int):=by rw[Int.natCast_add,Int.natCast_mul]
  rw[ak,Y,br (by omega),aq,J];dsimp only;obtain⟨n,hn⟩:=fI (show 0<=g.rows-(R:Int) by omega);obtain⟨z,e,Z⟩:=UE (step:=HV) n (λk x=>x=(((b:Int),(),(),(),(),((b*R+r:Nat):Int),(R:Int)+(k:Int),()),((g.ck,g.aF,g.rows,g.aO,()),(s.bH,s.map,()),((0:Int),(),()),(s.bH,(),()),([]:aa Int),s.map,())))
   (λz=>(∃i:Int,z = .inl (((),true,()),((s.bH,(),()),s.map.set (b*R+r) i,()))/\(R:Int)<=i/\i<=g.rows-1/\∀k,k<R->s.map.getD (b*R+k) 0≠i)\/z = .inr (.inl (((),(),()),(((0:Int),(),()),(s.bH,(),()),([]:aa Int),s.map,())))) aZ (x:=(((b:Int),(),(),(),(),((b*R+r:Nat):Int),(R:Int),()),((g.ck,g.aF,g.rows,g.aO,()),(s.bH,s.map,()),((0:Int),(),()),(s.bH,(),()),([]:aa Int),s.map,()))) (by rw[cA,Int.add_zero]) (by
   rintro k hk x rfl;obtain⟨y,ey,hy⟩:=awE h hb (x:=(R:Int)+(k:Int)) (by omega);unfold HV aB bq xG xL;dsimp only;rw[nY,aW (show (R:Int)+(k:Int)<g.rows by omega),ak];rw[show (⟨s.bH,s.map⟩:c9)=s from rfl,ey,au];by_cases D:y<0
   ·rw[aW D,ak,aG ⟨by omega,by omega⟩,aG (by omega)];refine .inr ⟨_,rfl,.inl ⟨(R:Int)+(k:Int),?_,by omega,by omega,hy D⟩⟩;simp only[bJ]
   ·rw[br D,aq,bf (n:=(R:Int)+(k:Int)+1) (by omega) (by omega)];exact .inl ⟨_,rfl,by rw[show ((k+1:Nat):Int)=(k:Int)+1 from Int.natCast_succ k,<-Int.add_assoc]⟩) (by
   rintro x rfl;unfold HV aB bq xG xL;dsimp only;rw[br (show ¬ (R:Int)+(n:Int)<g.rows by omega),aq];exact⟨_,rfl,.inr rfl⟩) (bY (by omega))
  rw[e,au];rcases Z with ⟨i,rfl,i1,i2,i3⟩|rfl
  ·exact⟨_,true,rfl,h.set hb T i1 i2 i3,rfl,λ_=>rfl⟩
  ·exact⟨_,false,rfl,h,rfl,λh=>by cases h⟩
theorem awG{c:av}(L:dO c)(D:dU c=true)(t:aL):∃ v y,Nc c t=some (v,(y,()))/\dO y/\dU y=true/\Nx c y:=by
 have h:=Ck.of D;obtain⟨bn,R,E⟩:=Sp.of h.sp;obtain⟨O,EY,eg,eb,h8,jq,jP,hc,Od,KE⟩:=E.wD;obtain⟨f,e1,hf⟩:=agS E t.az t.row;obtain⟨y,v,e2,I,U,ht⟩:=awF E t.az t.row;unfold Nc bw xL;rw[e1,au,e2,au];cases v with
 |false=>exact⟨false,c,rfl,L,D,Nx.refl c⟩
 | true=>
  have Q:=ht rfl;obtain⟨⟨Y,a2⟩,a3,a4⟩:=(E.ex t.az t.row).1 Q;have iI:=(yT h.rk).2.1;have VQ:=E.hb;have hR:=E.hR;obtain⟨f1,f2⟩:=hf Q;have Z:cU c.config.ay y=cU c.config.ay c.spare:=by
   unfold cU;rw[I.ok,h.sp,U]
  obtain⟨q,e3,J⟩:=agS I t.az t.row;have J:=J (by rw[Z];exact Q);rw[bR,aq,aG ⟨Y,by omega⟩,aG (by omega)];dsimp only;cases c.bh.aF[t.az.toNat].open_ with
  |true=>exact⟨false,c,rfl,L,D,Nx.refl c⟩
  | false=>
   rw[aq,e3,au];obtain⟨n,hn⟩:=fI (show 0<=c.config.ay.aO by omega);have gb:=fP O;have Vh:∀(row:Int) (k:Nat),0<=row->row<c.config.ay.rows->k<n->dA c.config.ay ⟨t.az,row,(k:Int)⟩=true:=λrow k r1 r2 D=>vU O Y (by rw[VQ];exact a2) r1 r2 (by dsimp only;omega) (by dsimp only;omega)
   obtain⟨z,e,Cz⟩:=UD (step:=DA) n (λk x=>∃ a:dP,fD c.config.ay 100000 a/\x=(((),(),(),f,(),q,(k:Int),()),(eG c a,(t.az,t.row,t.bT,()),(c.config.ay.ck,c.config.ay.aF,c.config.ay.rows,c.config.ay.aO,()),(y.bH,(),()),y.map,())))
    (λz=>∃a:dP,fD c.config.ay 100000 a/\z = .inl (((),(),()),(eG c a,(y.bH,(),()),y.map,()))) aZ (x:=(((),(),(),f,(),q,(0:Int),()),(c,(t.az,t.row,t.bT,()),(c.config.ay.ck,c.config.ay.aF,c.config.ay.rows,c.config.ay.aO,()),(y.bH,(),()),y.map,()))) ⟨c.array,fD.uk h.ar,rfl⟩ (by
    rintro k D x ⟨a,C,rfl⟩;have at1:=Vh q k J.1 J.2 D;have at2:=Vh f k f1 f2 D;obtain⟨i1,_⟩:=Jh at1;obtain⟨i2,_⟩:=Jh at2;have l1:=C.lt at1;have l2:=C.lt at2;have hsy:=C.syms _ (cP l2);have st:DA (((),(),(),f,(),q,(k:Int),()),(eG c a,(t.az,t.row,t.bT,()),(c.config.ay.ck,c.config.ay.aF,c.config.ay.rows,c.config.ay.aO,()),(y.bH,(),()),y.map,()))=some (.inl (((),(),(),f,(),q,((k+1:Nat):Int),()),(eG c ⟨a.cells.set (hU c.config.ay ⟨t.az,q,(k:Int)⟩) a.cells[hU c.config.ay ⟨t.az,f,(k:Int)⟩],a.bI,a.bG⟩,(t.az,t.row,t.bT,()),(c.config.ay.ck,c.config.ay.aF,c.config.ay.rows,c.config.ay.aO,()),(y.bH,(),()),y.map,()))):=by
     unfold DA aB xG xL xM;dsimp only;rw[nY,aW (show (k:Int)<c.config.ay.aO by omega),ak,NW,au,NW,au,i1,i2];have T:0<=(hU c.config.ay ⟨t.az,f,(k:Int)⟩:Int)/\(hU c.config.ay ⟨t.az,f,(k:Int)⟩:Int).toNat<(eG c a).array.cells.length:=⟨by omega,by simpa [eG]using l2⟩
     have c2:0<=(hU c.config.ay ⟨t.az,q,(k:Int)⟩:Int)/\(hU c.config.ay ⟨t.az,q,(k:Int)⟩)<(eG c a).array.cells.length:=⟨by omega,by simpa [eG]using l1⟩
     rw[aG T,aG T.2,aG T.2];simp only[bJ];rw[aeD _ (by simp only[eG];rw[hsy.1];omega),au,aG c2,aG c2.2,bP (by omega)];rfl
    exact⟨_,st,_,C.Bv _ hsy,rfl⟩) (by
    rintro x ⟨a,C,rfl⟩;unfold DA aB xG xL xM;dsimp only;rw[br (show ¬ (n:Int)<c.config.ay.aO by omega),aq];exact⟨_,rfl,a,C,rfl⟩) (bY (by omega))
   rw[e,au];obtain⟨a,C,rfl⟩:=Cz;have p:=fV.of h.pa;obtain⟨z1,z2,z3,z5,z6,z7,z8,z9,kA,kV,jz,jA,jB,mH⟩:=L;have hml:y.map.length<=128:=by
    rw[I.hl];exact Nat.mul_le_mul h8 jq
   refine⟨true,⟨c.config,c.box,c.now,c.bh,c.ready,a,y,c.bu,c.bN,c.guard,c.pending,c.queue,c.shares,c.drain,c.bg,c.cT,c.errors,c.trace,c.cC⟩,rfl,⟨z1,z2,z3,um C,by show y.map.length<=1048576;omega,z7,z8,z9,kA,kV,jz,jA,jB,mH⟩,Ck.ok ⟨h.f1,h.f2,h.nw,h.rk,h.rd,wA O C,I.ok,U.trans h.se,h.rf,(show fV ⟨c.config,c.box,c.now,c.bh,c.ready,a,y,c.bu,c.bN,c.guard,c.pending,c.queue,c.shares,c.drain,c.bg,c.cT,c.errors,c.trace,c.cC⟩from ⟨p.dl,p.tl,p.gl,p.t,p.g,p.pd,p.u⟩).ok,?_,h.sh,h.sl,h.dr,h.pw,h.ps,h.si,h.s1,h.s2,h.s3,h.er,h.tr,h.rp⟩,rfl,rfl,List.Sublist.refl _,λr hr=>.inl hr,.inl rfl⟩
   show eV (cX (cU c.config.ay y)) c.queue=true;rw[Z];exact h.qu
theorem awH{g:aN}(D:cF g=true):Mg g=some (O0 g):=by
 have E:=nW g;have I:=sJ g;have er:aV g*g.rows=gw g:=by simp[gw,D]
 obtain⟨n,C⟩:=fI E.1;unfold Mg bw;have e:=dx (step:=GB) n (λi=>(((),(),(),(i:Int),()),((g.ck,g.aF,g.rows,g.aO,()),((),(),(),()),((),(),(),()),([]:aa bW),([]:aa Int),([]:aa Int),List.replicate i VV,([]:aa Int),([]:aa Int),()))) (.inl (((),(),(),()),((g.ck,g.aF,g.rows,g.aO,()),((),(),(),()),((),(),(),()),([]:aa bW),([]:aa Int),([]:aa Int),List.replicate n VV,([]:aa Int),([]:aa Int),()))) aZ (λk h=>by
  unfold GB aB xG;dsimp only;rw[nY,yJ,au,C,aW (by omega),ak,bk ⟨by decide,by decide,by decide⟩,dh (by simp;omega),ak,bP (by omega),List.replicate_succ' (n:=k)];rfl) (by
  unfold GB aB xG;dsimp only;rw[nY,yJ,au,C,br (by omega),aq]) (bY (by omega))
 rw[cA,List.replicate_zero]at e
 refine(bD (λo=>Option.bind o _) e).trans ?_
 rw[au];simp only[eO];rw[nY,nU,au,er,bf (n:=gw g) (by omega) (by omega),br (by omega),aq,DT,au,D,bR,aq,bk ⟨by omega,by omega,by omega⟩,bk ⟨by omega,by omega,by omega⟩];unfold O0;rw[C,bJ]
theorem awI{p:dF}(C:vY p):Mh p=some (⟨p,p,false⟩,true):=by
 obtain⟨D,_,E⟩:=BN C;unfold Mh tU;rw[UU _ (by omega),au,D,bR,aq,dh (by simp[E]),ak,List.nil_append,au,au]
theorem awJ:Db 16=some (OZ,true):=by kernel_rfl
theorem awK(Z C:av)(c:eH)(p:dF)(n:Nat)(L:n<=8)(D:c.ir=16)(E:C.bN=[])(I:C.guard=[]):
  iter Dd aZ (((),(),(),(),(n:Int),(0:Int),()),(Z,C,c,(p.eT,p.cap,p.eB,p.low,p.high,p.weights,p.dW.down,p.dW.sleep,()),()))=some (.inl (((),(),(),()),(Z,grow C p.eB n,(p.eT,p.cap,p.eB,p.low,p.high,p.weights,p.dW.down,p.dW.sleep,()),()))):=by
 have e:=dx (step:=Dd) n (λi=>(((),(),(),(),(n:Int),(i:Int),()),(Z,grow C p.eB i,c,(p.eT,p.cap,p.eB,p.low,p.high,p.weights,p.dW.down,p.dW.sleep,()),()))) (.inl (((),(),(),()),(Z,grow C p.eB n,(p.eT,p.cap,p.eB,p.low,p.high,p.weights,p.dW.down,p.dW.sleep,()),()))) aZ (λk h=>by
  unfold Dd grow aB xG;dsimp only;rw[aW (by omega),ak,D,awJ,au,E,I,dh (by simp;omega),ak,dh (by simp;omega),ak,bP (by omega),List.replicate_succ' (n:=k),List.replicate_succ' (n:=k),List.append_assoc,List.append_assoc]) (by
  unfold Dd grow aB xG;dsimp only;rw[br (by omega),aq]) (bY (by omega))
 have J:grow C p.eB 0=C:=by
  unfold grow;simp only[List.replicate_zero,List.append_nil]
 rw[cA,J]at e;exact e
theorem awL{c:eH}{p:dF}(D:uf c)(C:vY p):AF c p=some true:=by
 obtain⟨_,_,E⟩:=BN C;have e:=agG D C;rw[Jk _ _ (by omega)]at e;rw[afg _ _ (by omega)];exact e
theorem awM{c:eH}{p:dF}(C:uf c)(D:vY p):Mj c p=some (rT c p,true):=by
 have E:=O1 C.1;have hb:=fG c.ay;have U:=IY E;obtain⟨Y,J,Z⟩:=BN D;obtain⟨n,I⟩:=fI hb.1;have L:c.ir=16:=C.2.2.2.2.2.1;have hiv:200<=c.interval/\c.interval<=259:=C.2.2.2.2.1;have O:Mi (n:Int) c.interval=some (⟨List.replicate n 0,c.interval,false⟩,true):=by
  unfold Mi;rw[ei,au,bC.2 ⟨by omega,by omega⟩,bR,aq,ei,au,bC.2 ⟨by omega,by omega⟩,bR,aq,bk ⟨by omega,by omega,by omega⟩,bJ]
 have Q:TK 10=some (⟨0,10,10⟩,true):=rfl;have T:vW p.weights=(p.weights.map hJ,true):=by unfold vW;rw[J,ak]
 unfold Mj bw;rw[awL C D,au,bR,aq,atu,au,atG E,au,awH E,au,nU,au,awI D,au,UP,au,I,O,au];dsimp only;rw[awK _ _ c p n (by omega) L rfl rfl,au];simp only[eO];rw[US _ (by omega),au,Q,au,T];unfold rT grow;rw[I,bJ];rfl
def Rv(c:av)(N:Int):Prop:=(∀r∈c.queue,r.id<=N/\r.at_<=c.now)/\∀r∈c.cC,r.id<=N
theorem Rv.nx{c y:av}{N:Int}(h:Rv c N)(D:Nx c y):Rv y N:=by
 obtain⟨E,O,I,J,Q⟩:=D
 refine⟨λr C=>by rw[E];exact h.1 r (I.subset C),λr C=>?_⟩
 rcases J r C with q|⟨q,L,e⟩
 ·exact h.2 r q
 ·rw[e];exact(h.1 q L).1
theorem Rv.ur{c y:av}{N:Int}(h:Rv c N)(D:OX c y):Rv y N:=by
 obtain⟨E,O,I,J,Q⟩:=D
 refine⟨λr C=>?_,λr C=>?_⟩
 ·have:=h.1 r (I.subset C);rw[E];omega
 ·rcases J r C with q | ⟨q,L,e⟩
  ·exact h.2 r q
  ·rw[e];exact(h.1 q L).1
theorem awN{r:dc}(h:fq r=true)(x:Bool):∃ y,M7 r x=some y/\fq y=true/\y.aU.length=r.aU.length:=by
 have hl:=v5 h;have C:=h;simp only[fq,aK,bC]at h;have mk:∀ (w:Int) (b:Bool),1<=w/\w<=10000->fq ⟨r.aU,w,b⟩=true:=λw b D=>by
  simp only[fq,aK,bC];exact⟨h.1,h.2.1,D⟩
 have E:W6 ((W6 (r.wait+1)).tdiv 2)=(r.wait+1) / 2:=by
  rw[bf (n:=r.wait+1) (by omega) (by omega),qM (by omega)];exact bf (by omega) (by omega)
 have I:W6 (W6 (2*r.wait)-1)=2*r.wait-1:=by
  rw[bf (n:=2*r.wait) (by omega) (by omega)];exact bf (by omega) (by omega)
 unfold M7 AD;rw[dh (by simp;omega),ak,List.nil_append,au,N9 _ (by omega),au,C,bR,aq];dsimp only;rw[E,I];cases x with
 | true=>
  cases r.dR with
  |false=>exact⟨_,rfl,mk _ _ (by omega),rfl⟩
  |true=>exact⟨_,rfl,mk _ _ h.2.2,rfl⟩
 | false=>
  cases r.dR with
  |false=>exact⟨_,rfl,mk _ _ h.2.2,rfl⟩
  |true=>exact⟨_,rfl,mk _ _ (by split<;>omega),rfl⟩
theorem awO(b:gz)(C:DZ b)(p:dF)(D:p.weights.length<=1048576):M8 b p=some (bif nZ p then ⟨b.bZ,p,true⟩else b,nZ p):=by
 unfold M8;rw[Vd b C,au,UU _ (by omega),au];cases nZ p with
 |false=>rfl
 | true=>
  unfold tU;rw[bR,aq,gP _ (by omega),ak,List.nil_append];rfl
theorem awP{c:av}(C:dU c=true)(r:aM):(Jp c r).2=(kW c r).1:=by
 unfold Jp kW;rw[C,bR,Bool.false_or];cases (c.cC.any λx=>x.id==r.id)with
 |true=>rw[Bool.or_true];rfl
 |false=>cases (iM c r).2<;>rfl
theorem awQ{c:av}{N:Int}(h:Rv c N){r:aM}(D:r.id<=N):Rv (kW c r).1 N/\(kW c r).1.now=c.now/\(kW c r).1.config=c.config:=by
 unfold kW;cases hb:((!dU c) ||((!(iM c r).2) ||(c.cC.any λx=>x.id==r.id)))with
 |true=>exact⟨h,rfl,rfl⟩
 | false=>
  refine⟨⟨λx hx=>?_,h.2⟩,rfl,rfl⟩
  have hx:x∈(iM c r).1:=hx;unfold iM rK at hx;cases C:(eV (cX (cU c.config.ay c.spare)) c.queue&&eV (cX (cU c.config.ay c.spare)) (fU (λx=>cJ (gQ c r) x) c.queue (gQ c r)))with
  | false=>
   rw[C]at hx;exact h.1 x hx
  | true=>
   rw[C,ak]at hx;unfold fU at hx;rcases List.mem_append.1 hx with hx|hx
   ·rcases List.mem_append.1 hx with hx | hx
    ·exact h.1 x (List.mem_of_mem_take hx)
    ·rw[kY.1 hx];exact⟨D,Int.le_refl _⟩
   ·exact h.1 x (List.mem_of_mem_drop hx)
def Do(c:av)(N:Int)(o:aj (Bool×(av×af))):Prop:=∃t y,o=some (t,(y,()))/\dO y/\dU y=true/\y.config=c.config/\(0<=y.now/\y.now<=c.now+500)/\Rv y N
theorem awR{c:av}{N:Int}(hz:dO c)(I:dU c=true)(hi:2<=c.config.interval/\c.config.interval<=10000)(hn:c.now<=900000)(J:Rv c N){a:iP}(hw:a.nD.weights.length<=1048576)(hid:a.request.id<=N):Do c N (Nd c a):=by
 have h:=Ck.of I;have p:=fV.of h.pa;have L:=bC.1 h.nw;have Q:=hz;obtain⟨Y,z2,z3,z5,z6,z7,z8,z9,kA,kV,jz,jA,jB,mH⟩:=hz;have O:∀t:Bool,Do c N (some (t,(c,()))):=λt=>⟨t,c,rfl,Q,I,rfl,⟨L.1,by omega⟩,J⟩
 unfold Nd xC bw xL xM;cases a.kind==(1:Int)with
 | true=>
  obtain⟨q1,q2⟩:=agI I a.request;obtain⟨v1,v2,v3⟩:=awQ J hid;rw[ak,aus c a.request Q I,au];dsimp only;rw[awP I];exact⟨_,_,rfl,afu c a.request Q,q1,v3,⟨by rw[v2];exact L.1,by rw[v2];omega⟩,v1⟩
 |false=>
 rw[aq];cases a.kind==(2:Int)with
 | true=>
  rw[ak,ei,au];cases T:aJ a.n 0 500 with
  |false=>exact O _
  | true=>
   have hb:=bC.1 T;obtain⟨m,hm⟩:=fI hb.1;rw[bR,aq];obtain⟨z,e,y,rfl,D,E,C,Z,U⟩:=UD (step:=HW) m (λk x=>∃ y:av,x=(((),(),(k:Int),()),(y,a,()))/\dO y/\dU y=true/\y.config=c.config/\(0<=y.now/\y.now=c.now+(k:Int))/\Rv y N) (λz=>∃ y:av,z = .inl ((),(y,()))/\dO y/\dU y=true/\y.config=c.config/\(0<=y.now/\y.now<=c.now+500)/\Rv y N) aZ (x:=(((),(),(0:Int),()),(c,a,()))) ⟨c,rfl,Q,I,rfl,⟨L.1,by omega⟩,J⟩ (by
    rintro k hkk x ⟨y,rfl,D,E,C,Z,U⟩;obtain⟨v,f1,f2,f3,f4⟩:=awD D E (by rw[C];exact hi) (by omega);unfold HW aB xG;dsimp only;rw[hm,aW (show (k:Int)<(m:Int) by omega),ak,f1,au,bP (by omega)];have axx:=f4.1;exact⟨_,rfl,v,rfl,f2,f3,f4.2.1.trans C,⟨by omega,by omega⟩,U.ur f4⟩) (by
    rintro x ⟨y,rfl,D,E,C,Z,U⟩;unfold HW aB xG;dsimp only;rw[hm,br (show ¬ (m:Int)<(m:Int) by omega),aq];exact⟨_,rfl,y,rfl,D,E,C,⟨Z.1,by omega⟩,U⟩) (bY (by omega))
   rw[e,au];exact⟨true,y,rfl,D,E,C,Z,U⟩
 |false=>
 rw[aq];cases a.kind==(3:Int)with
 | true=>
  have hg:=(yT h.rk).1;have ha:=fD.uk h.ar;rw[ak,UF,au];cases c1:dA c.config.ay a.addr with
  |false=>exact O _
  |true=>
  rw[bR,aq,ei,au];cases c2:aJ a.wG 0 10 with
  |false=>exact O _
  |true=>
  unfold vH;rw[bR,aq,ei];cases c3:aJ a.n 0 15 with
  |false=>exact O _
  | true=>
   have b2:=bC.1 c2;have b3:=bC.1 c3;obtain⟨k,hkc⟩:=fI b2.1;have hl:=ha.lt c1;obtain⟨i1,i2⟩:=Jh c1;have hs:=ha.syms _ (cP hl);have hkl:k<c.array.cells[hU c.config.ay a.addr].symbols.length:=by rw[hs.1];omega
   have T:=UK (hs.get hkl) b3;have ha2:fD c.config.ay 100000 ⟨c.array.cells.set (hU c.config.ay a.addr) ⟨c.array.cells[hU c.config.ay a.addr].symbols.set k (bits .xor .i64 c.array.cells[hU c.config.ay a.addr].symbols[k] a.n),c.array.cells[hU c.config.ay a.addr].iO⟩,c.array.bI,c.array.bG⟩:=ha.Bv _ (c:=⟨_,_⟩) (hs.set ⟨T.1,T.2.1⟩);refine⟨true,eG c ⟨c.array.cells.set (hU c.config.ay a.addr) ⟨c.array.cells[hU c.config.ay a.addr].symbols.set k (bits .xor .i64 c.array.cells[hU c.config.ay a.addr].symbols[k] a.n),c.array.cells[hU c.config.ay a.addr].iO⟩,c.array.bI,c.array.bG⟩,?_,⟨Y,z2,z3,um ha2,z6,z7,z8,z9,kA,kV,jz,jA,jB,mH⟩,Ck.ok ⟨h.f1,h.f2,h.nw,h.rk,h.rd,wA hg ha2,h.sp,h.se,h.rf,(show fV (eG c _)from ⟨p.dl,p.tl,p.gl,p.t,p.g,p.pd,p.u⟩).ok,h.qu,h.sh,h.sl,h.dr,h.pw,h.ps,h.si,h.s1,h.s2,h.s3,h.er,h.tr,h.rp⟩,rfl,⟨L.1,by show c.now<=c.now+500;omega⟩,J⟩;simp[NW,i1,hl,hkc,hkl,eG]
 |false=>
 rw[aq];cases a.kind==(4:Int)with
 | true=>
  rw[ak,ei,au];cases T:aJ a.n 0 1 with
  |false=>exact O _
  | true=>
   obtain⟨y,e,D,E⟩:=awN h.rf (a.n==(1:Int));rw[bR,aq,e,au];exact⟨true,pW c y,rfl,⟨Y,z2,z3,z5,z6,by unfold Bw at z7 ⊢;show y.aU.length<=_;omega,z8,z9,kA,kV,jz,jA,jB,mH⟩,Ck.ok ⟨h.f1,h.f2,h.nw,h.rk,h.rd,h.ar,h.sp,h.se,D,(show fV (pW c y)from ⟨by show (y.aU.length:Int)=_;rw[E];exact p.dl,p.tl,p.gl,p.t,p.g,p.pd,p.u⟩).ok,h.qu,h.sh,h.sl,h.dr,h.pw,h.ps,h.si,h.s1,h.s2,h.s3,h.er,h.tr,h.rp⟩,rfl,⟨L.1,by show c.now<=c.now+500;omega⟩,J⟩
 |false=>
 rw[aq];cases a.kind==(5:Int)with
 | true=>
  rw[ak,afg _ _ (by omega),au];cases hf:mG c.config a.nD with
  |false=>exact O _
  | true=>
   have hp:=(D2 (by omega) hf).2;rw[bR,aq,awO c.box Y a.nD hw,au,hp,ak];exact⟨true,⟨c.config,⟨c.box.bZ,a.nD,true⟩,c.now,c.bh,c.ready,c.array,c.spare,c.bu,c.bN,c.guard,c.pending,c.queue,c.shares,c.drain,c.bg,c.cT,c.errors,c.trace,c.cC⟩,rfl,⟨⟨Y.1,hw⟩,z2,z3,z5,z6,z7,z8,z9,kA,kV,jz,jA,jB,mH⟩,Ck.ok ⟨h.f1,hf,h.nw,h.rk,h.rd,h.ar,h.sp,h.se,h.rf,(show fV ⟨c.config,⟨c.box.bZ,a.nD,true⟩,c.now,c.bh,c.ready,c.array,c.spare,c.bu,c.bN,c.guard,c.pending,c.queue,c.shares,c.drain,c.bg,c.cT,c.errors,c.trace,c.cC⟩from ⟨p.dl,p.tl,p.gl,p.t,p.g,p.pd,p.u⟩).ok,h.qu,h.sh,h.sl,h.dr,h.pw,h.ps,h.si,h.s1,h.s2,h.s3,h.er,h.tr,h.rp⟩,rfl,⟨L.1,by show c.now<=c.now+500;omega⟩,J⟩
 |false=>
 rw[aq];cases a.kind==(6:Int)with
 | true=>
  obtain⟨t,y,e,D,E,C⟩:=awG Q I a.addr;rw[ak,e,au];exact⟨t,y,rfl,D,E,C.2.1,⟨by rw[C.1];exact L.1,by rw[C.1];omega⟩,J.nx C⟩
 |false=>exact O _
theorem awS{c:eH}{p:dF}(J:uf c)(O:vY p){bx:aa iP}{N:Int}(hN:0<=N)(hw:∀ a∈bx,JL a/\a.request.id<=N)(hl:bx.length<=60):∃ y n,Ni c p bx=some (y,n)/\dO y/\dU y=true/\y.config=c/\(0<=y.now/\y.now<=30000)/\Rv y N:=by
 have hiv:200<=c.interval/\c.interval<=259:=J.2.2.2.2.1;have hz:=awp J O;have hk:=awq J O;unfold Ni bw;rw[awM J O,au];dsimp only;rw[bR,aq,br (show ¬ (bx.length:Int) > 60 by omega),aq];generalize (⟨⟨⟨(0:Int),(0:Int),(0:Int),(0:Int)⟩,⟨(0:Int),(0:Int),(0:Int),(0:Int),(0:Int),(0:Int),(0:Int),(0:Int),(0:Int),(0:Int),(0:Int),(0:Int),(0:Int),(0:Int),(0:Int),(0:Int),(0:Int)⟩,⟨(0:Int),false⟩,(0:Int),(0:Int),(0:Int),⟨(0:Int),(0:Int)⟩⟩,⟨⟨(0:Int),(0:Int),(0:Int),(0:Int),(0:Int),([]:aa Int),⟨(0:Int),(0:Int)⟩⟩,⟨(0:Int),(0:Int),(0:Int),(0:Int),(0:Int),([]:aa Int),⟨(0:Int),(0:Int)⟩⟩,false⟩,(0:Int),⟨([]:aa eP),(0:Int)⟩,⟨([]:aa Int),([]:aa Int)⟩,⟨([]:aa bW),([]:aa Int),([]:aa Int)⟩,⟨(0:Int),([]:aa Int)⟩,⟨([]:aa Int),(0:Int),false⟩,([]:aa cw),([]:aa Int),([]:aa aL),([]:aa aM),([]:aa cq),⟨false,(0:Int),(0:Int)⟩,⟨(0:Int),(0:Int),(0:Int)⟩,⟨(0:Int),(0:Int),(0:Int)⟩,([]:aa bX),([]:aa fj),([]:aa dz)⟩:av)=Z;obtain⟨z,e,y,n,rfl,D,E,C,L,I⟩:=UD (step:=HX) bx.length (λk x=>∃ (y:av) (n:Int),x=((bx,(),(),n,(k:Int),()),(Z,y,()))/\dO y/\dU y=true/\y.config=c/\(0<=y.now/\y.now<=500*(k:Int))/\Rv y N) (λz=>∃ (y:av) (n:Int),z = .inl (((),(),n,()),(Z,y,()))/\dO y/\dU y=true/\y.config=c/\(0<=y.now/\y.now<=30000)/\Rv y N) aZ (x:=((bx,(),(),(0:Int),(0:Int),()),(Z,rT c p,()))) ⟨rT c p,0,rfl,hz,hk,rfl,⟨Int.le_refl _,Int.le_refl _⟩,λr Q=>(by cases Q),λr Q=>(by cases Q)⟩ (by
  rintro k hkk x ⟨y,n,rfl,D,E,C,L,I⟩;obtain⟨w1,w2⟩:=hw _ (cP hkk);obtain⟨t,v,f1,f2,T,U,Y,f6⟩:=awR D E (by rw[C];omega) (by omega) I (a:=bx[k]) w1 w2;unfold HX aB xG xI;dsimp only;rw[aW (show (k:Int)<(bx.length:Int) by omega),ak,aG ⟨by omega,by omega⟩];simp only[bJ];rw[f1,au,bP (i:=k) (by omega)];dsimp only;cases t with
  |true=>exact⟨_,rfl,v,_,rfl,f2,T,U.trans C,⟨Y.1,by omega⟩,f6⟩
  |false=>exact⟨_,rfl,v,_,rfl,f2,T,U.trans C,⟨Y.1,by omega⟩,f6⟩) (by
  rintro x ⟨y,n,rfl,D,E,C,L,I⟩;unfold HX aB xG xI;dsimp only;rw[br (show ¬ (bx.length:Int)<(bx.length:Int) by omega),aq];exact⟨_,rfl,y,n,rfl,D,E,C,⟨L.1,by omega⟩,I⟩) (bY (by omega))
 refine⟨y,n,?_,D,E,C,L,I⟩
 refine(bD (λo=>Option.bind o _) e).trans ?_
 rw[au];simp only[eO];rw[aun y D,au]
theorem awT(l:aa Int)(h:l.length<=1073741823):∃ y,Nq l=some y/\dO y/\dU y=true/\(0<=y.now/\y.now<=30000)/\Rv y 13:=by
 unfold Nq T6;obtain⟨J,L⟩:=ael l h;have O:=aem l J h;obtain⟨x,k,Q,C,D⟩:=at7 O;obtain⟨p,k2,T,E,U⟩:=afj C;obtain⟨bx,k3,Y,ya,I,Z⟩:=awu E D 12 (by decide);obtain⟨y,n,e4,y1,y2,y3,y4,y5⟩:=awS D U (N:=13) (by decide) (λa I=>Z a I) (by omega);refine⟨y,?_,y1,y2,y4,y5⟩;rw[L,au,Q,au];dsimp only;rw[C.eta,T,au];dsimp only;rw[E.eta]
 refine(bD (λo=>Option.bind (Option.bind o _) _) Y).trans ?_
 rw[au];dsimp only;rw[e4];rfl
theorem awU{p:aM->Bool}{q:aa aM}{r:aM}(h:∀ x∈q,p x=false):fU p q r=q++[r]:=by
 have e:fy p q=q.length:=by
  unfold fy;rw[List.findIdx?_eq_none_iff.2 h];rfl
 unfold fU;rw[e,jF,List.drop_length,List.append_nil]
theorem awV{n:Int}{q:aa aM}{r:aM}(h:eV n q=true)(hl:q.length<12)(E:kT n r=true)(C:∀ x∈q,cJ x r=true/\x.id≠r.id):eV n (q++[r])=true:=by
 unfold eV at h ⊢;rw[aK,cv]at h ⊢
 refine⟨λi hi=>?_,aW (by simp;omega)⟩
 have hi:i<q.length+1:=by simpa using hi
 by_cases c:i<q.length
 ·have D:=h.1 i (eD.2 c);unfold oO at D ⊢;rw[List.getElem?_append_left c,List.getElem?_append_left (by omega),List.take_append_of_le_length (by omega)];exact D
 ·obtain rfl:i=q.length:=by omega
  unfold oO;rw[List.getElem?_append_right (dV _),Nat.sub_self,List.take_left];have I:(q.any λx=>x.id==r.id)=false:=iW.2 λx J=>by simpa using (C x J).2
  simp only[List.getElem?_cons_zero,E,I,gU,Bool.and_true,cM];cases L:q.length with
  |zero=>rfl
  | succ k=>
   rw[Nat.add_sub_cancel,List.getElem?_append_left (by omega),bK (by omega)];rw[dy];exact .inr (C _ (cP (by omega))).1
theorem awW{g:aN}(h:cF g=true):1<=cX g:=by
 have b:=fP h;have C:0<g.ck*g.aF:=Int.mul_pos (by omega) (by omega);have D:0<g.ck*g.aF*g.rows:=Int.mul_pos C (by omega);have E:0<g.ck*g.aF*g.rows*g.aO:=Int.mul_pos D (by omega);unfold cX aV;rw[h,ak,ak];omega
theorem awX{c:av}(C:dU c=true):1<=cX (cU c.config.ay c.spare):=by
 obtain⟨E,R,D⟩:=Sp.of (Ck.of C).sp;exact awW D.wD.2.1
theorem awY{c:av}{N:Int}(C:Rv c N){r:aM}(E:N<r.id):∀ x∈c.queue,cJ x (gQ c r)=true/\x.id≠(gQ c r).id/\cJ (gQ c r) x=false:=λx D=>by
 obtain⟨I,J⟩:=C.1 x D;refine⟨?_,by show x.id≠r.id;omega,?_⟩
 ·unfold cJ gQ;by_cases e:x.at_=c.now
  ·simp only[dy,aK,fH,eS];exact .inr ⟨e,by omega⟩
  ·simp only[dy,aK,fH,eS];exact .inl (by omega)
 ·unfold cJ gQ;simp only[lZ,Bool.and_eq_false_iff,lY,beq_eq_false_iff_ne];exact⟨by omega,.inr (by omega)⟩
def p7(c:av)(r:aM):av:={ c with queue:=c.queue++[gQ c r] }
theorem awZ{c:av}{N:Int}(D:dU c=true)(E:Rv c N){r:aM}(J:N<r.id)(hl:c.queue.length<12)(L:kT (cX (cU c.config.ay c.spare)) (gQ c r)=true):kW c r=(p7 c r,true):=by
 have hb:=awY E J;have I:=(Ck.of D).qu;have O:fU (λx=>cJ (gQ c r) x) c.queue (gQ c r)=c.queue++[gQ c r]:=awU λx C=>(hb x C).2.2
 have Q:(c.cC.any λx=>x.id==r.id)=false:=iW.2 λx C=>by
  have:=E.2 x C;simp only[eS];omega
 unfold kW iM rK;rw[O,I,awV I hl L λx C=>⟨(hb x C).1,(hb x C).2.1⟩,D,Q];rfl
theorem aw0{c:av}(r:aM)(hl:¬ c.queue.length<12):kW c r=(c,false):=by
 have e:eV (cX (cU c.config.ay c.spare)) (fU (λx=>cJ (gQ c r) x) c.queue (gQ c r))=false:=by
  unfold eV;rw[Ot,br (show ¬ ((c.queue.length+1:Nat):Int)<=12 by omega),Bool.and_false]
 unfold kW iM rK;rw[e,Bool.and_false,aq];dsimp only;rw[gU,Bool.true_or,Bool.or_true];rfl
theorem aw1{c:av}(r:aM):(kW (p7 c r) r).2=false:=by
 cases e:eV (cX (cU c.config.ay c.spare)) (fU (λx=>cJ (gQ c r) x) (c.queue++[gQ c r]) (gQ c r))with
 | true=>
  have:=Vb e (gQ c r) (by simp);simp at this
 | false=>
  have C:eV (cX (cU (p7 c r).config.ay (p7 c r).spare)) (fU (λx=>cJ (gQ (p7 c r) r) x) (p7 c r).queue (gQ (p7 c r) r))=false:=e;unfold kW iM rK;rw[C,Bool.and_false,aq];dsimp only;rw[gU,Bool.true_or,Bool.or_true];rfl
theorem agT{x n:Int}(C:0<=x)(D:1<=n):0<=x.tmod n/\x.tmod n<n:=by
 rw[p9 C];exact⟨Int.emod_nonneg x (by omega),Int.emod_lt_of_pos x (by omega)⟩
theorem aw2(l:aa Int)(h:l.length<=maxLen):Uf l=some true:=by
 unfold Uf TA bw;rw[au];by_cases L:(l.length:Int) > 1048576
 ·rw[aW L];rfl
 ·rw[br L,aq];obtain⟨c,e1,O,C,hn,Q⟩:=awT l (by omega);obtain⟨q,e2,tq,D⟩:=ar6 l (by omega);have hL:=awX C;have b0:=D _ (cP (show 0<q.length by omega));have b1:=D _ (cP (show 1<q.length by omega));have b2:=D _ (cP (show 2<q.length by omega));rw[e1,au,e2,au,atl,au,yJ,au,aG ⟨by decide,by simp;omega⟩,aG (by simp;omega),aG ⟨by decide,by simp;omega⟩,aG (by simp;omega),aG ⟨by decide,by simp;omega⟩,aG (by simp;omega),bB (by omega)];rw[show q[(0:Int).toNat]'(by simp;omega)=q[0]from rfl,show q[(1:Int).toNat]'(by simp;omega)=q[1]from rfl,show q[(2:Int).toNat]'(by simp;omega)=q[2]from rfl];rw[show W6 ((500:Int)+q[0])=(500:Int)+q[0]from bf (by omega) (by omega)];obtain⟨T,t2⟩:=agT b1.1 (show (1:Int)<=4 by decide);obtain⟨U,Y⟩:=agT b2.1 hL;generalize q[1].tmod 4=tn at T t2 ⊢;generalize q[2].tmod (cX (cU c.config.ay c.spare))=E at U Y ⊢;obtain⟨id,hid,i1,i2⟩:∃ id:Int,id=(500:Int)+q[0]/\500<=id/\id<10500:=⟨_,rfl,by omega,by omega⟩
  rw[<-hid];generalize Z:(⟨id,tn,E,false,0,77⟩:aM)=r;have aw3:r.id=id:=by rw[<-Z]
  rw[aft c r O,au];by_cases hl:c.queue.length<12
  ·have iz:kT (cX (cU c.config.ay c.spare)) (gQ c r)=true:=by
    rw[<-Z];show kT (cX (cU c.config.ay c.spare)) (⟨id,tn,E,false,0,c.now⟩:aM)=true;unfold kT I9;dsimp only;rw[bC.2 ⟨by omega,by omega⟩,bC.2 ⟨T,by omega⟩,aW U,aW Y,bC.2 ⟨hn.1,by omega⟩];rfl
   have en:=awZ C Q (by omega) hl iz;have An:=(agI C r).1;have I:=afu c r O;rw[en]at An I;rw[en,br (show ¬ (c.queue.length:Int) >= 12 by omega),aq];dsimp only;rw[aft _ r I,au,aw1];have hlen:(p7 c r).queue.length=c.queue.length+1:=by simp[p7]
   have e:=dx (step:=IM) (c.queue.length+1) (λi=>(((),(),(),true,false,((i-c.queue.length:Nat):Int),(i:Int),()),(c,p7 c r,(id,tn,E,false,(0:Int),(77:Int),()),()))) (.inl (((),true,false,(1:Int),()),(p7 c r,()))) aZ (λi hi=>by
    unfold IM aB xG xL;dsimp only;rw[aW (by omega),ak,aG ⟨by omega,by omega⟩,aG (by omega),aG ⟨by omega,by omega⟩,aG (by omega),bP (i:=i) (by omega),bP (i:=i-c.queue.length) (by omega)];simp only[bJ];by_cases O2:i<c.queue.length
    ·have J:(p7 c r).queue[i]=c.queue[i]:=List.getElem_append_left O2;have:=(Q.1 _ (cP O2)).1;rw[J,jw (show ¬ c.queue[i].id=id by omega),aq,show i-c.queue.length=i+1-c.queue.length by omega]
    ·obtain rfl:i=c.queue.length:=by omega
     have J:(p7 c r).queue[c.queue.length]=gQ c r:=by simp[p7]
     rw[J,show (gQ c r).id=id from aw3,show (gQ c r).at_=c.now from rfl,ld,ld,ak,ak,Nat.sub_self,show c.queue.length+1-c.queue.length=1 by omega]) (by
    unfold IM aB xG xL;dsimp only;rw[br (by omega),aq,show c.queue.length+1-c.queue.length=1 by omega];rfl) (bY (by omega))
   rw[Nat.zero_sub,cA]at e
   refine(bD (λo=>Option.bind o _) e).trans ?_
   rw[au];simp only[eO];rw[ak,gU,ak,ld,ak,afh _ I,au,An]
  ·rw[aw0 r hl,aW (show (c.queue.length:Int) >= 12 by omega),ak];dsimp only;rw[gU,ak,ld]
theorem aw4(C:Value)(w:World)(D:RdL .u8 (λx:Int=>0<=x/\x<=255) w C):Calls Tryz.prog 3 #[C] w λe w'=>e = .returned (.bool true)/\Below w.heap.size w w':=by
 obtain⟨l,hl,_,E⟩:=D;exact alL aqz (alM (ai:=[(false,.sl .u8)]) (x:=(l,())) (by kernel_rfl) (aw2 l hl)) (alN E)
def ur(c:av):av:=(ar5 c).getD c
end Go.Proofs.YtglnbhiaknohlaaGreat
