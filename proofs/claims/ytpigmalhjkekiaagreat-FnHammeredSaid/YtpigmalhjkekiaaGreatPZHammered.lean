/-
  Plain laws. Nothing here is a claim.
-/
import Derived.Test.YtpigmalhjkekiaaGreatPYHammered
namespace Go.Proofs.YtpigmalhjkekiaaGreat
set_option linter.defProp false
open Go.RowKit
set_option linter.unusedVariables false
set_option linter.unusedSimpArgs false
set_option maxRecDepth 100000
def CS.pw{l:aa aQ}(h:CS l):l.Pairwise (λx y=>x≠y):=by
 rw[List.pairwise_iff_getElem];intro i j hi D I e;have C:=h j D;rw[kT]at C;have E:l[i]∈l.take j:=by
  rw[List.mem_take_iff_getElem]
  grind
 exact C _ E (JD.2 e.symm)
def CS.mk{l:aa aQ}(h:l.Pairwise (λx y=>x≠y)):CS l:=by
 rw[List.pairwise_iff_getElem]at h;intro j C;rw[kT];intro x D e;obtain⟨i,hi,rfl⟩:=List.mem_take_iff_getElem.1 D;exact h i j _ C (by omega) (JD.1 e).symm
structure gu (c:av):Prop where
 dl:(c.az.aC.length:Int)=aI c.config.ak
 tl:(c.bB.length:Int)=aI c.config.ak
 gl:(c.guard.length:Int)=aI c.config.ak
 t:∀x∈c.bB,lY x=true
 g:∀x∈c.guard,3<=x/\x<=1000
 pd:∀a∈c.pending,fX c.config.ak a=true/\a.bW=0
 u:c.pending.Pairwise (λx y=>x≠y)
def gu.of{c:av}(h:tq c=true):gu c:=by
 simp[tq,aJ,eG,bT,gi]at h;have⟨E,I,O,g4,T,U⟩:=h;have key:=λi C Y=>by
  have:=T i C;unfold partAt at this;rw[bJ C,bJ Y,aJ,br]at this;exact this
 have Z:∀ i _,fX _ c.pending[i]=true/\c.pending[i].bW=0/\(c.pending.take i).any _=false:=λi C=>by
  have:=U i C;unfold Aw at this;rw[bJ C]at this
  simpa [aJ]using this
 refine⟨E,I,O,λx D=>?_,λx D=>?_,λa ha=>?_,CS.pw λi hi=>(Z i hi).2.2⟩
 ·obtain⟨i,hi,rfl⟩:=iU.1 D
  grind
 ·obtain⟨i,hi,rfl⟩:=iU.1 D
  grind
 ·obtain⟨i,hi,rfl⟩:=iU.1 ha;simp[*]
def asC{g:aH}{l:aa aQ}(hp:∀ a∈l,fX g a=true/\a.bW=0)(I:l.Pairwise (λx y=>x≠y)):l.length <= 128:=by
 have D:∀ a∈l,0 <= a.aq/\a.aq<8/\0 <= a.row/\a.row<16:=λa C=>by
  have⟨E,U,Y,Z,h5,_⟩:=vV (hp a C).1;have b1:=ey g;have b2:=fW E;omega
 have E:=VE 128 (l.map λa=>(a.aq*16+a.row).toNat) (λx O=>by
  obtain⟨a,C,rfl⟩:=List.mem_map.1 O;have:=D a C;omega) (by
  rw[List.pairwise_map]
  refine I.imp_of_mem λ{a b} C hb T e=>T ?_
  have r1:=D a C;have r2:=D b hb;have c1:=(hp a C).2;have c2:=(hp b hb).2;cases a;cases b;simp only at *
  congr 1<;>omega)
 simp_all
def gu.ok{c:av}(h:gu c):tq c=true:=by
 have⟨E,I,O,Y,Z,C,D⟩:=h;have hl:=asC C D;have T:=CS.mk D;simp[tq,aJ,eG,fB,oA,bT,gi]
 refine⟨E,I,O,by omega,λi hi=>?_,λi hi=>?_⟩
 ·have U:i<c.guard.length:=by omega
  unfold partAt;rw[bJ hi,bJ U,aJ,br];simp_all
 ·unfold Aw;rw[bJ hi];simp only[aJ,eG,fB];exact⟨(C _ (cR hi)).1,(C _ (cR hi)).2,T i hi⟩
def asD{g:aH}{b n:Int}{l:aa aQ}(hn:fX g ⟨b,n,0⟩=true)(hp:∀ a∈l,fX g a=true/\a.bW=0)(C:l.Pairwise (λx y=>x≠y)):(∀ a∈je b l n,fX g a=true/\a.bW=0)/\(je b l n).Pairwise (λx y=>x≠y):=by
 unfold je;cases h:l.any _ with
 |true=>simp_all
 | false=>
  rw[ax];rw[kT]at h
  refine⟨λa I=>?_,?_⟩
  ·grind
  ·rw[List.pairwise_append]
   refine⟨C,List.pairwise_singleton _ _,λx D y E e=>?_⟩
   rw[gf.1 E]at e;exact h x D (JD.2 e.symm)
def afj{g:aH}{b:Int}:∀ (ns:aa Int) {l:aa aQ},(∀ n∈ns,fX g ⟨b,n,0⟩=true) -> (∀ a∈l,fX g a=true/\a.bW=0) -> l.Pairwise (λx y=>x≠y) -> (∀ a∈ns.foldl (je b) l,fX g a=true/\a.bW=0)/\(ns.foldl (je b) l).Pairwise (λx y=>x≠y)
 |[],l,_,hp,C=>⟨hp,C⟩
 | n :: ns,l,hn,hp,C=>by
  have⟨D,E⟩:=asD (hn n (.head _)) hp C;exact afj ns (λm I=>hn m (.tail _ I)) D E
def Ff{T:Type}{p:T -> Prop}{l:aa T}{i:Nat}{x:T}(h:∀y∈l,p y)(C:p x):∀y∈l.set i x,p y:=by grind
def asE{t:cX}(h:lY t=true)(row cL:Int):lY (mO t row cL).1=true:=by
 unfold mO
 grind
def afk{k:Int}(h:aT k 1 16=true):lY (nH k)=true:=by
 have hb:=br.1 h;simp only[lY,nH,aJ,eG,bT,kF,br]
 refine⟨by omega,trivial,by omega,λi hi=>?_⟩
 rw[N3 (by simpa using hi) (by simpa using hi)];simp[aT]
def OG{c:fo}{p:cK}(hl:p.weights.length<1073741823)(h:oh c p=true):3 <= p.di/\p.di <= 1000:=by
 have⟨_,f2⟩:=CP hl h;simp[yx,aJ,br]at f2;simp_all
def CU{g:aH}{a:dw}(hg:cy g=true)(h:fG g 100000 a):nB g a=true:=by
 simp only[nB,aJ,fC,bT]
 refine⟨hg,h.cells,h.bu,h.bg,λc C=>Sy.ok (h.syms c C),λp hp=>?_⟩
 have⟨x,y⟩:=p;have⟨D,E⟩:=List.of_mem_zip hp;simp[yw,aJ,br];exact⟨h.EU x D,h.hit y E⟩
def asF{g:aH}{c:aP}(h:cC g c=true):qC g (gL g c).toNat=true:=by
 have⟨hg,D,hb,_⟩:=qE h;have⟨E,I⟩:=EZ h;unfold qC;unfold gL at *
 cases C:aT _ 1 5 with
 | true=>
  have C:=br.1 C
  grind
 | false=>
  have O:¬ c.kind <= 5:=λh=>by rw[br.2 ⟨D.1,h⟩]at C;cases C
  grind
def afl{l:aa Int}(h:∀ i,i<l.length -> qD l i=true){i:Nat}(hi:i<l.length):aT l[i] 0 1000000=true:=by
 have:=h i hi;cases i with
 |zero=>rw[N5]at this;exact this
 |succ i=>rw[Jk,aJ]at this;exact this.1
def afm{l:aa Int}(h:∀ i,i<l.length -> qD l i=true){i:Nat}(hi:i+1<l.length):l[i]<l[i+1]:=by
 have:=h _ hi;rw[Jk hi,aJ,fB,oA]at this;omega
def afn{l:aa Int}(C:∀ i (hi:i<l.length),aT l[i] 0 1000000=true)(D:∀ i (hi:i+1<l.length),l[i]<l[i+1]):∀ i,i<l.length -> qD l i=true:=λi hi=>by
 cases i with
 |zero=>rw[N5];exact C 0 hi
 | succ i=>
  have:=D i hi;rw[Jk hi,aJ,fB,oA];simp_all
def asG{l:aa Int}(h:∀ i,i<l.length -> qD l i=true){x:Int}(I:aT x 0 1000000=true)(hl:uM ⟨[],l⟩ x=false):∀ i,i<(l++[x]).length -> qD (l++[x]) i=true:=by
 refine afn (λi hi=>?_) λi hi=>?_
 ·by_cases C:i<l.length
  ·rw[List.getElem_append_left];exact afl h C
  ·grind
 ·have D:i<l.length:=by simp at hi;omega
  by_cases C:i+1<l.length
  ·rw[List.getElem_append_left C,List.getElem_append_left];exact afm h C
  ·have e:i+1=l.length:=by omega
   have E:(l++[x])[i+1]=x:=by simp[e]
   rw[E,List.getElem_append_left D];unfold uM at hl
   grind
def asH{l:aa Int}(h:∀ i,i<l.length -> qD l i=true)(k:Nat):∀ i,i<(l.drop k).length -> qD (l.drop k) i=true:=by
 refine afn (λi hi=>?_) λi hi=>?_
 ·rw[List.getElem_drop];exact afl h _
 ·rw[List.getElem_drop,List.getElem_drop];rw[List.length_drop]at hi;exact afm h _
def afo{g:aH}{r:dR}(e:bO)(h:jR g r=true):jR g (gx g r e)=true:=by
 unfold gx;cases C:jR g r&&(cC g e.cmd&&(aT e.at_ 0 1000000 && !(e.cmd.kind==1&&uM r e.at_)))with
 |false=>exact h
 | true=>
  rw[au];simp only[aJ,fB]at C;have⟨_,O,D,E⟩:=C;simp only[jR,aJ,eG,fB,oA,bT,gi]at h ⊢;have⟨T,U,Y,Z,I⟩:=h
  refine⟨T,by rw[jh];exact U,?_,λi hi=>?_,?_⟩
  ·cases e.cmd.kind==1 with
   |false=>exact Y
   | true=>
    rw[au];unfold Az
    grind
  ·rw[jh]at hi;have hb:=Z i hi;rw[N4 hi]at hb;rw[N4 (by rw[jh];exact hi)];by_cases e':(gL g e.cmd).toNat=i
   ·subst e';rw[List.getElem_set_self,asF O];have:=br.1 D;rw[br.2 ⟨by omega,by omega⟩];rfl
   ·simp_all
  ·cases hk:e.cmd.kind==1 with
   |false=>exact I
   | true=>
    rw[hk]at E;exact asH (asG I D E) _
structure Qk (n:Int) (q:List aX):Prop where
 r:∀x∈q,nE n x=true
 b:q.Pairwise λx y=>fm x y=true
 i:q.Pairwise λx y=>x.id≠y.id
 l:q.length<=12
def asJ{x y z:aX}(C:fm x y=true)(D:fm y z=true):fm x z=true:=by
 simp only[fm,dQ,aJ,fC,eG]at *
 omega
def Qk.of{n:Int}{q:aa aX}(h:gw n q=true):Qk n q:=by
 have I:=h;simp only[gw,aJ,bT,gi,fC]at h;have⟨E,Y⟩:=h;have O:∀ x∈q,nE n x=true:=λx T=>by
  obtain⟨i,hi,rfl⟩:=iU.1 T;have:=E i hi;unfold rQ at this;simp_all
 have hb:∀ j i (D:i<j) (C:j<q.length),fm q[i] q[j]=true:=by
  intro j
  induction j with
  |zero=>simp_all
  | succ j U=>
   intro i D C;have:=E (j+1) C;rw[NZ C,aJ,aJ]at this;by_cases e:i=j
   ·simp_all
   ·exact asJ (U i (by omega) _) this.2.1
 refine⟨O,?_,?_,by omega⟩
 ·rw[List.pairwise_iff_getElem]
  grind
 ·rw[List.pairwise_iff_getElem];intro i j hi C D e;have:=U5 I D C;simp_all
def Qk.ok{n:Int}{q:aa aX}(h:Qk n q):gw n q=true:=by
 have⟨C,D,E,O⟩:=h;rw[List.pairwise_iff_getElem]at D E;simp[gw,aJ,bT,gi,fC]
 refine⟨λi hi=>?_,by omega⟩
 cases i with
 |zero=>rw[ad3 hi];exact C _ (cR hi)
 | succ i=>
  rw[NZ hi,aJ,aJ,fB];refine⟨C _ (cR hi),D i (i+1) (by omega) hi (by omega),?_⟩;rw[kT];intro x I e;obtain⟨k,T,rfl⟩:=List.mem_take_iff_getElem.1 I
  grind
def Qk.sub{n:Int}{q s:aa aX}(h:Qk n q)(C:s.Sublist q):Qk n s:=
 ⟨λx D=>h.r x (C.subset D),h.b.sublist C,h.i.sublist C,Nat.le_trans C.length_le h.l⟩
def afp{T:Type}(l:aa T)(i:Nat):(l.take i++l.drop (i+1)).Sublist l:=by
 rw[<-List.eraseIdx_eq_take_drop_succ];exact List.eraseIdx_sublist l i
def asK(e x:cP):Prop:=¬ (e.line=x.line/\e.code=x.code)
structure Ek (l:List cP):Prop where
 e:∀x∈l,Au x=true
 k:l.Pairwise asK
 l:l.length<=6
def VF{e x:cP}:qB e x=true ↔ x.line=e.line/\x.code=e.code:=by
 simp only[qB,aJ,eG]
def Ek.of{l:aa cP}(h:oe l=true):Ek l:=by
 simp[oe,aJ,bT,gi,fC]at h;have⟨D,O⟩:=h;have key:=λi hi=>by
  have:=D i hi
  rwa [UJ hi,aJ,fB]at this
 refine⟨λx E=>?_,?_,by omega⟩
 ·obtain⟨i,hi,rfl⟩:=iU.1 E
  grind
 ·rw[List.pairwise_iff_getElem];intro i j hi I T e;have C:=(key j I).2;rw[kT]at C;exact C l[i] (List.mem_take_iff_getElem.2 ⟨i,by omega,rfl⟩) (VF.2 e)
def Ek.ok{l:aa cP}(h:Ek l):oe l=true:=by
 have⟨D,C,I⟩:=h;rw[List.pairwise_iff_getElem]at C;simp only[oe,aJ,bT,gi,fC]
 refine⟨λi hi=>?_,by omega⟩
 rw[UJ hi,aJ,fB];refine⟨D _ (cR hi),?_⟩;rw[kT];intro x E e;obtain⟨k,O,rfl⟩:=List.mem_take_iff_getElem.1 E;exact C k i (by omega) hi (by omega) (VF.1 e)
def afq{l:aa cP}(h:oe l=true){n code:Int}(h1:0 <= n/\n <= 1023)(h2:code=1 \/ code=2):oe (tE l n code)=true:=by
 have C:=Ek.of h;have hl:=C.l;have avb:Au ⟨n,code,1⟩=true:=by
  simp[Au,aJ,dQ,eG,br];omega
 refine Ek.ok ?_;unfold tE;cases D:l.findIdx? (qB ⟨n,code,1⟩)with
 | some i=>
  have⟨hi,hp⟩:=CR D;dsimp only;rw[gM _ hi];have U:=C.e _ (cR hi);have Y:Au (OC l[i])=true:=by
   simp only[Au,aJ,br]at U ⊢;unfold OC;dsimp only;rw[aZ]
   grind
  refine⟨Ff C.e Y,?_,by rw[jh];exact hl⟩;have E:=C.k;rw[List.pairwise_iff_getElem]at E ⊢;intro a b I hb Z;rw[jh]at I hb;have:=E a b I hb Z;rw[List.getElem_set,List.getElem_set];by_cases O:i=a
  ·subst O
   rwa [aV rfl,aW]
  ·rw[aW O];by_cases e2:i=b
   ·subst e2
    rwa [aV rfl]
   ·simp[*]
 | none=>
  have hn:∀ x∈l,¬ (x.line=n/\x.code=code):=λx hx e=>by
   have:=List.findIdx?_eq_none_iff.1 D x hx;rw[VF.2 e]at this;cases this
  have app:∀ m:aa cP,m.Sublist l -> m.length <= 5 -> Ek (m++[⟨n,code,1⟩]):=λm T hml=>by
   refine⟨λx hx=>?_,?_,by rw[nM,List.length_singleton];omega⟩
   ·rcases gJ.1 hx with hx | hx
    ·exact C.e x (T.subset hx)
    ·rwa [gf.1 hx]
   ·rw[List.pairwise_append]
    refine⟨C.k.sublist T,List.pairwise_singleton _ _,λx hx y hy e=>?_⟩
    rw[gf.1 hy]at e
    grind
  dsimp only;by_cases e6:l.length=6
  ·grind
  ·rw[jQ (show ¬ (l.length:Int)=6 by omega),ax]
   grind
def afr{l:aa dD}(h:∀ s∈l,qz s=true){k:Nat}(C:k<l.length)(E:1<=l[k].fI):∀ s∈l.set k ⟨l[k].weight,W6 (l[k].fI-1)⟩,qz s=true:=by
 have D:=h _ (cR C);simp only[qz,aJ,br]at D;rw[aZ (n:=l[k].fI-1)];refine Ff h ?_;simp only[qz,aJ,br];omega
def asM{l:aa dD}(w:aa Bool)(hl:l.length<1073741823)(D:kB l=true)(hw:l.length=w.length):∃ y t,qv l w=some (y,t)/\y.length=l.length/\kB y=true:=by
 have mk:∀ y:aa dD,y.length=l.length -> (∀ s∈y,qz s=true) -> y.length=l.length/\kB y=true:=λy C Z=>by
  refine⟨C,?_⟩;simp[kB,aJ,bT]at D ⊢;exact⟨Z,by rw[C];exact D.2⟩
 have E:∀ s∈l,qz s=true:=by
  simp only[kB,aJ,bT]at D;exact D.1
 unfold qv xA xC bR xL xZ;have hb:=uR (λi=>w.getD i false) (λi=>(l.getD i ⟨0,0⟩).fI) (min l.length w.length);have T:(ga l).length=l.length:=by simp[ga]
 have gV:=uR (λi=>w.getD i false) (λi=>((ga l).getD i ⟨0,0⟩).fI) (min (ga l).length w.length);have hm:=CM (λi=>w.getD i false) (λi=>(l.getD i ⟨0,0⟩).fI) (min l.length w.length);rw[List.nil_append,E8 l w (by omega),ay,Jc _ (by omega),ay,D,bL,ax,List.length_nil,eW,eM,au];unfold ot;generalize hr:lZ (λi=>w.getD i false) (λi=>(l.getD i ⟨0,0⟩).fI) (min l.length w.length)=b at *
 by_cases U:b<0
 ·rw[aY U];exact⟨_,_,rfl,mk _ rfl E⟩
 ·have C:b.toNat<l.length:=by omega
  rw[bh U,ax,aO ⟨by omega,C⟩,aO C];dsimp only;have VG:=E _ (cR C);simp only[qz,aJ,br]at VG;cases Y:l[b.toNat].fI==0 with
  | false=>
   have Y:¬ l[b.toNat].fI=0:=by simpa using Y
   rw[ aO ⟨by omega,C⟩,aO C,aO ⟨by omega,C⟩,aO C];exact⟨_,_,rfl,mk _ (by simp) (afr E C (by omega))⟩
  | true=>
   have VH:∀ s∈ga l,qz s=true:=λs D=>by
    obtain⟨x,O,rfl⟩:=List.mem_map.1 D;have:=E x O;simp[qz,aJ,br,CN]at this ⊢;omega
   rw[au,Vh l w (by omega),ay];simp only[gD];rw[E8 _ w (by omega),ay];have hp:0 <= ot (ga l) w:=JA _ (i:=b.toNat) (by rcases hm with h|h;exact absurd h (by omega);exact h) _ (by rw[T];omega);have hq:ot (ga l) w<((min (ga l).length w.length:Nat):Int):=gV.2;have I:(ot (ga l) w).toNat<(ga l).length:=by omega
   have h4:1 <= (ga l)[(ot (ga l) w).toNat].fI:=by
    have dI:(ot (ga l) w).toNat<l.length:=by omega
    have O:=E _ (cR dI);simp only[qz,aJ,br]at O;simp only[ga,List.getElem_map,CN];simp only[ga]at O;omega
   rw[aO ⟨hp,I⟩,aO I,aO ⟨hp,I⟩,aO I];exact⟨_,_,rfl,mk _ (by simp[T]) (afr VH I h4)⟩
def afs{r:eH}(h:fY r=true)(k:Nat){d:Int}(hd:-2 <= d/\d <= 5):fY ⟨r.aC.set k d,r.wait,r.dY⟩=true:=by
 simp only[fY,aJ]at h ⊢;refine⟨UY h.1 ?_,by rw[jh];exact h.2.1,h.2.2⟩;exact br.2 hd
def asN{r:eH}(h:fY r=true){b:Int}(hb:b.toNat<r.aC.length):fY (l6 r b)=true:=by
 have hd:=JC h _ (cR hb);unfold l6;rw[gM _ hb];by_cases e:r.aC[b.toNat] = -2
 ·simp_all
 ·rw[bh e];exact afs h _ (by omega)
def asO{r:bM}{p:iC}{x:aP}{now:Int}(hp:lD p=true)(C:p.state=r.aN)(hn:p.since <= now)(E:now <= 1000000)(O:6 <= x.kind/\x.kind <= 9)(D:gG r x=true):lD (wj p x.kind now)=true/\(wj p x.kind now).state=(bN r x).aN/\(wj p x.kind now).since <= now:=by
 have hb:0 <= p.since:=by
  simp[lD,aJ,br]at hp;omega
 have hi:0 <= p.idle/\p.idle <= 1000000:=by
  simp[lD,aJ,br]at hp;omega
 have I:=br.2 ⟨hn,E⟩;unfold wj;rw[hp,I,Bool.and_self];have mk:∀ s:Int,0 <= s/\s <= 2 -> lD ⟨s,now,p.idle⟩=true:=λs C=>by
  simp[lD,aJ,br];omega
 have:x.kind=6 \/ x.kind=7 \/ x.kind=8 \/ x.kind=9:=by omega
 rcases this with h|h|h|h
 ·have e:r.aN=0:=by simpa [gG,h]using D
  simp[bN,h,C,e,mk]
 ·have e:r.aN=1:=by simpa [gG,h]using D
  simp[bN,h,C,e,mk]
 ·have e:r.aN=0:=by have:=D;simp[gG,h]at this;exact this.1
  simp[bN,h,C,e,mk]
 ·have e:r.aN=2:=by simpa [gG,h]using D
  simp[bN,h,C,e,mk]
def asP{c:av}(h:Pq c)(Z:Int×Int×Int×Int×ah)(P:Int×Int×Int×Int×Int×(aa Int)×Int×Int×ah)(hP:P.2.1=c.box.bX.cap):iter Cs bq ((bP 0 c.az.aC,gT c,(),(),(),(),(),(),(),(),(),c.queue,(c.queue.length:Int),(0:Int),()),(c,Z,P,(List.range c.queue.length).map (jD c),(List.range c.queue.length).map (fH c),tD c c.queue.length,([]:aa aP),List.replicate c.queue.length false,List.replicate 4 false,()))=some (.inl (((),(),(),(),(),(),(),()),(c,Z,P,(List.range c.queue.length).map (fH c),(List.range c.queue.length).map (gI c),(List.range c.queue.length).map (gA c),mP c c.queue.length,()))):=by
 have hq:=h.ql;have yR:=h.pl;have I:=wg h.rf;have O:=Fc h;have e:=eJ (step:=Cs) c.queue.length (λi=>((bP 0 _,gT c,(),(),(),(),(),(),(),(),(),c.queue,c.queue.length,i,()),(c,Z,P,(List.range _).map (jD c),(List.range c.queue.length).map (fH c),tD c _,(List.range i).map (gI c),rZ (gA c) c.queue.length i,mP c i,()))) _ bq (λk C=>by
  have hl:=Ox (f:=gA c) (n:=c.queue.length) (k:=k) (by omega);have hl3:=AM c;have hwl:=Fe c k;have⟨ho,D,T,U,o4,o5⟩:=OB h C;have⟨Y,q2,E⟩:=h.q _ (cR C);rw[Fb C]at Y q2 E;have S5:(kD c k).write=ov c.queue k:=by rw[JH C,Fb C]
  refine(asz (r:=kD c k) (a:=dy c k) (nd:=gI c k) (ct:=ow c (dy c k).aq) (rd:=cI c (gI c k)) (ib:=JL c (dy c k).aq) hq C (Fb C) (by omega) (JI _) (by simp;exact C) (by omega) (by simp) (by omega) (by omega) (by rw[S5];exact aeU _ D T O) (VD I.1 D U) (yE h.p (afg h C)) (Vm _ _ (by omega)) E h.nw).trans ?_;rw[JG C,ae7,hP,<- Oy C,List.range_succ,List.map_append];rfl) (by
  unfold Cs aM xG xI xL;dsimp only;rw[bh,ax,Oz]) (cu)
 exact e
def uT(f g:Nat->Bool)(n k:Nat):aa Bool:=(List.range n).map λi=>bif Nat.blt i k then f i else g i
def asQ(f g:Nat->Bool)(n:Nat):uT f g n 0=(List.range n).map g:=rfl
def asR(f g:Nat -> Bool)(n:Nat):uT f g n n=(List.range n).map f:=by
 refine List.map_congr_left λi hi=>?_
 have hi:=gi.1 hi;rw[show Nat.blt i n=true from jj hi];rfl
def VI(f g:Nat->Bool)(n k:Nat):(uT f g n k).length=n:=by unfold uT;simp
def asT(k:Nat):Nat.blt k k=false:=by
 cases h:Nat.blt k k with
 |false=>rfl
 |true=>simp_all
def asU{f g:Nat->Bool}{n k:Nat}(C:k<(uT f g n k).length):(uT f g n k)[k]=g k:=by
 simp only[uT,List.getElem_map,lH,asT,ax]
def asW{f g:Nat -> Bool}{n k:Nat}(h:k<n):(uT f g n k).set k (f k)=uT f g n (k+1):=by
 apply List.ext_getElem
 ·rw[jh,VI,VI]
 ·intro i E I;rw[List.getElem_set];simp only[uT,List.getElem_map,lH];by_cases e:k=i
  ·subst e;rw[aV rfl,show Nat.blt k _=true from jj (dB _)];rfl
  ·rw[aW e];rcases Nat.lt_or_gt_of_ne e with h3 | h3
   ·have C:Nat.blt i k=false:=by
     cases hb:Nat.blt i k with
     |false=>rfl
     |true=>have:=cz hb;omega
    have D:Nat.blt i (k+1)=false:=by
     cases hb:Nat.blt i (k+1)with
     |false=>rfl
     |true=>have:=cz hb;omega
    rw[C,D]
   ·rw[show Nat.blt i k=true from jj h3,show Nat.blt i _=true from jj (by omega)]
def pJ(c:av)(t:Int)(i:Nat):Bool:=gA c i&&(kD c i).dn==t
def asX{c:av}(hq:c.queue.length <= 12)(t:Int)(Z:Int×Int×Int×Int×ah)(P:Int×Int×Int×Int×Int×(aa Int)×Int×Int×ah)(hit:aa Bool)(C:aa aP):iter EM bq (((),(),(),(),(),(),t,c.queue,(c.queue.length:Int),(0:Int),()),(c,Z,P,hit,C,(List.range c.queue.length).map (gA c),()))=some (.inl (((),(),(),(),(),(),()),(c,Z,P,hit,C,(List.range c.queue.length).map (pJ c t),()))):=by
 have e:=eJ (step:=EM) c.queue.length (λi=>(((),(),(),(),(),(),t,c.queue,(c.queue.length:Int),(i:Int),()),(c,Z,P,hit,C,uT (pJ c t) (gA c) c.queue.length i,()))) _ bq (λk D=>by
  have hl:=VI (pJ c t) (gA c) c.queue.length k;rw[<- asW D];unfold EM aM xG xI xL;dsimp only;rw[aY,au,aO ⟨by omega,by omega⟩,aO ⟨by omega,by omega⟩,aO,cc];simp only[bE,asU,Fb];have E:pJ c t k=(gA c k&&(kD c k).dn==t):=rfl;rw[E];cases gA c k with
  |false=>rw[ax,aO ⟨by omega,by omega⟩,aO];rfl
  |true=>rw[ aO ⟨by omega,by omega⟩,aO];rfl) (by
  unfold EM aM xG xI xL;dsimp only;rw[bh,ax,asR]) (cu)
 rw[dm,asQ]at e;exact e
def fS(p:Nat->Bool):Nat->Int
 |0=>-1
 |k+1=>bif decide (fS p k<0)&&p k then (k:Int)else fS p k
def OH(p:Nat->Bool)(k:Nat):fS p (k+1)=bif decide (fS p k<0)&&p k then (k:Int)else fS p k:=rfl
def tF(p:Nat -> Bool):∀ n,(fS p n = -1 /\ ∀ k,k<n -> p k=false) \/ ∃ j:Nat,j<n/\fS p n=(j:Int)/\p j=true /\ ∀ k,k<j -> p k=false
 |0=>.inl ⟨rfl,λk C=>absurd C (Nat.not_lt_zero k)⟩
 | n+1=>by
  rw[OH];rcases tF p n with ⟨D,E⟩|⟨j,D,E,I,O⟩
  ·grind
  ·grind
def wB(old hit dP:Nat->Bool)(n:Nat):Int:=
 bif decide (fS (λi=>dP i&&old i) n<0)then (bif decide (fS (λi=>dP i&&hit i) n<0)then fS dP n else fS (λi=>dP i&&hit i) n)else fS (λi=>dP i&&old i) n
def wC(c:av)(i:Nat):Bool:=decide ((kD c i).at_<=c.now-c.box.bX.cap)
def asY{c:av}(h:Pq c)(dP:Nat->Bool):Nl c.queue ((List.range c.queue.length).map dP) ((List.range c.queue.length).map (fH c)) c.box.bX.cap c.now=some (wB (wC c) (fH c) dP c.queue.length):=by
 have hq:=h.ql;have Y:=h.nw;have Z:=h.cap;have hw:W6 (c.now-c.box.bX.cap)=c.now-c.box.bX.cap:=aZ;have uU:∀ (k:Nat),k<c.queue.length->(dP k&&wC c k)=false->An (((List.range c.queue.length).map dP,(List.range c.queue.length).map (fH c),c.box.bX.cap,c.now,fS dP k,fS (λi=>dP i&&fH c i) k,c.queue,(c.queue.length:Int),(k:Int),()),())=some (.inl (((List.range c.queue.length).map dP,(List.range c.queue.length).map (fH c),c.box.bX.cap,c.now,fS dP (k+1),fS (λi=>dP i&&fH c i) (k+1),c.queue,(c.queue.length:Int),((k+1:Nat):Int),()),())):=by
  intro k C D;rw[OH,OH];unfold An aM bF xG xI;dsimp only;rw[aY,au,aO ⟨by omega,by omega⟩];simp only[eS,eo];rw[bh,ax,aO ⟨by omega,by omega⟩];simp only[bE,JG C,hw,Fb];rw[cc];cases E:dP k with
  |false=>simp[E]
  | true=>
   rw[E,cJ]at D;unfold wC at D;rw[D,aY (by omega:(k:Int)<(c.queue.length:Int)),aO ⟨by omega,by omega⟩];simp only[bL,ax,au,E,cJ];cases fH c k<;>cases decide (fS dP k<0)<;>cases decide (fS (λi=>dP i&&fH c i) k<0)<;>simp
 unfold Nl wB cY;rw[dh,ay,br.2 ⟨Z.1,by omega⟩,bL,ax,dh,ay,br.2 Y,bL,ax];rcases tF (λi=>dP i&&wC c i) c.queue.length with ⟨I,O⟩|⟨j,I,O,T,h4⟩
 ·have e:=eJ (step:=An) c.queue.length (λk=>(((List.range c.queue.length).map dP,(List.range c.queue.length).map (fH c),c.box.bX.cap,c.now,fS dP k,fS (λi=>dP i&&fH c i) k,c.queue,(c.queue.length:Int),(k:Int),()),())) (.inr (.inl ((fS dP c.queue.length,fS (λi=>dP i&&fH c i) c.queue.length,()),()))) bq (λk C=>uU k C (O k C)) (by
   unfold An aM bF xG xI;dsimp only;rw[bh,ax]) (cu)
  rw[dm]at e
  refine(bz (λo=>Option.bind o _) e).trans ?_
  rw[ay,I];simp only[Sum.elim_inr,gD];by_cases hh:fS (λi=>dP i&&fH c i) c.queue.length<0
  ·rw[bh (by omega:¬ fS (λi=>dP i&&fH c i) c.queue.length >= 0),aY hh];rfl
  ·rw[aY (by omega:fS (λi=>dP i&&fH c i) c.queue.length >= 0),bh hh];rfl
 ·have e:=eJ (step:=An) j (λk=>(((List.range c.queue.length).map dP,(List.range c.queue.length).map (fH c),c.box.bX.cap,c.now,fS dP k,fS (λi=>dP i&&fH c i) k,c.queue,(c.queue.length:Int),(k:Int),()),())) (.inl (((j:Int),()),())) bq (λk C=>uU k (by omega) (h4 k C)) (by
   rw[aJ]at T;have U:=T.2;unfold wC at U;unfold An aM bF xG xI;dsimp only;rw[aY,au,aO ⟨by omega,by omega⟩];simp only[eS,eo];rw[bh,ax,aO ⟨by omega,by omega⟩];simp only[bE,JG I,hw,Fb,T.1,U,bL,ax,au]) (cu)
  rw[dm]at e
  refine(bz (λo=>Option.bind o _) e).trans ?_
  rw[ay,O,bh];rfl
def uV:aP:=⟨0,0,0,0⟩
def uW(c:av):Int:=match qv c.shares (mP c c.queue.length)with
 |some y=>y.2
 |none=>0
def qL(c:av):Int:=wB (wC c) (fH c) (pJ c (uW c)) c.queue.length
def ox(c:av):aP×Int:=bif decide (qL c<0)then (uV,-1)else (gI c (qL c).toNat,qL c)
def asZ{c:av}(h:Pq c):∃ l,qv c.shares (mP c c.queue.length)=some (l,uW c):=by
 have⟨y,t,e,_⟩:=Vi (mP c c.queue.length) (by have:=h.shl;omega) h.sh (by rw[Fe,h.shl]);refine⟨y,?_⟩;unfold uW;rw[e]
def as0(c:av):-1 <= qL c/\qL c<c.queue.length:=by
 unfold qL wB;rcases tF _ _ with ⟨C,_⟩|⟨j,C,I,_⟩
 ·rw[C,aY,au];rcases tF _ _ with ⟨D,_⟩ | ⟨j,D,O,_⟩
  ·rw[D,aY,au];rcases tF (pJ c (uW c)) c.queue.length with ⟨E,_⟩|⟨j,E,T,_⟩<;>omega
  ·grind
 ·grind
def as1{c:av}(h:Pq c):Nq c (bP 0 c.az.aC) (gT c)=some (ox c):=by
 have hq:=h.ql;have⟨l,hl⟩:=asZ h;have hb:=as0 c;unfold Nq bR xL;rw[aV ⟨by omega,by omega,by omega⟩,bE,asi h,ay];simp only[gD];rw[aV ⟨by omega,by omega,by omega⟩,aV ⟨by omega,by omega,by omega⟩,bE,asj h,ay];simp only[gD];rw[aV ⟨by omega,by omega,by omega⟩,aV (by decide),bE,show (4:Int).toNat=4 from rfl,asP h _ _ rfl,ay];simp only[gD];rw[hl,ay];dsimp only;rw[asX hq,ay];simp only[gD];rw[asY h,ay];show (bif decide (qL c<0)then _ else _)=_;unfold ox;by_cases C:qL c<0
 ·rw[aY C];rfl
 ·have E:(qL c).toNat<c.queue.length:=by omega
  rw[bh C,ax,ax];have I:¬ wB (wC c) (fH c) (pJ c (uW c)) c.queue.length<0:=C;have D:=E;rw[aO ⟨by omega,by simp only[eS,eo];exact D⟩,aO (by simp only[eS,eo];exact D)];simp only[List.getElem_map,lH];rfl
def VJ{α:Type}(p:α -> Bool)(l:aa α):(fh p l=l.length/\l.find? p=none) \/ ∃ h:fh p l<l.length,l.find? p=some l[fh p l]:=by
 have E:=E5 p l;rcases Nat.lt_or_ge _ _ with h|h
 ·refine .inr ⟨h,?_⟩;rw[List.find?_eq_some_iff_getElem]
  refine⟨AG h,_,h,rfl,λj C=>?_⟩
  rw[uQ C];rfl
 ·refine .inl ⟨by omega,?_⟩;rw[List.find?_eq_none];intro x D;obtain⟨j,C,rfl⟩:=iU.1 D;rw[uQ (p:=p) (by omega) C];simp
def pL(c:av)(b:Int)(x:aP):aP:=bif (ck c.aF b).open_ then ⟨4,b,0,0⟩else x
def VK{c:av}{b:Int}(x:aP)(C:0 <= b)(h:b.toNat<c.aF.aE.length):Al c b x=some (pL c b x):=by
 unfold Al pL xI;rw[aO ⟨C,h⟩,JB h]
 grind
def OI{c:av}{b:Int}{x:aP}(h:Pq c)(C:0 <= b/\b<aI c.config.ak)(D:cC c.config.ak x=true):cC c.config.ak (pL c b x)=true:=by
 unfold pL;cases (ck _ b).open_ with
 |false=>exact D
 |true=>exact yF h.p.R.tA (.inl rfl) C
def fz(c:av)(b:Int):aP:=pL c b ⟨5,b,0,0⟩
def iw(c:av)(i:Nat):aQ:=c.pending.getD i zA
def OJ{c:av}{i:Nat}(h:i<c.pending.length):c.pending[i]=iw c i:=by
 unfold iw;rw[cS,bJ h];rfl
def qM(c:av)(i:Nat):Bool:=!ow c (iw c i).aq && !((c.pending.take i).any λa=>a.aq==(iw c i).aq)
def jf(c:av)(i:Nat):aP:=pL c (iw c i).aq ⟨1,(iw c i).aq,(iw c i).row,0⟩
def Fg(c:av):aa aP:=(bP 0 c.az.aC).map (fz c)
def Fh(c:av)(k:Nat):aa aP:=((List.range k).filter (qM c)).map (jf c)
def VL{c:av}(h:Pq c){i:Nat}(hi:i<c.pending.length):fX c.config.ak (iw c i)=true/\0 <= (iw c i).aq/\(iw c i).aq.toNat<c.aF.aE.length/\(iw c i).aq.toNat<c.az.aC.length/\(iw c i).aq<aI c.config.ak:=by
 have C:=h.pe _ (cR hi);rw[OJ]at C;have⟨_,D,E,I,O,T,U⟩:=vV C;have:=h.p.bl;have:=h.dl;simp_all
def VM{c:av}(h:Pq c){b:Int}(hb:b∈bP 0 c.az.aC):(0 <= b/\b<aI c.config.ak)/\cC c.config.ak (fz c b)=true:=by
 obtain⟨j,rfl,C,_⟩:=aeS hb;have:=h.dl;have hb:0 <= ((0+j):Int)/\((0+j):Int)<aI c.config.ak:=by omega
 exact⟨hb,OI h hb (yF h.p.R.tA (.inr rfl) hb)⟩
def as2{c:av}(h:Pq c){i:Nat}(hi:i<c.pending.length):cC c.config.ak (jf c i)=true:=by
 have⟨C,D,I,O,E⟩:=VL h hi;exact OI h ⟨D,E⟩ (aeV C)
def tG(u:Bool)(l:aa Int)(idle:Nat->Bool)(i:Nat):Bool:=bif u then decide (l.getD i 0 >= 4)else decide (l.getD i 0 > 0)&&idle i
def JO(r:eH)(idle:Nat->Bool):Int:=lZ (tG (decide (((bP 0 r.aC).length:Int) > 0)) r.aC idle) (λi=>r.aC.getD i 0) r.aC.length
def OL(r:eH)(idle:Nat->Bool):-1<=JO r idle/\JO r idle<r.aC.length:=uR _ _ _
def as3{r:eH}(D:fY r=true)(idle:Nat -> Bool):IF r ((List.range r.aC.length).map idle)=some (JO r idle):=by
 have hl:=wg D;unfold IF bR;rw[Jf _ (by omega),ay,D,bL,ax,Vg D,ay];generalize O:decide (((bP 0 r.aC).length:Int) > 0)=u;have e:=eJ (step:=IE) r.aC.length (λi=>(((List.range r.aC.length).map idle,(),u,lZ (tG u r.aC idle) (λi=>r.aC.getD i 0) i,r.aC,(r.aC.length:Int),(i:Int),()),((r.aC,r.wait,r.dY,()),()))) (.inl ((lZ (tG u r.aC idle) (λi=>r.aC.getD i 0) r.aC.length,()),())) bq (λk E=>by
  have hb:=uR (tG u r.aC idle) (λi=>r.aC.getD i 0) k;rw[Jz];generalize lZ (tG u r.aC idle) (λi=>r.aC.getD i 0) k=C at hb;have hg:r.aC.getD k 0=r.aC[k]:=by rw[cS,bJ E];rfl
  unfold IE CL tG aM xG xI;dsimp only;rw[aY,au,aO ⟨by omega,by omega⟩];simp only[bE,hg,eS,eo];rw[cc,aY (by omega:(k:Int)<(r.aC.length:Int)),au,aO ⟨by omega,by omega⟩];simp only[JG E];by_cases hn:C<0
  ·rw[aY hn,Bool.true_or];cases u<;>cases decide (r.aC[k] > 0)<;>cases decide (r.aC[k] >= 4)<;>cases idle k<;>rfl
  ·have I:C.toNat<r.aC.length:=by omega
   have T:r.aC.getD C.toNat 0=r.aC[C.toNat]:=by rw[cS,bJ I];rfl
   have U:0 <= C/\C.toNat<r.aC.length:=⟨by omega,I⟩
   rw[bh hn,T];simp only[aO U,ax];cases u<;>cases decide (r.aC[k] > 0)<;>cases decide (r.aC[k] >= 4)<;>cases idle k<;>cases decide (r.aC[k] > r.aC[C.toNat])<;>rfl) (by
  unfold IE aM xG xI;dsimp only;rw[bh,ax]) (cu)
 rw[dm]at e
 refine(bz (λo=>Option.bind o _) e).trans ?_
 unfold JO;rw[O];rfl
def pO(w:aa aQ)(r:bM)(b:Nat):Bool:=w.any λa=>a.aq==(b:Int)&&a.row==(ck r (b:Int)).row
def tH(w:aa aQ)(r:bM)(b:Nat):Bool:=(ck r (b:Int)).open_ && !pO w r b
def CV(r:bM)(eX:Int)(w:aa aQ):Int:=bif eX != 1 then -1 else fS (tH w r) r.aE.length
def aft(r:bM)(eX:Int)(w:aa aQ):-1 <= CV r eX w/\CV r eX w<r.aE.length:=by
 unfold CV;cases eX != 1 with
 |true=>grind
 | false=>
  rw[ax];rcases tF (tH w r) r.aE.length with ⟨C,_⟩|⟨j,C,D,_⟩<;>omega
def as4{w:aa aQ}{r:bM}{L:aa Int}{b:Nat}{i n:Int}(hb:b<r.aE.length)(hl:r.aE.length<=1048576)(hw:w.length<=1000):iter EN bq ((w,(),(b:Int),false,(),n,i,w,(w.length:Int),(0:Int),()),((r.aE,r.aN,()),L,()))=some (.inl ((w,(),(b:Int),pO w r b,(),n,i,()),((r.aE,r.aN,()),L,()))):=by
 have e:=eJ (step:=EN) w.length (λk=>((w,(),(b:Int),((w.take k).any λa=>a.aq==(b:Int)&&a.row==(ck r (b:Int)).row),(),n,i,w,(w.length:Int),(k:Int),()),((r.aE,r.aN,()),L,()))) (.inl ((w,(),(b:Int),pO w r b,(),n,i,()),((r.aE,r.aN,()),L,()))) bq (λk C=>by
  rw[uH C,List.any_append,List.any_cons,List.any_nil,Bool.or_false,JB (by rw[bE];exact hb)];unfold EN aM xG xI;dsimp only;rw[aY,au,aO ⟨by omega,by omega⟩,cc];simp only[bE];cases (w.take k).any λa=>a.aq==(b:Int)&&a.row==r.aE[b].row with
  |true=>rfl
  | false=>
   rw[ax,Bool.false_or];cases w[k].aq==(b:Int)with
   |false=>rfl
   |true=>rw[au,aO ⟨by omega,hb⟩,cJ]) (by
  unfold EN aM xG xI;dsimp only;rw[bh,ax,mV];rfl) (cu)
 rw[dm]at e;exact e
def afu(w:aa aQ)(r:bM):∀ k,k <= r.aE.length -> (opens 0 (r.aE.take k)).find? (λb=>!pO w r b.toNat)=bif decide (fS (tH w r) k<0)then none else some (fS (tH w r) k)
 |0,_=>rfl
 | k+1,E=>by
  have C:=afu w r k (by omega);have hb:(ck r (k:Int)).open_=r.aE[k].open_:=by rw[JB (by rw[bE];omega)];simp only[bE]
  have D:tH w r k=(r.aE[k].open_ && !pO w r k):=by unfold tH;rw[hb]
  rw[uH (show k<r.aE.length by omega),adK,jF,Nat.min_eq_left (by omega),eW,List.find?_append,C,OH,D];have I:opens k [r.aE[k]]=bif r.aE[k].open_ then [(k:Int)]else []:=rfl
  grind
def afv(i:Nat)(l:aa ep)(x:Int)(h:x∈opens i l):∃ j:Nat,j<l.length/\x=((i+j:Nat):Int):=by
 induction l generalizing i with
 |nil=>cases h
 | cons d l C=>
  have e:opens i (d :: l)=bif d.open_ then (i:Int) :: opens (i+1) l else opens (i+1) l:=rfl;rw[e]at h;have tl:x∈opens (i+1) l -> ∃ j:Nat,j<(d :: l).length/\x=((i+j:Nat):Int):=λh=>by
   have⟨j,D,E⟩:=C _ h;exact⟨j+1,by simpa using D,by rw[E];omega⟩
  cases hd:d.open_ with
  |false=>grind
  | true=>
   rw[hd,au]at h;rcases gv.1 h with rfl|h
   ·exact⟨0,by simp,rfl⟩
   ·exact tl h
def as5{r:bM}(eX:Int){w:aa aQ}(hl:r.aE.length <= 1048576)(hw:w.length <= 1000):IG r eX w=some (CV r eX w):=by
 unfold IG CV cY;cases eX != 1 with
 |true=>rfl
 | false=>
  rw[ax,ax,NT r (by omega),ay];have I:=afu w r r.aE.length (dB _);rw[mV]at I;have U:=adL 0 r.aE;have O:=afv 0 r.aE;generalize Y:opens 0 r.aE=L at *
  have hi:=E5 (λb:Int=>!pO w r b.toNat) L;have uU:∀ (k:Nat) (C:k<L.length),Cu ((w,(),(),(L.length:Int),(k:Int),()),((r.aE,r.aN,()),L,()))=some (bif !pO w r L[k].toNat then .inr (.inl ((L[k],()),()))else .inl ((w,(),(),(L.length:Int),((k+1:Nat):Int),()),((r.aE,r.aN,()),L,()))):=by
   intro k C;have⟨j,E,D⟩:=O _ (cR C);rw[eW]at D;unfold Cu aM bF xG bR xL;dsimp only;rw[aY,au,aO ⟨by omega,by omega⟩,aO];simp only[bE,D];rw[as4 E hl hw,ay];simp only[gD];rw[cc];cases pO w r j<;>rfl
  rcases VJ (λb:Int=>!pO w r b.toNat) L with ⟨E,D⟩|⟨E,D⟩
  ·have e:=eJ (step:=Cu) L.length (λk=>((w,(),(),(L.length:Int),(k:Int),()),((r.aE,r.aN,()),L,()))) (.inr (.inl ((),()))) bq (λk C=>by
    have:=uQ (p:=λb:Int=>!pO w r b.toNat) (q:=L) (i:=k) (by omega) C;rw[uU k C,this];rfl) (by
    unfold Cu aM bF xG bR xL;dsimp only;rw[bh,ax]) (cu)
   rw[dm]at e
   refine(bz (λo=>Option.bind o _) e).trans ?_
   rw[D]at I;by_cases hn:fS (tH w r) r.aE.length<0
   ·rcases tF (tH w r) r.aE.length with ⟨T,_⟩ | ⟨j,_,Z,_⟩
    ·rw[T];rfl
    ·omega
   ·grind
  ·have e:=eJ (step:=Cu) (fh (λb:Int=>!pO w r b.toNat) L) (λk=>((w,(),(),(L.length:Int),(k:Int),()),((r.aE,r.aN,()),L,()))) (.inl ((L[fh (λb:Int=>!pO w r b.toNat) L],()),())) bq (λk C=>by
    have:=uQ (p:=λb:Int=>!pO w r b.toNat) (q:=L) (i:=k) C (by omega);rw[uU k (by omega),this];rfl) (by
    have:=AG (p:=λb:Int=>!pO w r b.toNat) (q:=L) E;rw[uU _ E,this];rfl) (cu)
   rw[dm]at e
   refine(bz (λo=>Option.bind o _) e).trans ?_
   rw[D]at I;by_cases hn:fS (tH w r) r.aE.length<0
   ·grind
   ·simp[*]
def cE(c:av):Int:=wh c.box.bX.dj c.aN (oq c)
def wD(c:av)(i:Nat):Bool:=!((gT c).any λa=>a.aq==(i:Int))
def eg(c:av):Int:=JO c.az (wD c)
def kS(c:av):Int:=CV c.aF c.box.bX.eX (gT c)
def r3(c:av):aa aP:=bif decide (eg c >= 0) && !ow c (eg c)then [fz c (eg c)]else []
def nJ(c:av):aa aP:=bif decide (kS c >= 0)then [⟨4,kS c,0,0⟩]else []
def mQ(c:av):aa aP:=bif cE c==8&&decide (((opens 0 c.aF.aE).length:Int) > 0)then [⟨4,(opens 0 c.aF.aE).headD 0,0,0⟩]else bif cE c != 0 then [⟨cE c,0,0,0⟩]else []
def tJ(c:av)(l:aa aP):aP:=(l.find? (cI c)).getD uV
def fnd_nil(c:av):tJ c []=uV:=rfl
def fnd_cons(c:av)(x:aP)(l:aa aP):tJ c (x :: l)=bif cI c x then x else tJ c l:=by
 unfold tJ;rw[List.find?_cons];cases cI c x<;>rfl
def OM(c:av)(w:Int):aj aP:=
 let D:Int->Int->Int->Int->aj (aP):=λE I O T=>(let U:Bool->aj (aP):=λY=>bif Y then some (⟨E,I,O,T⟩:aP)else some (⟨(0:Int),(0:Int),(0:Int),(0:Int)⟩:aP);bif (E != (0:Int))then (iR c (⟨E,I,O,T⟩:aP)).bind λZ=>(U Z)else (U false));bif (w==(8:Int))then (Af c.aF).bind λC=>bif (decide ((C.length:Int) > (0:Int)))then if qh:0<=(0:Int)/\(0:Int).toNat<C.length then if rS:(0:Int).toNat<C.length then (let Ac:=C[(0:Int).toNat]'rS;(D (4:Int) Ac (0:Int) (0:Int)))else none else none else (D w 0 0 0)else (D w 0 0 0)
def CW(c:av)(D:aa aQ)(w:Int):aj aP:=
 (IG c.aF c.box.bX.eX D).bind λC=>bif (C != (-1:Int))then (iR c (⟨(4:Int),C,(0:Int),(0:Int)⟩:aP)).bind λE=>bif E then some (⟨(4:Int),C,(0:Int),(0:Int)⟩:aP)else OM c w else OM c w
def afw(c:av)(O:aa Int)(D:aa aQ)(w:Int)(idle:aa Bool):aj aP:=
 (IF c.az idle).bind λC=>(let E:Bool->aj (aP):=λT=>bif T then (Al c C (⟨(5:Int),C,(0:Int),(0:Int)⟩:aP)).bind λI=>(iR c I).bind λU=>bif U then some I else CW c D w else CW c D w;bif (C != (-1:Int))then (vS O C).bind λY=>(E (!Y))else (E false))
def CX(c:av):cE c=0\/6<=cE c/\cE c<=9:=arK _ _ _
def as6(l:aa Int)(h:0<l.length):l.headD 0=l[0]:=by
 cases l with
 |nil=>cases h
 |cons x l=>rfl
def afx(c:av)(h:Pq c)(C:0<(opens 0 c.aF.aE).length):(0 <= (opens 0 c.aF.aE)[0]/\(opens 0 c.aF.aE)[0]<aI c.config.ak)/\(opens 0 c.aF.aE).headD 0=(opens 0 c.aF.aE)[0]:=by
 have⟨j,D,E⟩:=afv 0 _ _ (cR C);have:=h.p.bl;exact⟨by omega,as6 _ C⟩
def as7{c:av}(h:Pq c):OM c (cE c)=some (tJ c (mQ c)):=by
 have gZ:=Fc h;have hw:=CX c;have hg:=h.p.R.tA;have I:cE c≠0 -> iR c ⟨cE c,0,0,0⟩=some (cI c ⟨cE c,0,0,0⟩):=λhn=>yE h.p (Oq hg (by omega))
 have O:(bif (cE c != (0:Int))then (iR c (⟨cE c,0,0,0⟩:aP)).bind λT=>(bif T then some (⟨cE c,0,0,0⟩:aP)else some uV)else some uV)=some (tJ c (bif cE c != 0 then [⟨cE c,0,0,0⟩]else [])):=by
  by_cases C:cE c=0
  ·rw[C];rfl
  ·rw[gR C,au,au,I C,fnd_cons,fnd_nil]
   grind
 unfold OM mQ;dsimp only;by_cases D:cE c=8
 ·have U:(cE c==8)=true:=by rw[D];rfl
  rw[U,au,NT _ (by omega),ay,cJ];by_cases E:0<(opens 0 c.aF.aE).length
  ·have⟨Y,Z⟩:=afx c h E;rw[aY,au,au,aO ⟨by omega,E⟩,aO,Z];show (bif ((4:Int) != 0)then (iR c ⟨4,(opens 0 c.aF.aE)[0],0,0⟩).bind _ else _)=_;rw[yE h.p (yF hg (.inl rfl) Y),fnd_cons,fnd_nil];cases cI c ⟨4,(opens 0 c.aF.aE)[0],0,0⟩<;>rfl
  ·rw[bh,ax];exact O
 ·rwa [jQ D,ax,Bool.false_and,ax]
def as8{c:av}(h:Pq c):CW c (gT c) (cE c)=some (tJ c (nJ c++mQ c)):=by
 have C:=Fc h;have hq:=h.ql;have E:=h.p.bl;have hb:-1 <= kS c/\kS c<c.aF.aE.length:=aft _ _ _;unfold CW nJ;rw[as5 _ C (by rw[AM];omega),ay];show (bif kS c != -1 then (iR c ⟨4,kS c,0,0⟩).bind _ else _)=_;rw[as7 h];by_cases D:kS c >= 0
 ·rw[gR (by omega:¬ kS c = -1),au,aY D,au,yE h.p (yF h.p.R.tA (.inl rfl) (by omega)),ay,List.singleton_append,fnd_cons];cases cI c ⟨4,kS c,0,0⟩<;>rfl
 ·grind
def as9{c:av}(h:Pq c):afw c (bP 0 c.az.aC) (gT c) (cE c) ((List.range c.az.aC.length).map (wD c))=some (tJ c (r3 c++(nJ c++mQ c))):=by
 have U:=Fc h;have E:=wg h.rf;have Y:=h.p.bl;have Z:=h.dl;have hb:-1 <= eg c/\eg c<c.az.aC.length:=OL _ _;unfold afw r3;rw[as3 h.rf,ay];show (bif eg c != -1 then (vS (bP 0 c.az.aC) (eg c)).bind λI=>(bif !I then (Al c (eg c) ⟨5,eg c,0,0⟩).bind λD=>(iR c D).bind λC=>bif C then some D else CW c (gT c) (cE c)else CW c (gT c) (cE c))else CW c (gT c) (cE c))=_;rw[as8 h];by_cases O:eg c >= 0
 ·have hv:0 <= eg c/\eg c<aI c.config.ak:=by omega
  rw[gR (by omega:¬ eg c = -1),au,aY O,cJ,(VD E.1 (by omega) (by omega)),ay];cases ow c (eg c)with
  |true=>rfl
  | false=>
   have T:cC c.config.ak (fz c (eg c))=true:=OI h hv (yF h.p.R.tA (.inr rfl) hv);rw[Bool.not_false,au,au,VK _ (by omega) (by omega),ay];show ((iR c (fz c (eg c))).bind λC=>bif C then some (fz c (eg c))else _)=_;rw[yE h.p T,ay,List.singleton_append,fnd_cons]
   grind
 ·grind
def ata{c:av}(h:Pq c):IJ c (bP 0 c.az.aC) (gT c) ⟨cE c,0,0,0⟩=some (tJ c (r3 c++(nJ c++mQ c))):=by
 have D:=Fc h;have hq:=h.ql;have E:=h.p.bl;have I:=h.dl;have O:=wg h.rf;have C:c.aF.aE.length=c.az.aC.length:=by omega
 have e:=eJ (step:=II) c.aF.aE.length (λi=>((bP 0 c.az.aC,gT c,(),(),(),(),(c.aF.aE.length:Int),(i:Int),()),(c,(cE c,(0:Int),(0:Int),(0:Int),()),((0:Int),(0:Int),(0:Int),(0:Int),()),(List.range i).map (wD c),()))) _ bq (λk T=>by
  unfold II aM xG;dsimp only;rw[aY,au,Vm _ _ (by rw[AM];omega),ay,eS,eo,List.length_singleton,eM,au,cc,List.range_succ,List.map_append];rfl) (by
  unfold II aM xG;dsimp only;rw[bh,ax]) (cu)
 rw[dm]at e;unfold IJ bR xL
 refine(bz (λo=>Option.bind o _) e).trans ?_
 rw[ay,C];exact as9 h
def atb{c:av}(h:Pq c):(mQ c).length <= 1 /\ ∀ x∈mQ c,cC c.config.ak x=true:=by
 have hw:=CX c;have hg:=h.p.R.tA;have D:(bif cE c != 0 then [(⟨cE c,0,0,0⟩:aP)]else []).length <= 1 /\ ∀ x∈(bif cE c != 0 then [⟨cE c,0,0,0⟩]else []),cC c.config.ak x=true:=by
  by_cases E:cE c=0
  ·simp_all
  ·rw[gR E];exact⟨dB _,λx C=>by rw[gf.1 C];exact Oq hg (by omega)⟩
 unfold mQ;cases cE c==8 with
 |false=>exact D
 | true=>
  by_cases I:0<(opens 0 c.aF.aE).length
  ·have⟨O,T⟩:=afx c h I;rw[aY,T];exact⟨dB _,λx C=>by rw[gf.1 C];exact yF hg (.inl rfl) O⟩
  ·simp_all
def atc{c:av}(h:Pq c):(nJ c).length <= 1 /\ ∀ x∈nJ c,cC c.config.ak x=true:=by
 have E:=h.p.bl;have hb:-1 <= kS c/\kS c<c.aF.aE.length:=aft _ _ _;unfold nJ;by_cases C:kS c >= 0
 ·rw[aY C];exact⟨dB _,λx D=>by rw[gf.1 D];exact yF h.p.R.tA (.inl rfl) (by omega)⟩
 ·grind
def CY(c:av):aj aP:=(Fg c++Fh c c.pending.length).find? (cI c)
def fU(c:av):aP×Int:=
 bif c.aN.state != 0 then (bif cE c != 0 then (bif cI c ⟨cE c,0,0,0⟩then (⟨cE c,0,0,0⟩,-1)else (uV,-1))else (uV,-1))else
 match CY c with
 |some x=>(x,-1)
 |none=>bif decide ((ox c).2 >= 0)then ox c else (tJ c (r3 c++(nJ c++mQ c)),-1)
def atd(p:Nat -> Bool)(n:Nat):fh p (List.range n) <= n/\(∀ k,k<fh p (List.range n) -> p k=false)/\(fh p (List.range n)<n -> p (fh p (List.range n))=true):=by
 have C:=E5 p (List.range n);rw[eo]at C
 refine⟨C,λk D=>?_,λE=>?_⟩
 ·have:=uQ D (by rw[eo];omega);simp_all
 ·have:=AG (p:=p) (q:=List.range n) (by rw[eo];exact E)
  rwa [lH]at this
def ate(c:av)(n:Nat):(Fh c n).find? (cI c)=if fh (λi=>qM c i&&cI c (jf c i)) (List.range n)<n then some (jf c (fh (λi=>qM c i&&cI c (jf c i)) (List.range n)))else none:=by
 unfold Fh;rw[List.find?_map,List.find?_filter];have e:(List.range n).find? (λa=>decide (qM c a=true/\(cI c ∘ jf c) a=true))=(List.range n).find? (λi=>qM c i&&cI c (jf c i)):=by
  simp_all
 rw[e];rcases VJ (λi=>qM c i&&cI c (jf c i)) (List.range n)with ⟨C,D⟩|⟨C,D⟩
 ·simp_all
 ·grind
def atf{c:av}(h:Pq c):Nr c=some (fU c):=by
 have hg:=h.p.R.tA;have hw:=CX c;have yR:=h.pl;have Z:=wg h.rf;have ul:=Vf 0 c.az.aC;have hbn:=h.p.bl;have hdn:=h.dl;unfold Nr cY;rw[Vg h.rf,ay,aeT h.rf,ay,arJ _ _ _ h.dj h.pw,ay];have ew:wh c.box.bX.dj c.aN (oq c)=cE c:=rfl;rw[ew];unfold fU;cases c.aN.state != 0 with
 | true=>
  rw[au,au];by_cases T:cE c=0
  ·rw[T];rfl
  ·rw[gR T,au,au,yE h.p (Oq hg (by omega)),ay];cases cI c ⟨cE c,0,0,0⟩<;>rfl
 | false=>
  rw[ax,ax];have uU:∀ (k:Nat) (C:k<(bP 0 c.az.aC).length),Cv (((),(),(),(),(),((bP 0 c.az.aC).length:Int),(k:Int),()),(c,((0:Int),(0:Int),(0:Int),(0:Int),()),bP 0 c.az.aC,(cE c,(0:Int),(0:Int),(0:Int),()),()))=some (bif cI c (fz c (bP 0 c.az.aC)[k])then .inr (.inl (((),(-1:Int),()),(((fz c (bP 0 c.az.aC)[k]).kind,(fz c (bP 0 c.az.aC)[k]).aq,(fz c (bP 0 c.az.aC)[k]).row,(fz c (bP 0 c.az.aC)[k]).bW,()),())))else .inl (((),(),(),(),(),((bP 0 c.az.aC).length:Int),((k+1:Nat):Int),()),(c,((0:Int),(0:Int),(0:Int),(0:Int),()),bP 0 c.az.aC,(cE c,(0:Int),(0:Int),(0:Int),()),()))):=by
   intro k C;have⟨k1,k2⟩:=VM h (cR C);unfold Cv aM bF xG xL;dsimp only;rw[aY,au,aO ⟨by omega,by omega⟩,aO];simp only[bE];rw[VK _ (by omega) (by omega),ay];show ((iR c (fz c (bP 0 c.az.aC)[k])).bind _)=_;rw[yE h.p k2,ay,cc];cases cI c (fz c (bP 0 c.az.aC)[k])<;>rfl
  have hfu:(Fg c).find? (cI c)=((bP 0 c.az.aC).find? (λb=>cI c (fz c b))).map (fz c):=by
   unfold Fg;rw[List.find?_map];rfl
  unfold CY;rw[List.find?_append,hfu,ate];rcases VJ (λb=>cI c (fz c b)) (bP 0 c.az.aC)with ⟨I,U⟩|⟨I,U⟩
  ·have e:=eJ (step:=Cv) (bP 0 c.az.aC).length (λk=>(((),(),(),(),(),((bP 0 c.az.aC).length:Int),(k:Int),()),(c,((0:Int),(0:Int),(0:Int),(0:Int),()),bP 0 c.az.aC,(cE c,(0:Int),(0:Int),(0:Int),()),()))) (.inr (.inl (((),(),(),(),()),(c,((0:Int),(0:Int),(0:Int),(0:Int),()),bP 0 c.az.aC,(cE c,(0:Int),(0:Int),(0:Int),()),())))) bq (λk C=>by
    have:=uQ (p:=λb=>cI c (fz c b)) (q:=bP 0 c.az.aC) (i:=k) (by omega) C;rw[uU k C,this];rfl) (by
    unfold Cv aM bF xG xL;dsimp only;rw[bh,ax]) (cu)
   rw[dm]at e
   refine(bz (λo=>Option.bind o _) e).trans ?_
   rw[ay,U];simp only[Sum.elim_inr,gD,Option.map_none,Option.none_or];have⟨i1,i2,i3⟩:=atd (λi=>qM c i&&cI c (jf c i)) c.pending.length;have O:∀ (k:Nat) (C:k<c.pending.length),Cw (((),(),(),(),c.pending,(c.pending.length:Int),(k:Int),()),(c,((0:Int),(0:Int),(0:Int),(0:Int),()),bP 0 c.az.aC,(cE c,(0:Int),(0:Int),(0:Int),()),()))=some (bif qM c k&&cI c (jf c k)then .inr (.inl (((),(-1:Int),()),(((jf c k).kind,(jf c k).aq,(jf c k).row,(jf c k).bW,()),())))else .inl (((),(),(),(),c.pending,(c.pending.length:Int),((k+1:Nat):Int),()),(c,((0:Int),(0:Int),(0:Int),(0:Int),()),bP 0 c.az.aC,(cE c,(0:Int),(0:Int),(0:Int),()),()))):=by
    intro k C;have⟨ho,Y,o2,o3,o4⟩:=VL h C;unfold Cw aM bF xG xI;dsimp only;rw[aY,au,aO ⟨by omega,by omega⟩,cc];simp only[bE,OJ,(VD Z.1 Y o3),ay,Int.toNat_zero,List.drop_zero];have ek:qM c k=(!ow c (iw c k).aq && !((c.pending.take k).any λa=>a.aq==(iw c k).aq)):=rfl;rw[ek];cases ow c (iw c k).aq with
    |true=>rfl
    | false=>
     rw[ax,aV ⟨by omega,by omega,by omega⟩,Vm _ _ (by rw[jF];omega),ay];cases (c.pending.take k).any λa=>a.aq==(iw c k).aq with
     |true=>rfl
     | false=>
      rw[ax,VK _ Y o2,ay];show ((iR c (jf c k)).bind _)=_;rw[yE h.p (as2 h C)];cases cI c (jf c k)<;>rfl
   by_cases E:fh (λi=>qM c i&&cI c (jf c i)) (List.range c.pending.length)<c.pending.length
   ·rw[aV E];generalize hN:fh (λi=>qM c i&&cI c (jf c i)) (List.range c.pending.length)=N at *
    have D:=eJ (step:=Cw) N (λk=>(((),(),(),(),c.pending,(c.pending.length:Int),(k:Int),()),(c,((0:Int),(0:Int),(0:Int),(0:Int),()),bP 0 c.az.aC,(cE c,(0:Int),(0:Int),(0:Int),()),()))) (.inl (((),(-1:Int),()),(((jf c N).kind,(jf c N).aq,(jf c N).row,(jf c N).bW,()),()))) bq (λk C=>by
     rw[O k (by omega),i2 k C];rfl) (by
     rw[O N E,i3 E];rfl) (cu)
    rw[dm]at D
    refine(bz (λo=>Option.bind o _) D).trans ?_
    rfl
   ·rw[aW E];have D:=eJ (step:=Cw) c.pending.length (λk=>(((),(),(),(),c.pending,(c.pending.length:Int),(k:Int),()),(c,((0:Int),(0:Int),(0:Int),(0:Int),()),bP 0 c.az.aC,(cE c,(0:Int),(0:Int),(0:Int),()),()))) (.inr (.inl (((),(),(),(),()),(c,((0:Int),(0:Int),(0:Int),(0:Int),()),bP 0 c.az.aC,(cE c,(0:Int),(0:Int),(0:Int),()),())))) bq (λk C=>by
     rw[O k C,i2 k (by omega)];rfl) (by
     unfold Cw aM bF xG xI;dsimp only;rw[bh,ax]) (cu)
    rw[dm]at D
    refine(bz (λo=>Option.bind o _) D).trans ?_
    rw[ay];simp only[Sum.elim_inr,gD];rw[ash h,ay,as1 h,ay];cases decide ((ox c).2 >= 0)with
    |true=>rfl
    | false=>
     rw[ax,ax];show ((IJ c (bP 0 c.az.aC) (gT c) ⟨cE c,0,0,0⟩).bind _)=_;rw[ata h,ay]
  ·have e:=eJ (step:=Cv) (fh (λb=>cI c (fz c b)) (bP 0 c.az.aC)) (λk=>(((),(),(),(),(),((bP 0 c.az.aC).length:Int),(k:Int),()),(c,((0:Int),(0:Int),(0:Int),(0:Int),()),bP 0 c.az.aC,(cE c,(0:Int),(0:Int),(0:Int),()),()))) (.inl (((),(-1:Int),()),(((fz c (bP 0 c.az.aC)[fh (λb=>cI c (fz c b)) (bP 0 c.az.aC)]).kind,(fz c (bP 0 c.az.aC)[fh (λb=>cI c (fz c b)) (bP 0 c.az.aC)]).aq,(fz c (bP 0 c.az.aC)[fh (λb=>cI c (fz c b)) (bP 0 c.az.aC)]).row,(fz c (bP 0 c.az.aC)[fh (λb=>cI c (fz c b)) (bP 0 c.az.aC)]).bW,()),()))) bq (λk C=>by
    have:=uQ (p:=λb=>cI c (fz c b)) (q:=bP 0 c.az.aC) (i:=k) C (by omega);rw[uU k (by omega),this];rfl) (by
    have:=AG (p:=λb=>cI c (fz c b)) (q:=bP 0 c.az.aC) I;rw[uU _ I,this];rfl) (cu)
   simp_all
def afy{r:bM}{x:aP}(C:x.kind <= 5):(bN r x).aN=r.aN:=by
 unfold bN
 grind
def gu.bU{c:av}(p:gu c)(x:aP):gu (bU c x):=⟨p.dl,p.tl,p.gl,p.t,p.g,p.pd,p.u⟩
def Ck.bU{c:av}(h:Ck c){x:aP}(C:kO c.config.ak c.aF x=true)(D:x.kind<=5)(E:c.trace.length<2000):Ck (bU c x):=by
 simp only[kO,aJ]at C;exact⟨h.f1,h.f2,h.nw,UZ C.1 C.2.1 C.2.2,afo _ h.rd,h.ar,h.sp,h.se,h.rf,((gu.of h.pa).bU x).ok,h.qu,h.sh,h.sl,h.dr,h.pw,h.ps.trans (afy D).symm,h.si,h.s1,h.s2,h.s3,h.er,by simp[Proofs.YtpigmalhjkekiaaGreat.bU];omega,h.rp⟩
def Ck.VN{c:av}(h:Ck c){x:aP}(D:0 <= x.aq)(E:x.aq<aI c.config.ak)(I:0 <= x.row)(O:x.row<c.config.ak.rows):Ck (yG c x):=by
 have hg:=(v8 h.rk).1;have Z:=fW hg;have p:=gu.of h.pa;have AO:=p.tl;have VO:=p.gl;have T:x.aq.toNat<c.bB.length:=by omega
 have C:fG c.config.ak 100000 (AI c.config.ak c.config.dS c.array x.aq x.row):=Vb hg c.config.dS (by decide) (fG.wA h.ar) D E I O;have U:∀a∈qJ c x,fX c.config.ak a=true/\a.bW=0:=λa C=>p.pd a (List.mem_filter.1 C).1
 have Y:(qJ c x).Pairwise (λx y=>x≠y):=p.u.filter _;have q:(∀ a∈(yG c x).pending,fX c.config.ak a=true/\a.bW=0)/\(yG c x).pending.Pairwise (λx y=>x≠y):=by
  show (∀a∈(bif (rX c x).2 then (ia c.config.ak.rows x.row).foldl (je x.aq) (qJ c x)else qJ c x),fX c.config.ak a=true/\a.bW=0)/\(bif (rX c x).2 then (ia c.config.ak.rows x.row).foldl (je x.aq) (qJ c x)else qJ c x).Pairwise (λx y=>x≠y);cases (rX c x).2 with
  |false=>simp_all
  | true=>
   refine afj _ (λn hn=>?_) U Y
   have:=aeu I O n hn;exact As hg D E this.1 this.2 (fN 0) (by show 0<_;omega)
 have hp:gu (yG c x):=⟨p.dl,by show ((c.bB.set x.aq.toNat (rX c x).1).length:Int)=_;rw[jh];exact p.tl,p.gl,Ff p.t (by unfold rX;rw[gM _ T];exact asE (p.t _ (cR T)) _ _),p.g,q.1,q.2⟩
 exact⟨h.f1,h.f2,h.nw,h.rk,h.rd,CU hg C,h.sp,h.se,h.rf,hp.ok,h.qu,h.sh,h.sl,h.dr,h.pw,h.ps,h.si,h.s1,h.s2,h.s3,h.er,h.tr,h.rp⟩
def Ck.ref{c:av}(h:Ck c)(hl:c.box.bX.weights.length<1073741823)(D:aT c.config.ij 1 16=true){b:Int}(E:0 <= b)(I:b<aI c.config.ak):Ck (JJ c b):=by
 have hg:=(v8 h.rk).1;have O:=fW hg;have p:=gu.of h.pa;have T:=p.dl;have C:fG _ 100000 (ic _ c.config.dS c.array b c.config.ak.rows.toNat):=JE hg _ (by decide) (fG.wA h.ar) E I _ (by omega);have hp:gu (JJ c b):=⟨by show ((l6 c.az b).aC.length:Int)=_;rw[afc];exact p.dl,by show ((c.bB.set b.toNat _).length:Int)=_;rw[jh];exact p.tl,by show ((c.guard.set b.toNat _).length:Int)=_;rw[jh];exact p.gl,Ff p.t (afk D),Ff p.g (OG hl h.f1),λa C=>p.pd a (List.mem_filter.1 C).1,p.u.filter _⟩
 exact⟨h.f1,h.f2,h.nw,h.rk,h.rd,CU hg C,h.sp,h.se,asN h.rf (by omega),hp.ok,h.qu,h.sh,h.sl,h.dr,h.pw,h.ps,h.si,h.s1,h.s2,h.s3,h.er,h.tr,h.rp⟩
def VP{T:Type}{p:T->Prop}{l:aa T}{x:T}(h:∀ y∈l,p y)(C:p x):∀ k:Nat,∀ y∈(List.range k).foldl (λd b=>d.set b x) l,p y
 |0=>h
 | k+1=>by
  rw[pq];exact Ff (VP h C k) C
def afz{r:eH}(h:fY r=true):∀ k:Nat,fY ⟨(List.range k).foldl (λd b=>d.set b 0) r.aC,r.wait,r.dY⟩=true
 |0=>h
 | k+1=>by
  rw[pq];exact afs (afz h k) k (by omega)
def Ck.Vq{c:av}(h:Ck c)(hl:c.box.bX.weights.length<1073741823)(D:aT c.config.ij 1 16=true)(n:Nat)(hn:(n:Int) <= aI c.config.ak):Ck (iK c n []):=by
 have hg:=(v8 h.rk).1;have p:=gu.of h.pa;have C:=Ow hg c.config.dS (by decide) (fG.wA h.ar) n hn;have hp:gu (iK c n []):=⟨by show (((List.range n).foldl _ c.az.aC).length:Int)=_;rw[wo];exact p.dl,by show (((List.range n).foldl _ c.bB).length:Int)=_;rw[wo];exact p.tl,by show (((List.range n).foldl _ c.guard).length:Int)=_;rw[wo];exact p.gl,VP p.t (afk D) n,VP p.g (OG hl h.f1) n,λa C=>(by cases C),List.Pairwise.nil⟩
 exact⟨h.f1,h.f2,h.nw,h.rk,h.rd,CU hg C,h.sp,h.se,afz h.rf n,hp.ok,h.qu,h.sh,h.sl,h.dr,h.pw,h.ps,h.si,h.s1,h.s2,h.s3,h.er,h.tr,h.rp⟩
def Ck.acc{c:av}(h:Ck c){i:Nat}(C:qK c i 100000)(Y:c.bA.length<400):Ck (gz c i):=by
 have hg:=(v8 h.rk).1;have p:=gu.of h.pa;have hi:=C.i;have⟨f1,f3,f4,f5,f6,f7,f8⟩:=C.facts (cR hi);have hq:c.queue.getD i nI=c.queue[i]:=gM _ hi;have hd:=C.d _ (cR hi);have I:=C.shl;have D:kB (CT c.shares c.queue[i].dn)=true/\((CT c.shares c.queue[i].dn).length:Int)=4:=by
  have⟨y,t,e,hl,Z⟩:=asM ((List.replicate 4 false).set c.queue[i].dn.toNat true) (by omega) h.sh (by simp[I])
  grind
 have O:gw (dV (fZ c.config.ak c.spare)) (c.queue.take i++c.queue.drop (i+1))=true:=((Qk.of h.qu).sub (afp _ _)).ok;have key:∀ (a:dw) (e:aa cP) (x:gj),fG c.config.ak 100000 a -> oe e=true -> Ck (pz c i a e x):=λa e x T U=>
  ⟨h.f1,h.f2,h.nw,h.rk,h.rd,CU hg T,h.sp,h.se,h.rf,(show gu (pz c i a e x)from ⟨p.dl,p.tl,p.gl,p.t,p.g,p.pd,p.u⟩).ok,O,by unfold pz;rw[hq];exact D.1,by unfold pz;rw[hq];exact D.2,h.dr,h.pw,h.ps,h.si,h.s1,h.s2,h.s3,U,h.tr,by simp[pz];omega⟩
 unfold gz;rw[hq];dsimp only;cases c.queue[i].write with
 |true=>exact key _ _ _ (C.a.Jq _ (c:=⟨_,false⟩) (Vv hd.1 hd.2).2.1) h.er
 | false=>
  have E:=C.a.syms _ (cR f4);rw[ax,gM _ f4];refine key _ _ _ (C.a.Jq _ (Vt E)) ?_;have hec:=VA E;by_cases e:kQ c.array.cells[tw c.config.ak (cv c c.queue[i].line)]=0
  ·rw[e];exact h.er
  ·rw[gR e,au];exact afq h.er ⟨by omega,f5⟩ (by omega)
def Ck.CZ{c:av}(h:Ck c){x:aP}(C:kO c.config.ak c.aF x=true)(D:6 <= x.kind/\x.kind <= 9)(T:c.trace.length<2000):Ck (AN (Proofs.YtpigmalhjkekiaaGreat.bU c x) x.kind):=by
 simp[kO,aJ]at C;have hn:=br.1 h.nw;have⟨E,I,O⟩:=asO h.pw h.ps h.si hn.2 D C.2.2;have p:=gu.of h.pa;exact⟨h.f1,h.f2,h.nw,UZ C.1 C.2.1 C.2.2,afo _ h.rd,h.ar,h.sp,h.se,h.rf,(show gu _ from ⟨p.dl,p.tl,p.gl,p.t,p.g,p.pd,p.u⟩).ok,h.qu,h.sh,h.sl,h.dr,E,I,O,h.s1,h.s2,h.s3,h.er,by simp[AN,afa,Proofs.YtpigmalhjkekiaaGreat.bU];omega,h.rp⟩
def Ck.VQ{c:av}(I:cZ c)(h:Ck c){x:aP}{i:Int}(E:jE c x i=true):Ck (bH c x i):=by
 have hq:=Pq.of I h.ok;have hw:c.box.bX.weights.length<1073741823:=by
  have:=I.1.1;unfold Jp at this;omega
 have U:aT c.config.ij 1 16=true:=by
  have:=(CP hw h.f1).1;simp[qy,aJ]at this;exact this.2.2.2.2.2.1
 have⟨hb,C,Y,hr⟩:=AQ I hq E;have D:c.trace.length<2000:=by
  simp only[jE,aJ,fB,oA]at E;omega
 have Z:x.kind=2 \/ x.kind=3 -> c.bA.length<400:=λO=>by
  simp only[jE,aJ]at E;have e:(x.kind==2 ||x.kind==3)=true:=by rcases O with q|q<;>rw[q]<;>rfl
  rw[e,au]at E;simp[JN,aJ,fC]at E;omega
 have⟨hg,hlen,O,wE⟩:=v5 C;have hc:cC c.config.ak x=true:=by
  simp only[kO,aJ]at C
  grind
 have AO:=(gu.of h.pa).tl;have gZ:=hq.p.bl;unfold bH;rcases kinds O with q|q|q|q|q|q|q|q|q<;>rw[q]<;>simp only[Int.reduceBEq,Int.reduceBNe,au,ax,Bool.or_true,Bool.or_false,Bool.true_or,Bool.false_or,Bool.or_self]
 ·have⟨T,B1⟩:=wE (by omega);have⟨r0,r1⟩:=JK hc q;exact(h.bU C (by omega) D).VN T (by show x.aq<aI c.config.ak;omega) r0 r1
 ·exact(h.bU C (by omega) D).acc ((Y (.inl q)).1.bU x) (Z (.inl q))
 ·exact(h.bU C (by omega) D).acc ((Y (.inr q)).1.bU x) (Z (.inr q))
 ·exact h.bU C (by omega) D
 ·have⟨T,B1⟩:=wE (by omega);exact(h.bU C (by omega) D).ref hw U T (by show x.aq<aI c.config.ak;omega)
 ·have:=h.CZ C (by omega) D;rw[q]at this;exact this
 ·have:=h.CZ C (by omega) D;rw[q]at this;exact this
 ·have:=h.CZ C (by omega) D;rw[q]at this;exact this
 ·have:=h.CZ C (by omega) D;rw[q]at this;exact this.Vq hw U _ (by show (c.bB.length:Int) <= aI c.config.ak;omega)
def Adv(n:Int)(c y:av):Prop:=(y.trace=c.trace/\y.aF=c.aF/\y.ready=c.ready)\/∃x,y.trace=c.trace++[⟨n,x⟩]/\y.aF=bN c.aF x/\y.ready=gx c.config.ak c.ready ⟨n,x⟩/\cC c.config.ak x=true/\gG c.aF x=true/\kC c.config.ak c.config.bQ c.ready x<=n
def Nx(c y:av):Prop:=y.now=c.now/\y.config=c.config/\y.queue.Sublist c.queue/\(∀r∈y.bA,r∈c.bA\/∃q∈c.queue,r.id=q.id)/\Adv c.now c y/\y.queue.length+y.bA.length=c.queue.length+c.bA.length
def Nx.refl(c:av):Nx c c:=⟨rfl,rfl,List.Sublist.refl _,λr C=>.inl C,.inl ⟨rfl,rfl,rfl⟩,rfl⟩
def afA{c:av}{x:aP}(C:cC c.config.ak x=true/\gG c.aF x=true/\kC c.config.ak c.config.bQ c.ready x<=c.now){i:Nat}(hi:i<c.queue.length):Nx c (gz (bU c x) i):=by
 have key:∀ (a:dw) (e:aa cP) (t:gj),t.id=c.queue[i].id->Nx c (pz (bU c x) i a e t):=λa e t D=>by
  refine⟨rfl,rfl,afp _ _,λr hr=>?_,.inr ⟨x,rfl,rfl,rfl,C⟩,?_⟩
  ·rcases gJ.1 hr with hr | hr
   ·exact .inl hr
   ·rw[gf.1 hr];exact .inr ⟨_,cR hi,D⟩
  ·show (c.queue.take i++c.queue.drop (i+1)).length+(c.bA++[t]).length=_;rw[nM,nM,jF,List.length_drop,List.length_singleton];omega
 have hq:(bU c x).queue.getD i nI=c.queue[i]:=gM _ hi;unfold gz;rw[hq];dsimp only;cases c.queue[i].write with
 |true=>exact key _ _ _ rfl
 |false=>exact key _ _ _ rfl
def atg{c:av}{x:aP}{i:Int}(D:jE c x i=true)(Y:1<=x.kind/\x.kind<=9)(I:x.kind=2\/x.kind=3->i.toNat<c.queue.length):Nx c (bH c x i):=by
 have E:cC c.config.ak x=true/\gG c.aF x=true/\kC c.config.ak c.config.bQ c.ready x<=c.now:=by
  simp only[jE,cI,aJ,fC]at D;exact⟨D.1,D.2.1.1,D.2.1.2.2⟩
 have C:∀y:av,y.now=c.now->y.config=c.config->y.queue=c.queue->y.bA=c.bA->y.trace=c.trace++[⟨c.now,x⟩]->y.aF=bN c.aF x->y.ready=gx c.config.ak c.ready ⟨c.now,x⟩->Nx c y:=λy Z h2 O T h5 h6 h7=>⟨Z,h2,by rw[O];exact List.Sublist.refl _,λr U=>by rw[T]at U;exact .inl U,.inr ⟨x,h5,h6,h7,E⟩,by rw[O,T]⟩
 unfold bH;rcases kinds Y with q|q|q|q|q|q|q|q|q<;>rw[q]<;>simp only[Int.reduceBEq,Int.reduceBNe,au,ax,Bool.or_true,Bool.or_false,Bool.true_or,Bool.false_or,Bool.or_self]
 ·exact C _ rfl rfl rfl rfl rfl rfl rfl
 ·exact afA E (I (.inl q))
 ·exact afA E (I (.inr q))
 ·exact C _ rfl rfl rfl rfl rfl rfl rfl
 ·exact C _ rfl rfl rfl rfl rfl rfl rfl
 ·exact C _ rfl rfl rfl rfl rfl rfl rfl
 ·exact C _ rfl rfl rfl rfl rfl rfl rfl
 ·exact C _ rfl rfl rfl rfl rfl rfl rfl
 ·exact C _ rfl rfl rfl rfl rfl rfl rfl
def oy(d:Int):Int:=if (5:Int)<W6 (d+1)then 5 else W6 (d+1)
def ath(q:aa aX)(w:Bool)(hl:q.length<1073741824):∃ n,EA q w=some n:=by
 unfold EA bR;have e:=eJ (step:=Io) q.length (λi=>((w,(((q.take i).countP λr=>r.write==w:Nat):Int),q,(q.length:Int),(i:Int),()),())) (.inl (((((q.take q.length).countP λr=>r.write==w:Nat):Int),()),())) bq (λk C=>by
  have D:=List.countP_le_length (p:=λr:aX=>r.write==w) (l:=q.take k);rw[jF]at D;unfold Io aM xG xI;dsimp only;rw[aY,au,aO ⟨by omega,by omega⟩,cc];simp only[bE];rw[uH C,List.countP_append,List.countP_singleton];cases q[k].write==w with
  |true=>rw[ cc];rfl
  |false=>rw[ cc];rfl) (by
  unfold Io aM xG xI;dsimp only;rw[bh,ax]) (cu)
 rw[dm]at e;exact⟨_,(bz (λo=>Option.bind o _) e).trans rfl⟩
def ati{d:mX}(h:qA d=true)(n:Int):∃ y,Ez d n=some y/\qA y=true:=by
 unfold Ez;rw[NY,ay,h,bL];cases decide (n >= d.high)with
 |true=>exact⟨_,rfl,h⟩
 | false=>
  cases decide (n <= d.low)with
  |true=>exact⟨_,rfl,h⟩
  |false=>simp_all
def atj(b:mY)(h:Oc b)(x:Bool):∃ t,Iq b x=some (bif t then ⟨b.next,b.next,false⟩else b,t):=by
 have hn:b.next.weights.length <= 1048576:=h.2
 unfold Iq;rw[aeO b h];cases x with
 |false=>simp_all
 | true=>
  cases b.waits with
  |false=>simp_all
  | true=>
   refine⟨true,?_⟩;unfold vR xA xZ;rw[om _];rfl
def atk{c:fo}{p:cK}(hl:p.weights.length<1073741823)(h:oh c p=true):∃ l t,yf p.weights=some (l,t)/\kB l=true/\(l.length:Int)=4/\qA ⟨false,p.low,p.high⟩=true:=by
 have⟨_,f2⟩:=CP hl h;simp[yx,aJ,eG]at f2;have⟨f3,f4,f5,f6,f7,f8,f9⟩:=f2;refine⟨p.weights.map od,true,?_,f8,by rw[eS];exact f7,f6⟩;rw[UE _ hl];unfold CD;simp_all
def atl{s:tO}{n:Int}(C:aT s.every 1 100000=true)(E:aT s.wait 1 s.every=true)(D:aT s.next 0 (W6 (n-1))=true)(hn:1<=n/\n<=1000000):∃ y m,yj s n=some (y,m)/\aT y.every 1 100000=true/\aT y.wait 1 y.every=true/\aT y.next 0 (W6 (n-1))=true/\m<n:=by
 have O:=br.1 C;have Y:=br.1 E;have hw:W6 (n-1)=n-1:=aZ;have T:=br.1 D;rw[hw]at T;unfold yj;rw[dh,ay,C,bL,ax,dh,ay,E,bL,ax,bh,ax,dh,ay,D,bL,ax,aZ (n:=s.wait-1)];by_cases I:s.wait-1 > 0
 ·rw[aY I,au];exact⟨_,_,rfl,C,br.2 ⟨by dsimp only;omega,by dsimp only;omega⟩,D,by omega⟩
 ·rw[bh I,ax,aW,aZ (n:=s.next+1)];refine⟨_,_,rfl,C,br.2 ⟨O.1,fN _⟩,?_,by omega⟩;rw[hw,r4 (by omega)];have U:=Int.emod_nonneg (s.next+1) (show n≠0 by omega);have Z:=Int.emod_lt_of_pos (s.next+1) (show 0<n by omega);exact br.2 ⟨U,by dsimp only;omega⟩
def uX(c:av)(b:mY)(a:dw)(r:eH)(s:aa dD)(d:mX)(p:iC)(u:tO):av:=⟨c.config,b,W6 (c.now+1),c.aF,c.ready,a,c.spare,r,c.bB,c.guard,c.pending,c.queue,s,d,p,u,c.errors,c.trace,c.bA⟩
def ON(x:av):aj av:=(s8 x).bind λC=>bif (C.1.kind != (0:Int))then (s9 x C.1 C.2).bind λD=>some D.1 else some x
def OO(x:av)(n:Int):aj av:=bif (decide (n >= (0:Int)))then (yo x n).bind λC=>(yl C.2.1 n C.1.2).bind λD=>ON D.2.1 else ON x
def stepT(c:av)(r:eH)(a:dw):aj av:=(EA c.queue true).bind λT=>(Ez c.drain T).bind λI=>(Aj (uX c c.box a r c.shares I c.aN c.eA)).bind λU=>(EB c.aN U).bind λO=>(Iq c.box ((c.queue.length:Int)==(0:Int))).bind λC=>bif C.2 then (yf C.1.bX.weights).bind λY=>(sZ c.config.ak).bind λE=>(yj c.eA E).bind λD=>OO (uX c C.1 a r Y.1 ⟨false,C.1.bX.low,C.1.bX.high⟩ O D.1) D.2 else (sZ c.config.ak).bind λE=>(yj c.eA E).bind λD=>OO (uX c C.1 a r c.shares I O D.1) D.2
def tK(r:eH)(n:Int):eH:=if 0<r.wait-1 then ⟨r.aC,r.wait-1,r.dY⟩else ⟨r.aC.map oy,bif r.dY then n / 2 else n,r.dY⟩
def atm{t:cg}(h:ja t=true):2<=EW t:=by
 have q:=adV t;unfold B8 at q;rw[I9,ay,h,bL,ax]at q;simp only[ja,aJ,bT]at h;have k:∀ x∈rP t,0<=x/\x<=1000:=λx C=>by
  have:=h.1 x C;simp only[EV,br]at this;omega
 simp only[rP,List.forall_mem_cons]at k;injection q with q;rw[<-q];simp (disch:=omega) only [aZ];omega
def atn{c:fo}{p:cK}(hl:p.weights.length<1073741823)(h:oh c p=true):2<=c.interval/\c.interval<=10000:=by
 have q:=(CP hl h).1;have t:=atm (adX q).2.1;simp only[qy,aJ,br]at q;omega
def ato{r:eH}(h:fY r=true){n:Int}(hn:2<=n/\n<=10000):fY (tK r n)=true/\(tK r n).aC.length=r.aC.length:=by
 have hl:=wg h;have hd:=JC h;simp only[fY,aJ,br]at h;unfold tK;split
 ·refine⟨?_,rfl⟩;simp only[fY,aJ,br];exact⟨h.1,by omega⟩
 ·refine⟨?_,eS _⟩;simp only[fY,aJ,bT,Je,br,eS,List.mem_map,forall_exists_index,and_imp,forall_apply_eq_imp_iff₂]
  refine⟨λd C=>?_,by omega,?_⟩
  ·have:=hd d C;unfold oy;rw[aZ (n:=d+1)];split<;>omega
  ·cases r.dY<;>simp<;>omega
def atp{r:eH}(h:fY r=true){n:Int}(hn:2<=n/\n<=10000):MW r n=some (tK r n):=by
 have hl:=wg h;have hd:=JC h;have hw:1<=r.wait/\r.wait<=10000:=by
  simp only[fY,aJ,br]at h;exact h.2.2
 have D:W6 (n.tdiv 2)=n / 2:=by rw[Int.tdiv_eq_ediv_of_nonneg (by omega)];exact aZ
 unfold MW Ce tK bR xA xZ;rw[eM (by simp;omega),au,List.nil_append,ay,Jf _ (by omega),ay,h,bL,ax,dh,ay,br.2 hn,bL,ax];dsimp only;rw[aZ (n:=r.wait-1)];by_cases C:r.wait-1 > 0
 ·rw[aY C,au,aV C]
 ·rw[bh C,ax,aW C];have e:=eJ (step:=Ik) r.aC.length (λi=>((n,(),(),(),(r.aC.length:Int),(i:Int),()),((r.aC,r.wait,r.dY,()),((),(0:Int),false,()),((),r.wait-1,r.dY,()),([]:aa Int),upto oy r.aC i,()))) (.inl ((n,(),(),(),()),((r.aC,r.wait,r.dY,()),((),(0:Int),false,()),((),r.wait-1,r.dY,()),([]:aa Int),r.aC.map oy,()))) bq (λi hi=>by
   have hlen:=NR oy r.aC i;unfold Ik aM xG xL;dsimp only;rw[aY,au,aO ⟨by omega,by omega⟩,aO,aO ⟨by omega,by omega⟩,aO,cc];simp only[bE];rw[Up oy r.aC i hi,<-Uq oy r.aC i hi];rfl) (by
   unfold Ik aM xG xL;dsimp only;rw[bh,ax,Uo]) (cu)
  rw[dm,adD]at e
  refine(bz (λo=>Option.bind o _) e).trans ?_
  rw[ay];simp only[gD];rw[D];cases r.dY<;>rfl
def afB(a:dw):dw:=⟨a.cells,a.bu.map (nD 1),a.bg⟩
def atq{g:aH}{a:dw}(h:nB g a=true):nB g (afB a)=true:=by
 have C:=fG.wA h
 refine CU (U3 h).1 ⟨C.cells,C.syms,(bz (λn:Nat=>(n:Int)) (eS _)).trans C.bu,C.bg,λx D=>?_,C.hit⟩
 obtain⟨y,E,rfl⟩:=List.mem_map.1 D;exact adU (C.EU y E) (by decide)
def atr{g:aH}{a:dw}(h:nB g a=true):Im g a 1=some (afB a):=aqU (U3 h).1 (fG.wA h) (by decide) (by decide) (by decide)
def VR{A T:Type}(f:Nat->A->T->aj A)(e:T):∀ (l:aa T) (k:Nat) (a:A),mL f k (l++[e]) a=(mL f k l a).bind λC=>f (k+l.length) C e
 | [],k,a=>by
  show (match f k a e with|some C=>some C|none=>none)=f k a e;cases f k a e<;>rfl
 | x :: l,k,a=>by
  show (match f k a x with|some C=>mL f (k+1) (l++[e]) C|none=>none)=(match f k a x with|some C=>mL f (k+1) l C|none=>none).bind λC=>f (k+(l.length+1)) C e
  cases f k a x with
  |none=>rfl
  | some C=>
   rw[show k+(l.length+1)=k+1+l.length by omega];exact VR f e l (k+1) C
def afC{A T:Type}{f f':Nat->A->T->aj A}:∀ (l:aa T) (k:Nat) (a:A),(∀ i (h:i<l.length) a,f (k+i) a l[i]=f' (k+i) a l[i])->mL f k l a=mL f' k l a
 |[],_,_,_=>rfl
 | x :: l,k,a,h=>by
  have D:f k a x=f' k a x:=h 0 (Nat.zero_lt_succ _) a;show (match f k a x with|some C=>mL f (k+1) l C|none=>none)=(match f' k a x with|some C=>mL f' (k+1) l C|none=>none)
  rw[D];cases f' k a x with
  |none=>rfl
  | some C=>
   exact afC l (k+1) C λi hi b=>by
    have:=h (i+1) (Nat.succ_lt_succ hi) b;rw[show k+(i+1)=k+1+i by omega]at this;exact this
def att{l:aa bO}{e x:bO}:∀ {k:Nat},k<=l.length->tv (l++[e]) k x=tv l k x
 |0,_=>rfl
 | k+1,h=>by
  simp only[tv];rw[List.getElem?_append_left (by omega)]
def afD(g:aH)(t:cg){l:aa bO}(e x:bO){k:Nat}(h:k<=l.length)(r:bM):fT g t (l++[e]) k r x=fT g t l k r x:=by
 unfold fT;rw[att h,List.take_append_of_le_length h]
def atu(g:aH)(t:cg)(l:aa bO)(e:bO):runT g t (l++[e])=(runT g t l).bind λr=>fT g t l l.length r e:=by
 unfold runT;rw[VR,eW,afC (f':=fT g t l) l 0 (kP g) λi hi a=>afD g t e _ (by omega) a];congr 1;funext r;exact afD g t e e (dB _) r
structure yJ (g:aH) (t:cg) (l:List bO) (r:bM) (q:dR):Prop where
 tkR:runT g t l=some r
 tkF:CG g l=some r
 tkY:og g l=q
 tkV:∀e∈l,yC g e=true/\e.at_<=q.last.getD (gL g e.cmd).toNat (-1)
 tkA:q.bf=(gH l).drop ((gH l).length-4)
def yJ.new(g:aH)(t:cg):yJ g t [] (kP g) (uP g):=⟨rfl,rfl,rfl,λe h=>(by cases h),rfl⟩
def atv(g:aH)(t:cg){a b:aP}(c:aP)(C:a.kind=b.kind)(hb:a.kind<=5->a.aq=b.aq):fy g t a c=fy g t b c:=by
 have e:pn a c=pn b c:=by unfold pn;rw[C]
 unfold fy uK;rw[<-e,C];cases D:pn a c with
 |false=>rfl
 | true=>
  simp only[pn,aJ,br]at D;rw[hb D.1.2]
def atw{g:aH}{c:aP}(h:cC g c=true):(jC (gL g c).toNat).kind=c.kind/\((jC (gL g c).toNat).kind<=5->(jC (gL g c).toNat).aq=c.aq):=by
 obtain⟨_,D,hb,_⟩:=qE h;obtain⟨E,_⟩:=EZ h;have e:((gL g c).toNat:Int)=gL g c:=Int.toNat_of_nonneg E;have I:gL g c % 9+1=c.kind:=by unfold gL;omega
 unfold jC;dsimp only;rw[e,I]
 refine⟨rfl,λC=>?_⟩
 have O:aT c.kind 1 5=true:=br.2 ⟨D.1,C⟩;rw[aV C];unfold gL;rw[O,au];omega
def afE(g:aH)(t:cg)(l:aa Int)(c:aP):∀ (k:Nat),k<=l.length->∀ (i:Nat) (hi:i<l.length),i<k->0<=l[i]->l[i]+fy g t (jC i) c<=rW g t l c k
 |0,_,_,_,h,_=>absurd h (Nat.not_lt_zero _)
 | k+1,E,i,hi,h,C=>by
  rw[Ok,Ol (by omega)];by_cases e:i=k
  ·subst e;rw[bh,ax];unfold rV;split<;>omega
  ·have D:=afE g t l c k (by omega) i hi (by omega) C;cases decide (l[k]<0)with
   |true=>exact D
   | false=>
    rw[ax];unfold rV;split<;>omega
def atx(g:aH)(t:cg)(r:dR)(c:aP):rW g t r.last c r.last.length<=kC g t r c:=by
 unfold kC rV;cases c.kind==1&&(r.bf.length:Int)==4 with
 |false=>exact fN _
 | true=>
  rw[au];split<;>omega
def yJ.gap{g:aH}{t:cg}{l:aa bO}{r:bM}{q:dR}(h:yJ g t l r q)(hq:jR g q=true){x:aP}{n:Int}(Y:kC g t q x<=n):∀ e∈l,e.at_+fy g t e.cmd x<=n/\e.at_<n:=λe D=>by
 obtain⟨E,I⟩:=h.tkV e D;obtain⟨C,Z,_⟩:=UW E;obtain⟨p0,p1⟩:=EZ C;have hl:=(E0 hq).2.1;have hp:(gL g e.cmd).toNat<q.last.length:=by omega
 rw[cS,bJ hp,Option.getD_some]at I;have O:=afE g t q.last x q.last.length (dB _) _ hp hp (by omega);have h4:=atx g t q x;obtain⟨T,U⟩:=atw C;rw[atv g t x T U]at O;have h5:=aqi g t e.cmd x;omega
def aty(l:aa bO)(e:bO):gH (l++[e])=bif e.cmd.kind==1 then gH l++[e.at_]else gH l:=by
 unfold gH;rw[List.filter_append,List.map_append];cases h:e.cmd.kind==1<;>simp[List.filter_cons,h]
def atz{l:aa bO}{y:Int}(h:y∈gH l):∃ e∈l,e.at_=y:=by
 obtain⟨e,C,rfl⟩:=List.mem_map.1 h;exact⟨e,(List.mem_filter.1 C).1,rfl⟩
def oz{T:Type}{l:aa T}{i:Nat}{x:T}(d:T)(h:i<l.length):(l.set i x).getD i d=x:=by
 rw[cS,List.getElem?_set_self h];rfl
def getD_set_ne{T:Type}{l:aa T}{i j:Nat}{x:T}(d:T)(h:i≠j):(l.set i x).getD j d=l.getD j d:=by
 rw[cS,List.getElem?_set_ne h,<-cS]
def yJ.add{g:aH}{t:cg}{l:aa bO}{r:bM}{q:dR}(h:yJ g t l r q)(Z:kN g r=true)(hq:jR g q=true){x:aP}{n:Int}(C:cC g x=true)(I:gG r x=true)(ha:kC g t q x<=n)(hn:0<=n/\n<=1000000):yJ g t (l++[⟨n,x⟩]) (bN r x) (gx g q ⟨n,x⟩):=by
 have hg:=h.gap hq ha;have hl:=(E0 hq).2.1;obtain⟨p0,p1⟩:=EZ C;have hi:aT n 0 1000000=true:=br.2 hn;have D:=h.tkA;have h1:tv l l.length ⟨n,x⟩=true:=by
  cases e:l.length with
  |zero=>rfl
  | succ k=>
   simp only[tv];rw[bJ (by omega)];exact aY (hg _ (cR (by omega))).2
 have h2:uN g t l ⟨n,x⟩=false:=by
  unfold uN
  refine kT.2 λe he=>?_
  have:=(hg e he).1;rw[fC];dsimp only;omega
 have h3:(x.kind==1&&AB t (gH l) n)=false:=by
  cases O:x.kind==1 with
  |false=>rfl
  | true=>
   rw[cJ];unfold AB;by_cases E:4<=(gH l).length
   ·have e4:q.bf.length=4:=by rw[D,List.length_drop];omega
    have e0:q.bf.getD 0 0=(gH l).getD ((gH l).length-4) 0:=by
     rw[D,cS,List.getElem?_drop,Nat.add_zero,<-cS]
    have e5:q.bf.getD 0 0+t.jZ<=kC g t q x:=by
     unfold kC rV;rw[O,e4,show ((4:Nat):Int)==4 from rfl,Bool.and_self,au];split<;>omega
    rw[<-e0,bh (show ¬ n-q.bf.getD 0 0<t.jZ by omega),Bool.and_false]
   ·rw[bh E,Bool.false_and]
 have E:(x.kind==1&&uM q n)=false:=by
  cases O:x.kind==1 with
  |false=>rfl
  | true=>
   rw[cJ];unfold uM;cases hL:q.bf.getLast? with
   |none=>rfl
   | some y=>
    have T:y∈q.bf:=List.mem_of_getLast? hL;rw[D]at T;obtain⟨e,he,rfl⟩:=atz (List.mem_of_mem_drop T);exact bh (by have:=(hg e he).2;omega)
 have U:gx g q ⟨n,x⟩=⟨q.last.set (gL g x).toNat n,bif x.kind==1 then Az q.bf n else q.bf⟩:=by
  unfold gx;dsimp only;rw[hq,C,hi,E];rfl
 refine⟨?_,?_,?_,?_,?_⟩
 ·rw[atu,h.tkR,Option.bind_some];unfold fT;dsimp only;rw[C,hi,h1,I,mV,h2,h3];rfl
 ·have e:=h.tkF;unfold CG at e ⊢;rw[VR,e,Option.bind_some];unfold fE kO;dsimp only;rw[Z,C,I];rfl
 ·have e:=h.tkY;unfold og at e ⊢;rw[List.foldl_append,e];rfl
 ·rw[U];dsimp only;intro e he;rcases gJ.1 he with he | he
  ·obtain⟨e1,e2⟩:=h.tkV e he;refine⟨e1,?_⟩;by_cases Y:(gL g x).toNat=(gL g e.cmd).toNat
   ·rw[<-Y,oz _ (by omega)];have:=(hg e he).2;omega
   ·rw[getD_set_ne _ Y];exact e2
  ·obtain rfl:=gf.1 he;dsimp only;rw[oz _ (by omega)];refine⟨?_,fN _⟩;unfold yC;rw[C,hi];rfl
 ·rw[U,aty];dsimp only;cases x.kind==1 with
  |false=>exact D
  | true=>
   rw[au,au];unfold Az;rw[D,nM,List.length_singleton,List.length_drop];by_cases hs:(gH l).length<=3
   ·rw[show (gH l).length-4=0 by omega,List.drop_zero];rfl
   ·rw[<-List.drop_append_of_le_length (l₂:=[n]) (show (gH l).length-4<=(gH l).length by omega),List.drop_drop];congr 1;omega
def afF(l:aa Int):AD l l=true:=by
 unfold AD;rw[iS,cJ,bT];intro p hp;obtain⟨i,hi,rfl⟩:=iU.1 hp;rw[List.getElem_zip];exact iS _
def atA(l:aa ep):(l.zip l).all CH=true:=by
 rw[bT];intro p hp;obtain⟨i,hi,rfl⟩:=iU.1 hp;rw[List.getElem_zip];unfold CH;rw[iS,iS];rfl
def AR(c:av):Prop:=yJ c.config.ak c.config.bQ c.trace c.aF c.ready
def AR.saf{c:av}(h:AR c):Oh c=true:=by
 unfold Oh;rw[h.tkR,h.tkF,h.tkY];dsimp only;rw[iS,atA,afF,afF];rfl
def AS:cX:=⟨List.replicate 16 (-1),List.replicate 16 0,0⟩
def atB:Eh 16=some (AS,true):=by kernel_rfl
def atC:Ae 0=some (List.replicate 11 0):=by kernel_rfl
def VS:cB:=⟨List.replicate 11 0,false⟩
def AT(g:aH):dw:=⟨List.replicate (dV g).toNat VS,List.replicate (fM g).toNat 0,List.replicate (fM g).toNat 0⟩
def atD{g:aH}(hg:cy g=true):My g=some (AT g):=by
 have C:=oa g;have E:=ta g;have er:aI g*g.rows=fM g:=by simp[fM,hg]
 obtain⟨n,hn⟩:=fD C.1;unfold My bR;rw[qw,ay,hg,bL,ax,jz,ay,er,aZ (n:=fM g),aV ⟨by omega,by omega,by omega⟩,aV ⟨by omega,by omega,by omega⟩];generalize D:List.replicate (fM g).toNat (0:Int)=A;have e:=eJ (step:=HK) n (λi=>(((),(),(),(i:Int),()),((g.bI,g.aE,g.rows,g.aR,()),((),(),(),()),((),(),(),()),([]:aa cB),([]:aa Int),([]:aa Int),List.replicate i VS,A,A,())))
  (.inl (((),(),()),(((),(),(),()),((),(),(),()),([]:aa cB),([]:aa Int),([]:aa Int),List.replicate n VS,A,A,()))) bq (λk h=>by
  unfold HK aM xG;dsimp only;rw[rO,Aq,ay,hn,aY,au,atC,ay,eM (by simp;omega),au,cc,List.replicate_succ' (n:=k)];rfl) (by
  unfold HK aM xG;dsimp only;rw[rO,Aq,ay,hn,bh,ax]) (cu)
 rw[dm,List.replicate_zero]at e;rw[e,ay];unfold AT;rw[hn,D,bE];rfl
def gB(c:fo)(p:cK):av:=⟨c,⟨p,p,false⟩,0,kP c.ak,uP c.ak,AT c.ak,(tj c.ak c.cF).1,⟨List.replicate (aI c.ak).toNat 0,c.interval,false⟩,List.replicate (aI c.ak).toNat AS,List.replicate (aI c.ak).toNat p.di,[],[],p.weights.map od,⟨false,p.low,p.high⟩,⟨0,0,0⟩,⟨0,10,10⟩,[],[],[]⟩
def Fi{p:cK}(h:we p):yx p=true/\kB (p.weights.map od)=true/\p.weights.length=4:=by
 have⟨⟨⟨D,E⟩,⟨I,O⟩,⟨T,U⟩,⟨Y,Z⟩,⟨i,w,hi,hw1,hw2,hw⟩,⟨h9,CE⟩,yB,qh⟩,rS,uL⟩:=h;have hl:p.weights.length=4:=by rw[hw,jh];rfl
 have C:kB (p.weights.map od)=true:=by
  rw[hw];rcases(by omega:i=0 \/ i=1 \/ i=2 \/ i=3)with rfl|rfl|rfl|rfl<;>rcases(by omega:w=1 \/ w=2 \/ w=3 \/ w=4)with rfl|rfl|rfl|rfl<;>rfl
 refine⟨?_,C,hl⟩;unfold yx qA EX;rw[C,hl];simp only[aT,aJ,fC]
 grind
def atE{n:Int}(C:8<=n)(D:n<=17):z0 n=some (2*n+2):=by
 unfold z0;rw[dh,ay,br.2 ⟨by omega,by omega⟩,bL,ax,aZ (n:=2*n),aZ]
def Fj{g:aH}(h:Jw g):cy g=true:=by
 have⟨⟨C,D⟩,⟨E,I⟩,⟨O,T⟩,U,Y⟩:=h;simp[cy,aT,aJ,fC];omega
def atF:∀ r∈[(1:Int),2,3,4],∀ w∈[(4:Int),5,6,7,8],ja (jb r w)=true/\decide (EW (jb r w) <= 200)=true:=by
 intro r C w hw;simp at C hw;rcases C with rfl|rfl|rfl|rfl<;>rcases hw with rfl|rfl|rfl|rfl|rfl<;>exact⟨by kernel_rfl,by kernel_rfl⟩
def atG{c:fo}(h:jB c):qy c=true:=by
 have⟨hg,⟨r,w,O,T,U,Y,D⟩,⟨Z,xQ⟩,⟨FW,VT⟩,⟨hi1,hi2⟩,E,hl⟩:=h;have I:=Fj hg;have⟨t1,C⟩:=atF r (by simp;omega) w (by simp;omega);have C:=of_decide_eq_true C;have⟨⟨h1,h2⟩,⟨h3,h4⟩,⟨h5,h6⟩,h7,h8⟩:=hg;unfold qy kA;rw[I,D,t1,hl,E];rw[aZ];simp only[aT,aJ,fC,true_and];omega
def afG{c:fo}{p:cK}(C:jB c)(hp:we p):sY c p=some true:=by
 have E:=atG C;have⟨I,_,h3⟩:=Fi hp;have⟨hg,⟨r,w,hr1,pX,hw1,hw2,D⟩,⟨hm1,xQ⟩,⟨FW,VT⟩,⟨hi1,hi2⟩,O,hl⟩:=C;have⟨_,T,U⟩:=hp;have Y:c.bQ.jY=7:=by rw[D];rfl
 have Z:c.bQ.rp=3:=by rw[D];rfl
 unfold sY;rw[NX,ay,E,au,Jd _ (by omega),ay,I,au,atE T U,ay,hl,O,Y,Z,aZ (n:=2*p.di+2+2)];dsimp only;rw[aY,au,aZ (n:=7+3),aW,aZ (n:=5*c.interval),Int.tdiv_eq_ediv_of_nonneg (by omega),aZ (n:=16+1),aZ (n:=(16+1)*p.di),aZ (n:=5*c.interval / (7+3)),aZ,aY]
def atH{p:cK}(h:p.weights.length=4):vR p=some p:=by
 unfold vR xA xZ;rw[eM (by simp[h]),au,List.nil_append]
def atI{p:cK}(hp:we p):Mz p=some (⟨p,p,false⟩,true):=by
 obtain⟨C,_,D⟩:=Fi hp;unfold Mz;rw[Jd _ (by omega),ay,C,bL,ax,atH D,ay,ay]
def grow(x:av)(l:Int)(i:Nat):av:=⟨x.config,x.box,x.now,x.aF,x.ready,x.array,x.spare,x.az,x.bB++List.replicate i AS,x.guard++List.replicate i l,x.pending,x.queue,x.shares,x.drain,x.aN,x.eA,x.errors,x.trace,x.bA⟩
def atJ(Z C:av)(c:fo)(p:cK)(n:Nat)(hn:aI c.ak=(n:Int))(T:n<=8)(D:c.ij=16)(E:C.bB=[])(I:C.guard=[]):
  iter Ei bq (((),(),(),(),(),(0:Int),()),(Z,C,c,(p.eX,p.cap,p.di,p.low,p.high,p.weights,p.dj.down,p.dj.sleep,()),(c.ak.bI,c.ak.aE,c.ak.rows,c.ak.aR,()),()))=some (.inl (((),(),()),(Z,grow C p.di n,()))):=by
 have e:=eJ (step:=Ei) n (λi=>(((),(),(),(),(),(i:Int),()),(Z,grow C p.di i,c,(p.eX,p.cap,p.di,p.low,p.high,p.weights,p.dj.down,p.dj.sleep,()),(c.ak.bI,c.ak.aE,c.ak.rows,c.ak.aR,()),()))) (.inl (((),(),()),(Z,grow C p.di n,()))) bq (λk h=>by
  unfold Ei grow aM xG;dsimp only;rw[rO,jz,ay,hn,aY,au,D,atB,ay,E,I,eM (by simp;omega),au,eM (by simp;omega),au,cc,List.replicate_succ' (n:=k),List.replicate_succ' (n:=k),List.append_assoc,List.append_assoc]) (by
  unfold Ei aM xG;dsimp only;rw[rO,jz,ay,hn,bh,ax]) (cu)
 have O:grow C p.di 0=C:=by
  unfold grow;simp only[List.replicate_zero,List.append_nil]
 rw[dm,O]at e;exact e
def atK{c:fo}{p:cK}(C:jB c)(hp:we p):MB c p=some (gB c p,true):=by
 have hg:=Fj C.1;have hb:=ey c.ak;have U:=I4 hg;obtain⟨Y,D,Z⟩:=Fi hp;obtain⟨n,hn⟩:=fD hb.1;have E:c.ij=16:=C.2.2.2.2.2.1;have JP:200<=c.interval/\c.interval<=259:=C.2.2.2.2.1;have I:MA (aI c.ak) c.interval=some (⟨List.replicate (aI c.ak).toNat 0,c.interval,false⟩,true):=by
  unfold MA;rw[dh,ay,br.2 ⟨by omega,by omega⟩,bL,ax,dh,ay,br.2 ⟨by omega,by omega⟩,bL,ax,aV ⟨by omega,by omega,by omega⟩]
 have O:TF 10=some (⟨0,10,10⟩,true):=rfl;have T:CD p.weights=(p.weights.map od,true):=by unfold CD;rw[D,au]
 unfold MB bR;rw[afG C hp,ay,bL,ax,UQ,ay,aem hg,ay,atD hg,ay,atI hp,ay,UC,ay,jz,ay,I,ay,UE _ (by omega),ay,O,ay,T];dsimp only;rw[atJ _ _ c p n hn (by omega) E rfl rfl,ay];unfold gB grow;rw[hn];rfl
def VU(g:aH)(sp:Int):aH:=⟨g.bI,g.aE,g.rows-sp,g.aR⟩
def OP(g:aH)(sp:Int):Bool:=kN g (kP g)&&(jR g (uP g)&&(nB g (AT g)&&(nG g (tj g sp).1&&((tj g sp).1.cF==sp&&(cy (VU g sp)&&(decide (0<dV (VU g sp))&&(W6 (W6 ((dV g).tdiv g.rows)*W6 (g.rows-sp))==dV (VU g sp)&&(decide (1<=dV g)&&decide ((tj g sp).1.map.length<=1048576)))))))))
def atM:(([1,2]:aa Int).all λG=>([1,2]:aa Int).all λB=>([4,5,6]:aa Int).all λR=>([1,2]:aa Int).all λC=>([0,1,2]:aa Int).all λsp=>OP ⟨G,B,R,C⟩ sp)=true:=by kernel_rfl
def afH{g:aH}{sp:Int}(h:Jw g)(C:0 <= sp)(D:sp <= 2):OP g sp=true:=by
 have⟨⟨E,I⟩,⟨O,T⟩,⟨U,Y⟩,d1,d2⟩:=h;have e:=atM;simp only[bT]at e;exact e _ (by simp;omega) _ (by simp;omega) _ (by simp;omega) _ (by simp;omega) sp (by simp;omega)
def atO:lY AS=true:=by kernel_rfl
def afI{c:fo}{p:cK}(C:jB c)(hp:we p):cZ (gB c p):=by
 have hb:=ey c.ak;have hl:=oa c.ak;have E:=ta c.ak;have⟨_,_,I⟩:=Fi hp;have hg:=afH C.1 C.2.2.2.1.1 C.2.2.2.1.2;simp only[OP,aJ,fC]at hg
 refine⟨⟨?_,?_⟩,?_,⟨?_,?_⟩,⟨⟨?_,λy D=>?_⟩,?_,?_⟩,hg.2.2.2.2.2.2.2.2.2,?_,⟨?_,λy D=>?_⟩,?_,?_,?_,?_,?_,?_,?_⟩
 ·show p.weights.length <= _;omega
 ·show p.weights.length <= _;omega
 ·show (List.replicate _ _).length <= _;rw[kF];omega
 ·show (List.replicate _ _).length <= _;rw[kF];omega
 ·exact iL _
 ·show (List.replicate _ _).length <= _;rw[kF];omega
 ·obtain rfl:=List.eq_of_mem_replicate D;exact cz rfl
 ·show (List.replicate _ _).length <= _;rw[kF];omega
 ·show (List.replicate _ _).length <= _;rw[kF];omega
 ·show (List.replicate _ _).length <= _;rw[kF];omega
 ·show (List.replicate _ _).length <= _;rw[kF];omega
 ·obtain rfl:=List.eq_of_mem_replicate D;exact⟨cz rfl,cz rfl⟩
 ·show (List.replicate _ _).length <= _;rw[kF];omega
 ·exact iL _
 ·exact iL _
 ·show (p.weights.map od).length <= _;rw[eS];omega
 ·exact iL _
 ·exact iL _
 ·exact iL _
def afJ{c:fo}{p:cK}(C:jB c)(hp:we p):cD (gB c p)=true:=by
 have hb:=ey c.ak;have YT:=I4 (Fj C.1);have hl:=oa c.ak;obtain⟨_,E,I⟩:=Fi hp;have hg:=afH C.1 C.2.2.2.1.1 C.2.2.2.1.2;simp only[OP,aJ,fC]at hg;obtain⟨O,T,U,Y,Z,g6,g7,g8,g9,g10⟩:=hg;have D:oh c p=true:=by unfold oh;rw[afG C hp];rfl
 have JP:200<=c.interval/\c.interval<=259:=C.2.2.2.2.1;obtain⟨⟨_,_,⟨l1,l2⟩,⟨l3,l4⟩,_⟩,p1,p2⟩:=hp;have e1:fY (gB c p).az=true:=by
  unfold fY;simp only[gB,kF,aT,aJ,fC,List.all_replicate];refine⟨?_,by omega,aY,aY⟩;split<;>rfl
 have e2:tq (gB c p)=true:=by
  unfold tq;simp only[gB,kF,aJ,eG,List.length_nil,List.range_zero,List.all_nil];refine⟨by omega,by omega,by omega,rfl,?_,trivial⟩;rw[bT];intro i hi;have hi:i<(aI c.ak).toNat:=gi.1 hi;unfold partAt;simp only[List.getElem?_replicate,hi,if_true,atO,cJ];exact br.2 ⟨by omega,by omega⟩
 have e3:qA (gB c p).drain=true:=by
  unfold qA;simp only[gB,aJ];exact⟨aY l1,aY l3,aY⟩
 have e4:aT 0 0 (W6 (dV c.ak-1))=true:=by
  rw[aZ];exact br.2 ⟨by omega,by omega⟩
 have e5:((p.weights.map od).length:Int)==4:=by rw[eS,I];rfl
 unfold cD;simp only[aJ];exact⟨D,D,rfl,O,T,U,Y,Z,⟨e1,e2⟩,rfl,E,e5,e3,rfl,rfl,rfl,rfl,rfl,e4,rfl,rfl,rfl⟩
def atP{c:av}(C:cD c=true)(r:aX):cD (jV c r).1=true/\((jV c r).2=false -> (jV c r).1=c):=by
 have h:=Ck.of C;have p:=gu.of h.pa;unfold jV;cases hb:((!cD c) ||((!(mN c r).2) ||(c.bA.any λx=>x.id==r.id)))with
 |true=>simp_all
 | false=>
  refine⟨?_,λh=>by cases h⟩
  rw[ax];simp only[mU,Bool.not_eq_false']at hb;have hq:gw (dV (fZ c.config.ak c.spare)) (mN c r).1=true:=by
   have D:=hb.2.1;unfold mN AF at D ⊢
   grind
  exact Ck.ok ⟨h.f1,h.f2,h.nw,h.rk,h.rd,h.ar,h.sp,h.se,h.rf,(show gu { c with queue:=(mN c r).1 } from ⟨p.dl,p.tl,p.gl,p.t,p.g,p.pd,p.u⟩).ok,hq,h.sh,h.sl,h.dr,h.pw,h.ps,h.si,h.s1,h.s2,h.s3,h.er,h.tr,h.rp⟩
def atQ{b:aa Int}{c:bx}(E:ku b c):Dr b (Md c) λ_=>True:=by
 unfold Md;rw[E.eq]
 refine(ff E 4).bind λx T U D=>?_
 rw[D.eta];cases hb:(x==0)with
 | true=>
  refine(NU D _ (by decide)).bind λy I _ C=>?_
  rw[C.eta];exact Dr.pure C trivial
 | false=>
  cases Y:(x==1)with
  | true=>
   refine(ff D 200).bind λy I _ C=>?_
   rw[C.eta];exact Dr.pure C trivial
  | false=>
   refine(ff D 65536).bind λy I _ C=>?_
   rw[C.eta]
   refine(ff C 65536).bind λy Z _ O=>?_
   rw[O.eta];exact Dr.pure O trivial
def atT{b:aa Int}{c:bx}(D:ku b c)(n:Int):Dr b (Me c n) λ_=>True:=by
 unfold Me;rw[D.eq]
 refine(ff D 60).bind λZ k1 h1 E=>?_
 dsimp only;rw[E.eta]
 refine(ff E 3).bind λx2 k2 h2 I=>?_
 dsimp only;rw[I.eta]
 refine(ff I n).bind λx3 k3 h3 O=>?_
 dsimp only;rw[O.eta]
 refine(ff O 50).bind λx4 k4 h4 T=>?_
 dsimp only;rw[T.eta]
 refine(NV T 2).bind λY k5 h5 C=>?_
 dsimp only;rw[C.eta];cases Y with
 | true=>
  refine(atQ C).bind λx6 k6 h6 U=>?_
  rw[U.eta];exact Dr.pure U trivial
 |false=>exact Dr.pure C trivial
def Rv(c:av)(N:Int):Prop:=(∀r∈c.queue,r.id<=N/\r.at_<=c.now)/\∀r∈c.bA,r.id<=N
def Rv.nx{c y:av}{N:Int}(h:Rv c N)(D:Nx c y):Rv y N:=by
 have⟨E,T,I,O,U⟩:=D
 refine⟨λr C=>by rw[E];exact h.1 r (I.subset C),λr C=>?_⟩
 rcases O r C with q|⟨q,hq,e⟩
 ·exact h.2 r q
 ·rw[e];exact(h.1 q hq).1
def Tq(c:av)(u:Nat):Prop:=AR c/\c.queue.length+c.bA.length<=u
def Tq.up{c:av}{u:Nat}(h:Tq c u):Tq c (u+1):=⟨h.1,Nat.le_succ_of_le h.2⟩
def Tq.adv{c y:av}{u:Nat}{n:Int}(h:Tq c u)(T:cD c=true)(hn:0<=n/\n<=1000000)(O:y.config=c.config)(U:Adv n c y)(hl:y.queue.length+y.bA.length=c.queue.length+c.bA.length):Tq y u:=by
 have k:=Ck.of T;have C:=h.1;unfold AR at C;refine⟨?_,by rw[hl];exact h.2⟩;unfold AR;rcases U with ⟨D,E,I⟩|⟨x,D,E,I,a4,Y,Z⟩
 ·rw[O,D,E,I];exact C
 ·rw[O,D,E,I];exact C.add k.rk k.rd a4 Y Z hn
def Tq.nx{c y:av}{u:Nat}(h:Tq c u)(D:cD c=true)(C:Nx c y):Tq y u:=h.adv D (br.1 (Ck.of D).nw) C.2.1 C.2.2.2.2.1 C.2.2.2.2.2
def atU{c:av}{u:Nat}(h:Tq c u)(r:aX):Tq (jV c r).1 (u+1)/\(jV c r).1.now=c.now/\(jV c r).1.config=c.config:=by
 unfold jV;cases hb:((!cD c) ||((!(mN c r).2) ||(c.bA.any λx=>x.id==r.id)))with
 |true=>exact⟨h.up,rfl,rfl⟩
 | false=>
  have C:=h.2;refine⟨⟨h.1,?_⟩,rfl,rfl⟩;show (mN c r).1.length+c.bA.length<=u+1;unfold mN AF;cases (gw (dV (fZ c.config.ak c.spare)) c.queue&&gw (dV (fZ c.config.ak c.spare)) (jc (λx=>fm (lF c r) x) c.queue (lF c r)))with
  |false=>exact Nat.le_succ_of_le C
  | true=>
   rw[au];dsimp only;rw[Oe];omega
def JQ(c:av)(x:aP):Prop:=cC c.config.ak x=true/\x.kind≠2/\x.kind≠3
def VV{c:av}{x:aP}(h:JQ c x)(D:cI c x=true)(E:¬ (c.trace.length:Int) >= 2000):jE c x (-1)=true/\x.kind≠0:=by
 obtain⟨C,I,O⟩:=h;have T:=(qE C).2.1;refine⟨?_,by omega⟩;unfold jE;rw[C,D,bh E,jQ I,jQ O];rfl
def VW{c:av}(h:Pq c){b:Int}(hb:0<=b/\b<aI c.config.ak){x:aP}(C:JQ c x):JQ c (pL c b x):=by
 refine⟨OI h hb C.1,?_⟩;unfold pL;cases (ck c.aF b).open_ with
 |true=>exact⟨(by decide:(4:Int)≠2),(by decide:(4:Int)≠3)⟩
 |false=>exact C.2
def atV{c:av}(h:Pq c):∀ x∈Fg c++Fh c c.pending.length,JQ c x:=λx hx=>by
 rcases gJ.1 hx with hx|hx
 ·obtain⟨b,hb,rfl⟩:=List.mem_map.1 hx;have hv:=(VM h hb).1;exact VW h hv ⟨yF h.p.R.tA (.inr rfl) hv,by dsimp only;omega,by dsimp only;omega⟩
 ·obtain⟨i,hi,rfl⟩:=List.mem_map.1 hx;obtain⟨o,C,_,_,D⟩:=VL h (gi.1 (List.mem_filter.1 hi).1);exact VW h ⟨C,D⟩ ⟨aeV o,by dsimp only;omega,by dsimp only;omega⟩
def atW{c:av}(h:Pq c):∀ x∈r3 c++(nJ c++mQ c),JQ c x:=λx hx=>by
 have hw:=CX c;have hg:=h.p.R.tA;rcases gJ.1 hx with hx|hx
 ·have O:=h.dl;have hb:-1<=eg c/\eg c<c.az.aC.length:=OL _ _;unfold r3 at hx;by_cases C:eg c >= 0
  ·have hv:0<=eg c/\eg c<aI c.config.ak:=by omega
   rw[aY C,cJ]at hx;cases hu:ow c (eg c)with
   |true=>rw[hu]at hx;cases hx
   | false=>
    rw[hu]at hx;rw[gf.1 hx];exact VW h hv ⟨yF hg (.inr rfl) hv,by dsimp only;omega,by dsimp only;omega⟩
  ·rw[bh C]at hx;cases hx
 ·have E:=(atc h).2;have I:=(atb h).2;rcases gJ.1 hx with hx | hx
  ·refine⟨E x hx,?_⟩;unfold nJ at hx;cases C:decide (kS c >= 0)with
   |false=>rw[C]at hx;cases hx
   |true=>rw[C]at hx;rw[gf.1 hx];exact⟨by dsimp only;omega,by dsimp only;omega⟩
  ·refine⟨I x hx,?_⟩;unfold mQ at hx;cases C:cE c==8&&decide (((opens 0 c.aF.aE).length:Int) > 0)with
   |true=>rw[C]at hx;rw[gf.1 hx];exact⟨by dsimp only;omega,by dsimp only;omega⟩
   | false=>
    rw[C,ax]at hx;cases D:cE c != 0 with
    |false=>rw[D]at hx;cases hx
    |true=>rw[D]at hx;rw[gf.1 hx];exact⟨by dsimp only;omega,by dsimp only;omega⟩
def VX{old hit dP:Nat->Bool}{n:Nat}:wB old hit dP n = -1\/∃ j:Nat,j<n/\wB old hit dP n=(j:Int)/\dP j=true:=by
 unfold wB;rcases tF (λi=>dP i&&old i) n with ⟨E,_⟩|⟨j,E,I,C,_⟩
 ·rw[E,aY,au];rcases tF (λi=>dP i&&hit i) n with ⟨C,_⟩ | ⟨j,C,O,D,_⟩
  ·rw[C,aY,au];rcases tF dP n with ⟨D,_⟩ | ⟨j,D,T,U,_⟩
   ·exact .inl D
   ·exact .inr ⟨j,D,T,U⟩
  ·rw[O,bh,ax];exact .inr ⟨j,C,rfl,(aJ _ _ ▸ D).1⟩
 ·rw[I,bh,ax];exact .inr ⟨j,E,rfl,(aJ _ _ ▸ C).1⟩
def atX{c:av}(h:Pq c)(I:¬ (c.trace.length:Int) >= 2000)(U:c.bA.length<400):((ox c).1.kind=0/\(ox c).2 = -1)\/jE c (ox c).1 (ox c).2=true/\(ox c).1.kind≠0:=by
 unfold ox;rcases VX (old:=wC c) (hit:=fH c) (dP:=pJ c (uW c)) (n:=c.queue.length)with e|⟨j,C,e,D⟩
 ·rw[show qL c = -1 from e];exact .inl ⟨rfl,rfl⟩
 ·rw[show qL c=(j:Int)from e,bh,ax];dsimp only;rw[bE];simp only[pJ,gA,aJ]at D;have E:=afg h C;have Y:=(qE E).2.1;refine .inr ⟨?_,by omega⟩;have O:ou c.aF (cv c (c.queue.getD (j:Int).toNat nI).line) (c.queue.getD (j:Int).toNat nI).write=gI c j:=by
   unfold gI;rw[bE,gM _ C,JH C,<-JI (by rw[AM];exact C),Vy C]
  have hi:aT (j:Int) 0 ((c.queue.length:Int)-1)=true:=br.2 ⟨by omega,by omega⟩;have T:JM (gI c j) (gI c j)=true:=by
   unfold JM;simp only[iS,Bool.and_self]
  unfold jE JN;rw[E,D.1.2.2.1,bh I,O,T,hi,aY (show (c.bA.length:Int)<400 by omega),Bool.or_true];cases (gI c j).kind==2 ||(gI c j).kind==3<;>rfl
def atY{c:av}(h:Pq c)(C:¬ (c.trace.length:Int) >= 2000)(I:c.bA.length<400):((fU c).1.kind=0/\(fU c).2 = -1)\/jE c (fU c).1 (fU c).2=true/\(fU c).1.kind≠0:=by
 have hw:=CX c;unfold fU;cases c.aN.state != 0 with
 | true=>
  rw[au];by_cases D:cE c=0
  ·rw[D];exact .inl ⟨rfl,rfl⟩
  ·rw[gR D,au];cases hb:cI c ⟨cE c,0,0,0⟩with
   |false=>exact .inl ⟨rfl,rfl⟩
   |true=>exact .inr (VV ⟨Oq h.p.R.tA (by omega),by show cE c≠2;omega,by show cE c≠3;omega⟩ hb C)
 | false=>
  rw[ax];cases hu:CY c with
  | some x=>
   unfold CY at hu;exact .inr (VV (atV h x (List.mem_of_find?_eq_some hu)) (List.find?_some hu) C)
  | none=>
   dsimp only;cases O:decide ((ox c).2 >= 0)with
   |true=>exact atX h C I
   | false=>
    rw[ax];unfold tJ;cases E:(r3 c++(nJ c++mQ c)).find? (cI c)with
    |none=>exact .inl ⟨rfl,rfl⟩
    |some x=>exact .inr (VV (atW h x (List.mem_of_find?_eq_some E)) (List.find?_some E) C)
def afK{c:av}{x:aP}{i:Int}(D:1<=x.kind/\x.kind<=9)(C:x.kind=2\/x.kind=3->i.toNat<c.queue.length):(bH c x i).trace=c.trace++[⟨c.now,x⟩]/\((((bH c x i).queue.length:Nat):Int)==(c.queue.length:Int)-1)=(x.kind==2 || x.kind==3):=by
 have acc:∀ i:Nat,i<c.queue.length->(gz (bU c x) i).trace=c.trace++[⟨c.now,x⟩]/\((((gz (bU c x) i).queue.length:Nat):Int)==(c.queue.length:Int)-1)=true:=λi hi=>by
  have e:(gz (bU c x) i).trace=c.trace++[⟨c.now,x⟩]/\(gz (bU c x) i).queue=c.queue.take i++c.queue.drop (i+1):=by
   have hq:(bU c x).queue.getD i nI=c.queue[i]:=gM _ hi;unfold gz;rw[hq];dsimp only;cases c.queue[i].write<;>exact⟨rfl,rfl⟩
  refine⟨e.1,?_⟩;rw[e.2,nM,jF,List.length_drop,eG];omega
 have no:(((c.queue.length:Nat):Int)==(c.queue.length:Int)-1)=false:=jQ (by omega);unfold bH;rcases kinds D with q|q|q|q|q|q|q|q|q<;>rw[q]<;>simp only[Int.reduceBEq,Int.reduceBNe,au,ax,Bool.or_true,Bool.or_false,Bool.true_or,Bool.false_or,Bool.or_self]
 ·exact⟨rfl,no⟩
 ·exact acc _ (C (.inl q))
 ·exact acc _ (C (.inr q))
 ·exact⟨rfl,no⟩
 ·exact⟨rfl,no⟩
 ·exact⟨rfl,no⟩
 ·exact⟨rfl,no⟩
 ·exact⟨rfl,no⟩
 ·exact⟨rfl,no⟩
def Mc(l C:aa cB)(e D:aa cP):Prop:=(C=l/\D=e)\/∃(n:Nat) (h:n<l.length),C=l.set n (rY l[n])/\D=bif kQ l[n] != 0 then tE e (n:Int) (kQ l[n])else e
def Qs(s j:av):Prop:=∃l e,j=⟨s.config,s.box,s.now,s.aF,s.ready,⟨l,s.array.bu,s.array.bg⟩,s.spare,s.az,s.bB,s.guard,s.pending,s.queue,s.shares,s.drain,s.aN,s.eA,e,s.trace,s.bA⟩/\Mc s.array.cells l s.errors e
def Fn(j y:av):Prop:=((fU j).1.kind=0/\y=j)\/(jE j (fU j).1 (fU j).2=true/\y=bH j (fU j).1 (fU j).2)
def Ke(j:av)(o:aj av):Prop:=∃y,o=some y/\cZ y/\cD y=true/\cZ j/\cD j=true/\Fn j y
def Kf(s:av)(o:aj av):Prop:=∃j,Qs s j/\Ke j o
def VY{x:av}(C:cZ x)(D:cD x=true)(Z:x.trace.length<2000)(O:x.bA.length<400):Ke x (ON x):=by
 have h:=Pq.of C D;have T:¬ (x.trace.length:Int) >= 2000:=by omega
 have e:s8 x=some (fU x):=by
  unfold s8;rw[E4 x C,ay,D,bL,ax,atf h,bh T];rfl
 unfold ON;rw[e,ay];rcases atY h T O with ⟨E,_⟩|⟨I,E⟩
 ·rw[E];exact⟨x,rfl,C,D,C,D,.inl ⟨E,rfl⟩⟩
 ·obtain⟨hb,U,Y,O⟩:=AQ C h I;rw[gR E,au,asA C h,I,au,asq hb U Y];exact⟨_,rfl,asx C hb O U Y,(Ck.VQ C (Ck.of D) I).ok,C,D,.inr ⟨I,rfl⟩⟩
def afL{x:av}(Z:cZ x)(h:cD x=true)(I:x.trace.length<2000)(O:x.bA.length<400){n:Int}(hn:n<dV x.config.ak):Kf x (OO x n):=by
 unfold OO;by_cases T:n >= 0
 ·have C:=Ck.of h;have U:=fG.wA C.ar;have hg:=(v8 C.rk).1;have hl:=U.cells;have hb:=oa x.config.ak;obtain⟨j,rfl⟩:=fD T;have D:j<x.array.cells.length:=by omega
  have Y:=U.syms _ (cR D);have hec:=VA Y;have E:fG x.config.ak 100000 ⟨x.array.cells.set j (rY x.array.cells[j]),x.array.bu,x.array.bg⟩:=U.Jq _ (Vt Y);have p:=gu.of C.pa;have iF:=(Ek.of C.er).l;rw[aY T,au,ae3 D Y,ay];dsimp only;rw[ae8 (c:=wu x j (rY x.array.cells[j])) C.er ⟨by omega,by omega⟩ hec,ay];dsimp only;obtain⟨z1,z2,z3,z5,z6,z7,z8,z9,n9,qG,rT,o7,rU,v9⟩:=Z;have SJ:cZ (wu x j (rY x.array.cells[j])):=⟨z1,z2,z3,AP E,z6,z7,z8,z9,n9,qG,rT,o7,rU,v9⟩
  have Ro:Ck (wu x j (rY x.array.cells[j])):=⟨C.f1,C.f2,C.nw,C.rk,C.rd,CU hg E,C.sp,C.se,C.rf,(show gu (wu x j (rY x.array.cells[j]))from ⟨p.dl,p.tl,p.gl,p.t,p.g,p.pd,p.u⟩).ok,C.qu,C.sh,C.sl,C.dr,C.pw,C.ps,C.si,C.s1,C.s2,C.s3,C.er,C.tr,C.rp⟩
  unfold OE;by_cases e:kQ x.array.cells[j]=0
  ·rw[e];exact⟨_,⟨_,_,rfl,.inr ⟨j,D,rfl,by rw[e];rfl⟩⟩,VY SJ Ro.ok I O⟩
  ·rw[gR e,au];have he:=afq (l:=x.errors) C.er (n:=(j:Int)) ⟨by omega,by omega⟩ (code:=kQ x.array.cells[j]) (by omega);have hle:=afe (l:=x.errors) (j:Int) (kQ x.array.cells[j]);exact⟨_,⟨_,_,rfl,.inr ⟨j,D,rfl,by rw[gR e,au]⟩⟩,(VY (x:=OD (wu x j (rY x.array.cells[j])) (tE x.errors (j:Int) (kQ x.array.cells[j]))) ⟨z1,z2,z3,AP E,z6,z7,z8,z9,n9,qG,rT,by show (tE x.errors (j:Int) (kQ x.array.cells[j])).length<=_;omega,rU,v9⟩ (Ck.ok ⟨C.f1,C.f2,C.nw,C.rk,C.rd,CU hg E,C.sp,C.se,C.rf,(show gu (OD (wu x j (rY x.array.cells[j])) (tE x.errors (j:Int) (kQ x.array.cells[j])))from ⟨p.dl,p.tl,p.gl,p.t,p.g,p.pd,p.u⟩).ok,C.qu,C.sh,C.sl,C.dr,C.pw,C.ps,C.si,C.s1,C.s2,C.s3,he,C.tr,C.rp⟩) I O)⟩
 ·rw[bh T,ax];exact⟨_,⟨_,_,rfl,.inl ⟨rfl,rfl⟩⟩,VY Z h I O⟩
def OQ(w:Bool)(i:Int):Int:=bif w then 0 else if 1000000<i+1 then 1000000 else i+1
def atZ{p:iC}(h:lD p=true)(w:Bool):∃ y,EB p w=some y/\lD y=true/\y.state=p.state/\y.since=p.since/\y.idle=OQ w p.idle:=by
 unfold EB OQ;rw[N0,ay,h,bL,ax];simp only[lD,aJ,br]at h;cases w with
 |true=>exact⟨_,rfl,by simp only[lD,aJ,br];omega,rfl,rfl,rfl⟩
 | false=>
  rw[aZ (n:=p.idle+1)];refine⟨_,rfl,?_,rfl,rfl,rfl⟩;simp only[lD,aJ,br];split<;>omega
structure Pr (c j:av):Prop where
 pN:j.now=c.now+1
 pC:j.config=c.config
 pK:j.aF=c.aF
 pR:j.ready=c.ready
 pH:j.array.bg=c.array.bg
 pA:j.array.bu=bif c.aF.aN != 2 then c.array.bu.map (nD 1)else c.array.bu
 pF:j.az=bif c.aF.aN != 2 then tK c.az c.config.interval else c.az
 pT:j.bB=c.bB
 pG:j.guard=c.guard
 pP:j.pending=c.pending
 pQ:j.queue=c.queue
 pS:j.aN.state=c.aN.state
 pE:j.trace=c.trace
 pY:j.bA=c.bA
 pI:j.aN.idle=OQ (oq j) c.aN.idle
 pB:j.box=c.box\/j.box=⟨c.box.next,c.box.next,false⟩
 pV:j.spare=c.spare
 pM:Mc c.array.cells j.array.cells c.errors j.errors
def afM{c:av}(hz:cZ c)(h:Ck c)(hn:c.now<1000000)(T:c.trace.length<2000)(U:c.bA.length<400){r:eH}{a:dw}(Y:fY r=true)(Gx:r.aC.length=c.az.aC.length)(Z:nB c.config.ak a=true)
  (e1:r=bif c.aF.aN != 2 then tK c.az c.config.interval else c.az) (e2:a.bu=bif c.aF.aN != 2 then c.array.bu.map (nD 1)else c.array.bu) (e3:a.bg=c.array.bg) (e4:a.cells=c.array.cells):∃j y,stepT c r a=some y/\cZ y/\cD y=true/\cZ j/\cD j=true/\Pr c j/\Fn j y:=by
 obtain⟨C,z2,z3,z5,z6,z7,z8,z9,n9,qG,rT,o7,rU,v9⟩:=hz;have p:=gu.of h.pa;have hg:=(v8 h.rk).1;have hnw:=br.1 h.nw;have hb:=oa c.config.ak;have hLp:1<=dV c.config.ak:=by
  have:=br.1 h.s3;rw[aZ (n:=dV c.config.ak-1)]at this;omega
 have w1:c.box.bX.weights.length<=1048576:=C.1;have w2:c.box.next.weights.length<=1048576:=C.2
 obtain⟨n,f1⟩:=ath c.queue true (by omega);obtain⟨d,f2,hd⟩:=ati h.dr n;have f3:Aj (uX c c.box a r c.shares d c.aN c.eA)=some (oq (uX c c.box a r c.shares d c.aN c.eA)):=aeT (c:=uX c c.box a r c.shares d c.aN c.eA) Y;obtain⟨pw,f4,yd,zI,hp3,hp4⟩:=atZ h.pw (oq (uX c c.box a r c.shares d c.aN c.eA));obtain⟨t,f5⟩:=atj c.box C ((c.queue.length:Int)==(0:Int));obtain⟨u,m,f6,Qa,F4,JR,hm⟩:=atl h.s1 h.s2 h.s3 ⟨hLp,by omega⟩;have E:W6 (c.now+1)=c.now+1:=aZ;have key:∀ (b:mY) (s:aa dD) (d:mX),Oc b->oh c.config b.bX=true->oh c.config b.next=true->kB s=true->(s.length:Int)=4->qA d=true->cZ (uX c b a r s d pw u)/\cD (uX c b a r s d pw u)=true:=λb s d B1 gV VZ FW VT hd=>by
  refine⟨⟨B1,z2,z3,AP (fG.wA Z),z6,by have:=z7;unfold E3 at this ⊢;show r.aC.length<=_;omega,z8,z9,n9,qG,by show s.length<=_;omega,o7,rU,v9⟩,Ck.ok ⟨gV,VZ,?_,h.rk,h.rd,Z,h.sp,h.se,Y,(show gu (uX c b a r s d pw u)from ⟨by show (r.aC.length:Int)=_;rw[Gx];exact p.dl,p.tl,p.gl,p.t,p.g,p.pd,p.u⟩).ok,h.qu,FW,VT,hd,yd,zI.trans h.ps,?_,Qa,F4,JR,h.er,h.tr,h.rp⟩⟩
  ·show aT (W6 (c.now+1)) 0 1000000=true;rw[E];exact br.2 ⟨by omega,by omega⟩
  ·show pw.since<=W6 (c.now+1);have:=h.si;rw[E,hp3];omega
 have Bu:∀ (b:mY) (s:aa dD) (d:mX) (o:aj av),(b=c.box\/b=⟨c.box.next,c.box.next,false⟩)->Kf (uX c b a r s d pw u) o->∃ j y,o=some y/\cZ y/\cD y=true/\cZ j/\cD j=true/\Pr c j/\Fn j y:=λb s d o hb ho=>by
  obtain⟨j,⟨l,e,rfl,D⟩,y,g1,g2,g3,g4,g5,g6⟩:=ho;have D:Mc a.cells l c.errors e:=D;rw[e4]at D;exact⟨_,y,g1,g2,g3,g4,g5,⟨E,rfl,rfl,rfl,e3,e2,e1,rfl,rfl,rfl,rfl,zI,rfl,rfl,hp4,hb,rfl,D⟩,g6⟩
 unfold stepT;rw[f1,ay,f2,ay,f3,ay,f4,ay,f5,ay];dsimp only;cases t with
 | false=>
  rw[ax,ax,Aq,ay,f6,ay];obtain⟨I,O⟩:=key c.box c.shares d C h.f1 h.f2 h.sh h.sl hd;exact Bu _ _ _ _ (.inl rfl) (afL I O T U hm)
 | true=>
  obtain⟨l,t2,f7,qZ,m9,hl3⟩:=atk (p:=c.box.next) (by omega) h.f2;rw[au,au];dsimp only;rw[f7,ay,Aq,ay,f6,ay];obtain⟨I,O⟩:=key ⟨c.box.next,c.box.next,false⟩ l ⟨false,c.box.next.low,c.box.next.high⟩ ⟨C.2,C.2⟩ h.f2 h.f2 qZ m9 hl3;exact Bu _ _ _ _ (.inr rfl) (afL I O T U hm)
def at0{c:av}(C:cZ c)(D:cD c=true)(hn:c.now<1000000)(E:c.trace.length<2000)(I:c.bA.length<400):∃ j y,vU c=some y/\cZ y/\cD y=true/\cZ j/\cD j=true/\Pr c j/\Fn j y:=by
 have h:=Ck.of D;have w1:c.box.bX.weights.length<=1048576:=C.1.1;have hi:=atn (by omega) h.f1;unfold vU;rw[Of c C,ay,E4 c C,ay,D,bL,ax,jQ (show ¬ c.now=1000000 by omega),ax];cases hp:c.aF.aN != (2:Int)with
 | true=>
  obtain⟨O,T⟩:=ato h.rf hi;rw[au,atp h.rf hi,ay,atr h.ar,ay];exact afM C h hn E I O T (atq h.ar) (by rw[hp];rfl) (by rw[hp];rfl) rfl rfl
 | false=>
  rw[ax];exact afM C h hn E I h.rf rfl h.ar (by rw[hp];rfl) (by rw[hp];rfl) rfl rfl
def Why(c:av)(x:aP):Prop:=
 (c.aN.state≠0/\(x=uV/\(cE c=0\/cI c ⟨cE c,0,0,0⟩=false)\/x=⟨cE c,0,0,0⟩))\/
 (c.aN.state=0/\((∃ b∈bP 0 c.az.aC,x=fz c b)\/(∀ b∈bP 0 c.az.aC,cI c (fz c b)=false)/\
  ((∃k,k<c.pending.length/\qM c k=true/\x=jf c k)\/(∃j,j<c.queue.length/\gA c j=true/\x=gI c j)\/x∈r3 c++(nJ c++mQ c)\/x=uV)))
def Fk{c:av}(h:Pq c):Why c (fU c).1:=by
 unfold fU;by_cases C:c.aN.state=0
 ·refine .inr ⟨C,?_⟩;rw[C,bne_self_eq_false,ax];unfold CY;rw[List.find?_append];cases E:(Fg c).find? (cI c)with
  | some y=>
   obtain⟨b,hb,rfl⟩:=List.mem_map.1 (List.mem_of_find?_eq_some E);exact .inl ⟨b,hb,rfl⟩
  | none=>
   refine .inr ⟨λb hb=>Bool.eq_false_iff.2 (List.find?_eq_none.1 E _ (List.mem_map_of_mem hb)),?_⟩
   rw[Option.none_or];cases hP:(Fh c c.pending.length).find? (cI c)with
   | some y=>
    obtain⟨k,O,rfl⟩:=List.mem_map.1 (List.mem_of_find?_eq_some hP);obtain⟨T,U⟩:=List.mem_filter.1 O;exact .inl ⟨k,gi.1 T,U,rfl⟩
   | none=>
    refine .inr ?_;dsimp only;cases hd:decide ((ox c).2 >= 0)with
    | true=>
     rw[au];have hd:(ox c).2 >= 0:=of_decide_eq_true hd;unfold ox at hd ⊢;rcases VX (old:=wC c) (hit:=fH c) (dP:=pJ c (uW c)) (n:=c.queue.length)with e|⟨j,Y,e,D⟩
     ·rw[show qL c = -1 from e]at hd;exact absurd (show (-1:Int) >= 0 from hd) (by decide)
     ·rw[show qL c=(j:Int)from e,bh,ax];dsimp only;rw[bE];unfold pJ at D;rw[aJ]at D;exact .inl ⟨j,Y,D.1,rfl⟩
    | false=>
     rw[ax];unfold tJ;cases Z:(r3 c++(nJ c++mQ c)).find? (cI c)with
     |none=>exact .inr (.inr rfl)
     |some x=>exact .inr (.inl (List.mem_of_find?_eq_some Z))
 ·refine .inl ⟨C,?_⟩;rw[gR C,au];by_cases I:cE c=0
  ·rw[I];exact .inl ⟨rfl,.inl rfl⟩
  ·rw[gR I,au];cases hb:cI c ⟨cE c,0,0,0⟩with
   |false=>exact .inl ⟨rfl,.inr rfl⟩
   |true=>exact .inr rfl
def V0{c:av}(h:Pq c){b:Int}(hb:b∈bP 0 c.az.aC):0<=b/\b<aI c.config.ak/\c.az.aC.getD b.toNat 0 >= 4:=by
 have hv:=(VM h hb).1;have hd:=h.dl;refine⟨hv.1,hv.2,?_⟩;rw[show b=((0:Nat):Int)+b by omega]at hb;exact(VC hv.1 (by omega) 0).1 hb
def V1{c:av}(h:Pq c){b:Int}(C:0<=b)(D:b<aI c.config.ak)(hd:c.az.aC.getD b.toNat 0 >= 4):b∈bP 0 c.az.aC:=by
 have hl:=h.dl;have:=(VC (l:=c.az.aC) C (by omega) 0).2 hd;rw[show ((0:Nat):Int)+b=b by omega]at this;exact this
def yK(c:av)(b:Int)(x:aP):pL c b x=⟨4,b,0,0⟩\/pL c b x=x/\(ck c.aF b).open_=false:=by
 unfold pL;cases (ck c.aF b).open_ with
 |true=>exact .inl rfl
 |false=>exact .inr ⟨rfl,rfl⟩
def V2(r:bM)(a:aQ)(w:Bool):(ou r a w).aq=a.aq/\((ou r a w).kind=1/\(ou r a w).row=a.row\/(ou r a w).kind=4\/(ou r a w).kind=3\/(ou r a w).kind=2):=by
 unfold ou;cases (ck r a.aq).open_ with
 |false=>exact⟨rfl,.inl ⟨rfl,rfl⟩⟩
 | true=>
  rw[bL,ax];cases (ck r a.aq).row != a.row with
  |true=>exact⟨rfl,.inr (.inl rfl)⟩
  | false=>
   cases w with
   |true=>exact⟨rfl,.inr (.inr (.inl rfl))⟩
   |false=>exact⟨rfl,.inr (.inr (.inr rfl))⟩
def OR{c:av}(h:Pq c){x:aP}(hx:x∈r3 c++(nJ c++mQ c)):(x=⟨5,eg c,0,0⟩/\0<=eg c/\c.az.aC.getD (eg c).toNat 0 > 0/\bP 0 c.az.aC=[]/\wD c (eg c).toNat=true)\/x.kind=4\/(x=⟨cE c,0,0,0⟩/\cE c≠0):=by
 rcases gJ.1 hx with hx|hx
 ·unfold r3 at hx;have T:=h.dl;have hb:-1<=eg c/\eg c<c.az.aC.length:=OL _ _;by_cases C:eg c >= 0
  ·have hv:0<=eg c/\eg c<aI c.config.ak:=by omega
   rw[aY C,cJ]at hx;cases E:ow c (eg c)with
   |true=>rw[E]at hx;cases hx
   | false=>
    rw[E]at hx;have hx:=gf.1 hx;have D:=(CM (tG (decide (((bP 0 c.az.aC).length:Int) > 0)) c.az.aC (wD c)) (λi=>c.az.aC.getD i 0) c.az.aC.length).resolve_left (λe=>by have e:eg c = -1:=e;omega);have D:tG (decide (((bP 0 c.az.aC).length:Int) > 0)) c.az.aC (wD c) (eg c).toNat=true:=D;unfold tG at D;unfold ow at E;have E:¬ c.az.aC.getD (eg c).toNat 0 >= 4:=of_decide_eq_false E;by_cases O:((bP 0 c.az.aC).length:Int) > 0
    ·rw[aY O,au]at D;exact absurd (of_decide_eq_true D) E
    ·rw[bh O,ax,aJ]at D;have I:bP 0 c.az.aC=[]:=vb (by omega);rcases yK c (eg c) ⟨5,eg c,0,0⟩with e | ⟨e,_⟩
     ·exact .inr (.inl (by rw[hx];unfold fz;rw[e]))
     ·exact .inl ⟨by rw[hx];unfold fz;rw[e],C,of_decide_eq_true D.1,I,D.2⟩
  ·rw[bh C]at hx;cases hx
 ·refine .inr ?_;rcases gJ.1 hx with hx | hx
  ·unfold nJ at hx;cases C:decide (kS c >= 0)with
   |false=>rw[C]at hx;cases hx
   |true=>rw[C]at hx;rw[gf.1 hx];exact .inl rfl
  ·unfold mQ at hx;cases C:cE c==8&&decide (((opens 0 c.aF.aE).length:Int) > 0)with
   |true=>rw[C]at hx;rw[gf.1 hx];exact .inl rfl
   | false=>
    rw[C,ax]at hx;by_cases I:cE c=0
    ·rw[I]at hx;cases hx
    ·rw[gR I]at hx;exact .inr ⟨gf.1 hx,I⟩
def afN{c:av}(h:Pq c)(C:(fU c).1.kind=5):c.az.aC.getD (fU c).1.aq.toNat 0 >= 1/\(c.az.aC.getD (fU c).1.aq.toNat 0 >= 4\/bP 0 c.az.aC=[]):=by
 have hw:=CX c;rcases Fk h with ⟨_,⟨e,_⟩|e⟩|⟨_,⟨b,hb,e⟩|⟨_,⟨k,_,_,e⟩|⟨j,_,_,e⟩|e|e⟩⟩
 ·rw[e]at C;exact absurd C (by decide)
 ·rw[e]at C;dsimp only at C;omega
 ·rw[e]at C ⊢;unfold fz at C ⊢;rcases yK c b ⟨5,b,0,0⟩with e | ⟨e,_⟩
  ·rw[e]at C;exact absurd C (show ¬ (4:Int)=5 by decide)
  ·rw[e];have:=(V0 h hb).2.2;exact⟨by dsimp only;omega,.inl (by dsimp only;omega)⟩
 ·rw[e]at C;unfold jf at C;rcases yK c (iw c k).aq ⟨1,(iw c k).aq,(iw c k).row,0⟩with e | ⟨e,_⟩ <;>rw[e]at C
  ·exact absurd C (show ¬ (4:Int)=5 by decide)
  ·exact absurd C (show ¬ (1:Int)=5 by decide)
 ·rw[e]at C;have:=(V2 c.aF (dy c j) (ov c.queue j)).2;unfold gI at C;omega
 ·rcases OR h e with ⟨e,_,D,E,_⟩ | e | ⟨e,_⟩
  ·rw[e];exact⟨D,.inr E⟩
  ·omega
  ·rw[e]at C;dsimp only at C;omega
 ·rw[e]at C;exact absurd C (by decide)
def JS(l:aa Int)(i k:Nat):(l.set i 0).getD k 0=if i=k then 0 else l.getD k 0:=by
 rw[cS,List.getElem?_set];split
 ·split<;>rfl
 ·rw[<-cS]
def afO(l:aa Int){i:Nat}(x:Int)(k:Nat)(h:i<l.length):(l.set i x).getD k 0=if i=k then x else l.getD k 0:=by
 rw[cS,List.getElem?_set,aV h];split
 ·rfl
 ·rw[<-cS]
def OS(f:Int->Int)(l:aa Int){k:Nat}(h:k<l.length):(l.map f).getD k 0=f (l.getD k 0):=by
 rw[cS,ez,bJ h,cS,bJ h];rfl
def afP(l:aa Int)(k:Nat):(l.map (nD 1)).getD k 0<=l.getD k 0+1:=by
 by_cases h:k<l.length
 ·rw[OS _ _ h];unfold nD;split<;>omega
 ·rw[cS,cS,qO (by rw[eS];omega),qO (by omega)];decide
def OT(c:av){x:aP}(i:Int)(h:x.kind=1):bH c x i=yG (bU c x) x:=by
 unfold bH;rw[h];rfl
def OU(c:av){x:aP}(i:Int)(h:x.kind=5):bH c x i=JJ (bU c x) x.aq:=by
 unfold bH;rw[h];rfl
def JT(c:av){x:aP}(i:Int)(h:x.kind=9):bH c x i=iK (AN (bU c x) 9) c.bB.length []:=by
 unfold bH;rw[h];rfl
def V3{c:av}{x:aP}{i:Int}(C:1<=x.kind/\x.kind<=9)(D:x.kind≠1)(E:x.kind≠5)(I:x.kind≠9):(bH c x i).array.bu=c.array.bu/\(bH c x i).array.bg=c.array.bg/\(bH c x i).az=c.az/\(bH c x i).bB=c.bB/\(bH c x i).guard=c.guard/\(bH c x i).pending=c.pending:=by
 have acc:∀ i:Nat,(gz (bU c x) i).array.bu=c.array.bu/\(gz (bU c x) i).array.bg=c.array.bg/\(gz (bU c x) i).az=c.az/\(gz (bU c x) i).bB=c.bB/\(gz (bU c x) i).guard=c.guard/\(gz (bU c x) i).pending=c.pending:=λi=>by
  unfold gz;dsimp only;cases ((bU c x).queue.getD i nI).write<;>exact⟨rfl,rfl,rfl,rfl,rfl,rfl⟩
 unfold bH;rcases kinds C with q|q|q|q|q|q|q|q|q<;>rw[q]<;>simp only[Int.reduceBEq,Int.reduceBNe,au,ax,Bool.or_true,Bool.or_false,Bool.true_or,Bool.false_or,Bool.or_self]
 ·exact absurd q D
 ·exact acc _
 ·exact acc _
 ·exact⟨rfl,rfl,rfl,rfl,rfl,rfl⟩
 ·exact absurd q E
 ·exact⟨rfl,rfl,rfl,rfl,rfl,rfl⟩
 ·exact⟨rfl,rfl,rfl,rfl,rfl,rfl⟩
 ·exact⟨rfl,rfl,rfl,rfl,rfl,rfl⟩
 ·exact absurd q I
def V4(g:aH)(l:lI)(a:dw)(b:Int):∀ n k:Nat,(ic g l a b n).bu.getD k 0=a.bu.getD k 0\/(ic g l a b n).bu.getD k 0=0
 |0,k=>.inl rfl
 | n+1,k=>by
  unfold ic;rw[pq];show ((ic g l a b n).bu.set _ 0).getD k 0=_\/((ic g l a b n).bu.set _ 0).getD k 0=0;rw[JS];split
  ·exact .inr rfl
  ·exact V4 g l a b n k
def V5(g:aH)(l:lI)(a:dw)(b:Int):∀ n r:Nat,r<n->(ic g l a b n).bu.getD (b*g.rows+(r:Int)).toNat 0=0
 | n+1,r,h=>by
  unfold ic;rw[pq];show ((ic g l a b n).bu.set (b*g.rows+(n:Int)).toNat 0).getD _ 0=0;rw[JS];split
  ·rfl
  ·rename_i C;exact V5 g l a b n r (by
    by_cases e:r=n
    ·subst e;exact absurd rfl C
    ·omega)
def yL(g:aH)(l:lI)(a:dw)(k:Nat):dw:=(List.range k).foldl (λa (b:Nat)=>ic g l a (b:Int) g.rows.toNat) a
def afQ(g:aH)(l:lI)(a:dw):∀ n b r:Nat,b<n->r<g.rows.toNat->(yL g l a n).bu.getD ((b:Int)*g.rows+(r:Int)).toNat 0=0
 | n+1,b,r,hb,C=>by
  unfold yL;rw[pq];by_cases e:b=n
  ·subst e;exact V5 g l _ _ _ r C
  ·rcases V4 g l (yL g l a n) (n:Int) g.rows.toNat ((b:Int)*g.rows+(r:Int)).toNat with e2 | e2
   ·exact e2.trans (afQ g l a n b r (by omega) C)
   ·exact e2
def V6(l:aa Int):∀ n k:Nat,((List.range n).foldl (λd b=>d.set b 0) l).getD k 0=if k<n then 0 else l.getD k 0
 |0,k=>rfl
 | n+1,k=>by
  rw[pq,JS,V6 l n k];by_cases e:n=k
  ·subst e;rw[aV rfl,aV]
  ·rw[aW e];by_cases C:k<n
   ·rw[aV C,aV]
   ·rw[aW C,aW]
def OV(r:eH){b:Int}(hb:b.toNat<r.aC.length)(k:Nat)(h:r.aC.getD b.toNat 0 >= 1):(l6 r b).aC.getD k 0=(if b.toNat=k then r.aC.getD k 0-1 else r.aC.getD k 0)/\(l6 r b).wait=r.wait/\(l6 r b).dY=r.dY:=by
 unfold l6;rw[bh (show ¬ r.aC.getD b.toNat 0 = -2 by omega),ax];refine⟨?_,rfl,rfl⟩;dsimp only;rw[afO _ _ _ hb];split
 next e=>rw[e]
 ·rfl
def mR(r:eH):Int:=bif r.dY then 2*r.wait-1 else r.wait
def tL(c:av):Prop:=mR c.az<=c.config.interval/\∀b r:Nat,(b:Int)<aI c.config.ak->r<c.config.ak.rows.toNat->0<=c.az.aC.getD b 0/\c.array.bu.getD ((b:Int)*c.config.ak.rows+(r:Int)).toNat 0+mR c.az<=(c.az.aC.getD b 0+1)*c.config.interval
def OW{d I w:Int}(hd:0<=d)(hw:w<=I)(C:0<=I):0+w<=(d+1)*I:=by
 have:=Int.mul_nonneg hd C;rw[Int.add_mul,Int.one_mul];omega
def tL.pr{c j:av}(h:tL c)(p:Pr c j)(hi:2<=c.config.interval/\c.config.interval<=10000)(hw:1<=c.az.wait/\c.az.wait<=10000)(hl:(c.az.aC.length:Int)=aI c.config.ak)(hd:∀ b:Nat,c.az.aC.getD b 0<=4):tL j:=by
 unfold tL at h ⊢;rw[p.pC,p.pA,p.pF];cases hp:c.aF.aN != 2 with
 |false=>exact h
 | true=>
  rw[au,au];obtain⟨Z,D⟩:=h;unfold tK;by_cases E:0<c.az.wait-1
  ·rw[aV E];have hg:mR ⟨c.az.aC,c.az.wait-1,c.az.dY⟩<=mR c.az-1:=by
    unfold mR;dsimp only;cases c.az.dY with
    |true=>rw[au,au];omega
    |false=>rw[ax,ax];omega
   refine⟨by omega,λb r hb C=>?_⟩
   obtain⟨I,O⟩:=D b r hb C;have:=afP c.array.bu ((b:Int)*c.config.ak.rows+(r:Int)).toNat;exact⟨I,by dsimp only;omega⟩
  ·rw[aW E];have hg:mR c.az=1:=by
    unfold mR;cases c.az.dY with
    |true=>rw[au];omega
    |false=>rw[ax];omega
   have T:mR ⟨c.az.aC.map oy,bif c.az.dY then c.config.interval / 2 else c.config.interval,c.az.dY⟩<=c.config.interval:=by
    unfold mR;dsimp only;cases c.az.dY with
    |true=>rw[au,au];omega
    |false=>rw[ax,ax];omega
   refine⟨T,λb r hb C=>?_⟩
   obtain⟨I,O⟩:=D b r hb C;have U:b<c.az.aC.length:=by omega
   have hm:=hd b;have Y:(c.az.aC.map oy).getD b 0=c.az.aC.getD b 0+1:=by
    rw[OS _ _ U];unfold oy;rw[aZ,aW]
   have:=afP c.array.bu ((b:Int)*c.config.ak.rows+(r:Int)).toNat;dsimp only;rw[Y];refine⟨by omega,?_⟩;rw[Int.add_mul (c.az.aC.getD b 0+1) 1,Int.one_mul];omega
def tL.VQ{c:av}(h:tL c)(hq:Pq c){x:aP}{i:Int}(hc:cC c.config.ak x=true)(h5:x.kind=5->c.az.aC.getD x.aq.toNat 0 >= 1)(hi:0<=c.config.interval)(AO:(c.bB.length:Int)=aI c.config.ak):tL (bH c x i):=by
 obtain⟨hg,U,hb,_⟩:=qE hc;have Jn:=hq.dl;obtain⟨D,I⟩:=h;have gb:=fW hg;by_cases Y:x.kind=1
 ·rw[OT c i Y]
  refine⟨D,λb r hb C=>?_⟩
  have hb:(b:Int)<aI c.config.ak:=hb;have C:r<c.config.ak.rows.toNat:=C;obtain⟨E,O⟩:=I b r hb C;refine⟨E,?_⟩;show (c.array.bu.set (x.aq*c.config.ak.rows+x.row).toNat 0).getD ((b:Int)*c.config.ak.rows+(r:Int)).toNat 0+mR c.az<=(c.az.aC.getD b 0+1)*c.config.interval;rw[JS];split
  ·exact OW E D hi
  ·exact O
 ·by_cases T:x.kind=5
  ·have hd:=h5 T;obtain⟨b0,b1⟩:=hb (by omega);have Z:x.aq.toNat<c.az.aC.length:=by omega
   obtain⟨_,w1,w2⟩:=OV c.az Z 0 hd;have hw:mR (l6 c.az x.aq)=mR c.az:=by unfold mR;rw[w1,w2]
   rw[OU c i T]
   refine⟨by show mR (l6 c.az x.aq)<=_;rw[hw];exact D,λb r hb C=>?_⟩
   have hb:(b:Int)<aI c.config.ak:=hb;have C:r<c.config.ak.rows.toNat:=C;obtain⟨E,O⟩:=I b r hb C;show 0<=(l6 c.az x.aq).aC.getD b 0/\(ic c.config.ak c.config.dS c.array x.aq c.config.ak.rows.toNat).bu.getD ((b:Int)*c.config.ak.rows+(r:Int)).toNat 0+mR (l6 c.az x.aq)<=((l6 c.az x.aq).aC.getD b 0+1)*c.config.interval;rw[(OV c.az Z b hd).1,hw];by_cases e:x.aq.toNat=b
   ·subst e;rw[aV rfl,Int.toNat_of_nonneg b0,V5 _ _ _ _ _ r C];exact⟨by omega,OW (by omega) D hi⟩
   ·rw[aW e];refine⟨E,?_⟩;rcases V4 c.config.ak c.config.dS c.array x.aq c.config.ak.rows.toNat ((b:Int)*c.config.ak.rows+(r:Int)).toNat with e2 | e2
    ·rw[e2];exact O
    ·rw[e2];exact OW E D hi
  ·by_cases k9:x.kind=9
   ·rw[JT c i k9]
    refine⟨D,λb r hb C=>?_⟩
    have hb:(b:Int)<aI c.config.ak:=hb;have C:r<c.config.ak.rows.toNat:=C;show 0<=((List.range c.bB.length).foldl (λd b=>d.set b 0) c.az.aC).getD b 0/\(yL c.config.ak c.config.dS c.array c.bB.length).bu.getD ((b:Int)*c.config.ak.rows+(r:Int)).toNat 0+mR c.az<=(((List.range c.bB.length).foldl (λd b=>d.set b 0) c.az.aC).getD b 0+1)*c.config.interval;rw[V6,aV,afQ _ _ _ _ _ _ (by omega) C];exact⟨fN _,OW (fN _) D hi⟩
   ·obtain⟨e1,_,e3,_⟩:=V3 (c:=c) (i:=i) U Y T k9;have e4:(bH c x i).config=c.config:=by
     unfold bH;rcases kinds U with q|q|q|q|q|q|q|q|q<;>rw[q]<;>first|rfl|(unfold gz;dsimp only;cases ((bU c x).queue.getD i.toNat nI).write<;>rfl)
    unfold tL;rw[e1,e3,e4];exact⟨D,I⟩
def La(q:dR)(b k:Nat):Int:=q.last.getD (9*b+k-1) (-1)
def at1{g:aH}{r w:Int}(D:1<=r/\r<=4)(hw:4<=w/\w<=8){a:aP}(C:1<=a.kind/\a.kind<=9)(B:Int):fy g (jb r w) a ⟨4,B,0,0⟩<=16/\(a.kind=7->fy g (jb r w) a ⟨4,B,0,0⟩<=4)/\(a.kind≠7->a.kind≠9->(a.aq≠B\/4<=a.kind)->fy g (jb r w) a ⟨4,B,0,0⟩<=1):=by
 unfold fy uK pn pg tu jb;dsimp only;rcases kinds C with h|h|h|h|h|h|h|h|h<;>rw[h]<;>cases hb:a.aq==B<;>simp[aT]at *<;>omega
def at2{g:aH}{r w:Int}(O:1<=r/\r<=4)(hw:4<=w/\w<=8){a:aP}(C:1<=a.kind/\a.kind<=9)(B:Int):fy g (jb r w) a ⟨5,B,0,0⟩<=16/\(a.kind=7->fy g (jb r w) a ⟨5,B,0,0⟩<=4)/\(a.kind=4->fy g (jb r w) a ⟨5,B,0,0⟩<=3)/\(a.kind=5->a.aq≠B->fy g (jb r w) a ⟨5,B,0,0⟩<=3)/\(a.kind≠7->a.kind≠9->a.kind≠5->a.aq≠B\/5<a.kind->fy g (jb r w) a ⟨5,B,0,0⟩<=1):=by
 have D:W6 (r+3)=r+3:=aZ;have E:W6 (w+3)=w+3:=aZ;have I:W6 (7+3)=10:=by decide
 unfold fy uK pn pg tu jb;dsimp only;rw[D,E,I];rcases kinds C with h|h|h|h|h|h|h|h|h<;>rw[h]<;>cases hb:a.aq==B<;>simp[aT]at *<;>omega
def at3{g:aH}{r w:Int}{a:aP}(C:1<=a.kind/\a.kind<=9):fy g (jb r w) a ⟨7,0,0,0⟩<=16:=by
 unfold fy uK pn pg tu jb;dsimp only;rcases kinds C with h|h|h|h|h|h|h|h|h<;>rw[h]<;>simp[aT]<;>omega
def V7(g:aH)(t:cg)(l:aa Int)(c:aP){n:Int}(C:0<=n)(h:∀ (i:Nat) (hi:i<l.length),0<=l[i]->l[i]+fy g t (jC i) c<=n):∀ k,k<=l.length->rW g t l c k<=n
 |0,_=>C
 | k+1,E=>by
  have D:=V7 g t l c C h k (by omega);rw[Ok,Ol (by omega)];by_cases hn:l[k]<0
  ·rw[aY hn];exact D
  ·rw[bh hn,ax];have:=h k (by omega) (by omega);unfold rV;split<;>omega
def V8{c:av}(h:Pq c){x:aP}(U:x.kind=1->c.ready.bf.length≠4)(Y:gG c.aF x=true)(hg:∀ (b k:Nat),1<=k->k<=9->((k<=5/\(b:Int)<aI c.config.ak)\/(5<k/\(b:Int)=aI c.config.ak))->0<=La c.ready b k->La c.ready b k+fy c.config.ak c.config.bQ ⟨(k:Int),if k<=5 then (b:Int)else 0,0,0⟩ x<=c.now):cI c x=true:=by
 have hn:=h.nw;have hl:=(E0 h.p.CK).2.1;have Z:kC c.config.ak c.config.bQ c.ready x<=c.now:=by
  unfold kC;have e4:(x.kind==1&&(c.ready.bf.length:Int)==4)=false:=by
   by_cases E:x.kind=1
   ·rw[jQ (show ¬ (c.ready.bf.length:Int)=4 from λe=>U E (by omega)),Bool.and_false]
   ·rw[jQ E,Bool.false_and]
  rw[e4,ax]
  refine V7 _ _ _ _ hn.1 (λi hi h0=>?_) _ (dB _)
  have C:=((h.p.R.last i hi).2).resolve_left (by omega);unfold qC at C;have C:=eG.1 C;obtain⟨b,k,rfl,k1,k9⟩:∃b k:Nat,i=9*b+k-1/\1<=k/\k<=9:=⟨i / 9,i % 9+1,by omega,by omega,by omega⟩
  have I:((9*b+k-1:Nat):Int) % 9+1=(k:Int):=by omega
  have O:((9*b+k-1:Nat):Int) / 9=(b:Int):=by omega
  rw[I,O]at C;have T:La c.ready b k=c.ready.last[9*b+k-1]:=gM _ hi;have e3:jC (9*b+k-1)=⟨(k:Int),if k<=5 then (b:Int)else 0,0,0⟩:=by
   unfold jC;rw[I,O];by_cases D:k<=5
   ·rw[aV,aV D]
   ·rw[aW,aW D]
  rw[e3,<-T];refine hg b k k1 k9 ?_ (by rw[T];exact h0);by_cases D:k<=5
  ·refine .inl ⟨D,?_⟩;rw[aY (show (k:Int)<=5 by omega)]at C;exact of_decide_eq_true C
  ·refine .inr ⟨by omega,?_⟩;rw[bh (show ¬ (k:Int)<=5 by omega)]at C;have:=of_decide_eq_false C;omega
 unfold cI;rw[Y,aY Z,aY (show kC c.config.ak c.config.bQ c.ready x<=1000000 by omega)];rfl
def wF{q:dR}{n:Int}(h:∀i:Nat,q.last.getD i (-1)<=n)(b k:Nat):La q b k<=n:=h _
def OX(g:aH)(q:dR)(e:bO)(C:cC g e.cmd=true)(b k:Nat)(I:1<=k/\k<=9):La (gx g q e) b k=La q b k\/(La (gx g q e) b k=e.at_/\(k:Int)=e.cmd.kind/\(b:Int)=if k<=5 then e.cmd.aq else aI g):=by
 obtain⟨_,D,E,_⟩:=qE C;obtain⟨O,_⟩:=EZ C;unfold gx La;cases jR g q&&(cC g e.cmd&&(aT e.at_ 0 1000000 && !(e.cmd.kind==1&&uM q e.at_)))with
 |false=>exact .inl rfl
 | true=>
  rw[au];dsimp only;rw[cS,List.getElem?_set,cS];by_cases hi:(gL g e.cmd).toNat=9*b+k-1
  ·rw[aV hi];by_cases hl:(gL g e.cmd).toNat<q.last.length
   ·rw[aV hl];refine .inr ⟨rfl,?_⟩;have hi:gL g e.cmd=9*(b:Int)+(k:Int)-1:=by omega
    unfold gL at hi;cases hu:aT e.cmd.kind 1 5 with
    | true=>
     rw[hu,au]at hi;have:=br.1 hu;have:=E this.2;refine⟨by omega,?_⟩;rw[aV];omega
    | false=>
     rw[hu,ax]at hi;have hn:¬ e.cmd.kind<=5:=λh=>by rw[br.2 ⟨D.1,h⟩]at hu;cases hu
     refine⟨by omega,?_⟩;rw[aW];omega
   ·rw[aW hl];refine .inl ?_;rw[<-hi,qO (by omega)]
  ·rw[aW hi];exact .inl rfl
def OY(g:aH)(q:dR)(e:bO){n:Int}(h:∀ i:Nat,q.last.getD i (-1)<=n)(C:e.at_<=n)(i:Nat):(gx g q e).last.getD i (-1)<=n:=by
 unfold gx;cases jR g q&&(cC g e.cmd&&(aT e.at_ 0 1000000 && !(e.cmd.kind==1&&uM q e.at_)))with
 |false=>exact h i
 | true=>
  rw[au];dsimp only;rw[cS,List.getElem?_set];have:=h i;rw[cS]at this;split
  ·split
   ·exact C
   next D E=>rw[<-D,qO (by omega)]at this;exact this
  ·exact this
def count_le{p q:Nat->Bool}:∀ n,(∀ b,b<n->q b=true->p b=true)->(List.range n).countP q<=(List.range n).countP p
 |0,_=>dB _
 | n+1,h=>by
  have C:=count_le (p:=p) (q:=q) n λb hb=>h b (by omega)
  have e:=h n (by omega);rw[List.range_succ,List.countP_append,List.countP_append,List.countP_singleton,List.countP_singleton];cases hq:q n<;>cases hp:p n<;>simp[hq,hp]at e ⊢<;>omega
def V9{p q:Nat->Bool}{b:Nat}:∀ n,b<n->(∀ b,b<n->q b=true->p b=true)->p b=true->q b=false->(List.range n).countP q+1<=(List.range n).countP p
 | n+1,hb,h,C,D=>by
  rw[List.range_succ,List.countP_append,List.countP_append,List.countP_singleton,List.countP_singleton];by_cases e:b=n
  ·subst e;have:=count_le (p:=p) (q:=q) b λb hb=>h b (by omega)
   rw[C,D,aV rfl,aW (by decide)];omega
  ·have E:=V9 (p:=p) (q:=q) (b:=b) n (by omega) (λb hb=>h b (by omega)) C D;have e:=h n (by omega);cases hq:q n<;>cases hp:p n<;>simp[hq,hp]at e ⊢<;>omega
def afR{p:Nat->Bool}{b n:Nat}(hb:b<n)(h:p b=true):1<=(List.range n).countP p:=List.countP_pos_iff.2 ⟨b,gi.2 hb,h⟩
def afS(p:Nat->Bool)(n:Nat):(List.range n).countP p<=n:=by
 have:=List.countP_le_length (p:=p) (l:=List.range n)
 rwa [eo]at this
def uY(r:eH):Int:=bif r.dY then r.wait else (r.wait+1) / 2
def uB(d:aa Int)(b:Nat):Bool:=decide (d.getD b 0 >= 4)
def oB(r:bM)(b:Nat):Bool:=(ck r (b:Int)).open_
def cU(g:aH)(d:aa Int):Int:=((List.range (aI g).toNat).countP (uB d):Nat)
def cO(g:aH)(r:bM)(d:aa Int):Int:=((List.range (aI g).toNat).countP (λb=>uB d b&&oB r b):Nat)
structure Du (n t:Int) (g:aH) (r:bM) (q:dR) (d:List Int) (B:Nat):Prop where
 u1:r.aN≠2
 u2:La q (aI g).toNat 7<=t+16/\La q (aI g).toNat 9<=t
 u3:r.aN=1->n<=t+15/\∀i:Nat,q.last.getD i (-1)<=t
 u4:La q B 1<=t/\La q B 2<=t/\La q B 3<=t/\La q B 5<=t/\La q B 4<=t+48
 u5:oB r B=true->n+cU g d+cO g r d<=t+48
 u6:n+3*cU g d<=t+90
 u7:∀b:Nat,(b:Int)<aI g->La q b 5+3*cU g d<=t+88
structure Dx (n t:Int) (c:av):Prop where
 d1:∀i:Nat,c.ready.last.getD i (-1)<=n
 d2:0<=t/\t<=c.now
 d3:100<=uY c.az+(c.now-t)
 d4:∀b:Nat,c.az.aC.getD b 0<=4
 d5:∀B:Nat,(B:Int)<aI c.config.ak->uB c.az.aC B=true->Du n t c.config.ak c.aF c.ready c.az.aC B
def OZ(g:aH)(d:aa Int):0<=cU g d/\cU g d<=aI g:=by
 have C:=ey g;have:=afS (uB d) (aI g).toNat;unfold cU;omega
def JU(g:aH)(r:bM)(d:aa Int):0<=cO g r d/\cO g r d<=aI g:=by
 have C:=ey g;have:=afS (λb=>uB d b&&oB r b) (aI g).toNat;unfold cO;omega
def afT{g:aH}{d:aa Int}{B:Nat}(hB:(B:Int)<aI g)(h:uB d B=true):1<=cU g d:=by
 have:=afR (p:=uB d) (n:=(aI g).toNat) (b:=B) (by omega) h;unfold cU;omega
def afU{g:aH}{r:bM}{d:aa Int}{B:Nat}(hB:(B:Int)<aI g)(h:uB d B=true)(C:oB r B=true):1<=cO g r d:=by
 have:=afR (p:=λb=>uB d b&&oB r b) (n:=(aI g).toNat) (b:=B) (by omega) (by rw[h,C];rfl);unfold cO;omega
def Dx.pr{c j:av}{t:Int}(h:Dx c.now t c)(p:Pr c j)(I:cD c=true)(hi:200<=c.config.interval/\c.config.interval<=10000):∃ O,Dx c.now O j:=by
 have k:=Ck.of I;have hn:=br.1 k.nw;have D:=k.rf;have U:=(gu.of k.pa).dl;simp only[fY,aJ,br]at D;have hw:=D.2.2;have pN:=p.pN;have Y:=ey c.config.ak;have d2:=h.d2;have d3:=h.d3;have pF:=p.pF;cases hp:c.aF.aN != 2 with
 | false=>
  rw[hp,ax]at pF;refine⟨t,⟨by rw[p.pR];exact h.d1,by omega,by rw[pF];omega,by rw[pF];exact h.d4,?_⟩⟩;rw[p.pC,p.pK,p.pR,pF];exact h.d5
 | true=>
  rw[hp,au]at pF;unfold tK at pF;by_cases E:0<c.az.wait-1
  ·rw[aV E]at pF;have hg:uY c.az<=uY ⟨c.az.aC,c.az.wait-1,c.az.dY⟩+1:=by
    unfold uY;dsimp only;cases c.az.dY with
    |true=>rw[au,au];omega
    |false=>rw[ax,ax];omega
   refine⟨t,⟨by rw[p.pR];exact h.d1,by omega,by rw[pF];omega,by rw[pF];exact h.d4,?_⟩⟩;rw[p.pC,p.pK,p.pR,pF];exact h.d5
  ·rw[aW E]at pF;have Z:uY c.az<=1:=by
    unfold uY;cases c.az.dY with
    |true=>rw[au];omega
    |false=>rw[ax];omega
   have T:∀ b:Nat,c.az.aC.getD b 0<=3:=λb=>by
    by_cases hb:b<c.az.aC.length
    ·by_cases C:c.az.aC.getD b 0 >= 4
     ·have C:uB c.az.aC b=true:=aY C;have hB:(b:Int)<aI c.config.ak:=by omega
      have:=(h.d5 b hB C).u6;have:=afT hB C;omega
     ·omega
    ·rw[cS,qO (by omega)];decide
   have Bf:100<=uY ⟨c.az.aC.map oy,bif c.az.dY then c.config.interval / 2 else c.config.interval,c.az.dY⟩:=by
    unfold uY;dsimp only;cases c.az.dY with
    |true=>rw[au,au];omega
    |false=>rw[ax,ax];omega
   refine⟨c.now+1,⟨by rw[p.pR];exact h.d1,by omega,by rw[pF];omega,λb=>?_,λB hB C=>?_⟩⟩
   ·rw[pF];dsimp only;by_cases hb:b<c.az.aC.length
    ·rw[OS _ _ hb];have:=T b;have:=JC k.rf _ (cR hb);rw[<-gM 0 hb]at this;unfold oy;rw[aZ];split<;>omega
    ·rw[cS,qO (by rw[eS];omega)];decide
   ·rw[p.pC]at hB ⊢;rw[p.pK,p.pR];have a1:=OZ c.config.ak j.az.aC;have a2:=JU c.config.ak c.aF j.az.aC;have l:=wF h.d1;have l1:=l B 1;have l2:=l B 2;have l3:=l B 3;have l4:=l B 4;have l5:=l B 5;have l7:=l (aI c.config.ak).toNat 7;have l9:=l (aI c.config.ak).toNat 9
    refine⟨bne_iff_ne.1 hp,by omega,λ_=>⟨by omega,λi=>by have:=h.d1 i;omega⟩,by omega,λ_=>by omega,by omega,λb hb=>?_⟩
    have:=l b 5;omega
def JV{c:av}{x:aP}{i:Int}(C:1<=x.kind/\x.kind<=9):(bH c x i).aF=bN c.aF x/\(bH c x i).ready=gx c.config.ak c.ready ⟨c.now,x⟩/\(bH c x i).now=c.now/\(bH c x i).config=c.config:=by
 have acc:∀ i:Nat,(gz (bU c x) i).aF=bN c.aF x/\(gz (bU c x) i).ready=gx c.config.ak c.ready ⟨c.now,x⟩/\(gz (bU c x) i).now=c.now/\(gz (bU c x) i).config=c.config:=λi=>by
  unfold gz;dsimp only;cases ((bU c x).queue.getD i nI).write<;>exact⟨rfl,rfl,rfl,rfl⟩
 unfold bH;rcases kinds C with q|q|q|q|q|q|q|q|q<;>rw[q]<;>simp only[Int.reduceBEq,Int.reduceBNe,au,ax,Bool.or_true,Bool.or_false,Bool.true_or,Bool.false_or,Bool.or_self]
 ·exact⟨rfl,rfl,rfl,rfl⟩
 ·exact acc _
 ·exact acc _
 ·exact⟨rfl,rfl,rfl,rfl⟩
 ·exact⟨rfl,rfl,rfl,rfl⟩
 ·exact⟨rfl,rfl,rfl,rfl⟩
 ·exact⟨rfl,rfl,rfl,rfl⟩
 ·exact⟨rfl,rfl,rfl,rfl⟩
 ·exact⟨rfl,rfl,rfl,rfl⟩
def afV{c:av}{x:aP}{i:Int}(O:1<=x.kind/\x.kind<=9)(hb:x.kind=5->x.aq.toNat<c.az.aC.length)(E:x.kind=5->c.az.aC.getD x.aq.toNat 0 >= 1):(bH c x i).az.wait=c.az.wait/\(bH c x i).az.dY=c.az.dY/\(x.kind≠5->x.kind≠9->(bH c x i).az.aC=c.az.aC)/\(x.kind=5->∀ b,(bH c x i).az.aC.getD b 0=if x.aq.toNat=b then c.az.aC.getD b 0-1 else c.az.aC.getD b 0)/\(x.kind=9->∀ b,b<c.bB.length->(bH c x i).az.aC.getD b 0=0)/\∀ b,(bH c x i).az.aC.getD b 0<=max 0 (c.az.aC.getD b 0):=by
 by_cases C:x.kind=5
 ·have e:∀ b,(l6 c.az x.aq).aC.getD b 0=if x.aq.toNat=b then c.az.aC.getD b 0-1 else c.az.aC.getD b 0:=λb=>(OV c.az (hb C) b (E C)).1
  obtain⟨_,w1,T⟩:=OV c.az (hb C) 0 (E C);rw[OU c i C]
  refine⟨w1,T,λh=>absurd C h,λ_=>e,λh=>by omega,λb=>?_⟩
  show (l6 c.az x.aq).aC.getD b 0<=_;rw[e b];split<;>omega
 ·by_cases D:x.kind=9
  ·have e:∀ b,(bH c x i).az.aC.getD b 0=if b<c.bB.length then 0 else c.az.aC.getD b 0:=λb=>by
    rw[JT c i D];exact V6 c.az.aC c.bB.length b
   refine⟨by rw[JT c i D];rfl,by rw[JT c i D];rfl,λ_ h=>absurd D h,λh=>absurd h C,λ_ b hb=>by rw[e b,aV hb],λb=>?_⟩
   rw[e b];split<;>omega
  ·have e:(bH c x i).az=c.az:=by
    by_cases I:x.kind=1
    ·rw[OT c i I];rfl
    ·exact(V3 O I C D).2.2.1
   rw[e];exact⟨rfl,rfl,λ_ _=>rfl,λh=>absurd h C,λh=>absurd h D,λb=>by omega⟩
def Fl{r:bM}{x:aP}{b:Nat}(h:b≠x.aq.toNat):ck (bN r x) (b:Int)=ck r (b:Int):=by
 have key:∀ v:ep,ck ⟨r.aE.set x.aq.toNat v,r.aN⟩ (b:Int)=ck r (b:Int):=λv=>by
  unfold ck;rw[bE,cS,List.getElem?_set_ne (λe=>h e.symm),<-cS]
 unfold bN;cases x.kind==1 with
 |true=>exact key _
 | false=>
  cases x.kind==4 with
  |true=>exact key _
  |false=>cases x.kind==6<;>cases x.kind==8<;>cases (x.kind==7 ||x.kind==9)<;>rfl
def afW{r:bM}{x:aP}{b:Nat}(C:x.kind=4)(h:b=x.aq.toNat):(ck (bN r x) (b:Int)).open_=false:=by
 unfold bN ck;rw[C];show ((r.aE.set x.aq.toNat (⟨false,0⟩:ep)).getD (b:Int).toNat ⟨false,0⟩).open_=false;rw[bE,h,cS,List.getElem?_set,aV rfl];split<;>rfl
def uZ(t:cg):Prop:=∃r w:Int,1<=r/\r<=4/\4<=w/\w<=8/\t=jb r w
def at4{j:av}{n t:Int}(hq:Pq j)(E:uZ j.config.bQ)(hn:n=j.now-1)(d1:∀ i:Nat,j.ready.last.getD i (-1)<=n){B:Nat}(u:Du n t j.config.ak j.aF j.ready j.az.aC B)(hp:j.aF.aN=0)(I:oB j.aF B=true)(hT:t+33<=j.now):cI j ⟨4,(B:Int),0,0⟩=true:=by
 obtain⟨r,w,O,T,w1,U,Y⟩:=E
 refine V8 hq (λh=>absurd (show (4:Int)=1 from h) (by decide)) ?_ λb k k1 k9 hu h0=>?_
 ·show (j.aF.aN==0&&(ck j.aF (B:Int)).open_)=true;rw[hp,show (ck j.aF (B:Int)).open_=true from I];rfl
 ·rw[Y];obtain⟨g1,C,D⟩:=at1 (g:=j.config.ak) (a:=⟨(k:Int),if k<=5 then (b:Int)else 0,0,0⟩) ⟨O,T⟩ ⟨w1,U⟩ ⟨by dsimp only;omega,by dsimp only;omega⟩ (B:Int);dsimp only at C D;have hl:=wF d1 b k;have F4:=u.u2;have hu4:=u.u4;by_cases Z:k=7
  ·obtain rfl:b=(aI j.config.ak).toNat:=by omega
   have:=C (by omega);subst Z;omega
  ·by_cases h9:k=9
   ·obtain rfl:b=(aI j.config.ak).toNat:=by omega
    subst h9;omega
   ·by_cases hb:b=B/\k<=3
    ·obtain⟨rfl,h3⟩:=hb;have:k=1\/k=2\/k=3:=by omega
     rcases this with rfl|rfl|rfl<;>omega
    ·have:=D (by omega) (by omega) (by
      by_cases h5:k<=5
      ·rw[aV h5];omega
      ·exact .inr (by omega))
     omega
def at5{j:av}{n t:Int}(hq:Pq j)(T:uZ j.config.bQ)(hn:n=j.now-1)(d1:∀ i:Nat,j.ready.last.getD i (-1)<=n){B:Nat}(u:Du n t j.config.ak j.aF j.ready j.az.aC B)(hp:j.aF.aN=0)(U:oB j.aF B=false)(hT:t+67<=j.now)(C:∀ b:Nat,(b:Int)<aI j.config.ak->La j.ready b 5+3<=j.now):cI j ⟨5,(B:Int),0,0⟩=true:=by
 obtain⟨r,w,Y,Z,w1,w2,et⟩:=T
 refine V8 hq (λh=>absurd (show (5:Int)=1 from h) (by decide)) ?_ λb k k1 k9 hu h0=>?_
 ·show (j.aF.aN==0 && !(ck j.aF (B:Int)).open_)=true;rw[hp,show (ck j.aF (B:Int)).open_=false from U];rfl
 ·rw[et];obtain⟨g1,D,E,I,O⟩:=at2 (g:=j.config.ak) (a:=⟨(k:Int),if k<=5 then (b:Int)else 0,0,0⟩) ⟨Y,Z⟩ ⟨w1,w2⟩ ⟨by dsimp only;omega,by dsimp only;omega⟩ (B:Int);dsimp only at D E I O;have hl:=wF d1 b k;have F4:=u.u2;have hu4:=u.u4;by_cases h7:k=7
  ·obtain rfl:b=(aI j.config.ak).toNat:=by omega
   have:=D (by omega);subst h7;omega
  ·by_cases h9:k=9
   ·obtain rfl:b=(aI j.config.ak).toNat:=by omega
    subst h9;omega
   ·by_cases hb:b=B/\k<=5
    ·obtain⟨rfl,h3⟩:=hb;have:k=1\/k=2\/k=3\/k=4\/k=5:=by omega
     rcases this with rfl|rfl|rfl|rfl|rfl
     ·omega
     ·omega
     ·omega
     ·have:=E rfl;omega
     ·omega
    ·by_cases e5:k=5
     ·subst e5;have:=I rfl (by rw[aV];omega);have:=C b (by omega);omega
     ·have:=O (by omega) (by omega) (by omega) (by
       by_cases C:k<=5
       ·rw[aV C];exact .inl (by omega)
       ·exact .inr (by omega))
      omega
def at6{j:av}{t:Int}(hq:Pq j)(C:uZ j.config.bQ)(hp:j.aF.aN=1)(hl:∀ i:Nat,j.ready.last.getD i (-1)<=t)(hT:t+16<=j.now):cI j ⟨7,0,0,0⟩=true:=by
 obtain⟨r,w,E,I,w1,O,D⟩:=C
 refine V8 hq (λh=>absurd (show (7:Int)=1 from h) (by decide)) ?_ λb k T U Y Z=>?_
 ·show (j.aF.aN==1)=true;rw[hp];rfl
 ·rw[D];have:=at3 (g:=j.config.ak) (r:=r) (w:=w) (a:=⟨(k:Int),if k<=5 then (b:Int)else 0,0,0⟩) ⟨by dsimp only;omega,by dsimp only;omega⟩;have:=wF hl b k;omega
def at7{g:aH}{x:aP}(h:cC g x=true)(C:x.kind=4):x=⟨4,x.aq,0,0⟩:=by
 simp only[cC,aJ]at h;obtain⟨_,_,_,D,E⟩:=h;rw[C]at D E;have I:x.row=0:=eG.1 D;have O:x.bW=0:=eG.1 E;clear D E;obtain⟨k,b,r,c⟩:=x;dsimp only at C I O;subst C I O;rfl
def O0{c:av}(h:oq c=true):cE c=bif c.aN.state==1 then 7 else bif c.aN.state==2 then 9 else 0:=by
 unfold cE wh;rw[h];rfl
def afX{c:av}{b:Int}(h:b∈bP 0 c.az.aC):oq c=true:=by
 have:0<(bP 0 c.az.aC).length:=List.length_pos_of_mem h;unfold oq;rw[aY (show ((bP 0 c.az.aC).length:Int) > 0 by omega),Bool.or_true,Bool.or_true]
def Dx.core{j:av}{t:Int}(h:Dx (j.now-1) t j)(hq:Pq j)(I:uZ j.config.bQ)(hp:j.aF.aN=0)(T:∀ b∈bP 0 j.az.aC,cI j (fz j b)=false){B:Nat}(hB:(B:Int)<aI j.config.ak)(E:uB j.az.aC B=true):(oB j.aF B=true->j.now+cU j.config.ak j.az.aC+cO j.config.ak j.aF j.az.aC<=t+48)/\j.now+3*cU j.config.ak j.az.aC<=t+90:=by
 have u:=h.d5 B hB E;have U:=ey j.config.ak;have Y:=OZ j.config.ak j.az.aC;have Z:=JU j.config.ak j.aF j.az.aC;have C:=T _ (V1 hq (b:=(B:Int)) (by omega) hB (of_decide_eq_true E));unfold fz pL at C
 refine⟨λD=>?_,?_⟩
 ·rw[show (ck j.aF (B:Int)).open_=true from D,au]at C;by_cases hT:t+33<=j.now
  ·rw[at4 hq I rfl h.d1 u hp D hT]at C;cases C
  ·omega
 ·by_cases hT:t+67<=j.now
  ·cases D:oB j.aF B with
   | true=>
    have:=u.u5 D;have:=afU hB E D;omega
   | false=>
    rw[show (ck j.aF (B:Int)).open_=false from D,ax]at C;by_cases O:∀b:Nat,(b:Int)<aI j.config.ak->La j.ready b 5+3<=j.now
    ·rw[at5 hq I rfl h.d1 u hp D hT O]at C;cases C
    ·obtain⟨b,hb⟩:=Classical.not_forall.1 O;obtain⟨hb,gV⟩:=Classical.not_imp.1 hb;have:=u.u7 b hb;omega
  ·omega
def Du.stay{n n' t:Int}{g:aH}{r C:bM}{q D:dR}{d:aa Int}{B:Nat}(u:Du n t g r q d B)(hB:(B:Int)<aI g)(hp:C.aN=0)
  (hq:∀b k:Nat,1<=k->k<=9->(b=B/\k<=5\/k=5\/k=7\/k=9)->La D b k=La q b k) (E:oB C B=true->n'+cU g d+cO g C d<=t+48) (I:n'+3*cU g d<=t+90):Du n' t g C D d B:=by
 have O:=hq B 1 (by omega) (by omega) (by omega);have T:=hq B 2 (by omega) (by omega) (by omega);have U:=hq B 3 (by omega) (by omega) (by omega);have Y:=hq B 4 (by omega) (by omega) (by omega);have Z:=hq B 5 (by omega) (by omega) (by omega);have e7:=hq (aI g).toNat 7 (by omega) (by omega) (by omega);have e9:=hq (aI g).toNat 9 (by omega) (by omega) (by omega)
 refine⟨by omega,by rw[e7,e9];exact u.u2,λh=>by omega,by rw[O,T,U,Y,Z];exact u.u4,E,I,λb hb=>?_⟩
 rw[hq b 5 (by omega) (by omega) (by omega)];exact u.u7 b hb
def Dx.fn{j y:av}{t:Int}(h:Dx (j.now-1) t j)(hz:cZ j)(hk:cD j=true)(ht:uZ j.config.bQ)(hf:Fn j y):Dx j.now t y:=by
 have hq:=Pq.of hz hk;have b1:=ey j.config.ak;have ps:=hq.ps;have Jn:=hq.dl;have AO:=(gu.of (Ck.of hk).pa).tl;have hpw:=(v8 hq.p.rk).2.2.1;have up:∀{B:Nat},(B:Int)<aI j.config.ak->uB j.az.aC B=true->(B:Int)∈bP 0 j.az.aC:=λhB I=>V1 hq (by omega) hB (of_decide_eq_true I)
 have b8:aI j.config.ak<=8:=by have:=hq.rf;have:=wg this;omega
 rcases hf with ⟨k0,rfl⟩|⟨U,rfl⟩
 ·refine⟨λi=>by have:=h.d1 i;omega,h.d2,h.d3,h.d4,λB hB I=>?_⟩
  have u:=h.d5 B hB I;have a1:=OZ y.config.ak y.az.aC;have a2:=JU y.config.ak y.aF y.az.aC;have hw:=O0 (afX (up hB I));rcases Fk hq with ⟨hs,O⟩|⟨hs,⟨b,hb,e⟩|⟨vG,_⟩⟩
  ·have hp:y.aF.aN=1:=by have:=u.u1;omega
   rw[ps,hp]at hw;have hw:cE y=7:=hw;have JR:=u.u3 hp;have hT:¬ t+16<=y.now:=λhT=>by
    have hr:=at6 hq ht hp JR.2 hT;rcases O with ⟨_,e|e⟩|e
    ·omega
    ·rw[hw,hr]at e;cases e
    ·rw[e]at k0;dsimp only at k0;omega
   exact⟨u.u1,u.u2,λ_=>⟨by omega,JR.2⟩,u.u4,λ_=>by omega,by omega,u.u7⟩
  ·exfalso;rw[e]at k0;unfold fz at k0;rcases yK y b ⟨5,b,0,0⟩with e|⟨e,_⟩<;>rw[e]at k0<;>dsimp only at k0<;>omega
  ·have hp:y.aF.aN=0:=by omega
   obtain⟨c1,c2⟩:=h.core hq ht hp vG hB I;exact u.stay hB hp (λ_ _ _ _ _=>rfl) c1 c2
 ·have O1:=Fk hq;have hpr:=afN hq;generalize hX:(fU j).1=x at U O1 hpr ⊢;generalize (fU j).2=i at U ⊢;obtain⟨_,ha,_,_⟩:=AQ hz hq U;obtain⟨_,_,O,wE⟩:=v5 ha;simp only[jE,cI,aJ]at U;have hc:=U.1;have xB:=U.2.1.1;have q6:cI j x=true:=by
   simp only[cI,aJ];exact U.2.1
  obtain⟨e1,e2,e3,e4⟩:=JV (c:=j) (x:=x) (i:=i) O;have hb5:x.kind=5->x.aq.toNat<j.az.aC.length:=λk=>by have:=wE (by omega);have:=hq.p.bl;omega
  obtain⟨w1,w2,w3,w4,w5,w6⟩:=afV (c:=j) (x:=x) (i:=i) O hb5 λk=>(hpr k).1
  refine⟨by rw[e2];exact OY _ _ _ (λi=>by have:=h.d1 i;omega) (fN _),by rw[e3];exact h.d2,?_,λb=>by have:=w6 b;have:=h.d4 b;omega,λB hB I=>?_⟩
  ·have:uY (bH j x i).az=uY j.az:=by unfold uY;rw[w1,w2]
   rw[this,e3];exact h.d3
  ·rw[e4]at hB ⊢;rw[e1,e2];have Y:uB j.az.aC B=true:=aY (by have:=of_decide_eq_true I;have:=w6 B;omega);have u:=h.d5 B hB Y;have a1:=OZ j.config.ak j.az.aC;have a2:=JU j.config.ak j.aF j.az.aC;have hw:=O0 (afX (up hB Y));have la:=OX j.config.ak j.ready ⟨j.now,x⟩ hc;have hBb:∀ {b k:Nat},(k:Int)=x.kind->k<=5->(b:Int)=(if k<=5 then x.aq else aI j.config.ak)->b=x.aq.toNat:=λT E h3=>by rw[aV E]at h3;omega
   rcases O1 with ⟨hs,hx7⟩|⟨hs,⟨b,hb,e⟩|⟨vG,at8⟩⟩
   ·-- the power comes back
    have hp:j.aF.aN=1:=by have:=u.u1;omega
    rw[ps,hp]at hw;have hw:cE j=7:=hw;have ex:x=⟨7,0,0,0⟩:=by
     rcases hx7 with ⟨e,_⟩|e
     ·rw[e]at O;exact absurd O.1 (by decide)
     ·rw[e,hw]
    have k7:x.kind=7:=by rw[ex]
    have JR:=u.u3 hp;rw[w3 (by omega) (by omega)];have D:∀ b k:Nat,1<=k->k<=9->k≠7->La (gx j.config.ak j.ready ⟨j.now,x⟩) b k=La j.ready b k:=λb k T Z hk=>by
     rcases la b k ⟨T,Z⟩with e|⟨_,e,_⟩
     ·exact e
     ·dsimp only at e;omega
    have FX:(bN j.aF x).aN=0:=by rw[ex];rfl
    have l7:La (gx j.config.ak j.ready ⟨j.now,x⟩) (aI j.config.ak).toNat 7<=t+16:=by
     have:=wF (OY j.config.ak j.ready ⟨j.now,x⟩ (n:=j.now) (λi=>by have:=h.d1 i;omega) (fN _)) (aI j.config.ak).toNat 7;omega
    refine⟨by omega,⟨l7,by rw[D _ 9 (by omega) (by omega) (by omega)];exact u.u2.2⟩,λh=>by omega,?_,λ_=>?_,by omega,λb hb=>by rw[D b 5 (by omega) (by omega) (by omega)];exact u.u7 b hb⟩
    ·rw[D B 1 (by omega) (by omega) (by omega),D B 2 (by omega) (by omega) (by omega),D B 3 (by omega) (by omega) (by omega),D B 4 (by omega) (by omega) (by omega),D B 5 (by omega) (by omega) (by omega)];exact u.u4
    ·have:=JU j.config.ak (bN j.aF x) j.az.aC;omega
   ·-- an urgent bank
    have hp:j.aF.aN=0:=by omega
    obtain⟨v1,v2,v3⟩:=V0 hq hb;have C0:uB j.az.aC b.toNat=true:=aY v3;have hbn:((b.toNat:Nat):Int)=b:=Int.toNat_of_nonneg v1;unfold fz at e;rcases yK j b ⟨5,b,0,0⟩with e5|⟨e5,e6⟩
    ·-- it closes
     have ho:oB j.aF b.toNat=true:=by
      unfold pL at e5;unfold oB;rw[hbn];cases hh:(ck j.aF b).open_ with
      |true=>rfl
      |false=>rw[hh]at e5;cases e5
     have ex:x=⟨4,b,0,0⟩:=e.trans e5;have k4:x.kind=4:=by rw[ex]
     have xb:x.aq=b:=by rw[ex]
     have FX:(bN j.aF x).aN=0:=by rw[ex];exact hp
     have hu5:=(h.d5 b.toNat (by omega) C0).u5 ho;have cu1:=afT (g:=j.config.ak) (by omega) C0;have co1:=afU (g:=j.config.ak) (by omega) C0 ho;have hco:cO j.config.ak (bN j.aF x) j.az.aC+1<=cO j.config.ak j.aF j.az.aC:=by
      have:=V9 (p:=λb=>uB j.az.aC b&&oB j.aF b) (q:=λb=>uB j.az.aC b&&oB (bN j.aF x) b) (b:=b.toNat) (aI j.config.ak).toNat (by omega) (λC _ sq=>by
       rw[aJ]at sq ⊢;refine⟨sq.1,?_⟩;by_cases eb:C=x.aq.toNat
       ·have:=afW (r:=j.aF) k4 eb;have E:=sq.2;unfold oB at E;rw[this]at E;cases E
       ·have:=Fl (r:=j.aF) eb;have E:=sq.2;unfold oB at E ⊢;rw[this]at E;exact E) (by rw[C0,ho];rfl) (by
       have:=afW (r:=j.aF) (b:=b.toNat) k4 (by rw[xb]);unfold oB;rw[this,Bool.and_false])
      unfold cO;omega
     rw[w3 (by omega) (by omega)];have D:∀ b k:Nat,1<=k->k<=9->k≠4->La (gx j.config.ak j.ready ⟨j.now,x⟩) b k=La j.ready b k:=λb k T Z hk=>by
      rcases la b k ⟨T,Z⟩with e|⟨_,e,_⟩
      ·exact e
      ·dsimp only at e;omega
     have l4:La (gx j.config.ak j.ready ⟨j.now,x⟩) B 4<=t+48:=by
      rcases la B 4 ⟨by omega,by omega⟩with e|⟨e,_,_⟩
      ·rw[e];exact u.u4.2.2.2.2
      ·rw[e];dsimp only;omega
     refine⟨by omega,by rw[D _ 7 (by omega) (by omega) (by omega),D _ 9 (by omega) (by omega) (by omega)];exact u.u2,λh=>by omega,?_,λhB'=>by omega,by omega,λb hb=>by rw[D b 5 (by omega) (by omega) (by omega)];exact u.u7 b hb⟩
     rw[D B 1 (by omega) (by omega) (by omega),D B 2 (by omega) (by omega) (by omega),D B 3 (by omega) (by omega) (by omega),D B 5 (by omega) (by omega) (by omega)];exact⟨u.u4.1,u.u4.2.1,u.u4.2.2.1,u.u4.2.2.2.1,l4⟩
    ·-- it is refreshed
     have ex:x=⟨5,b,0,0⟩:=e.trans e5;have k5:x.kind=5:=by rw[ex]
     have xb:x.aq=b:=by rw[ex]
     have w4:=w4 k5;rw[xb]at w4;have er:bN j.aF x=j.aF:=by rw[ex];rfl
     have Ya:=h.d4 b.toNat;have bY:B≠b.toNat:=λeb=>by
      have:=of_decide_eq_true I;rw[w4 B,aV eb.symm,eb]at this;omega
     have Di:∀ C,uB (bH j x i).az.aC C=true->uB j.az.aC C=true:=λC hh=>aY (by
      have:=of_decide_eq_true hh;have:=w6 C;omega)
     have Wa:uB (bH j x i).az.aC b.toNat=false:=bh (by rw[w4 b.toNat,aV rfl];omega);have KR:cU j.config.ak (bH j x i).az.aC+1<=cU j.config.ak j.az.aC:=by
      have:=V9 (p:=uB j.az.aC) (q:=uB (bH j x i).az.aC) (b:=b.toNat) (aI j.config.ak).toNat (by omega) (λC _ hh=>Di C hh) C0 Wa;unfold cU;omega
     have hco:cO j.config.ak j.aF (bH j x i).az.aC<=cO j.config.ak j.aF j.az.aC:=by
      have:=count_le (p:=λb=>uB j.az.aC b&&oB j.aF b) (q:=λb=>uB (bH j x i).az.aC b&&oB j.aF b) (aI j.config.ak).toNat λC _ hh=>by
       rw[aJ]at hh ⊢;exact⟨Di C hh.1,hh.2⟩
      unfold cO;omega
     rw[er];have D:∀ C k:Nat,1<=k->k<=9->(k≠5\/C≠b.toNat)->La (gx j.config.ak j.ready ⟨j.now,x⟩) C k=La j.ready C k:=λC k T Z hk=>by
      rcases la C k ⟨T,Z⟩with e|⟨_,e,e'⟩
      ·exact e
      ·dsimp only at e e';have:=hBb e (by omega) e';rw[xb]at this;omega
     have hu6:=u.u6;have hu7:=u.u7
     refine⟨by omega,by rw[D _ 7 (by omega) (by omega) (by omega),D _ 9 (by omega) (by omega) (by omega)];exact u.u2,λh=>by omega,?_,λhB'=>by have:=u.u5 hB';omega,by omega,λC xE=>?_⟩
     ·rw[D B 1 (by omega) (by omega) (by omega),D B 2 (by omega) (by omega) (by omega),D B 3 (by omega) (by omega) (by omega),D B 4 (by omega) (by omega) (by omega),D B 5 (by omega) (by omega) (by omega)];exact u.u4
     ·rcases la C 5 ⟨by omega,by omega⟩with e | ⟨e,_,_⟩
      ·rw[e];have:=hu7 C xE;omega
      ·rw[e];dsimp only;omega
   ·-- another command
    have hp:j.aF.aN=0:=by omega
    obtain⟨c1,c2⟩:=h.core hq ht hp vG hB Y;have hwn:cE j=0:=by
     rw[hs]at hw;exact hw
    have Wb:x.kind<=4/\uB j.az.aC x.aq.toNat=false:=by
     have cl:∀ (b:Int) (z:aP),z.kind=1->z.aq=b->uB j.az.aC b.toNat=false->x=pL j b z->x.kind<=4/\uB j.az.aC x.aq.toNat=false:=λb z z1 z2 z3 z4=>by
      rcases yK j b z with e|⟨e,_⟩
      ·rw[z4,e];exact⟨by dsimp only;omega,z3⟩
      ·rw[z4,e,z1,z2];exact⟨by omega,z3⟩
     rcases at8 with ⟨k,hkl,rF,e⟩|⟨k,hkl,AU,e⟩|e|e
     ·unfold qM at rF;rw[aJ,fB]at rF;exact cl (iw j k).aq ⟨1,(iw j k).aq,(iw j k).row,0⟩ rfl rfl rF.1 e
     ·unfold gA at AU;simp only[aJ,fB]at AU;obtain⟨n1,n2⟩:=V2 j.aF (dy j k) (ov j.queue k);rw[e];unfold gI;rw[n1];exact⟨by omega,AU.2.1⟩
     ·rcases OR hq e with ⟨_,_,_,at9,_⟩ | k4 | ⟨_,e⟩
      ·have:=up hB Y;rw[at9]at this;cases this
      ·refine⟨by omega,?_⟩;cases C0:uB j.az.aC x.aq.toNat with
       |false=>rfl
       | true=>
        obtain⟨x0,x1⟩:=wE (by omega);have gZ:=hq.p.bl;have xQ:=vG _ (V1 hq (b:=x.aq) x0 (by omega) (of_decide_eq_true C0));have vJ:(ck j.aF x.aq).open_=true:=by
         unfold gG at xB;rw[k4]at xB;have xB:(j.aF.aN==0&&(ck j.aF x.aq).open_)=true:=xB;rw[aJ]at xB;exact xB.2
        unfold fz pL at xQ;rw[vJ,au,<-at7 hc k4,q6]at xQ;cases xQ
      ·exact absurd hwn e
     ·rw[e]at O;exact absurd O.1 (by decide)
    rw[w3 (by omega) (by omega)];have JW:∀ C,uB j.az.aC C=true->oB (bN j.aF x) C=oB j.aF C:=λC hh=>by
     unfold oB;rw[Fl (λeb=>by rw[eb,Wb.2]at hh;cases hh)]
    have hco:cO j.config.ak (bN j.aF x) j.az.aC<=cO j.config.ak j.aF j.az.aC:=by
     have:=count_le (p:=λb=>uB j.az.aC b&&oB j.aF b) (q:=λb=>uB j.az.aC b&&oB (bN j.aF x) b) (aI j.config.ak).toNat λC _ hh=>by
      rw[aJ]at hh ⊢;exact⟨hh.1,by rw[<-JW C hh.1];exact hh.2⟩
     unfold cO;omega
    have FX:(bN j.aF x).aN=0:=(afy (by omega)).trans hp
    refine u.stay hB FX (λC k T Z hk=>?_) (λho=>?_) c2
    ·rcases la C k ⟨T,Z⟩with e | ⟨_,e,e'⟩
     ·exact e
     ·dsimp only at e e';exfalso;rcases hk with ⟨hk,xT⟩ | hk | hk | hk
      ·have:=hBb e xT e';rw[<-this,hk]at Wb;rw[Wb.2]at Y;cases Y
      ·omega
      ·omega
      ·omega
    ·have:=c1 (by rw[<-JW B Y];exact ho);omega
structure nK (R:Nat) (t:cX) (f:Nat->Nat):Prop where
 tr:t.rows.length=16
 tc:t.counts.length=16
 ts:t.fj=0
 te:∀i,i<16->(t.rows.getD i (-1) = -1/\t.counts.getD i 0=0)\/∃r,r<R/\t.rows.getD i (-1)=(r:Int)/\t.counts.getD i 0=(f r:Int)/\1<=f r
 tf:∀r,r<R->1<=f r->∃i,i<16/\t.rows.getD i (-1)=(r:Int)
 td:∀i j,i<16->j<16->t.rows.getD i (-1)=t.rows.getD j (-1)->t.rows.getD i (-1) ≠ -1->i=j
def nK.new(R:Nat):nK R (nH 16) λ_=>0:=by
 have C:∀i,i<16->(nH 16).rows.getD i (-1) = -1/\(nH 16).counts.getD i 0=0:=by decide
 exact⟨by decide,by decide,rfl,λi hi=>.inl (C i hi),λr _ h=>absurd h (by decide),λi j hi _ _ h=>absurd (C i hi).1 h⟩
def nK.afY{R:Nat}{t:cX}{f:Nat->Nat}(h:nK R t f)(hR:R<=16)(O:∀ r,r<R->f r<=100000):lY t=true:=by
 have T:=h.tr;have U:=h.tc;unfold lY;rw[T,U,h.ts];simp only[aJ];refine⟨by decide,by decide,by decide,?_⟩;rw[bT];intro i hi;have hi:=gi.1 hi;have D:t.rows.getD i (-1)=t.rows[i]:=gM _ (by omega);have Y:t.counts.getD i 0=t.counts[i]:=gM _ (by omega);rw[N3 (by omega) (by omega),h.ts];have I:=h.te i hi;rw[D,Y]at I;rcases I with ⟨C,E⟩|⟨r,Z,C,E,e3⟩
 ·rw[C,E];rfl
 ·have:=O r Z;rw[C,E,br.2 ⟨by omega,by omega⟩,br.2 ⟨by omega,by omega⟩,gR (show ¬ (r:Int) = -1 by omega),jQ (show ¬ (r:Int) = -1 by omega)];have hn:((t.rows.take i).any λx=>(r:Int)==x)=false:=by
   rw[kT];intro x hx hq;obtain⟨j,hj,rfl⟩:=List.mem_take_iff_getElem.1 hx;have hq:=eG.1 hq;have g3:t.rows.getD j (-1)=t.rows[j]:=gM _ (by omega);have:=h.td i j hi (by omega) (by rw[D,g3,C];exact hq) (by rw[D,C];omega);omega
  rw[hn];rfl
def nK.room{R:Nat}{t:cX}{f:Nat->Nat}(h:nK R t f)(U:R<16):∃ i,i<16/\t.counts.getD i 0=0:=by
 refine Classical.byContradiction λhn=>?_
 have I:∀ i,i<16->∃ r,r<R/\t.rows.getD i (-1)=(r:Int):=λi hi=>by
  rcases h.te i hi with ⟨_,D⟩|⟨r,E,C,_⟩
  ·exact absurd ⟨i,hi,D⟩ hn
  ·exact⟨r,E,C⟩
 have:=VE R ((List.range 16).map λi=>(t.rows.getD i (-1)).toNat) (λx T=>by
  obtain⟨i,hi,rfl⟩:=List.mem_map.1 T;obtain⟨r,E,e⟩:=I i (gi.1 hi);rw[e,bE];exact E) (by
  rw[List.pairwise_iff_getElem];intro i j hi O Y e;rw[eS,eo]at hi O;rw[List.getElem_map,List.getElem_map,lH,lH]at e;obtain⟨r,E,C⟩:=I i hi;obtain⟨Z,pX,D⟩:=I j O;rw[C,D,bE,bE]at e;have:=h.td i j hi O (by rw[C,D,e]) (by rw[C];omega);omega)
 rw[eS,eo]at this;omega
def nK.trk{R:Nat}{t:cX}{f:Nat->Nat}(h:nK R t f)(hR:R<16){row:Nat}(hr:row<R):nK R (jd t (row:Int)) (λr=>if r=row then f r+1 else f r)/\∃ i,qI t (row:Int)=some i/\(jd t (row:Int)).counts.getD i 0=((f row+1:Nat):Int):=by
 have h1:=h.tr;have h2:=h.tc;unfold jd qI;cases hf:t.rows.findIdx? (λe=>e==(row:Int))with
 | some i=>
  obtain⟨hi,hp⟩:=CR hf;have O:i<16:=by omega
  have er:t.rows.getD i (-1)=(row:Int):=(gM _ hi).trans (eG.1 hp);have ec:t.counts.getD i 0=(f row:Int):=by
   rcases h.te i O with ⟨C,_⟩|⟨r,_,C,E,_⟩
   ·omega
   ·rw[E];congr 1;congr 1;omega
  have T:(t.counts.set i (t.counts.getD i 0+1)).getD i 0=((f row+1:Nat):Int):=by
   rw[oz _ (by omega),ec];rfl
  dsimp only
  refine⟨⟨h1,by rw[jh];exact h2,h.ts,λj D=>?_,λr pX I=>?_,h.td⟩,i,rfl,T⟩
  ·dsimp only;by_cases e:i=j
   ·subst e;exact .inr ⟨row,hr,er,by rw[aV rfl];exact T,by rw[aV rfl];omega⟩
   ·rw[getD_set_ne _ e];rcases h.te j D with C | ⟨r,k1,U,k3,k4⟩
    ·exact .inl C
    ·have Y:r≠row:=λhh=>e (h.td i j O D (by rw[er,U,hh]) (by rw[er];omega))
     exact .inr ⟨r,k1,U,by rw[aW Y];exact k3,by rw[aW Y];exact k4⟩
  ·by_cases e:r=row
   ·subst e;exact⟨i,O,er⟩
   ·rw[aW e]at I;exact h.tf r pX I
 | none=>
  have hn:∀ i,i<16->t.rows.getD i (-1)≠(row:Int):=λi hi e=>by
   have g1:t.rows.getD i (-1)=t.rows[i]:=gM _ (by omega);have:=List.findIdx?_eq_none_iff.1 hf t.rows[i] (cR _);rw[<-g1,e,iS]at this;cases this
  have f0:f row=0:=by
   cases hz:f row with
   |zero=>rfl
   | succ k=>
    obtain⟨i,hi,e⟩:=h.tf row hr (by omega);exact absurd e (hn i hi)
  cases I:t.counts.findIdx? (λe=>e==t.fj)with
  | none=>
   obtain⟨i,hi,e⟩:=h.room hR;have g2:t.counts.getD i 0=t.counts[i]:=gM _ (by omega);have:=List.findIdx?_eq_none_iff.1 I t.counts[i] (cR _);rw[<-g2,e,h.ts,iS]at this;cases this
  | some i=>
   obtain⟨hi,hp⟩:=CR I;have O:i<16:=by omega
   have ec:t.counts.getD i 0=0:=(gM _ hi).trans (by rw[eG.1 hp];exact h.ts);have er:t.rows.getD i (-1) = -1:=by
    rcases h.te i O with ⟨C,_⟩|⟨r,_,_,E,e3⟩
    ·exact C
    ·omega
   have T:(t.counts.set i (t.fj+1)).getD i 0=((f row+1:Nat):Int):=by
    rw[oz _ (by omega),h.ts,f0];rfl
   have Z:(t.rows.set i (row:Int)).getD i (-1)=(row:Int):=oz _ (by omega);dsimp only
   refine⟨⟨by rw[jh];exact h1,by rw[jh];exact h2,h.ts,λj D=>?_,λr pX I=>?_,λj k D hk=>?_⟩,i,rfl,T⟩
   ·dsimp only;by_cases e:i=j
    ·subst e;exact .inr ⟨row,hr,Z,by rw[aV rfl];exact T,by rw[aV rfl];omega⟩
    ·rw[getD_set_ne _ e,getD_set_ne _ e];rcases h.te j D with C | ⟨r,k1,U,k3,k4⟩
     ·exact .inl C
     ·have Y:r≠row:=λhh=>hn j D (by rw[U,hh])
      exact .inr ⟨r,k1,U,by rw[aW Y];exact k3,by rw[aW Y];exact k4⟩
   ·by_cases e:r=row
    ·subst e;exact⟨i,O,Z⟩
    ·rw[aW e]at I;obtain⟨j,D,ej⟩:=h.tf r pX I;exact⟨j,D,(getD_set_ne _ (λhh=>by subst hh;omega)).trans ej⟩
   ·dsimp only;by_cases C:i=j
    ·subst C;by_cases E:i=k
     ·exact λ_ _=>E
     ·rw[Z,getD_set_ne _ E];exact λhh=>absurd hh.symm (hn k hk)
    ·by_cases E:i=k
     ·subst E;rw[Z,getD_set_ne _ C];exact λhh=>absurd hh (hn j D)
     ·rw[getD_set_ne _ C,getD_set_ne _ E];exact h.td j k D hk
def nK.step{R:Nat}{t:cX}{f:Nat->Nat}(h:nK R t f)(I:R<16){row:Nat}(C:row<R){L:Nat}(Z:2<=L)(hL:L<=1000)(D:∀ r,r<R->f r<100000):mO t (row:Int) (L:Int)=(jd t (row:Int),decide ((f row+1) % L=0))/\nK R (jd t (row:Int)) (λr=>if r=row then f r+1 else f r):=by
 obtain⟨E,i,O,T⟩:=h.trk I C;refine⟨?_,E⟩;have U:=h.afY (by omega) λr C=>by have:=D r C;omega
 have Y:=E.afY (by omega) λr C=>by
  have:=D r C;split<;>omega
 unfold mO;rw[U,Y,br.2 ⟨by omega,by omega⟩,br.2 ⟨by omega,by omega⟩,O];show (jd t (row:Int),((jd t (row:Int)).counts.getD i 0).tmod (L:Int)==0)=_;rw[T,r4 (by omega),<-Int.natCast_emod];congr 1;rw[Bool.eq_iff_iff,eG,fC];omega
def jg(b r:Nat)(a:aQ):Bool:=eN ⟨(b:Int),(r:Int),0⟩ a
def C1{b r:Nat}{a:aQ}:jg b r a=true ↔ (⟨(b:Int),(r:Int),0⟩:aQ)=a:=JD
def afZ{b r C D:Nat}{a:aQ}(h:jg b r a=true)(E:jg C D a=true):b=C/\r=D:=by
 have e:=(C1.1 h).trans (C1.1 E).symm;simp only[aQ.mk.injEq]at e;omega
def mS(P:aa aQ)(b r:Nat):Bool:=P.any (jg b r)
def nL(P:aa aQ)(b n r:Nat):Bool:=(P.takeWhile λa=>!jg b r a).any (jg b n)
def wT(c L:Nat):Nat:=if c % L=0/\0<c then L else c % L
def wH(f:Nat->Nat)(L:Nat)(P:aa aQ)(b n r:Nat):Nat:=if mS P b r=true/\nL P b n r=false then wT (f n) L else f n % L
def wS(R:Nat)(f:Nat->Nat)(L:Nat)(P:aa aQ)(b r:Nat):Nat:=(if 0<r then wH f L P b (r-1) r else 0)+(if r+1<R then wH f L P b (r+1) r else 0)
def aua(c:Nat){L:Nat}(h:0<L):c % L<=wT c L/\wT c L<=L:=by
 have:=Nat.mod_lt c h;unfold wT;split<;>omega
def aub(c:Nat){L:Nat}(h:0<L):wT (c+1) L=c % L+1/\((c+1) % L≠0->(c+1) % L=c % L+1):=by
 have e:(c+1) % L=(c % L+1) % L:=(Nat.mod_add_mod c L 1).symm;have:=Nat.mod_lt c h;by_cases hh:c % L+1=L
 ·have C:(c+1) % L=0:=by rw[e,hh,Nat.mod_self]
  unfold wT;rw[aV ⟨C,by omega⟩];exact⟨by omega,λhn=>absurd C hn⟩
 ·have D:(c+1) % L=c % L+1:=by rw[e];exact Nat.mod_eq_of_lt (by omega)
  unfold wT;rw[aW];exact⟨D,λ_=>D⟩
def Wc(f:Nat->Nat){L:Nat}(h:0<L)(P:aa aQ)(b n r:Nat):f n % L<=wH f L P b n r/\wH f L P b n r<=L:=by
 have:=aua (f n) h;have:=Nat.mod_lt (f n) h;unfold wH;split<;>omega
def auc(R:Nat)(f:Nat->Nat){L:Nat}(h:0<L)(P:aa aQ)(b r:Nat):wS R f L P b r<=2*L:=by
 have:=(Wc f h P b (r-1) r).2;have:=(Wc f h P b (r+1) r).2;unfold wS;split<;>split<;>omega
def af0{f f':Nat->Nat}{L:Nat}(D:0<L){P P':aa aQ}{b n r:Nat}(C:f' n=f n)(E:mS P b r=true->mS P' b r=true)(I:mS P b r=true->nL P' b n r=true->nL P b n r=true):wH f L P b n r<=wH f' L P' b n r:=by
 by_cases c:mS P b r=true/\nL P b n r=false
 ·have O:mS P' b r=true/\nL P' b n r=false:=⟨E c.1,Bool.eq_false_iff.2 λh=>by rw[I c.1 h]at c;exact absurd c.2 (by decide)⟩
  unfold wH;rw[aV c,aV O,C];exact dB _
 ·have:=(Wc f' D P' b n r).1;unfold wH at this ⊢;rw[aW c,<-C];exact this
def af1{p:aQ->Bool}{b r:Nat}(hp:∀ a,jg b r a=true->p a=true){P:aa aQ}(new:aa aQ)(h:mS P b r=true):mS (P.filter p++new) b r=true:=by
 unfold mS at h ⊢;obtain⟨a,D,C⟩:=List.any_eq_true.1 h;exact List.any_eq_true.2 ⟨a,List.mem_append_left _ (List.mem_filter.2 ⟨D,hp a C⟩),C⟩
def O2{p:aQ->Bool}{b n r:Nat}(hp:∀ a,jg b r a=true->p a=true)(new:aa aQ):∀ (P:aa aQ),mS P b r=true->nL (P.filter p++new) b n r=true->nL P b n r=true
 |[],h,_=>by cases h
 | a :: l,h,hb=>by
  unfold nL at hb ⊢;by_cases C:jg b r a=true
  ·rw[List.filter_cons_of_pos (hp a C),List.cons_append,List.takeWhile_cons,C]at hb;cases hb
  ·have C:=Bool.eq_false_iff.2 C;have hl:mS l b r=true:=by
    unfold mS at h ⊢;rw[List.any_cons,C,Bool.false_or]at h;exact h
   rw[List.takeWhile_cons,C];show ((a::l.takeWhile λa=>!jg b r a).any (jg b n))=true;rw[List.any_cons];by_cases pa:p a=true
   ·rw[List.filter_cons_of_pos pa,List.cons_append,List.takeWhile_cons,C]at hb;have hb:((a :: (l.filter p++new).takeWhile λa=>!jg b r a).any (jg b n))=true:=hb;rw[List.any_cons]at hb;cases hn:jg b n a with
    |true=>rfl
    | false=>
     rw[hn,Bool.false_or]at hb;exact O2 hp new l hl hb
   ·rw[List.filter_cons_of_neg pa]at hb;have:=O2 hp new l hl hb;unfold nL at this;rw[this,Bool.or_true]
def af2{b row r:Nat}(I:row≠r):∀ (P:aa aQ) (k:Nat) (C:k<P.length),jg b row P[k]=true->((P.take k).any λa=>a.aq==(b:Int))=false->nL P b row r=true
 | a :: l,0,C,h,_=>by
  unfold nL;have D:jg b r a=false:=Bool.eq_false_iff.2 λE=>I (afZ h E).2
  have h:jg b row a=true:=h;rw[List.takeWhile_cons,D];show ((a::l.takeWhile λa=>!jg b r a).any (jg b row))=true;rw[List.any_cons,h];rfl
 | a :: l,k+1,C,h,hn=>by
  have hn:((a :: l.take k).any λa=>a.aq==(b:Int))=false:=hn;rw[List.any_cons,mU]at hn;have O:=af2 I l k (by simpa using C) h hn.2;unfold nL at O ⊢;have D:jg b r a=false:=Bool.eq_false_iff.2 λE=>by
   rw[<-C1.1 E]at hn;dsimp only at hn;rw[iS]at hn;exact absurd hn.1 (by decide)
  rw[List.takeWhile_cons,D];show ((a::l.takeWhile λa=>!jg b r a).any (jg b row))=true;rw[List.any_cons,O,Bool.or_true]
def We(b:Int):∀ (ns:aa Int) (P:aa aQ),∃ new,ns.foldl (je b) P=P++new/\(∀ a∈new,∃ n∈ns,a=⟨b,n,0⟩)/\∀ n∈ns,(ns.foldl (je b) P).any (eN ⟨b,n,0⟩)=true
 |[],P=>⟨[],(List.append_nil P).symm,λa h=>(by cases h),λn h=>(by cases h)⟩
 | n :: ns,P=>by
  obtain⟨new,C,D,E⟩:=We b ns (je b P n);have key:∃ m,je b P n=P++m/\(∀ a∈m,a=⟨b,n,0⟩)/\(je b P n).any (eN ⟨b,n,0⟩)=true:=by
   unfold je;cases h:P.any (eN ⟨b,n,0⟩)with
   |true=>exact⟨[],(List.append_nil P).symm,λa h=>(by cases h),h⟩
   |false=>exact⟨[⟨b,n,0⟩],rfl,λa h=>gf.1 h,by rw[ax,List.any_append,h];simp[eN]⟩
  obtain⟨m,I,O,T⟩:=key
  refine⟨m++new,?_,λa ha=>?_,λx hx=>?_⟩
  ·rw[List.foldl_cons,C,I,List.append_assoc]
  ·rcases gJ.1 ha with ha | ha
   ·exact⟨n,.head _,O a ha⟩
   ·obtain⟨x,hx,e⟩:=D a ha;exact⟨x,.tail _ hx,e⟩
  ·rw[List.foldl_cons];rcases gv.1 hx with rfl | hx
   ·rw[C,List.any_append,T,Bool.true_or]
   ·exact E x hx
def af3(k m:Nat)(h:aa Int):(oc k h).getD m 0<=if k=m then h.getD m 0+1 else h.getD m 0:=by
 unfold oc;by_cases e:k=m
 ·subst e;rw[aV rfl];by_cases C:k<h.length
  ·rw[afO _ _ _ C,aV rfl];unfold nD;split<;>omega
  ·rw[cS,cS,qO (by rw[jh];omega),qO (by omega)];decide
 ·rw[aW e,getD_set_ne _ e];exact fN _
def O3{b B r s R:Nat}(h:b≠B)(C:r<R)(D:s<R):b*R+r≠B*R+s:=λe=>by
 rcases Nat.lt_or_gt_of_ne h with h|h
 ·have:=jX R h;rw[ji]at this;omega
 ·have:=jX R h;rw[ji]at this;omega
def Wf{R B row b r:Nat}(Y:row<R)(T:r<R)(h:aa Int):(o9 (R:Int) (row:Int) (B*R+row) h).getD (b*R+r) 0<=if b=B/\r=row then 0 else if b=B/\(r+1=row\/r=row+1)then h.getD (b*R+r) 0+1 else h.getD (b*R+r) 0:=by
 have U:=JS h (B*R+row) (b*R+r);have E:(vZ (row:Int) (B*R+row) h).getD (b*R+r) 0<=if b=B/\r=row then 0 else if b=B/\r+1=row then h.getD (b*R+r) 0+1 else h.getD (b*R+r) 0:=by
  unfold vZ;by_cases c:0<row
  ·rw[aY (show 0<(row:Int) by omega),au];have C:=af3 (B*R+row-1) (b*R+r) (h.set (B*R+row) 0);by_cases hb:b=B
   ·subst hb;by_cases D:r=row
    ·subst D;rw[aV ⟨rfl,rfl⟩];rw[aW,U,aV rfl]at C;exact C
    ·rw[aW (λhh=>D hh.2)];rw[U,aW (show ¬ b*R+row=b*R+r by omega)]at C;by_cases I:r+1=row
     ·rw[aV ⟨rfl,I⟩];rw[aV]at C;exact C
     ·rw[aW (λhh=>I hh.2)];rw[aW]at C;exact C
   ·have O:=O3 hb T Y;have n2:=O3 (s:=row-1) hb T (by omega);rw[aW (λhh=>hb hh.1),aW (λhh=>hb hh.1)];rw[aW,U,aW (λhh=>O hh.symm)]at C;exact C
  ·rw[bh (show ¬ 0<(row:Int) by omega),ax,U];by_cases hb:b=B
   ·subst hb;by_cases D:r=row
    ·subst D;rw[aV rfl,aV ⟨rfl,rfl⟩];exact fN _
    ·rw[aW,aW (λhh=>D hh.2),aW];exact fN _
   ·have O:=O3 hb T Y;rw[aW (λhh=>O hh.symm),aW (λhh=>hb hh.1),aW (λhh=>hb hh.1)];exact fN _
 unfold o9;by_cases c:row+1<R
 ·rw[aY (show (row:Int)<(R:Int)-1 by omega),au];have C:=af3 (B*R+row+1) (b*R+r) (vZ (row:Int) (B*R+row) h);by_cases hb:b=B
  ·subst hb;by_cases D:r=row
   ·subst D;rw[aV ⟨rfl,rfl⟩]at E ⊢;rw[aW]at C;omega
   ·rw[aW (λhh=>D hh.2)]at E ⊢;by_cases I:r+1=row
    ·rw[aV ⟨rfl,I⟩]at E;rw[aV ⟨rfl,.inl I⟩];rw[aW]at C;omega
    ·rw[aW (λhh=>I hh.2)]at E;by_cases Z:r=row+1
     ·rw[aV ⟨rfl,.inr Z⟩];rw[aV]at C;omega
     ·rw[aW];rw[aW]at C;omega
  ·have O:=O3 (s:=row+1) hb T c;rw[aW (λhh=>hb hh.1),aW (λhh=>hb hh.1)]at E ⊢;rw[aW (λhh=>O (by omega))]at C;omega
 ·rw[bh (show ¬ (row:Int)<(R:Int)-1 by omega),ax];refine Int.le_trans E ?_;split
  ·exact fN _
  ·split
   next hh=>rw[aV ⟨hh.1,.inl hh.2⟩];exact fN _
   ·split<;>omega
def Wg{g:aH}{R:Nat}(hg:g.rows=(R:Int))(l:lI)(a:dw)(B:Nat):∀ n,n<=R->∀ b r,r<R->(b≠B->(ic g l a (B:Int) n).bg.getD (b*R+r) 0<=a.bg.getD (b*R+r) 0)/\(b=B->r<n->(ic g l a (B:Int) n).bg.getD (b*R+r) 0<=if r+1=n then 0 else 1)
 |0,_,b,r,_=>⟨λ_=>fN _,λ_ h=>absurd h (Nat.not_lt_zero _)⟩
 | n+1,hn,b,r,I=>by
  obtain⟨T,D⟩:=Wg hg l a B n (by omega) b r I;unfold ic;rw[pq];show (b≠B->(o9 g.rows (n:Int) ((B:Int)*g.rows+(n:Int)).toNat (ic g l a (B:Int) n).bg).getD (b*R+r) 0<=a.bg.getD (b*R+r) 0)/\(b=B->r<n+1->(o9 g.rows (n:Int) ((B:Int)*g.rows+(n:Int)).toNat (ic g l a (B:Int) n).bg).getD (b*R+r) 0<=if r+1=n+1 then 0 else 1);have U:((B:Int)*g.rows+(n:Int)).toNat=B*R+n:=by
   rw[hg,<-Int.natCast_mul];omega
  rw[U,hg];have C:=Wf (R:=R) (B:=B) (row:=n) (b:=b) (r:=r) (by omega) I (ic g l a (B:Int) n).bg
  refine⟨λhb=>?_,λhb Y=>?_⟩
  ·rw[aW (λhh=>hb hh.1),aW (λhh=>hb hh.1)]at C;exact Int.le_trans C (T hb)
  ·by_cases O:r=n
   ·rw[aV ⟨hb,O⟩]at C;rw[aV];exact C
   ·have D:=D hb (by omega);rw[aW (λhh=>O hh.2)]at C;rw[aW];by_cases E:r+1=n
    ·rw[aV E]at D;rw[aV ⟨hb,.inl E⟩]at C;omega
    ·rw[aW E]at D;rw[aW]at C;omega
def aud(g:aH)(l:lI)(a:dw)(n:Nat):yL g l a (n+1)=ic g l (yL g l a n) (n:Int) g.rows.toNat:=pq _ _ _
def af4{g:aH}{R:Nat}(hg:g.rows=(R:Int))(l:lI)(a:dw):∀ n b r,b<n->r<R->(yL g l a n).bg.getD (b*R+r) 0<=1
 | n+1,b,r,hb,C=>by
  rw[aud,show g.rows.toNat=R by omega];obtain⟨D,E⟩:=Wg hg l (yL g l a n) n R (dB _) b r C;by_cases e:b=n
  ·have:=E e C;refine Int.le_trans this ?_;split<;>omega
  ·exact Int.le_trans (D e) (af4 hg l a n b r (by omega) C)
def Hb(R:Nat)(cL now:Int)(t:cX)(C:Int)(P:aa aQ)(bg:aa Int)(b:Nat):Prop:=∃(f:Nat->Nat) (L:Nat),nK R t f/\(∀r,r<R->(f r:Int)<=now)/\C=(L:Int)/\3<=L/\L<=1000/\2*(L:Int)+4<=cL/\∀r,r<R->bg.getD (b*R+r) 0<=1+((wS R f L P b r:Nat):Int)
def Ht(n:Int)(c:av):Prop:=∀b:Nat,(b:Int)<aI c.config.ak->Hb c.config.ak.rows.toNat c.config.dS.bg n (c.bB.getD b zT) (c.guard.getD b 0) c.pending c.array.bg b
def af5{R:Nat}{f f':Nat->Nat}{L:Nat}{P P':aa aQ}{b r:Nat}(h:∀ n,n+1=r\/n=r+1->wH f L P b n r<=wH f' L P' b n r):wS R f L P b r<=wS R f' L P' b r:=by
 unfold wS;refine Nat.add_le_add ?_ ?_
 ·split
  ·exact h _ (by omega)
  ·exact dB _
 ·split
  ·exact h _ (by omega)
  ·exact dB _
def Hb.gU{R:Nat}{cL n n':Int}{t:cX}{D:Int}{P:aa aQ}{bg Wh:aa Int}{b:Nat}(h:Hb R cL n t D P bg b)(hn:n<=n'){p:aQ->Bool}(new:aa aQ)(hp:∀ a:aQ,a.aq=(b:Int)->p a=true)(hh:∀ r,r<R->Wh.getD (b*R+r) 0<=bg.getD (b*R+r) 0):Hb R cL n' t D (P.filter p++new) Wh b:=by
 obtain⟨f,L,I,O,T,U,Y,Z,h7⟩:=h
 refine⟨f,L,I,λr C=>Int.le_trans (O r C) hn,T,U,Y,Z,λr C=>?_⟩
 have E:∀a,jg b r a=true->p a=true:=λa ha=>hp a (by rw[<-C1.1 ha])
 have:=af5 (R:=R) (f:=f) (f':=f) (L:=L) (P:=P) (P':=P.filter p++new) (b:=b) (r:=r) λn _=>af0 (by omega) rfl (af1 E new) (O2 E new P)
 have:=hh r C;have:=h7 r C;omega
def Hb.same{R:Nat}{cL n n':Int}{t:cX}{C:Int}{P:aa aQ}{bg:aa Int}{b:Nat}(h:Hb R cL n t C P bg b)(hn:n<=n'):Hb R cL n' t C P bg b:=by
 have:=h.gU (Wh:=bg) hn (p:=λ_=>true) [] (λ_ _=>rfl) λr _=>fN _
 rwa [List.append_nil,List.filter_eq_self.2 λ_ _=>rfl]at this
def Hb.new{R:Nat}{cL n L:Int}{P:aa aQ}{bg:aa Int}{b:Nat}(hn:0<=n)(D:3<=L/\L<=1000)(hl:2*L+4<=cL)(hh:∀ r,r<R->bg.getD (b*R+r) 0<=1):Hb R cL n (nH 16) L P bg b:=by
 refine⟨λ_=>0,L.toNat,nK.new R,λr _=>hn,by omega,by omega,by omega,by omega,λr C=>?_⟩
 have:=hh r C;omega
def Ht.pr{c j:av}{n:Int}(h:Ht n c)(p:Pr c j):Ht n j:=by
 unfold Ht at h ⊢;rw[p.pC,p.pT,p.pG,p.pP,p.pH];exact h
def aue{f f':Nat->Nat}{L:Nat}(C:0<L){P P':aa aQ}{b row r:Nat}(D:f' row=f row+1)(E:mS P b r=true->nL P b row r=true)(I:(f row+1) % L=0->mS P' b r=true)(O:nL P' b row r=false):wH f L P b row r+1<=wH f' L P' b row r:=by
 obtain⟨w1,T⟩:=aub (f row) C;have U:wH f L P b row r=f row % L:=by
  unfold wH;exact aW λhh=>by
   rw[E hh.1]at hh;exact absurd hh.2 (by decide)
 rw[U];unfold wH;rw[D];cases hm:mS P' b r with
 | true=>
  rw[aV ⟨rfl,O⟩,w1];exact dB _
 | false=>
  rw[aW (λhh=>absurd hh.1 (by decide)),T (λY=>by rw[I Y]at hm;cases hm)];exact dB _
def Hb.VN{R:Nat}(hR:R<16){cL n:Int}{t:cX}{E:Int}{P:aa aQ}{bg:aa Int}{B row:Nat}(U:row<R)(h:Hb R cL n t E P bg B)(hn:n+1<100000)(O4:∀ r,r≠row->mS P B r=true->nL P B row r=true):
  Hb R cL (n+1) (mO t (row:Int) E).1 E (bif (mO t (row:Int) E).2 then (ia (R:Int) (row:Int)).foldl (je (B:Int)) (P.filter λa=>!eN ⟨(B:Int),(row:Int),0⟩ a)else P.filter λa=>!eN ⟨(B:Int),(row:Int),0⟩ a) (o9 (R:Int) (row:Int) (B*R+row) bg) B:=by
 obtain⟨f,L,h1,Y,rfl,h4,Z,h6,h7⟩:=h;obtain⟨k1,k2⟩:=h1.step hR U (L:=L) (by omega) Z λr C=>by have:=Y r C;omega
 have hL:0<L:=by omega
 -- the pending rows behind it
 obtain⟨new,e1,e2,e3⟩:∃ new,(bif (mO t (row:Int) (L:Int)).2 then (ia (R:Int) (row:Int)).foldl (je (B:Int)) (P.filter λa=>!eN ⟨(B:Int),(row:Int),0⟩ a)else P.filter λa=>!eN ⟨(B:Int),(row:Int),0⟩ a)=(P.filter λa=>!eN ⟨(B:Int),(row:Int),0⟩ a)++new/\(∀ a∈new,∃ m∈ia (R:Int) (row:Int),a=⟨(B:Int),m,0⟩)/\((f row+1) % L=0->∀ m∈ia (R:Int) (row:Int),((P.filter λa=>!eN ⟨(B:Int),(row:Int),0⟩ a)++new).any (eN ⟨(B:Int),m,0⟩)=true):=by
  rw[k1];by_cases D:(f row+1) % L=0
  ·rw[aY D,au];obtain⟨new,q1,q2,q3⟩:=We (B:Int) (ia (R:Int) (row:Int)) (P.filter λa=>!eN ⟨(B:Int),(row:Int),0⟩ a);exact⟨new,q1,q2,λ_ m hm=>by rw[<-q1];exact q3 m hm⟩
  ·rw[bh D,ax];exact⟨[],(List.append_nil _).symm,λa ha=>(by cases ha),λhh=>absurd hh D⟩
 rw[e1,k1];have nb:∀ m∈ia (R:Int) (row:Int),m≠(row:Int):=λm hm=>by
  unfold ia at hm;rcases gJ.1 hm with hm|hm
  ·cases hd:decide (0<(row:Int))with
   |false=>rw[hd]at hm;cases hm
   |true=>rw[hd]at hm;rw[gf.1 hm];omega
  ·cases hd:decide ((row:Int)<(R:Int)-1)with
   |false=>rw[hd]at hm;cases hm
   |true=>rw[hd]at hm;rw[gf.1 hm];omega
 refine⟨_,L,k2,λr C=>?_,rfl,h4,Z,h6,λr C=>?_⟩
 ·have:=Y r C;split<;>omega
 ·have I:=Wf (R:=R) (B:=B) (row:=row) (b:=B) (r:=r) U C bg;have h8:=h7 r C;by_cases er:r=row
  ·rw[aV ⟨rfl,er⟩]at I;omega
  ·rw[aW (λhh=>er hh.2)]at I;have hp:∀ a,jg B r a=true->(!eN ⟨(B:Int),(row:Int),0⟩ a)=true:=λa ha=>by
    rw[fB];exact Bool.eq_false_iff.2 λO=>er (afZ ha (O:jg B row a=true)).2
   have T:∀m,m≠row->wH f L P B m r<=wH (λr=>if r=row then f r+1 else f r) L ((P.filter λa=>!eN ⟨(B:Int),(row:Int),0⟩ a)++new) B m r:=λm hm=>af0 hL (aW hm) (af1 hp new) (O2 hp new P)
   by_cases en:r+1=row\/r=row+1
   ·rw[aV ⟨rfl,en⟩]at I;have wY:(r:Int)∈ia (R:Int) (row:Int):=by
     unfold ia;rcases en with en|en
     ·rw[aY (show 0<(row:Int) by omega)];exact List.mem_append_left _ (gf.2 (by omega))
     ·rw[aY (show (row:Int)<(R:Int)-1 by omega)];exact List.mem_append_right _ (gf.2 (by omega))
    have VZ:nL ((P.filter λa=>!eN ⟨(B:Int),(row:Int),0⟩ a)++new) B row r=false:=by
     refine kT.2 λa ha O=>?_
     have ha:=(List.takeWhile_sublist _).subset ha;rcases gJ.1 ha with ha|ha
     ·have:=(List.mem_filter.1 ha).2;rw[show eN ⟨(B:Int),(row:Int),0⟩ a=true from O]at this;cases this
     ·obtain⟨m,hm,rfl⟩:=e2 a ha;have:=C1.1 O;simp only[aQ.mk.injEq]at this;exact nb m hm this.2.1.symm
    have hw:=aue (f:=f) (f':=λr=>if r=row then f r+1 else f r) hL (P:=P) (P':=(P.filter λa=>!eN ⟨(B:Int),(row:Int),0⟩ a)++new) (b:=B) (r:=r) (aV rfl) (O4 r er) (λD=>e3 D _ wY) VZ;have avc:wS R f L P B r+1<=wS R (λr=>if r=row then f r+1 else f r) L ((P.filter λa=>!eN ⟨(B:Int),(row:Int),0⟩ a)++new) B r:=by
     unfold wS;rcases en with en|en
     ·rw[aV (show r+1<R by omega),aV (show r+1<R by omega),en];have:=T (r-1) (by omega);split<;>omega
     ·rw[aV (show 0<r by omega),aV (show 0<r by omega),show r-1=row by omega];have:=T (r+1) (by omega);split<;>omega
    omega
   ·rw[aW (λhh=>en hh.2)]at I;have:=af5 (R:=R) (f:=f) (f':=λr=>if r=row then f r+1 else f r) (L:=L) (P:=P) (P':=(P.filter λa=>!eN ⟨(B:Int),(row:Int),0⟩ a)++new) (b:=B) (r:=r) λm hm=>T m (by omega)
    omega
def auf{c:fo}{p:cK}(hl:p.weights.length<1073741823)(h:oh c p=true):2*p.di+4<=c.dS.bg:=by
 have hb:=OG hl h;obtain⟨C,hp⟩:=CP hl h;have e:=Jr c p hl;rw[h]at e;have D:z0 p.di=some (2*p.di+2):=by
  unfold z0;rw[dh,ay,br.2 hb,bL,ax,aZ (n:=2*p.di),aZ]
 unfold sY at e;simp only[NX,Jd _ hl,D,ay,C,hp,au]at e;rw[aZ (n:=2*p.di+2+2)]at e;by_cases hh:2*p.di+2+2<=c.dS.bg
 ·omega
 ·rw[bh hh]at e;exact absurd e (by simp)
def Wi{T:Type}(x d:T)(l:aa T):∀ n k:Nat,k<n->k<l.length->((List.range n).foldl (λd b=>d.set b x) l).getD k d=x
 | n+1,k,h,hl=>by
  have hlen:=wo x l n;rw[pq];by_cases e:n=k
  ·subst e;exact oz _ (by omega)
  ·rw[getD_set_ne _ e];exact Wi x d l n k (by omega) hl
def aug{c:av}(h:Pq c)(hu:c.pending.Pairwise (λx y=>x≠y))(Z:∀ a∈c.pending,a.bW=0)(C:(fU c).1.kind=1){B row:Nat}(hB:(fU c).1.aq=(B:Int))(D:(fU c).1.row=(row:Int)):∀ r,r≠row->mS c.pending B r=true->nL c.pending B row r=true:=λr hr Y=>by
 have hw:=CX c;rcases Fk h with ⟨_,⟨e,_⟩|e⟩|⟨_,⟨b,hb,e⟩|⟨_,⟨k,E,O,e⟩|⟨j,hj,I,e⟩|e|e⟩⟩
 ·rw[e]at C;exact absurd C (by decide)
 ·rw[e]at C;dsimp only at C;omega
 ·rw[e]at C;unfold fz at C;rcases yK c b ⟨5,b,0,0⟩with e|⟨e,_⟩<;>rw[e]at C<;>dsimp only at C<;>omega
 ·rw[e]at C hB D;unfold jf at C hB D;rcases yK c (iw c k).aq ⟨1,(iw c k).aq,(iw c k).row,0⟩with T | ⟨T,_⟩
  ·rw[T]at C;dsimp only at C;omega
  ·rw[T]at hB D;have hB:(iw c k).aq=(B:Int):=hB;have D:(iw c k).row=(row:Int):=D;unfold qM at O;rw[aJ,fB,fB,hB]at O
   refine af2 (λe=>hr e.symm) c.pending k E ?_ O.2
   rw[C1,OJ E];have rq:(iw c k).bW=0:=by rw[<-OJ E];exact Z _ (cR E)
   rw[<-hB,<-D,<-rq]
 ·have hB2:(dy c j).aq=(B:Int):=by
   rw[e]at hB;unfold gI at hB;rw[(V2 c.aF (dy c j) (ov c.queue j)).1]at hB;exact hB
  rw[e]at C;unfold gA at I;rw[C]at I;simp only[aJ,fB,iS,Bool.true_or,cJ]at I;have U:=I.2.2.2.1;unfold JL at U;rw[hB2]at U;unfold mS at Y;obtain⟨a,ha,h1⟩:=List.any_eq_true.1 Y;have:=kT.1 U a ha;rw[<-C1.1 h1]at this;exact absurd (iS _) this
 ·rcases OR h e with ⟨e,_⟩ | e | ⟨e,_⟩
  ·rw[e]at C;dsimp only at C;omega
  ·omega
  ·rw[e]at C;dsimp only at C;omega
 ·rw[e]at C;exact absurd C (by decide)
def Ht.fn{j y:av}(h:Ht (j.now-1) j)(T:cZ j)(hk:cD j=true)(AV:j.config.ij=16)(hR:j.config.ak.rows<16)(hn:1<=j.now/\j.now<50000)(hf:Fn j y):Ht j.now y:=by
 have hq:=Pq.of T hk;have k:=Ck.of hk;have p:=gu.of k.pa;have b1:=ey j.config.ak;have hw:j.box.bX.weights.length<1073741823:=by
  have:=T.1.1;unfold Jp at this;omega
 have zK:=auf hw k.f1;have KV:=OG hw k.f1;rcases hf with ⟨k0,rfl⟩|⟨D,rfl⟩
 ·exact λb hb=>(h b hb).same (by omega)
 ·have O4:=λB row=>aug hq p.u (λa U=>(p.pd a U).2) (B:=B) (row:=row)
  generalize hX:(fU j).1=x at D O4 ⊢;generalize (fU j).2=i at D ⊢;obtain⟨_,U,_,_⟩:=AQ T hq D;obtain⟨hg,_,hx,wE⟩:=v5 U;simp only[jE,aJ]at D;have hc:=D.1;have gb:=fW hg;obtain⟨R,Y⟩:=fD (show 0<=j.config.ak.rows by omega);have Z:j.config.ak.rows.toNat=R:=by omega
  have AO:=p.tl;have VO:=p.gl;by_cases I:x.kind=1
  ·obtain⟨KD,B1⟩:=wE (by omega);obtain⟨r0,r1⟩:=JK hc I;have gZ:=hq.p.bl;obtain⟨B,hB⟩:=fD KD;obtain⟨row,O5⟩:=fD r0;have hh:=O4 B row I hB O5;have ei:((B:Int)*(R:Int)+(row:Int)).toNat=B*R+row:=by rw[<-Int.natCast_mul];omega
   rw[OT j i I];intro b hb;have hb:(b:Int)<aI j.config.ak:=hb;have hold:=h b hb;show Hb j.config.ak.rows.toNat j.config.dS.bg j.now ((j.bB.set x.aq.toNat (mO (j.bB.getD x.aq.toNat zT) x.row (j.guard.getD x.aq.toNat 0)).1).getD b zT) (j.guard.getD b 0) (bif (mO (j.bB.getD x.aq.toNat zT) x.row (j.guard.getD x.aq.toNat 0)).2 then (ia j.config.ak.rows x.row).foldl (je x.aq) (j.pending.filter λa=>!eN ⟨x.aq,x.row,0⟩ a)else j.pending.filter λa=>!eN ⟨x.aq,x.row,0⟩ a) (o9 j.config.ak.rows x.row (x.aq*j.config.ak.rows+x.row).toNat j.array.bg) b;rw[Z]at hold ⊢;rw[hB,O5,Y,ei,bE];by_cases e:B=b
   ·subst e;rw[oz _ (by omega)];have:=Hb.VN (R:=R) (by omega) (row:=row) (by omega) hold (by omega) hh;rw[show j.now-1+1=j.now by omega]at this;exact this
   ·rw[getD_set_ne _ e];have E:∀ r,r<R->(o9 (R:Int) (row:Int) (B*R+row) j.array.bg).getD (b*R+r) 0<=j.array.bg.getD (b*R+r) 0:=λr C=>by
     have:=Wf (R:=R) (B:=B) (row:=row) (b:=b) (r:=r) (by omega) C j.array.bg;rw[aW (λhh=>e hh.1.symm),aW (λhh=>e hh.1.symm)]at this;exact this
    have hkp:∀ a:aQ,a.aq=(b:Int)->(!eN ⟨(B:Int),(row:Int),0⟩ a)=true:=λa O=>by
     rw[fB]
     refine Bool.eq_false_iff.2 λh9=>e ?_
     have:=JD.1 h9;rw[<-this]at O;dsimp only at O;omega
    cases (mO (j.bB.getD B zT) (row:Int) (j.guard.getD B 0)).2 with
    | true=>
     rw[au];obtain⟨new,q1,_,_⟩:=We (B:Int) (ia (R:Int) (row:Int)) (j.pending.filter λa=>!eN ⟨(B:Int),(row:Int),0⟩ a);rw[q1];exact hold.gU (by omega) new hkp E
    | false=>
     rw[ax];have:=hold.gU (n':=j.now) (by omega) [] hkp E
     rwa [List.append_nil]at this
  ·by_cases k5:x.kind=5
   ·obtain⟨KD,B1⟩:=wE (by omega);have gZ:=hq.p.bl;obtain⟨B,hB⟩:=fD KD;rw[OU j i k5];intro b hb;have hb:(b:Int)<aI j.config.ak:=hb;have hold:=h b hb;show Hb j.config.ak.rows.toNat j.config.dS.bg j.now ((j.bB.set x.aq.toNat (nH j.config.ij)).getD b zT) ((j.guard.set x.aq.toNat j.box.bX.di).getD b 0) (j.pending.filter λa=>!(a.aq==x.aq)) (ic j.config.ak j.config.dS j.array x.aq j.config.ak.rows.toNat).bg b;rw[Z]at hold ⊢;rw[hB,AV,bE];have E:=λr C=>Wg Y j.config.dS j.array B R (dB _) b r C
    by_cases e:B=b
    ·subst e;rw[oz _ (by omega),oz _ (by omega)]
     refine Hb.new (by omega) KV zK λr C=>?_
     refine Int.le_trans ((E r C).2 rfl C) ?_;split<;>omega
    ·rw[getD_set_ne _ e,getD_set_ne _ e];have:=hold.gU (n':=j.now) (by omega) (p:=λa=>!(a.aq==(B:Int))) [] (λa O=>by
      rw[O,jQ (show ¬ (b:Int)=(B:Int) by omega)];rfl) λr C=>(E r C).1 (λhh=>e hh.symm)
     rwa [List.append_nil]at this
   ·by_cases k9:x.kind=9
    ·rw[JT j i k9];intro b hb;have hb:(b:Int)<aI j.config.ak:=hb;show Hb j.config.ak.rows.toNat j.config.dS.bg j.now (((List.range j.bB.length).foldl (λd b=>d.set b (nH j.config.ij)) j.bB).getD b zT) (((List.range j.bB.length).foldl (λd b=>d.set b j.box.bX.di) j.guard).getD b 0) [] (yL j.config.ak j.config.dS j.array j.bB.length).bg b;rw[Z,Wi _ _ _ _ _ (by omega) (by omega),Wi _ _ _ _ _ (by omega) (by omega),AV];exact Hb.new (by omega) KV zK λr C=>af4 Y j.config.dS j.array j.bB.length b r (by omega) C
    ·obtain⟨_,e2,_,e4,e5,e6⟩:=V3 (c:=j) (i:=i) hx I k5 k9;have e7:=(JV (c:=j) (x:=x) (i:=i) hx).2.2.2;unfold Ht;rw[e2,e4,e5,e6,e7];exact λb hb=>(h b hb).same (by omega)
structure Iv (u:Nat) (c:av):Prop where
 iT:Tq c u
 iA:tL c
 iD:∃t,Dx c.now t c
 iH:Ht c.now c
 iE:(c.trace.length:Int)<=c.now
def af6{c:fo}(h:jB c):uZ c.bQ:=by
 obtain⟨r,w,C,D,E,I,O⟩:=h.2.1;exact⟨r,w,C,D,E,I,O⟩
def Fn.nx{j y:av}(C:cZ j)(E:cD j=true)(h:Fn j y):Nx j y:=by
 rcases h with ⟨_,rfl⟩|⟨D,rfl⟩
 ·exact Nx.refl _
 ·obtain⟨_,I,O,_⟩:=AQ C (Pq.of C E) D;exact atg D (v5 I).2.2.1 λq=>(O q).1.i
def Okj(j:av):Prop:=tL j/\(∀b:Nat,j.az.aC.getD b 0<=4)/\Ht (j.now-1) j
def Wj{c:av}{u:Nat}(h:Iv u c)(hz:cZ c)(O:cD c=true)(I:jB c.config)(hn:c.now<1900)(hu:u<400):∃ y,vU c=some y/\cZ y/\cD y=true/\Iv u y/\y.config=c.config/\y.now=c.now+1/\∃ j,cZ j/\cD j=true/\Pr c j/\Fn j y/\Okj j:=by
 have k:=Ck.of O;have hnw:=br.1 k.nw;have xj:=h.iT.2;have hE:=h.iE;obtain⟨j,y,e,z1,k1,D,C,p,E⟩:=at0 hz O (by omega) (by omega) (by omega);have pN:=p.pN;have JP:200<=c.config.interval/\c.config.interval<=259:=I.2.2.2.2.1;have AV:c.config.ij=16:=I.2.2.2.2.2.1;have hrw:c.config.ak.rows<=6:=I.1.2.2.1.2;have nx:=E.nx D C;have hcy:y.config=c.config:=nx.2.1.trans p.pC;have Fm:y.now=c.now+1:=nx.1.trans pN;have Z:=k.rf;simp only[fY,aJ,br]at Z;have hqj:=Pq.of D C;obtain⟨t,hD⟩:=h.iD;have hTj:Tq j u:=by
  refine⟨?_,by rw[p.pQ,p.pY];exact xj⟩;have:=h.iT.1;unfold AR at this ⊢;rw[p.pC,p.pE,p.pK,p.pR];exact this
 have T:tL j:=h.iA.pr p ⟨by omega,by omega⟩ Z.2.2 (gu.of k.pa).dl hD.d4;obtain⟨t',U⟩:=hD.pr p O ⟨by omega,by omega⟩;rw[show c.now=j.now-1 by omega]at U;have hHj:Ht (j.now-1) j:=by
  have:=h.iH.pr p
  rwa [show c.now=j.now-1 by omega]at this
 have hAy:tL y:=by
  rcases E with ⟨_,rfl⟩|⟨hm,rfl⟩
  ·exact T
  ·simp only[jE,aJ]at hm;exact T.VQ hqj hm.1 (λh5=>(afN hqj h5).1) (by rw[p.pC];omega) (gu.of (Ck.of C).pa).tl
 refine⟨y,e,z1,k1,⟨hTj.nx C nx,hAy,⟨t',?_⟩,?_,?_⟩,hcy,Fm,j,D,C,p,E,T,U.d4,hHj⟩
 ·have:=U.fn D C (by rw[p.pC];exact af6 I) E
  rwa [show j.now=y.now by omega]at this
 ·have:=hHj.fn D C (by rw[p.pC];exact AV) (by rw[p.pC];omega) ⟨by omega,by omega⟩ E
  rwa [show j.now=y.now by omega]at this
 ·rcases nx.2.2.2.2.1 with ⟨Y,_⟩ | ⟨x,Y,_⟩
  ·rw[Y,p.pE];omega
  ·rw[Y,p.pE,nM,List.length_singleton];omega
def auh{c:av}{u:Nat}(h:Iv u c)(C:cZ c)(D:cD c=true)(E:jB c.config)(hn:c.now<1900)(I:u<400):∃ y,vU c=some y/\cZ y/\cD y=true/\Iv u y/\y.config=c.config/\y.now=c.now+1:=by
 obtain⟨y,O,T,U,Y,Z,h6,_⟩:=Wj h C D E hn I;exact⟨y,O,T,U,Y,Z,h6⟩
def aui{J:av->Prop}{c:av}{u:Nat}(h:Iv u c)(hJ:J c)(U:cZ c)(Y:cD c=true)(hc:jB c.config)(hu:u<400){n:Int}(h0:0<=n)(hn:c.now+n<=1900)(hs:∀ x y,cZ x->cD x=true->Iv u x->x.config=c.config->c.now<=x.now->x.now<c.now+n->J x->vU x=some y->J y):∃ y,NH c n=some y/\cZ y/\cD y=true/\Iv u y/\y.config=c.config/\y.now=c.now+n/\J y:=by
 have hnw:=br.1 (Ck.of Y).nw;obtain⟨m,rfl⟩:=fD h0;have h5:aT (m:Int) 0 5000=true:=br.2 ⟨by omega,by omega⟩;unfold NH bR;rw[Of c U,ay];generalize (⟨⟨⟨(0:Int),(0:Int),(0:Int),(0:Int)⟩,⟨(0:Int),(0:Int),(0:Int),(0:Int),(0:Int),(0:Int),(0:Int),(0:Int),(0:Int),(0:Int),(0:Int),(0:Int),(0:Int),(0:Int),(0:Int),(0:Int),(0:Int)⟩,⟨(0:Int),false⟩,(0:Int),(0:Int),(0:Int),⟨(0:Int),(0:Int)⟩⟩,_,_,_,_,_,_,_,_,_,_,_,_,_,_,_,_,_,_⟩:av)=Z;obtain⟨z,e,y,rfl,D,E,I,C,T,O⟩:=adC (step:=IW) m (λk x=>∃ y:av,x=(((m:Int),(),(),(k:Int),()),(Z,y,()))/\cZ y/\cD y=true/\Iv u y/\y.config=c.config/\y.now=c.now+(k:Int)/\J y) (λz=>∃ y:av,z = .inl (((),(),()),(Z,y,()))/\cZ y/\cD y=true/\Iv u y/\y.config=c.config/\y.now=c.now+(m:Int)/\J y) bq (x:=(((m:Int),(),(),(0:Int),()),(Z,c,()))) ⟨c,rfl,U,Y,h,rfl,(Int.add_zero _).symm,hJ⟩ (by
  rintro k hkk x ⟨y,rfl,D,E,I,C,T,O⟩;obtain⟨v,f1,f2,f3,f4,f5,f6⟩:=auh I D E (by rw[C];exact hc) (by omega) hu;unfold IW aM xG;dsimp only;rw[aY (show (k:Int)<(m:Int) by omega),au,dh,ay,h5,au,f1,ay,cc];exact⟨_,rfl,v,rfl,f2,f3,f4,f5.trans C,by omega,hs y v D E I C (by omega) (by omega) O f1⟩) (by
  rintro x ⟨y,rfl,D,E,I,C,T,O⟩;unfold IW aM xG;dsimp only;rw[bh (show ¬ (m:Int)<(m:Int) by omega),ax];exact⟨_,rfl,y,rfl,D,E,I,C,T,O⟩) (cu)
 rw[e,ay];exact⟨y,rfl,D,E,I,C,T,O⟩
def JX(p:iC)(k n:Int):(wj p k n).idle=p.idle:=by
 unfold wj;cases lD p&&aT n p.since 1000000 with
 |false=>rfl
 | true=>
  rw[au];cases (k==6)&&(p.state==0)<;>cases (k==8)&&(p.state==0)<;>cases (k==7)&&(p.state==1)<;>cases (k==9)&&(p.state==2)<;>rfl
def auj{l:aa dD}(w:aa Bool)(hl:l.length<1073741823)(I:kB l=true)(hw:l.length=w.length){i:Nat}(hi:i<w.length)(O:w.getD i false=true):∃ y t,qv l w=some (y,t)/\0<=t/\w.getD t.toNat false=true:=by
 unfold qv xA xC bR xL xZ;have hb:=uR (λi=>w.getD i false) (λi=>(l.getD i ⟨0,0⟩).fI) (min l.length w.length);have T:(ga l).length=l.length:=by simp[ga]
 have U:=uR (λi=>w.getD i false) (λi=>((ga l).getD i ⟨0,0⟩).fI) (min (ga l).length w.length);have Y:=CM (λi=>w.getD i false) (λi=>(l.getD i ⟨0,0⟩).fI) (min l.length w.length);have Z:=CM (λi=>w.getD i false) (λi=>((ga l).getD i ⟨0,0⟩).fI) (min (ga l).length w.length);have h0:=JA (may:=λi=>w.getD i false) (λi=>(l.getD i ⟨0,0⟩).fI) (i:=i) O (min l.length w.length) (by omega);rw[List.nil_append,E8 l w (by omega),ay,Jc _ (by omega),ay,I,bL,ax,List.length_nil,eW,eM,au];unfold ot;generalize hr:lZ (λi=>w.getD i false) (λi=>(l.getD i ⟨0,0⟩).fI) (min l.length w.length)=b at *
 have E:=Y.resolve_left (by omega);have C:b.toNat<l.length:=by omega
 rw[bh,ax,aO ⟨by omega,C⟩,aO C];dsimp only;cases l[b.toNat].fI==0 with
 | false=>
  rw[ax,aO ⟨by omega,C⟩,aO C,aO ⟨by omega,C⟩,aO C];exact⟨_,_,rfl,h0,E⟩
 | true=>
  rw[au,Vh l w (by omega),ay];simp only[gD];rw[E8 _ w (by omega),ay];have hp:0<=ot (ga l) w:=JA _ (i:=b.toNat) E _ (by rw[T];omega);have hq:ot (ga l) w<((min (ga l).length w.length:Nat):Int):=U.2;have D:(ot (ga l) w).toNat<(ga l).length:=by omega
  rw[aO ⟨hp,D⟩,aO D,aO ⟨hp,D⟩,aO D];exact⟨_,_,rfl,hp,Z.resolve_left (λe=>by have e:ot (ga l) w = -1:=e;omega)⟩
def C2(n R:Nat)(t:cX):Prop:=∃f:Nat->Nat,nK R t f/\∀r,r<R->f r<=n
def auk{c:av}{i:Int}(h:jE c uV i=true):False:=by
 simp only[jE,aJ]at h;exact absurd (qE h.1).2.1.1 (by decide)
def af7(c:av)(r:aX):∃ l,(jV c r).1 = { c with queue:=l }:=by
 unfold jV;cases ((!cD c) ||((!(mN c r).2) ||(c.bA.any λx=>x.id==r.id)))with
 |true=>exact⟨c.queue,rfl⟩
 |false=>exact⟨_,rfl⟩
def Iv.new{c:fo}{p:cK}(E:jB c)(hp:we p):Iv 0 (gB c p):=by
 have hg:=Fj E.1;have U:=ey c.ak;have Y:200<=c.interval/\c.interval<=259:=E.2.2.2.2.1;have hl:c.dS=⟨6*c.interval,40⟩:=E.2.2.2.2.2.2;have C:∀ (n k:Nat),(List.replicate n (0:Int)).getD k 0=0:=λn k=>by
  rw[cS,List.getElem?_replicate];split<;>rfl
 have I:(AT c.ak).bu=List.replicate (fM c.ak).toNat 0/\(AT c.ak).bg=List.replicate (fM c.ak).toNat 0:=⟨rfl,rfl⟩
 refine⟨⟨yJ.new _ _,dB _⟩,⟨fN _,λb r _ _=>?_⟩,⟨0,λi=>?_,⟨fN _,fN _⟩,?_,λb=>?_,λB _ D=>?_⟩,λb hb=>?_,fN _⟩
 ·show 0<=(List.replicate (aI c.ak).toNat (0:Int)).getD b 0/\(AT c.ak).bu.getD ((b:Int)*c.ak.rows+(r:Int)).toNat 0+c.interval<=((List.replicate (aI c.ak).toNat (0:Int)).getD b 0+1)*c.interval;rw[I.1,C,C];exact⟨fN _,by omega⟩
 ·show (List.replicate (9*(aI c.ak+1)).toNat (-1:Int)).getD i (-1)<=0;rw[cS,List.getElem?_replicate];split<;>decide
 ·show 100<=(c.interval+1) / 2+((0:Int)-0)
  omega
 ·show (List.replicate (aI c.ak).toNat (0:Int)).getD b 0<=4;rw[C];decide
 ·have D:(List.replicate (aI c.ak).toNat (0:Int)).getD B 0 >= 4:=of_decide_eq_true D;rw[C]at D;exact absurd D (by decide)
 ·have hb:(b:Int)<aI c.ak:=hb;show Hb c.ak.rows.toNat c.dS.bg 0 ((List.replicate (aI c.ak).toNat AS).getD b zT) ((List.replicate (aI c.ak).toNat p.di).getD b 0) [] (AT c.ak).bg b;have O:(List.replicate (aI c.ak).toNat AS).getD b zT=nH 16:=by
   rw[cS,List.getElem?_replicate,aV];rfl
  have T:(List.replicate (aI c.ak).toNat p.di).getD b 0=p.di:=by
   rw[cS,List.getElem?_replicate,aV];rfl
  have Z:=hp.2;rw[O,T,hl,I.2];exact Hb.new (fN _) ⟨by omega,by omega⟩ (by dsimp only;omega) λr _=>by rw[C];decide
def O6{c j:av}(r:Pr c j)(l:Int):cv j l=cv c l:=by
 unfold cv;rw[r.pC,r.pV]
def aul{c:av}{x:aP}{i:Int}(C:1<=x.kind/\x.kind<=9):(bH c x i).box=c.box/\(bH c x i).aN.idle=c.aN.idle/\(bH c x i).spare=c.spare:=by
 have acc:∀ i:Nat,(gz (bU c x) i).box=c.box/\(gz (bU c x) i).aN.idle=c.aN.idle/\(gz (bU c x) i).spare=c.spare:=λi=>by
  unfold gz;dsimp only;cases ((bU c x).queue.getD i nI).write<;>exact⟨rfl,rfl,rfl⟩
 unfold bH;rcases kinds C with q|q|q|q|q|q|q|q|q<;>rw[q]<;>simp only[Int.reduceBEq,Int.reduceBNe,au,ax,Bool.or_true,Bool.or_false,Bool.true_or,Bool.false_or,Bool.or_self]
 ·exact⟨rfl,rfl,rfl⟩
 ·exact acc _
 ·exact acc _
 ·exact⟨rfl,rfl,rfl⟩
 ·exact⟨rfl,rfl,rfl⟩
 ·exact⟨rfl,JX _ _ _,rfl⟩
 ·exact⟨rfl,JX _ _ _,rfl⟩
 ·exact⟨rfl,JX _ _ _,rfl⟩
 ·exact⟨rfl,JX _ _ _,rfl⟩
def Fn.sp{j y:av}(C:cZ j)(E:cD j=true)(I:Fn j y):y.spare=j.spare/\y.config=j.config:=by
 rcases I with ⟨_,rfl⟩|⟨O,rfl⟩
 ·exact⟨rfl,rfl⟩
 ·obtain⟨_,T,_,_⟩:=AQ C (Pq.of C E) O;obtain⟨_,_,D,_⟩:=v5 T;exact⟨(aul D).2.2,(JV D).2.2.2⟩
def aum{c y:av}(C:y.config=c.config)(D:y.spare=c.spare)(l:Int):cv y l=cv c l:=by
 unfold cv;rw[C,D]
def aun{p:aX->Bool}{q:aa aX}{r:aX}(h:∀ x∈q,p x=false):jc p q r=q++[r]:=by
 have e:jU p q=q.length:=by
  unfold jU;rw[List.findIdx?_eq_none_iff.2 h];rfl
 unfold jc;rw[e,mV,List.drop_length,List.append_nil]
def auo{n:Int}{q:aa aX}{r:aX}(h:gw n q=true)(hl:q.length<12)(D:nE n r=true)(hq:∀ x∈q,fm x r=true/\x.id≠r.id):gw n (q++[r])=true:=by
 unfold gw at h ⊢;rw[aJ,bT]at h ⊢
 refine⟨λi hi=>?_,aY (by simp;omega)⟩
 have hi:i<q.length+1:=by simpa using hi
 by_cases c:i<q.length
 ·have C:=h.1 i (gi.2 c);unfold rQ at C ⊢;rw[List.getElem?_append_left c,List.getElem?_append_left (by omega),List.take_append_of_le_length (by omega)];exact C
 ·obtain rfl:i=q.length:=by omega
  unfold rQ;rw[List.getElem?_append_right (dB _),Nat.sub_self,List.take_left];have E:(q.any λx=>x.id==r.id)=false:=kT.2 λx I=>by simpa using (hq x I).2
  simp only[List.getElem?_cons_zero,D,E,Bool.not_false,Bool.and_true,cJ];cases O:q.length with
  |zero=>rfl
  | succ k=>
   rw[Nat.add_sub_cancel,List.getElem?_append_left (by omega),bJ (by omega)];rw[dQ];exact .inr (hq _ (cR (by omega))).1
def aup{c:av}{N:Int}(hv:Rv c N){r:aX}(D:N<r.id):∀ x∈c.queue,fm x (lF c r)=true/\x.id≠(lF c r).id/\fm (lF c r) x=false:=λx C=>by
 obtain⟨E,I⟩:=hv.1 x C;refine⟨?_,by show x.id≠r.id;omega,?_⟩
 ·unfold fm lF;by_cases e:x.at_=c.now
  ·simp only[dQ,aJ,fC,eG];exact .inr ⟨e,by omega⟩
  ·simp only[dQ,aJ,fC,eG];exact .inl (by omega)
 ·unfold fm lF;simp only[mU,Bool.and_eq_false_iff,oA,beq_eq_false_iff_ne];exact⟨by omega,.inr (by omega)⟩
def O7(c:av)(r:aX):av:={ c with queue:=c.queue++[lF c r] }
def af8{c:av}{N:Int}(D:cD c=true)(hv:Rv c N){r:aX}(E:N<r.id)(hl:c.queue.length<12)(I:nE (dV (fZ c.config.ak c.spare)) (lF c r)=true):jV c r=(O7 c r,true):=by
 have hb:=aup hv E;have hq:=(Ck.of D).qu;have O:jc (λx=>fm (lF c r) x) c.queue (lF c r)=c.queue++[lF c r]:=aun λx C=>(hb x C).2.2
 have T:(c.bA.any λx=>x.id==r.id)=false:=kT.2 λx C=>by
  have:=hv.2 x C;simp only[eG];omega
 unfold jV mN AF;rw[O,hq,auo hq hl I λx C=>⟨(hb x C).1,(hb x C).2.1⟩,D,T];rfl
def af9{c:av}(r:aX)(hl:¬ c.queue.length<12):jV c r=(c,false):=by
 have e:gw (dV (fZ c.config.ak c.spare)) (jc (λx=>fm (lF c r) x) c.queue (lF c r))=false:=by
  unfold gw;rw[Oe,bh (show ¬ ((c.queue.length+1:Nat):Int)<=12 by omega),Bool.and_false]
 unfold jV mN AF;rw[e,Bool.and_false,ax];dsimp only;rw[Bool.not_false,Bool.true_or,Bool.or_true];rfl
def Iv.enq{u:Nat}{c:av}(hv:Iv u c)(r:aX):Iv (u+1) (jV c r).1/\(jV c r).1.now=c.now/\(jV c r).1.config=c.config:=by
 obtain⟨E,C⟩:=hv.iD;obtain⟨I,O,T⟩:=atU hv.iT r;obtain⟨l,D⟩:=af7 c r;refine⟨⟨I,?_,?_,?_,?_⟩,O,T⟩
 ·rw[D];exact hv.iA
 ·rw[D];exact⟨E,C.d1,C.d2,C.d3,C.d4,C.d5⟩
 ·rw[D];exact hv.iH
 ·rw[D];exact hv.iE
def WtN(a:jk):Prop:=a.eO.weights.length<=1048576/\(a.kind=2->a.n<=40)
def auq{b:aa Int}{c:bx}(O:ku b c){x:fo}(hx:jB x)(i:Int):Dr b (Mf c x i) WtN:=by
 have hg:=Fj hx.1;have gb:=fW hg;unfold Mf;rw[adE,ay,aW,O.eq];dsimp only
 refine(ff O 12).bind λD k2 h2 C=>?_
 dsimp only;rw[C.eta];have T:∀ l:aa Int,0<l.length->(∀ x∈l,x<=40)->Dr b ((zV k2 l).bind λE=>some ((⟨(2:Int),⟨(0:Int),(0:Int),(0:Int),false,(0:Int),(0:Int)⟩,E.1,(0:Int),⟨(0:Int),(0:Int),(0:Int)⟩,⟨(0:Int),(0:Int),(0:Int),(0:Int),(0:Int),[],⟨(0:Int),(0:Int)⟩⟩⟩:jk),((⟨b,E.2.1.i,E.2.1.h⟩:bx),()))) WtN:=λl hl h40=>by
  refine(NU C l hl).bind λy k hy U=>?_
  dsimp only;rw[U.eta];exact Dr.pure U ⟨by show (0:Nat)<=1048576;omega,λ_=>h40 _ hy⟩
 cases h0:D==(0:Int)with
 | true=>
  rw[au,au];exact T _ (by simp) (by decide)
 |false=>
 rw[ax];cases h1:D==(1:Int)with
 | true=>
  rw[au];exact T _ (by simp) (by decide)
 |false=>
 rw[ax];cases D==(2:Int)with
 | true=>
  rw[au]
  refine(apH C hg).bind λy5 k5 h5 Y=>?_
  dsimp only;rw[Y.eta]
  refine(ff Y 11).bind λy6 k6 h6 Z=>?_
  dsimp only;rw[Z.eta]
  refine(ff Z 16).bind λy7 k7 h7 AE=>?_
  dsimp only;rw[AE.eta];exact Dr.pure AE ⟨by show (0:Nat)<=1048576;omega,λh=>absurd (show (3:Int)=2 from h) (by decide)⟩
 |false=>
 rw[ax];cases D==(3:Int)with
 | true=>
  rw[au]
  refine(NU C _ (by simp)).bind λy8 k8 h8 Ju=>?_
  dsimp only;rw[Ju.eta]
  refine(ff Ju 2).bind λy9 k9 h9 Jv=>?_
  rw[ET,ay];dsimp only;rw[Jv.eta]
  refine(ff Jv _).bind λoZ TZ yB aga=>?_
  dsimp only;rw[aga.eta]
  refine(ff aga _).bind λzY TY qh agb=>?_
  dsimp only;rw[agb.eta]
  refine(aeH agb).bind λmH ED rS agc=>?_
  dsimp only;rw[agc.eta];have hl:=(Fi rS).2.2;exact Dr.pure agc ⟨by show mH.weights.length<=1048576;omega,λ_=>by show y9<=40;have:=h9.2.2 (by decide);omega⟩
 |false=>
 rw[ax]
 refine(atT C _).bind λn8 TX uL agd=>?_
 dsimp only;rw[agd.eta]
 refine(NV agd 2).bind λo8 TW v7 I=>?_
 dsimp only;rw[I.eta];cases o8 with
 | true=>
  rw[au]
  refine(ff I 3).bind λqq k16 Ax agf=>?_
  dsimp only;rw[agf.eta];exact Dr.pure agf ⟨by show (0:Nat)<=1048576;omega,λh=>absurd (show (1:Int)=2 from h) (by decide)⟩
 |false=>exact Dr.pure I ⟨by show (0:Nat)<=1048576;omega,λh=>absurd (show (1:Int)=2 from h) (by decide)⟩
def Iv.rows{u:Nat}{c:av}(h:Iv u c)(O:cD c=true)(C:jB c.config):(List.range c.array.bu.length).all (yD c)=true:=by
 have k:=Ck.of O;have T:=fG.wA k.ar;have hg:=Fj C.1;have U:=ey c.config.ak;have gb:=fW hg;have JP:200<=c.config.interval/\c.config.interval<=259:=C.2.2.2.2.1;have hl:c.config.dS=⟨6*c.config.interval,40⟩:=C.2.2.2.2.2.2;obtain⟨t,Y⟩:=h.iD;obtain⟨g1,Z⟩:=h.iA;have hrf:=k.rf;simp only[fY,aJ,br]at hrf;have hgw:1<=mR c.az:=by
  unfold mR;cases c.az.dY with
  |true=>rw[au];omega
  |false=>rw[ax];omega
 obtain⟨R,D⟩:=fD (show 0<=c.config.ak.rows by omega);obtain⟨nb,rA⟩:=fD U.1;have Rf:0<R:=by omega
 have hlen:c.array.bu.length=nb*R:=by
  have:=T.bu;have e:fM c.config.ak=aI c.config.ak*c.config.ak.rows:=by simp[fM,hg]
  rw[e,D,rA,<-Int.natCast_mul]at this;omega
 rw[bT];intro i hi;have hi:=gi.1 hi;rw[hlen]at hi;have hb:i / R<nb:=Nat.div_lt_of_lt_mul (by rw[Nat.mul_comm];exact hi);have hr:i % R<R:=Nat.mod_lt _ Rf;have Ot:i / R*R+i % R=i:=by rw[Nat.mul_comm];exact Nat.div_add_mod i R
 obtain⟨a1,a2⟩:=Z (i / R) (i % R) (by omega) (by omega);rw[D,<-Int.natCast_mul,show (((i / R*R:Nat):Int)+((i % R:Nat):Int)).toNat=i by omega]at a2;obtain⟨f,L,_,_,_,h3,_,E,h6⟩:=h.iH (i / R) (by omega);have I:=h6 (i % R) (by omega);rw[show c.config.ak.rows.toNat=R by omega]at I;rw[Ot]at I;have h8:=auc R f (L:=L) (by omega) c.pending (i / R) (i % R);have h4:=Y.d4 (i / R);have hm:(c.az.aC.getD (i / R) 0+1)*c.config.interval<=5*c.config.interval:=Int.mul_le_mul_of_nonneg_right (by omega) (by omega);rw[hl]at E;dsimp only at E;unfold yD uI;rw[hl];dsimp only;rw[bh,bh];rfl
def aur{b:aa Int}{c:bx}(C:ku b c):Dr b (Mk c) λ_=>True:=by
 unfold Mk xA xZ;rw[C.eq]
 refine(aeI C).bind λx k1 O D=>?_
 dsimp only;rw[D.eta]
 refine(ff D 40).bind λy k2 h2 E=>?_
 dsimp only;rw[E.eta]
 refine(auq E O _).bind λa k3 T I=>?_
 dsimp only;rw[I.eta];have hw:a.eO.weights.length<=1048576:=T.1;have U:bV (([]:aa Int).length+([]:aa Int).length)=true:=by decide
 have Y:bV (([]:aa Int).length+a.eO.weights.length)=true:=eM (by rw[List.length_nil];omega);have Z:bV (([a.eO.eX,a.eO.cap,a.eO.di,a.eO.low,a.eO.high]:aa Int).length+a.eO.weights.length)=true:=eM (by simp only[mb,List.length_nil];omega);have hz7:bV (([a.eO.eX,a.eO.cap,a.eO.di,a.eO.low,a.eO.high]++a.eO.weights:aa Int).length+([a.eO.dj.down,a.eO.dj.sleep]:aa Int).length)=true:=eM (by simp only[nM,mb,List.length_nil];omega);have hz8:bV (([]++a.eO.weights:aa Int).length)=true:=eM (by rw[List.nil_append];omega);cases a.kind==1<;>cases a.kind==2<;>cases a.kind==3<;>cases a.kind==4<;>cases a.kind==5<;>cases a.kind==6<;>cases a.kind != 5<;>cases a.request.write<;>simp only[au,ax,bL,Bool.not_false,U,Y,Z,hz7]<;>exact Dr.pure I trivial
def aus(l:aa Int)(h:l.length<=1073741823):∃ c p bf,Mq l=some (c,p,bf)/\jB c/\we p:=by
 unfold Mq bR;obtain⟨h0,e0⟩:=adH l h;obtain⟨x,k,C,U,hx⟩:=aeI (adJ l h0 h);obtain⟨p,O,e2,rK,hp⟩:=aeH U;generalize (⟨⟨(0:Int),(0:Int),(0:Int),(0:Int)⟩,⟨(0:Int),(0:Int),(0:Int),(0:Int),(0:Int),(0:Int),(0:Int),(0:Int),(0:Int),(0:Int),(0:Int),(0:Int),(0:Int),(0:Int),(0:Int),(0:Int),(0:Int)⟩,⟨(0:Int),false⟩,(0:Int),(0:Int),(0:Int),⟨(0:Int),(0:Int)⟩⟩:fo)=D;obtain⟨z,e,bf,rfl⟩:=apn (step:=Hv) 10 (λk s=>∃ (E:bx) (bf:aa jk),ku l E/\bf.length=k/\s=(((),(),(),(),(),(),(k:Int),()),(D,((0:Int),(0:Int),(0:Int),(0:Int),(0:Int),(),(0:Int),(0:Int),()),(l,E.i,E.h,()),x,(p.eX,p.cap,p.di,p.low,p.high,(),p.dj.down,p.dj.sleep,()),bf,([]:aa Int),p.weights,())))
  (λz=>∃bf:aa jk,z = .inl (((),(),(),(),(),()),(D,((0:Int),(0:Int),(0:Int),(0:Int),(0:Int),(),(0:Int),(0:Int),()),x,(p.eX,p.cap,p.di,p.low,p.high,(),p.dj.down,p.dj.sleep,()),bf,([]:aa Int),p.weights,()))) bq (x:=(((),(),(),(),(),(),(0:Int),()),(D,((0:Int),(0:Int),(0:Int),(0:Int),(0:Int),(),(0:Int),(0:Int),()),(l,O.i,O.h,()),x,(p.eX,p.cap,p.di,p.low,p.high,(),p.dj.down,p.dj.sleep,()),([]:aa jk),([]:aa Int),p.weights,()))) ⟨O,[],rK,rfl,rfl⟩ (by
  rintro k hkk s ⟨E,bf,I,hl,rfl⟩;unfold Hv aM xG;dsimp only;rw[I.eta];obtain⟨Y,k1,C,T,Z⟩:=ff I 10;rw[C,ay];dsimp only;by_cases dI:(k:Int)<Y
  ·obtain⟨y2,k3,e3,sV,_⟩:=aur T;rw[aY dI,au,T.eta,e3,ay];dsimp only;rw[eM (by rw[List.length_singleton];omega),au,cc];exact .inl ⟨_,rfl,k3,bf++[y2],sV,by rw[nM,List.length_singleton,hl],rfl⟩
  ·rw[bh dI,ax];exact .inr ⟨_,rfl,bf,rfl⟩) (by
  rintro s ⟨E,bf,I,hl,rfl⟩;unfold Hv aM xG;dsimp only;rw[I.eta];obtain⟨Y,k1,C,T,Z⟩:=ff I 10;have h31:=Z.2.2 (by omega);rw[C,ay];dsimp only;rw[bh,ax];exact⟨_,rfl,bf,rfl⟩) (cu)
 refine⟨x,p,bf,?_,hx,hp⟩;rw[e0,ay,C,ay];dsimp only;rw[U.eta,e2,ay];dsimp only;exact(bz (λo=>Option.bind o _) e).trans rfl
def aut{c:av}(D:cZ c)(E:cD c=true):2<=dV (fZ c.config.ak c.spare):=by
 have hq:=Pq.of D E;obtain⟨I,hg,C,U,s1,s2,s3,Y⟩:=Vl hq.sp;have Z:=fW C;have hb:=I4 C;have O:2<=(fZ c.config.ak c.spare).rows:=by rw[I];exact s3
 have T:=Int.mul_le_mul (show 1<=aI (fZ c.config.ak c.spare) by omega) O (by decide) (by omega);have h2:=Int.mul_le_mul T (show 1<=(fZ c.config.ak c.spare).aR by omega) (by decide) (by omega);unfold dV;rw[C,au];omega
def agh{c:av}{t:Nat}:∀ n,(mP c n).getD t false=true->∃ i,i<n/\gA c i=true/\(kD c i).dn.toNat=t
 | 0,h=>by
  exfalso;have h:(List.replicate 4 false).getD t false=true:=h;rw[cS,List.getElem?_replicate]at h;split at h<;>cases h
 | n+1,h=>by
  have e:mP c (n+1)=bif gA c n then (mP c n).set (kD c n).dn.toNat true else mP c n:=rfl;rw[e]at h;have D:(mP c n).getD t false=true->∃ i,i<n+1/\gA c i=true/\(kD c i).dn.toNat=t:=λh=>by
   obtain⟨i,T,I,O⟩:=agh n h;exact⟨i,by omega,I,O⟩
  cases C:gA c n with
  |false=>rw[C]at h;exact D h
  | true=>
   rw[C,au]at h;by_cases E:(kD c n).dn.toNat=t
   ·exact⟨n,by omega,C,E⟩
   ·rw[getD_set_ne _ E]at h;exact D h
def agi{c:av}{i:Nat}(C:gA c i=true)(I:(kD c i).dn.toNat<4):∀ n,i<n->(mP c n).getD (kD c i).dn.toNat false=true
 | n+1,h=>by
  have e:mP c (n+1)=bif gA c n then (mP c n).set (kD c n).dn.toNat true else mP c n:=rfl;have hl:=Fe c n;rw[e];by_cases O:i=n
  ·subst O;rw[C,au,oz _ (by omega)]
  ·have D:=agi C I n (by omega);cases hb:gA c n with
   |false=>rw[ax];exact D
   | true=>
    rw[au];by_cases E:(kD c n).dn.toNat=(kD c i).dn.toNat
    ·rw[E,oz _ (by omega)]
    ·rw[getD_set_ne _ E];exact D
def auu{old hit dP:Nat->Bool}{n k:Nat}(I:k<n)(E:dP k=true):wB old hit dP n ≠ -1:=λh=>by
 have key:∀p:Nat->Bool,fS p n<0\/0<=fS p n:=λp=>by omega
 have T:0<=fS dP n:=by
  rcases tF dP n with ⟨e,O⟩|⟨j,e,_⟩
  ·rw[O k I]at E;cases E
  ·omega
 unfold wB at h;cases C:decide (fS (λi=>dP i&&old i) n<0)with
 | false=>
  have:=of_decide_eq_false C;rw[C,ax]at h;omega
 | true=>
  rw[C,au]at h;cases D:decide (fS (λi=>dP i&&hit i) n<0)with
  | false=>
   have:=of_decide_eq_false D;rw[D,ax]at h;omega
  | true=>
   rw[D,au]at h;omega
def auv{c:av}(hq:Pq c){i:Nat}(hi:i<c.queue.length)(I:gA c i=true):∃ k:Nat,k<c.queue.length/\gA c k=true/\qL c=(k:Int):=by
 have D:∀ k,k<c.queue.length->0<=(kD c k).dn/\(kD c k).dn<=3:=λk C=>by
  have e:kD c k=c.queue[k]:=gM _ C;rw[e];exact(hq.q _ (cR C)).2.1
 have ht:=D i hi;have hw:=agi I (by omega) c.queue.length hi;obtain⟨y,t,e,t0,O⟩:=auj (l:=c.shares) (mP c c.queue.length) (by have:=hq.shl;omega) hq.sh (by rw[Fe,hq.shl]) (i:=(kD c i).dn.toNat) (by rw[Fe];omega) hw;have T:uW c=t:=by unfold uW;rw[e]
 obtain⟨k,E,U,k3⟩:=agh _ O;have C:=D k E;have Y:pJ c (uW c) k=true:=by
  unfold pJ;rw[U,T,cJ,eG];omega
 rcases VX (old:=wC c) (hit:=fH c) (dP:=pJ c (uW c)) (n:=c.queue.length)with e|⟨j,Z,e,hb⟩
 ·exact absurd e (auu E Y)
 ·unfold pJ at hb;rw[aJ]at hb;exact⟨j,Z,hb.1,e⟩
def auw{c:av}(hq:Pq c)(C:c.aN.state=0)(hd:bP 0 c.az.aC=[])(hp:c.pending=[]){i:Nat}(hi:i<c.queue.length)(D:gA c i=true):∃ k:Nat,k<c.queue.length/\gA c k=true/\fU c=(gI c k,(k:Int)):=by
 obtain⟨k,E,I,O⟩:=auv hq hi D;refine⟨k,E,I,?_⟩;have T:CY c=none:=by
  unfold CY Fg Fh;rw[hd,hp];rfl
 unfold fU;rw[C,bne_self_eq_false,ax,T];dsimp only;unfold ox;rw[O,bh (show ¬ (k:Int)<0 by omega),ax];dsimp only;rw[aY (show (k:Int) >= 0 by omega),au,bE]
def auy{c:av}{i:Nat}(h:gA c i=true):cI c (gI c i)=true/\jD c i=true:=by
 simp only[gA,aJ]at h;exact⟨h.2.2.1,h.1⟩
def agj{c:av}(hw:∀ r∈c.queue,r.write=false)(i:Nat):jD c i=kR c.queue i:=by
 have C:∀ k,ov c.queue k=false:=λk=>by
  unfold ov;cases h:c.queue[k]? with
  |none=>rfl
  |some r=>exact hw r (gC h)
 have D:uS c.queue c.queue.length=0:=by
  unfold uS yH;have:((List.range c.queue.length).countP λi=>kR c.queue i&&ov c.queue i)=0:=List.countP_eq_zero.2 λk _=>by rw[C k,Bool.and_false];decide
  rw[this];rfl
 unfold jD;rw[D,C i,Bool.not_false,cJ,iS,Bool.or_true,Bool.and_true]
def agk{q:aa aX}{r:aX}(D:r∈q):∃ i,∃ h:i<q.length,q[i].line=r.line/\kR q i=true:=by
 obtain⟨n,hn,e⟩:=iU.1 D;have key:∀ n,∀ hn:n<q.length,q[n].line=r.line->∃ i,∃ h:i<q.length,q[i].line=r.line/\kR q i=true:=by
  intro n
  induction n using Nat.strongRecOn with
  | ind n E=>
   intro hn C;cases hb:AL q n with
   |false=>exact⟨n,hn,C,by unfold kR;rw[hb];rfl⟩
   | true=>
    rw[ae4 hn]at hb;obtain⟨x,I,hl⟩:=List.any_eq_true.1 hb;obtain⟨m,O,e⟩:=iU.1 I;rw[jF]at O;rw[List.getElem_take]at e;exact E m (by omega) (by omega) (by rw[e,eG.1 hl];exact C)
 exact key n hn (by rw[e])
def auz{g:aH}{t:cg}(D:uZ t)(a b:aP)(E:a.kind≠9):fy g t a b<=12:=by
 obtain⟨r,w,Y,Z,w1,w2,rfl⟩:=D;have I:W6 (r+3)=r+3:=aZ;have O:W6 (w+3)=w+3:=aZ;have T:W6 (7+3)=10:=by decide
 have C:∀ x y:Int,pg (jb r w) x y<=12/\0<=pg (jb r w) x y:=λx y=>by
  unfold pg jb;dsimp only;rw[I,O,T];cases x==1<;>cases x==2<;>cases x==3<;>cases x==4<;>cases x==5<;>cases y==4<;>cases (y==2 ||y==3)<;>cases (y==1 ||y==5)<;>simp only[au,ax]<;>omega
 have U:∀ (y:Int) (n:Bool),tu (jb r w) a.kind y n<=12:=λy n=>by
  have hb:=C a.kind 1;unfold tu;show (bif a.kind==7 then (4:Int)else bif a.kind==9 then (16:Int)else bif _ then (3:Int)else bif _ then (bif n then (3:Int)else 2)else bif _ then (bif n then (3:Int)else 2)else bif _ then (bif n then (5:Int)else 4)else bif _ then (4:Int)else bif _ then (3:Int)else bif _ then r else bif _ then w else bif _ then pg (jb r w) a.kind 1 else (0:Int))<=12;rw[jQ E,ax];refine(qF (a:=0) ⟨by omega,by omega⟩ (qF ⟨by omega,by omega⟩ (qF (qF ⟨by omega,by omega⟩ ⟨by omega,by omega⟩) (qF (qF ⟨by omega,by omega⟩ ⟨by omega,by omega⟩) (qF (qF ⟨by omega,by omega⟩ ⟨by omega,by omega⟩) (qF ⟨by omega,by omega⟩ (qF ⟨by omega,by omega⟩ (qF ⟨by omega,by omega⟩ (qF ⟨by omega,by omega⟩ (qF ⟨hb.2,hb.1⟩ ⟨by omega,by omega⟩)))))))))).2
 have h2:=C a.kind b.kind;have h3:=U b.kind (uK g a b);unfold fy;cases pn a b&&a.aq==b.aq with
 |true=>rw[au];omega
 |false=>rw[ax];omega
def agl{c:av}(h:Pq c){x:aP}(I:x.kind=1->c.ready.bf.length=4->c.ready.bf.getD 0 0+c.config.bQ.jZ<=c.now)(O:gG c.aF x=true)(hg:∀ (b k:Nat),1<=k->k<=9->0<=La c.ready b k->La c.ready b k+fy c.config.ak c.config.bQ ⟨(k:Int),if k<=5 then (b:Int)else 0,0,0⟩ x<=c.now):cI c x=true:=by
 have hn:=h.nw;have C:rW c.config.ak c.config.bQ c.ready.last x c.ready.last.length<=c.now:=by
  refine V7 _ _ _ _ hn.1 (λi hi T=>?_) _ (dB _)
  obtain⟨b,k,rfl,U,Y⟩:∃b k:Nat,i=9*b+k-1/\1<=k/\k<=9:=⟨i / 9,i % 9+1,by omega,by omega,by omega⟩
  have Z:((9*b+k-1:Nat):Int) % 9+1=(k:Int):=by omega
  have e2:((9*b+k-1:Nat):Int) / 9=(b:Int):=by omega
  have D:La c.ready b k=c.ready.last[9*b+k-1]:=gM _ hi;have e3:jC (9*b+k-1)=⟨(k:Int),if k<=5 then (b:Int)else 0,0,0⟩:=by
   unfold jC;rw[Z,e2];by_cases E:k<=5
   ·rw[aV,aV E]
   ·rw[aW,aW E]
  rw[e3,<-D];exact hg b k U Y (by rw[D];exact T)
 have C:kC c.config.ak c.config.bQ c.ready x<=c.now:=by
  unfold kC;cases hb:x.kind==1&&(c.ready.bf.length:Int)==4 with
  |false=>rw[ax];exact C
  | true=>
   rw[aJ,eG,eG]at hb;have:=I hb.1 (by omega);rw[au];unfold rV;split<;>omega
 unfold cI;rw[O,aY C,aY (show kC c.config.ak c.config.bQ c.ready x<=1000000 by omega)];rfl
def agm{c:av}(h:Pq c)(D:uZ c.config.bQ){x:aP}(E:gG c.aF x=true){n:Int}(hl:∀ i:Nat,c.ready.last.getD i (-1)<=n)(I:∀ b:Nat,La c.ready b 9<0)(O:∀ a∈c.ready.bf,a<=n)(hn:n+12<=c.now):cI c x=true:=
 agl h (λ_ T=>by
  have C:0<c.ready.bf.length:=by omega
  have:=O _ (cR C);rw[gM _ C];obtain⟨r,w,_,_,_,_,e⟩:=D;rw[e];show c.ready.bf[0]+10<=c.now;omega) E λb k _ _ C=>by
  have U:=wF hl b k;by_cases e:k=9
  ·subst e;have:=I b;omega
  ·have:=auz (g:=c.config.ak) D ⟨(k:Int),if k<=5 then (b:Int)else 0,0,0⟩ x (λh=>e (by have h:(k:Int)=9:=h;omega));omega
def auA{g:aH}{r w:Int}(E:1<=r/\r<=4)(hw:4<=w/\w<=8){a:aP}(C:1<=a.kind/\a.kind<=9)(D:a.kind≠9)(B bW:Int):fy g (jb r w) a ⟨2,B,0,bW⟩<=5/\(a.kind=4\/a.kind=5\/a.kind=6\/a.kind=8->fy g (jb r w) a ⟨2,B,0,bW⟩<=1):=by
 unfold fy pn pg tu jb;dsimp only;generalize uK g a _=nb;rcases kinds C with h|h|h|h|h|h|h|h|h<;>rw[h]at D ⊢<;>cases nb<;>cases hb:a.aq==B<;>simp[aT]at *<;>omega
def fA(f:Nat->Int):Nat->Int
 |0=>0
 |n+1=>fA f n+f n
def agn{f f':Nat->Int}:∀ n,(∀ b,b<n->f b=f' b)->fA f n=fA f' n
 |0,_=>rfl
 | n+1,h=>by
  show fA f n+f n=fA f' n+f' n;rw[agn n λb hb=>h b (by omega),h n (by omega)]
def JY{f f':Nat->Int}{B:Nat}{d:Int}:∀ n,B<n->(∀ b,b<n->b≠B->f' b=f b)->f' B=f B+d->fA f' n=fA f n+d
 | n+1,hB,h,hd=>by
  show fA f' n+f' n=fA f n+f n+d;by_cases e:B=n
  ·subst e;rw[agn (f:=f') (f':=f) B λb hb=>h b (by omega) (by omega),hd];omega
  ·rw[JY n (by omega) (λb hb C=>h b (by omega) C) hd,h n (by omega) (λh=>e h.symm)];omega
def va{f:Nat->Int}{lo hi:Int}:∀ n:Nat,(∀ b,b<n->lo<=f b/\f b<=hi)->lo*n<=fA f n/\fA f n<=hi*n
 |0,_=>⟨by show lo*((0:Nat):Int)<=0;simp,by show 0<=hi*((0:Nat):Int);simp⟩
 | n+1,h=>by
  obtain⟨C,D⟩:=va n λb hb=>h b (by omega)
  obtain⟨E,I⟩:=h n (by omega);show lo*((n+1:Nat):Int)<=fA f n+f n/\fA f n+f n<=hi*((n+1:Nat):Int)
  rw[Int.natCast_add,Int.mul_add,Int.mul_add];omega
def vB(r:bM)(F:Nat->Bool)(b:Nat):Int:=bif (ck r (b:Int)).open_ then (bif F b then 2 else 0)else 1
def O8(r:bM)(F:Nat->Bool)(b:Nat):0<=vB r F b/\vB r F b<=2:=by
 unfold vB;cases (ck r (b:Int)).open_<;>cases F b<;>decide
def cM(c:av):Nat:=(aI c.config.ak).toNat
def kE(c:av):Int:=if c.aF.aN=0 then 1 else 0
def dH(F:Nat->Bool)(k:Int)(c:av):Int:=36*(c.bA.length:Int)+12*(fA (vB c.aF F) (cM c)+kE c+((cM c:Int)*k-fA (λb=>c.az.aC.getD b 0) (cM c)))
structure Hm (p:cK) (S:dL) (l0 l1:Int) (F:Nat->Bool) (k:Int) (c:av):Prop where
 hq:∀r∈c.queue,r.write=false/\(r.line=l0\/r.line=l1)
 hp:c.pending=[]
 hg:∀b:Nat,(b:Int)<aI c.config.ak->8<=c.guard.getD b 0
 hF:∀b,F b=true->(ck c.aF (b:Int)).open_=true/\∃r∈c.queue,(cv c r.line).aq=(b:Int)/\(cv c r.line).row=(ck c.aF (b:Int)).row
 hT:∀b:Nat,(b:Int)<aI c.config.ak->C2 (c.bA.length+(bif F b then 1 else 0)) c.config.ak.rows.toNat (c.bB.getD b zT)
 hN:∀b:Nat,La c.ready b 3<0/\La c.ready b 9<0
 hl:(∀i:Nat,c.ready.last.getD i (-1)<=dH F k c)/\∀a∈c.ready.bf,a<=dH F k c
 hn:(∀i:Nat,c.ready.last.getD i (-1)<=c.now)/\∀a∈c.ready.bf,a<=c.now
 hw:c.aF.aN=0\/c.aF.aN=1
 hd:(k=0/\(∀b:Nat,c.az.aC.getD b 0=0)/\200-c.now<=c.az.wait)\/(k=1/\(∀b:Nat,0<=c.az.aC.getD b 0/\c.az.aC.getD b 0<=1)/\399-c.now<=c.az.wait/\199<=c.now)
 hh:c.az.dY=false
 hb:c.box.bX=p/\c.box.next=p
 hv:c.spare=S
 hi:c.aN.idle<=c.now
 hP:c.aF.aN=1->∀b,F b=false
def Hm.d1{p:cK}{S:dL}{D l1:Int}{F:Nat->Bool}{k:Int}{c:av}(h:Hm p S D l1 F k c)(b:Nat):0<=c.az.aC.getD b 0/\c.az.aC.getD b 0<=1:=by
 rcases h.hd with ⟨_,C,_⟩|⟨_,C,_,_⟩
 ·have:=C b;omega
 ·exact C b
def Hm.parts{p:cK}{S:dL}{D l1:Int}{F:Nat->Bool}{k:Int}{c:av}(h:Hm p S D l1 F k c):0<=fA (vB c.aF F) (cM c)/\0<=(cM c:Int)*k-fA (λb=>c.az.aC.getD b 0) (cM c):=by
 refine⟨by have:=(va (f:=vB c.aF F) (lo:=0) (hi:=2) (cM c) λb _=>O8 _ _ _).1;omega,?_⟩
 rcases h.hd with ⟨rfl,C,_⟩|⟨rfl,C,_,_⟩
 ·have:=va (f:=λb=>c.az.aC.getD b 0) (lo:=0) (hi:=0) (cM c) λb _=>by have:=C b;omega
  omega
 ·have:=va (f:=λb=>c.az.aC.getD b 0) (lo:=0) (hi:=1) (cM c) λb _=>C b
  omega
def Hm.lam{p:cK}{S:dL}{D l1:Int}{F:Nat->Bool}{k:Int}{c:av}(h:Hm p S D l1 F k c)(hb:cM c<=4):36*(c.bA.length:Int)<=dH F k c/\dH F k c<=36*(c.bA.length:Int)+156:=by
 have C:=(va (f:=vB c.aF F) (lo:=0) (hi:=2) (cM c) λb _=>O8 _ _ _)
 have E:0<=kE c/\kE c<=1:=by unfold kE;split<;>decide
 have I:0<=(cM c:Int)*k-fA (λb=>c.az.aC.getD b 0) (cM c)/\(cM c:Int)*k-fA (λb=>c.az.aC.getD b 0) (cM c)<=4:=by
  rcases h.hd with ⟨rfl,C,_⟩|⟨rfl,C,_,_⟩
  ·have:=va (f:=λb=>c.az.aC.getD b 0) (lo:=0) (hi:=0) (cM c) λb _=>by have:=C b;omega
   omega
  ·have:=va (f:=λb=>c.az.aC.getD b 0) (lo:=0) (hi:=1) (cM c) λb _=>C b
   omega
 unfold dH;omega
def Hm.pr{p:cK}{S:dL}{O l1:Int}{F:Nat->Bool}{k:Int}{c j:av}(h:Hm p S O l1 F k c)(r:Pr c j)(Z:cD c=true)(hc:jB c.config)(hn:0<=c.now/\c.now<397):∃ C,Hm p S O l1 F C j/\dH F C j=dH F k c:=by
 have JP:200<=c.config.interval/\c.config.interval<=259:=hc.2.2.2.2.1;have pN:=r.pN;have Jn:=(gu.of (Ck.of Z).pa).dl;have rA:cM c=c.az.aC.length:=by unfold cM;omega
 have hbx:j.box.bX=p/\j.box.next=p:=by
  rcases r.pB with e|e
  ·rw[e];exact h.hb
  ·rw[e];exact⟨h.hb.2,h.hb.2⟩
 have zI:(c.aF.aN != 2)=true:=by
  rcases h.hw with e|e<;>rw[e]<;>rfl
 have U:j.az=tK c.az c.config.interval:=by rw[r.pF,zI,au]
 have hid:j.aN.idle<=j.now:=by
  have:=h.hi;rw[r.pI];unfold OQ;cases oq j with
  |true=>rw[au];omega
  |false=>rw[ax];split<;>omega
 have mk:∀ C,dH F C j=dH F k c->((C=0/\(∀ b:Nat,j.az.aC.getD b 0=0)/\200-j.now<=j.az.wait)\/(C=1/\(∀ b:Nat,0<=j.az.aC.getD b 0/\j.az.aC.getD b 0<=1)/\399-j.now<=j.az.wait/\199<=j.now))->j.az.dY=false->∃ C,Hm p S O l1 F C j/\dH F C j=dH F k c:=λC e hd hh=>by
  refine⟨C,⟨by rw[r.pQ];exact h.hq,r.pP.trans h.hp,by rw[r.pC,r.pG];exact h.hg,λb hb=>?_,by rw[r.pC,r.pT,r.pY];exact h.hT,by rw[r.pR];exact h.hN,by rw[e,r.pR];exact h.hl,by rw[r.pR];exact⟨λi=>by have:=h.hn.1 i;omega,λa ha=>by have:=h.hn.2 a ha;omega⟩,by rw[r.pK];exact h.hw,hd,hh,hbx,r.pV.trans h.hv,hid,by rw[r.pK];exact h.hP⟩,e⟩
  obtain⟨o,x,hx,e1,e2⟩:=h.hF b hb;rw[r.pK];exact⟨o,x,by rw[r.pQ];exact hx,by rw[O6 r];exact e1,by rw[O6 r];exact e2⟩
 by_cases hw:0<c.az.wait-1
 ·have D:j.az=⟨c.az.aC,c.az.wait-1,c.az.dY⟩:=by rw[U];unfold tK;rw[aV hw]
  refine mk k ?_ ?_ (by rw[D];exact h.hh)
  ·unfold dH kE cM;rw[r.pY,r.pK,r.pC,D]
  ·rw[D];rcases h.hd with ⟨I,E,T⟩ | ⟨I,E,T,h4⟩
   ·exact .inl ⟨I,E,by dsimp only;omega⟩
   ·exact .inr ⟨I,E,by dsimp only;omega,by omega⟩
 ·have D:j.az=⟨c.az.aC.map oy,c.config.interval,false⟩:=by
   rw[U];unfold tK;rw[aW hw,h.hh];rfl
  rcases h.hd with ⟨I,E,T⟩|⟨I,E,T,h4⟩
  ·have Y:∀ b,b<c.az.aC.length->(c.az.aC.map oy).getD b 0=1:=λb hb=>by
    rw[OS _ _ hb,E b];decide
   refine mk 1 ?_ (.inr ⟨rfl,λb=>?_,by rw[D];dsimp only;omega,by omega⟩) (by rw[D])
   ·have s1:fA (λb=>c.az.aC.getD b 0) (cM c)=0:=by
     have:=va (f:=λb=>c.az.aC.getD b 0) (lo:=0) (hi:=0) (cM c) λb _=>by have:=E b;omega
     omega
    have s2:fA (λb=>(c.az.aC.map oy).getD b 0) (cM c)=cM c:=by
     have:=va (f:=λb=>(c.az.aC.map oy).getD b 0) (lo:=1) (hi:=1) (cM c) λb hb=>by have:=Y b (by omega);omega
     omega
    have en:cM j=cM c:=by unfold cM;rw[r.pC]
    unfold dH;rw[en,s1,r.pY,r.pK,D,I];dsimp only;rw[s2];have:kE j=kE c:=by unfold kE;rw[r.pK]
    omega
   ·rw[D];dsimp only;by_cases hb:b<c.az.aC.length
    ·rw[Y b hb];decide
    ·rw[cS,qO (by rw[eS];omega)];decide
  ·omega
def auB{g:aH}{q:dR}{e:bO}{a:Int}(h:a∈(gx g q e).bf):a∈q.bf\/a=e.at_:=by
 unfold gx at h;revert h;cases jR g q&&(cC g e.cmd&&(aT e.at_ 0 1000000 && !(e.cmd.kind==1&&uM q e.at_)))with
 |false=>exact λh=>.inl h
 | true=>
  rw[au];dsimp only;cases e.cmd.kind==1 with
  |false=>exact λh=>.inl h
  | true=>
   rw[au];intro h;unfold Az at h;rcases gJ.1 (List.mem_of_mem_drop h)with h|h
   ·exact .inl h
   ·exact .inr (gf.1 h)
def Hm.wG{p:cK}{S:dL}{O l1:Int}{F:Nat->Bool}{k:Int}{j:av}(h:Hm p S O l1 F k j){x:aP}(C:cC j.config.ak x=true)(D:x.kind≠3/\x.kind≠9){q:dR}(hq:q=gx j.config.ak j.ready ⟨j.now,x⟩){L:Int}(E:(∀ i:Nat,j.ready.last.getD i (-1)<=L)/\∀ a∈j.ready.bf,a<=L)(I:j.now<=L):(∀ b:Nat,La q b 3<0/\La q b 9<0)/\((∀ i:Nat,q.last.getD i (-1)<=L)/\∀ a∈q.bf,a<=L):=by
 subst hq
 refine⟨λb=>⟨?_,?_⟩,λi=>OY _ _ _ E.1 I i,λa T=>?_⟩
 ·rcases OX j.config.ak j.ready ⟨j.now,x⟩ C b 3 ⟨by decide,by decide⟩with e | ⟨_,e,_⟩
  ·rw[e];exact(h.hN b).1
  ·exact absurd e.symm D.1
 ·rcases OX j.config.ak j.ready ⟨j.now,x⟩ C b 9 ⟨by decide,by decide⟩with e | ⟨_,e,_⟩
  ·rw[e];exact(h.hN b).2
  ·exact absurd e.symm D.2
 ·rcases auB T with e | e
  ·exact E.2 a e
  ·rw[e];exact I
def ago{c:av}{B:Int}(C:0<=B)(h:B<aI c.config.ak):B.toNat<cM c:=by unfold cM;omega
def Hm.shut{p:cK}{S:dL}{D l1:Int}{F:Nat->Bool}{k:Int}{j:av}(h:Hm p S D l1 F k j){b:Nat}(C:(ck j.aF (b:Int)).open_=false):F b=false:=by
 cases hF:F b with
 |false=>rfl
 |true=>rw[(h.hF b hF).1]at C;cases C
def Hm.pre{p:cK}{S:dL}{O l1:Int}{F:Nat->Bool}{k:Int}{j:av}(h:Hm p S O l1 F k j){x:aP}{i:Int}(T:cC j.config.ak x=true)(U:x.kind=4)(hb:0<=x.aq/\x.aq<aI j.config.ak)(Y:(ck j.aF x.aq).open_=true)(E:F x.aq.toNat=false)(gZ:(j.aF.aE.length:Int)=aI j.config.ak)(hj:j.now<=dH F k j+12):Hm p S O l1 F k (bH j x i)/\dH F k j+12<=dH F k (bH j x i):=by
 have e:bH j x i=bU j x:=by unfold bH;rw[U];rfl
 have C:bN j.aF x=⟨j.aF.aE.set x.aq.toNat ⟨false,0⟩,j.aF.aN⟩:=by unfold bN;rw[U];rfl
 have Z:((x.aq.toNat:Nat):Int)=x.aq:=by omega
 have q7:(ck (bN j.aF x) ((x.aq.toNat:Nat):Int)).open_=false:=by
  rw[C];unfold ck;rw[bE];dsimp only;rw[oz _ (by omega)]
 have hs:fA (vB (bN j.aF x) F) (cM j)=fA (vB j.aF F) (cM j)+1:=by
  refine JY (B:=x.aq.toNat) _ (ago hb.1 hb.2) (λb _ I=>?_) ?_
  ·unfold vB;rw[Fl I]
  ·unfold vB;rw[q7,Z,Y,E];rfl
 have eL:dH F k (bU j x)=dH F k j+12:=by
  have:kE (bU j x)=kE j:=by
   show (if (bN j.aF x).aN=0 then (1:Int)else 0)=kE j;rw[C];rfl
  unfold dH;rw[this];show 36*(j.bA.length:Int)+12*(fA (vB (bN j.aF x) F) (cM j)+kE j+((cM j:Int)*k-fA (λb=>j.az.aC.getD b 0) (cM j)))=_;rw[hs];omega
 rw[e];refine⟨?_,by omega⟩;obtain⟨t1,t2⟩:=h.wG T (by omega) (q:=(bU j x).ready) rfl (L:=dH F k (bU j x)) ⟨λi=>by have:=h.hl.1 i;omega,λa ha=>by have:=h.hl.2 a ha;omega⟩ (by omega);obtain⟨_,t3⟩:=h.wG T (by omega) (q:=(bU j x).ready) rfl (L:=j.now) h.hn (fN _)
 refine⟨h.hq,h.hp,h.hg,λb hb=>?_,h.hT,t1,t2,t3,?_,h.hd,h.hh,h.hb,h.hv,h.hi,?_⟩
 ·obtain⟨o,r,hr,e1,e2⟩:=h.hF b hb;have I:b≠x.aq.toNat:=λhh=>by rw[<-hh]at E;rw[E]at hb;cases hb
  show (ck (bN j.aF x) (b:Int)).open_=true/\∃r∈j.queue,(cv j r.line).aq=(b:Int)/\(cv j r.line).row=(ck (bN j.aF x) (b:Int)).row;rw[Fl I];exact⟨o,r,hr,e1,e2⟩
 ·show (bN j.aF x).aN=0\/(bN j.aF x).aN=1;rw[C];exact h.hw
 ·intro D;have D:(bN j.aF x).aN=1:=D;rw[C]at D;exact h.hP D
def Hm.CZ{p:cK}{S:dL}{I l1:Int}{F:Nat->Bool}{k:Int}{j:av}(h:Hm p S I l1 F k j){x:aP}{i:Int}(O:cC j.config.ak x=true)(C:x.kind=6/\(∀ b,F b=false)\/x.kind=7){L:Int}(T:(∀ i:Nat,j.ready.last.getD i (-1)<=L)/\∀ a∈j.ready.bf,a<=L)(hj:j.now<=L)(hL2:L<=36*(j.bA.length:Int)+12*(fA (vB j.aF F) (cM j)+(if x.kind=7 then 1 else 0)+((cM j:Int)*k-fA (λb=>j.az.aC.getD b 0) (cM j)))):Hm p S I l1 F k (bH j x i)/\dH F k (bH j x i)=36*(j.bA.length:Int)+12*(fA (vB j.aF F) (cM j)+(if x.kind=7 then 1 else 0)+((cM j:Int)*k-fA (λb=>j.az.aC.getD b 0) (cM j))):=by
 have auC:=C;have C:x.kind=6\/x.kind=7:=C.imp And.left id;have e:bH j x i=AN (bU j x) x.kind:=by
  unfold bH;rcases C with q|q<;>rw[q]<;>rfl
 have D:bN j.aF x=⟨j.aF.aE,if x.kind=7 then 0 else 1⟩:=by
  unfold bN;rcases C with q|q<;>rw[q]<;>rfl
 have eL:dH F k (bH j x i)=36*(j.bA.length:Int)+12*(fA (vB j.aF F) (cM j)+(if x.kind=7 then 1 else 0)+((cM j:Int)*k-fA (λb=>j.az.aC.getD b 0) (cM j))):=by
  have e1:kE (bH j x i)=if x.kind=7 then 1 else 0:=by
   rw[e];show (if (bN j.aF x).aN=0 then (1:Int)else 0)=_;rw[D];rcases C with q|q<;>rw[q]<;>rfl
  have e2:vB (bH j x i).aF F=vB j.aF F:=by
   rw[e];funext b;show vB (bN j.aF x) F b=_;rw[D];rfl
  unfold dH;rw[e1,e2,e];rfl
 refine⟨?_,eL⟩;obtain⟨U,Y⟩:=h.wG O (by omega) (q:=(bH j x i).ready) (by rw[e];rfl) (L:=dH F k (bH j x i)) ⟨λi=>by have:=T.1 i;omega,λa ha=>by have:=T.2 a ha;omega⟩ (by omega);obtain⟨_,Z⟩:=h.wG O (by omega) (q:=(bH j x i).ready) (by rw[e];rfl) (L:=j.now) h.hn (fN _);rw[e]at U Y Z ⊢
 refine⟨h.hq,h.hp,h.hg,λb hb=>?_,h.hT,U,Y,Z,?_,h.hd,h.hh,h.hb,h.hv,?_,?_⟩
 ·show (ck (bN j.aF x) (b:Int)).open_=true/\∃r∈j.queue,(cv j r.line).aq=(b:Int)/\(cv j r.line).row=(ck (bN j.aF x) (b:Int)).row;rw[D];exact h.hF b hb
 ·show (bN j.aF x).aN=0\/(bN j.aF x).aN=1;rw[D];rcases C with q | q <;>rw[q]
  ·exact .inr rfl
  ·exact .inl rfl
 ·show (wj j.aN x.kind j.now).idle<=j.now;rw[JX];exact h.hi
 ·intro E;have E:(bN j.aF x).aN=1:=E;rw[D]at E;rcases auC with ⟨_,q⟩ | q
  ·exact q
  ·rw[q]at E;exact absurd (show (0:Int)=1 from E) (by decide)
def Hm.ref{p:cK}{S:dL}{Y l1:Int}{F:Nat->Bool}{k:Int}{j:av}(h:Hm p S Y l1 F k j)(JZ:8<=p.di)(AV:j.config.ij=16){x:aP}{i:Int}(Z:cC j.config.ak x=true)(T:x.kind=5)(hb:0<=x.aq/\x.aq<aI j.config.ak)(ho:(ck j.aF x.aq).open_=false)(Wl:j.az.aC.getD x.aq.toNat 0 >= 1)(Jn:(j.az.aC.length:Int)=aI j.config.ak)(AO:(j.bB.length:Int)=aI j.config.ak)(VO:(j.guard.length:Int)=aI j.config.ak)(hj:j.now<=dH F k j+12):Hm p S Y l1 F k (bH j x i)/\dH F k j+12<=dH F k (bH j x i):=by
 have eB:((x.aq.toNat:Nat):Int)=x.aq:=by omega
 have Fo:F x.aq.toNat=false:=h.shut (by rw[eB];exact ho);have e:=OU j i T;have D:bN j.aF x=j.aF:=by unfold bN;rw[T];rfl
 obtain⟨w1,w2,_,E,_,_⟩:=afV (c:=j) (x:=x) (i:=i) (by omega) (λ_=>by omega) (λ_=>Wl);have E:=E T;have hs:fA (λb=>(bH j x i).az.aC.getD b 0) (cM j)=fA (λb=>j.az.aC.getD b 0) (cM j)+(-1):=by
  refine JY (B:=x.aq.toNat) _ (ago hb.1 hb.2) (λb _ bY=>?_) ?_
  ·rw[E b,aW λh=>bY h.symm]
  ·rw[E,aV rfl];rfl
 have eL:dH F k (bH j x i)=dH F k j+12:=by
  have e1:kE (bH j x i)=kE j:=by
   rw[e];show (if (bN j.aF x).aN=0 then (1:Int)else 0)=_;rw[D];rfl
  have e2:vB (bH j x i).aF F=vB j.aF F:=by
   rw[e];show vB (bN j.aF x) F=_;rw[D]
  have e3:cM (bH j x i)=cM j:=by rw[e];rfl
  have e4:(bH j x i).bA=j.bA:=by rw[e];rfl
  unfold dH;rw[e3,e1,e2,e4,hs];omega
 refine⟨?_,by omega⟩;obtain⟨t1,t2⟩:=h.wG Z (by omega) (q:=(bH j x i).ready) (by rw[e];rfl) (L:=dH F k (bH j x i)) ⟨λi=>by have:=h.hl.1 i;omega,λa ha=>by have:=h.hl.2 a ha;omega⟩ (by omega);obtain⟨_,t3⟩:=h.wG Z (by omega) (q:=(bH j x i).ready) (by rw[e];rfl) (L:=j.now) h.hn (fN _);have ur:k=1/\399-j.now<=j.az.wait/\199<=j.now:=by
  rcases h.hd with ⟨_,U,_⟩|⟨U,_,h3⟩
  ·have:=U x.aq.toNat;omega
  ·exact⟨U,h3⟩
 have rH:∀ b:Nat,0<=(bH j x i).az.aC.getD b 0/\(bH j x i).az.aC.getD b 0<=1:=λb=>by
  have:=h.d1 b;rw[E b];split
  next hh=>subst hh;omega
  ·exact this
 refine⟨by rw[e];exact h.hq,?_,?_,?_,?_,t1,t2,by rw[e]at t3 ⊢;exact t3,?_,.inr ⟨ur.1,rH,?_⟩,w2.trans h.hh,by rw[e];exact h.hb,by rw[e];exact h.hv,by rw[e];exact h.hi,?_⟩
 ·rw[e];show j.pending.filter _=[]
  rw[h.hp];rfl
 ·rw[e];intro b C;show 8<=(j.guard.set x.aq.toNat j.box.bX.di).getD b 0;by_cases I:x.aq.toNat=b
  ·subst I;rw[oz _ (by omega),h.hb.1];exact JZ
  ·rw[getD_set_ne _ I];exact h.hg b C
 ·rw[e];intro b C;show (ck (bN j.aF x) (b:Int)).open_=true/\∃r∈j.queue,(cv j r.line).aq=(b:Int)/\(cv j r.line).row=(ck (bN j.aF x) (b:Int)).row;rw[D];exact h.hF b C
 ·rw[e];intro b C;have C:(b:Int)<aI j.config.ak:=C;show C2 (j.bA.length+(bif F b then 1 else 0)) j.config.ak.rows.toNat ((j.bB.set x.aq.toNat (nH j.config.ij)).getD b zT);by_cases I:x.aq.toNat=b
  ·subst I;rw[oz _ (by omega),AV];exact⟨λ_=>0,nK.new _,λ_ _=>iL _⟩
  ·rw[getD_set_ne _ I];exact h.hT b C
 ·rw[e];show (bN j.aF x).aN=0\/(bN j.aF x).aN=1;rw[D];exact h.hw
 ·have e5:(bH j x i).now=j.now:=by rw[e];rfl
  rw[w1,e5];exact ur.2
 ·rw[e];intro O;have O:(bN j.aF x).aN=1:=O;rw[D]at O;exact h.hP O
def Hm.act{p:cK}{S:dL}{l0 l1:Int}{F:Nat->Bool}{k:Int}{j:av}(h:Hm p S l0 l1 F k j)(hk:cD j=true)(hrw:j.config.ak.rows<16)(hR:j.bA.length<=5){x:aP}{i:Int}(U:cC j.config.ak x=true)(Y:x.kind=1)(hb:0<=x.aq/\x.aq<aI j.config.ak)(mj:j.aF.aN=0)(Z:(ck j.aF x.aq).open_=false)(gZ:(j.aF.aE.length:Int)=aI j.config.ak)(I:∃ r∈j.queue,(cv j r.line).aq=x.aq/\(cv j r.line).row=x.row)(hj:j.now<=dH F k j+12):Hm p S l0 l1 (λb=>b==x.aq.toNat || F b) k (bH j x i)/\dH F k j+12<=dH (λb=>b==x.aq.toNat || F b) k (bH j x i):=by
 obtain⟨B,hB⟩:=fD hb.1;obtain⟨r0,r1⟩:=JK U Y;obtain⟨row,O5⟩:=fD r0;have O:x.aq.toNat=B:=by omega
 rw[hB]at Z;have Fo:F B=false:=h.shut Z;have pt:=gu.of (Ck.of hk).pa;have AO:=pt.tl;have VO:=pt.gl;obtain⟨VH,auD⟩:(rX (bU j x) x).2=false/\C2 (j.bA.length+1) j.config.ak.rows.toNat (rX (bU j x) x).1:=by
  show (mO (j.bB.getD x.aq.toNat zT) x.row (j.guard.getD x.aq.toNat 0)).2=false/\C2 (j.bA.length+1) j.config.ak.rows.toNat (mO (j.bB.getD x.aq.toNat zT) x.row (j.guard.getD x.aq.toNat 0)).1;have hg:j.guard.getD B 0=j.guard[B]'(by omega):=gM _ (by omega);have Bf:=pt.g _ (cR (show B<j.guard.length by omega));have hg8:=h.hg B (by omega);rw[hg]at hg8;obtain⟨L,hL⟩:=fD (show 0<=j.guard[B]'(by omega) by omega);obtain⟨f,hf1,C⟩:=h.hT B (by omega);rw[Fo]at C;have C:∀r,r<j.config.ak.rows.toNat->f r<=j.bA.length+0:=C;rw[O,O5,hg,hL];obtain⟨s1,s2⟩:=hf1.step (by omega) (row:=row) (by omega) (L:=L) (by omega) (by omega) (λr I=>by have:=C r I;omega);rw[s1]
  refine⟨bh λh0=>?_,_,s2,λr I=>?_⟩
  ·have h1:=C row (by omega);rw[Nat.mod_eq_of_lt (by omega)]at h0;omega
  ·have:=C r I;split<;>omega
 have ed:bN j.aF x=⟨j.aF.aE.set B ⟨true,x.row⟩,j.aF.aN⟩:=by unfold bN;rw[Y,O];rfl
 have JW:ck (bN j.aF x) (B:Int)=⟨true,x.row⟩:=by
  rw[ed];unfold ck;rw[bE];exact oz _ (by omega)
 rw[O];have hs:fA (vB (bN j.aF x) λb=>b==B || F b) (cM j)=fA (vB j.aF F) (cM j)+1:=by
  refine JY (B:=B) _ (by unfold cM;omega) (λb _ bY=>?_) ?_
  ·unfold vB;dsimp only;rw[Fl (by omega),show (b==B)=false from beq_eq_false_iff_ne.2 bY,Bool.false_or]
  ·unfold vB;dsimp only;rw[JW,Z,iS];rfl
 have e:=OT j i Y;have eL:dH (λb=>b==B || F b) k (bH j x i)=dH F k j+12:=by
  have e1:kE (bH j x i)=kE j:=by
   rw[e];show (if (bN j.aF x).aN=0 then (1:Int)else 0)=_;rw[ed];rfl
  have e2:(bH j x i).aF=bN j.aF x:=by rw[e];rfl
  have e3:cM (bH j x i)=cM j:=by rw[e];rfl
  have e4:(bH j x i).bA=j.bA:=by rw[e];rfl
  have e5:(bH j x i).az=j.az:=by rw[e];rfl
  unfold dH;rw[e3,e1,e2,e4,e5,hs];omega
 refine⟨?_,by omega⟩;obtain⟨t1,t2⟩:=h.wG U (by omega) (q:=(bH j x i).ready) (by rw[e];rfl) (L:=dH (λb=>b==B ||F b) k (bH j x i)) ⟨λi=>by have:=h.hl.1 i;omega,λa ha=>by have:=h.hl.2 a ha;omega⟩ (by omega);obtain⟨_,t3⟩:=h.wG U (by omega) (q:=(bH j x i).ready) (by rw[e];rfl) (L:=j.now) h.hn (fN _);have J0:(bN j.aF x).aN=0:=by rw[ed];exact mj
 rw[e]at t1 t2 t3 ⊢
 refine⟨h.hq,?_,h.hg,λb D=>?_,λb D=>?_,t1,t2,t3,.inl J0,h.hd,h.hh,h.hb,h.hv,h.hi,λT=>?_⟩
 ·show (bif (rX (bU j x) x).2 then (ia j.config.ak.rows x.row).foldl (je x.aq) (qJ (bU j x) x)else qJ (bU j x) x)=[]
  rw[VH,ax];show (j.pending.filter _)=[]
  rw[h.hp];rfl
 ·show (ck (bN j.aF x) (b:Int)).open_=true/\∃ r∈j.queue,(cv j r.line).aq=(b:Int)/\(cv j r.line).row=(ck (bN j.aF x) (b:Int)).row;by_cases E:b=B
  ·subst E;rw[JW];obtain⟨r,hr1,pX,SU⟩:=I;exact⟨rfl,r,hr1,by rw[pX,hB],SU⟩
  ·rw[Fl (by omega)];rw[show (b==B)=false from beq_eq_false_iff_ne.2 E,Bool.false_or]at D;exact h.hF b D
 ·have D:(b:Int)<aI j.config.ak:=D;show C2 (j.bA.length+(bif b==B || F b then 1 else 0)) j.config.ak.rows.toNat ((j.bB.set x.aq.toNat (rX (bU j x) x).1).getD b zT);rw[O];by_cases E:b=B
  ·subst E;rw[oz _ (by omega),iS];exact auD
  ·rw[getD_set_ne _ (λhh=>E hh.symm),show (b==B)=false from beq_eq_false_iff_ne.2 E,Bool.false_or];exact h.hT b D
 ·have T:(bN j.aF x).aN=1:=T;rw[J0]at T;exact absurd T (by decide)
def auE{T:Type}{l:aa T}{i:Nat}(h:i<l.length){r:T}(C:r∈l):r=l[i]\/r∈l.take i++l.drop (i+1):=by
 have e:l=l.take i++l[i] :: l.drop (i+1):=by
  rw[List.getElem_cons_drop,List.take_append_drop]
 rw[e]at C;rcases gJ.1 C with q|q
 ·exact .inr (gJ.2 (.inl q))
 ·rcases gv.1 q with q | q
  ·exact .inl q
  ·exact .inr (gJ.2 (.inr q))
def auF{T:Type}{l:aa T}{i:Nat}{r:T}(C:r∈l.take i++l.drop (i+1)):r∈l:=by
 rcases gJ.1 C with q|q
 ·exact List.mem_of_mem_take q
 ·exact List.mem_of_mem_drop q
def Hm.rd{p:cK}{S:dL}{Y l1:Int}{F:Nat->Bool}{k:Int}{j:av}(h:Hm p S Y l1 F k j){x:aP}{i:Nat}(Z:cC j.config.ak x=true)(k2:x.kind=2)(hi:i<j.queue.length)(hb:0<=x.aq/\x.aq<aI j.config.ak)(mj:j.aF.aN=0)(ho:(ck j.aF x.aq).open_=true)(agp:(cv j j.queue[i].line).aq=x.aq)(hj:j.now<=dH F k j+12):Hm p S Y l1 (λb=>F b&&b != x.aq.toNat) k (bH j x (i:Int))/\dH F k j+12<=dH (λb=>F b&&b != x.aq.toNat) k (bH j x (i:Int))/\(bH j x (i:Int)).bA.length=j.bA.length+1/\(bH j x (i:Int)).queue=j.queue.take i++j.queue.drop (i+1):=by
 obtain⟨B,hB⟩:=fD hb.1;have hBn:x.aq.toNat=B:=by omega
 rw[hBn];rw[hB]at ho agp;have hq:(bU j x).queue.getD i nI=j.queue[i]:=gM _ hi;have hwf:=(h.hq _ (cR hi)).1;obtain⟨l',er',O,e⟩:∃ (l':aa cB) (er':aa cP) (O:gj),bH j x (i:Int)=pz (bU j x) i ⟨l',j.array.bu,j.array.bg⟩ er' O:=by
  have e0:bH j x (i:Int)=gz (bU j x) i:=by
   unfold bH;rw[k2];rfl
  rw[e0];unfold gz;rw[hq];dsimp only;rw[hwf];exact⟨_,_,_,rfl⟩
 have E:bN j.aF x=j.aF:=by unfold bN;rw[k2];rfl
 have T:∃ d:Int,-2<=d/\fA (vB j.aF λb=>F b&&b != B) (cM j)=fA (vB j.aF F) (cM j)+d:=by
  refine⟨0-vB j.aF F B,by have:=O8 j.aF F B;omega,JY (B:=B) _ (by unfold cM;omega) (λb _ bY=>?_) ?_⟩
  ·unfold vB;dsimp only;rw[show (b != B)=true from bne_iff_ne.2 bY,Bool.and_true]
  ·have:vB j.aF (λb=>F b&&b != B) B=0:=by
    unfold vB;dsimp only;rw[ho,bne_self_eq_false,Bool.and_false];rfl
   rw[this];omega
 obtain⟨d,KG,T⟩:=T;have U:(bH j x (i:Int)).bA.length=j.bA.length+1:=by rw[e];show (j.bA++[O]).length=_;rw[nM];rfl
 have eL:dH (λb=>F b&&b != B) k (bH j x (i:Int))=dH F k j+36+12*d:=by
  have e1:kE (bH j x (i:Int))=kE j:=by
   rw[e];show (if (bN j.aF x).aN=0 then (1:Int)else 0)=_;rw[E];rfl
  have e2:(bH j x (i:Int)).aF=j.aF:=by rw[e];exact E
  have e3:cM (bH j x (i:Int))=cM j:=by rw[e];rfl
  have e5:(bH j x (i:Int)).az=j.az:=by rw[e];rfl
  unfold dH;rw[e3,e1,e2,U,e5,T];omega
 refine⟨?_,by omega,U,by rw[e];rfl⟩;obtain⟨t1,t2⟩:=h.wG Z (by omega) (q:=(bH j x (i:Int)).ready) (by rw[e];rfl) (L:=dH (λb=>F b&&b != B) k (bH j x (i:Int))) ⟨λi=>by have:=h.hl.1 i;omega,λa ha=>by have:=h.hl.2 a ha;omega⟩ (by omega);obtain⟨_,t3⟩:=h.wG Z (by omega) (q:=(bH j x (i:Int)).ready) (by rw[e];rfl) (L:=j.now) h.hn (fN _);have J0:(bN j.aF x).aN=0:=by rw[E];exact mj
 refine⟨?_,?_,?_,?_,?_,t1,t2,?_,?_,?_,?_,?_,?_,?_,?_⟩
 ·rw[e];exact λr D=>h.hq r (auF D)
 ·rw[e];exact h.hp
 ·rw[e];exact h.hg
 ·rw[e];intro b C;rw[aJ,bne_iff_ne]at C;obtain⟨o,r,D,r1,r2⟩:=h.hF b C.1;show (ck (bN j.aF x) (b:Int)).open_=true/\∃ r∈j.queue.take i++j.queue.drop (i+1),(cv j r.line).aq=(b:Int)/\(cv j r.line).row=(ck (bN j.aF x) (b:Int)).row;rw[E]
  refine⟨o,r,(auE hi D).resolve_left λhh=>?_,r1,r2⟩
  rw[hh,agp]at r1;omega
 ·intro b C;have C:(b:Int)<aI j.config.ak:=by rw[e]at C;exact C
  rw[U];rw[e];show C2 (j.bA.length+1+(bif F b&&b != B then 1 else 0)) j.config.ak.rows.toNat (j.bB.getD b zT);obtain⟨f,f1,f2⟩:=h.hT b C
  refine⟨f,f1,λr D=>?_⟩
  have:=f2 r D;have h1:(bif F b then 1 else 0:Nat)<=1:=by cases F b<;>decide
  omega
 ·rw[e]at t3 ⊢;exact t3
 ·rw[e];exact .inl J0
 ·rw[e];exact h.hd
 ·rw[e];exact h.hh
 ·rw[e];exact h.hb
 ·rw[e];exact h.hv
 ·rw[e];exact h.hi
 ·rw[e];intro I;have I:(bN j.aF x).aN=1:=I;rw[J0]at I;exact absurd I (by decide)
def Hs(D l1:Int)(F:Nat->Bool)(c:av)(s:Int):Prop:=(cv c D).aq=(cv c l1).aq->∀b,F b=true->∃e∈c.trace,e.cmd.kind=1/\e.cmd.aq=(b:Int)/\c.now<=e.at_+s/\∀C:Nat,La c.ready C 1<=e.at_/\La c.ready C 2<=e.at_/\La c.ready C 7<=e.at_
def Hs.pr{C l1:Int}{F:Nat->Bool}{c j:av}(h:Hs C l1 F c 4)(r:Pr c j):Hs C l1 F j 5:=λD b hb=>by
 rw[O6 r,O6 r]at D;obtain⟨e,E,I,O,U,T⟩:=h D b hb;have pN:=r.pN;exact⟨e,by rw[r.pE];exact E,I,O,by omega,by rw[r.pR];exact T⟩
def Hs.no{C l1:Int}{F:Nat->Bool}{c:av}{s:Int}(h:∀b,F b=false):Hs C l1 F c s:=λ_ b hb=>by rw[h b]at hb;cases hb
def Hs.gU{D l1:Int}{F:Nat->Bool}{j y:av}{x:aP}(h:(cv j D).aq=(cv j l1).aq->∀ b,F b=true->∃ e∈j.trace,e.cmd.kind=1/\e.cmd.aq=(b:Int)/\j.now<=e.at_+4/\∀ C:Nat,La j.ready C 1<=e.at_/\La j.ready C 2<=e.at_/\La j.ready C 7<=e.at_)(O:cC j.config.ak x=true)(hx:x.kind=4\/x.kind=5)(T:y.trace=j.trace++[⟨j.now,x⟩])(U:y.ready=gx j.config.ak j.ready ⟨j.now,x⟩)(h3:y.now=j.now)(E:∀ l,cv y l=cv j l):Hs D l1 F y 4:=λI b hb=>by
 rw[E,E]at I;obtain⟨e,Y,Z,e2,e3,e4⟩:=h I b hb;have key:∀ (C k:Nat),1<=k/\k<=9->(k:Int)≠x.kind->La y.ready C k=La j.ready C k:=λC k hk bY=>by
  rw[U];rcases OX j.config.ak j.ready ⟨j.now,x⟩ O C k hk with q|⟨_,q,_⟩
  ·exact q
  ·exact absurd q bY
 refine⟨e,by rw[T];exact gJ.2 (.inl Y),Z,e2,by omega,λC=>?_⟩
 rw[key C 1 (by decide) (by omega),key C 2 (by decide) (by omega),key C 7 (by decide) (by omega)];exact e4 C
def Wm{c:av}{i:Nat}(hd:jD c i=true)(C:ow c (dy c i).aq=false)(D:cI c (gI c i)=true)(hp:c.pending=[])(E:(gI c i).kind≠4\/wz c c.queue.length (dy c i).aq=false):gA c i=true:=by
 have I:JL c (dy c i).aq=false:=by unfold JL;rw[hp];rfl
 unfold gA;rw[hd,C,D,I];rcases E with h|h
 ·rw[jQ h];simp
 ·rw[h];simp
def Hm.urg{p:cK}{S:dL}{C l1:Int}{F:Nat->Bool}{k:Int}{j:av}(h:Hm p S C l1 F k j)(hq:Pq j):bP 0 j.az.aC=[]:=by
 cases hu:bP 0 j.az.aC with
 |nil=>rfl
 | cons b l=>
  have:=(V0 hq (b:=b) (by rw[hu];exact .head _)).2.2;have:=h.d1 b.toNat;omega
def Hm.Wn{p:cK}{S:dL}{C l1:Int}{F:Nat->Bool}{k:Int}{j:av}(h:Hm p S C l1 F k j)(b:Int):ow j b=false:=by
 have:=h.d1 b.toNat;unfold ow;exact bh
def agq{c:av}{i:Nat}(hi:i<c.queue.length):dy c i=cv c c.queue[i].line:=by
 rw[<-Vy hi (by rw[AM];exact hi)];exact(JI (by rw[AM];exact hi)).symm
def Hm.O9{p:cK}{S:dL}{C l1:Int}{F:Nat->Bool}{k:Int}{j:av}(h:Hm p S C l1 F k j){i:Nat}(hi:i<j.queue.length):gI j i=(if (ck j.aF (dy j i).aq).open_=true then (if (ck j.aF (dy j i).aq).row=(dy j i).row then ⟨2,(dy j i).aq,0,(dy j i).bW⟩else ⟨4,(dy j i).aq,0,0⟩)else ⟨1,(dy j i).aq,(dy j i).row,0⟩):=by
 unfold gI ou;rw[JH hi,(h.hq _ (cR hi)).1];cases D:(ck j.aF (dy j i).aq).open_ with
 |false=>rw[aW (by decide)];rfl
 | true=>
  rw[aV rfl,bL,ax];by_cases er:(ck j.aF (dy j i).aq).row=(dy j i).row
  ·rw[er,bne_self_eq_false,aV rfl];rfl
  ·rw[gR er,aW er];rfl
def Hm.dP{p:cK}{S:dL}{T l1:Int}{F:Nat->Bool}{k:Int}{j:av}(h:Hm p S T l1 F k j)(hq:Pq j)(U:uZ j.config.bQ)(D:j.aF.aN=0)(Y:j.queue≠[])(Z:dH F k j+12<=j.now):∃ i,i<j.queue.length/\gA j i=true:=by
 have hw:∀r∈j.queue,r.write=false:=λr E=>(h.hq r E).1
 have CK:∀x:aP,gG j.aF x=true->cI j x=true:=λx C=>agm hq U C h.hl.1 (λb=>(h.hN b).2) h.hl.2 Z
 by_cases hh:∃i,i<j.queue.length/\jD j i=true/\fH j i=true
 ·obtain⟨i,hi,hd,hit⟩:=hh;unfold fH CQ at hit;rw[aJ,eG]at hit;have hn:=h.O9 hi;rw[aV hit.1,aV hit.2]at hn;refine⟨i,hi,Wm hd (h.Wn _) (CK _ ?_) h.hp (.inl (by rw[hn];exact(by decide:¬ (2:Int)=4)))⟩;rw[hn];show (j.aF.aN==0&&(ck j.aF (dy j i).aq).open_)=true;rw[D,hit.1];rfl
 ·have O:∀ i,i<j.queue.length->jD j i=true->fH j i=false:=λi hi hd=>Bool.eq_false_iff.2 λhit=>hh ⟨i,hi,hd,hit⟩
  obtain⟨r,E⟩:=List.exists_mem_of_ne_nil _ Y;obtain⟨i,hi,_,mD⟩:=agk E;have hd:jD j i=true:=by rw[agj hw];exact mD
  have hit:=O i hi hd;unfold fH CQ at hit;have hn:=h.O9 hi;have Vz:wz j j.queue.length (dy j i).aq=false:=by
   unfold wz
   refine kT.2 λm C=>?_
   have C:=gi.1 C;cases hdm:jD j m with
   |false=>simp
   |true=>rw[O m C hdm];simp
  refine⟨i,hi,Wm hd (h.Wn _) (CK _ ?_) h.hp (.inr Vz)⟩;rw[hn];cases I:(ck j.aF (dy j i).aq).open_ with
  | false=>
   rw[aW (by decide)];show (j.aF.aN==0 && !(ck j.aF (dy j i).aq).open_)=true;rw[D,I];rfl
  | true=>
   rw[I,cJ]at hit;rw[aV rfl,aW (λe=>by rw[beq_eq_false_iff_ne]at hit;exact hit e)];show (j.aF.aN==0&&(ck j.aF (dy j i).aq).open_)=true;rw[D,I];rfl
def Hm.auG{p:cK}{S:dL}{E l1:Int}{F:Nat->Bool}{k:Int}{j:av}(h:Hm p S E l1 F k j)(hq:Pq j)(Y:uZ j.config.bQ)(Z:j.aF.aN=0)(hs:Hs E l1 F j 5)(dI:∀ i:Nat,j.ready.last.getD i (-1)<=j.now-1)(VG:(cv j E).aq=(cv j l1).aq){b:Nat}(hb:F b=true):∃ e∈j.trace,e.cmd.kind=1/\e.cmd.aq=(b:Int)/\(∀ D:Nat,La j.ready D 1<=e.at_/\La j.ready D 2<=e.at_/\La j.ready D 7<=e.at_)/\j.now<=e.at_+5/\(j.now<=e.at_+4\/∃ i,i<j.queue.length/\gA j i=true):=by
 obtain⟨e,he,e1,e2,e3,O⟩:=hs VG b hb;refine⟨e,he,e1,e2,O,e3,?_⟩;by_cases h4:j.now<=e.at_+4
 ·exact .inl h4
 ·refine .inr ?_;obtain⟨o,r,I,r1,r2⟩:=h.hF b hb;obtain⟨i,hi,hl,mD⟩:=agk I;have ha:dy j i=cv j r.line:=by rw[agq hi,hl]
  have hd:jD j i=true:=by rw[agj λr I=>(h.hq r I).1];exact mD
  have hn:=h.O9 hi;rw[ha,r1,aV o,aV r2.symm]at hn;refine⟨i,hi,Wm hd (h.Wn _) ?_ h.hp (.inl (by rw[hn];exact(by decide:¬ (2:Int)=4)))⟩;rw[hn]
  refine agl hq (λh1=>absurd (show (2:Int)=1 from h1) (by decide)) ?_ λD C k1 k9 h0=>?_
  ·show (j.aF.aN==0&&(ck j.aF (b:Int)).open_)=true;rw[Z,o];rfl
  ·obtain⟨rr,w,q1,q2,q3,q4,et⟩:=Y;have hL:=wF dI D C;have hN:=h.hN D;have h5:=O D;by_cases T:C=9
   ·subst T;omega
   ·rw[et];obtain⟨g1,U⟩:=auA (g:=j.config.ak) (r:=rr) (w:=w) ⟨q1,q2⟩ ⟨q3,q4⟩ (a:=⟨(C:Int),if C<=5 then (D:Int)else 0,0,0⟩) ⟨by dsimp only;omega,by dsimp only;omega⟩ (λhh=>T (by have hh:(C:Int)=9:=hh;omega)) (b:Int) (cv j r.line).bW;dsimp only at U;by_cases k3:C=3
    ·subst k3;omega
    ·by_cases k4:C=4\/C=5\/C=6\/C=8
     ·have:=U (by omega);omega
     ·have:C=1\/C=2\/C=7:=by omega
      rcases this with rfl|rfl|rfl<;>omega
def auH{c:av}(hq:Pq c)(hs:c.aN.state=0)(vF:oq c=true)(hu:bP 0 c.az.aC=[]){x:aP}(hx:x∈r3 c++(nJ c++mQ c)):(x.kind=5/\c.az.aC.getD x.aq.toNat 0 >= 1)\/(x.kind=4/\∀ r∈c.queue,¬ ((cv c r.line).aq=x.aq/\(cv c r.line).row=(ck c.aF x.aq).row)):=by
 have T:∀r∈c.queue,cv c r.line∈gT c:=λr E=>List.mem_map.2 ⟨r,E,rfl⟩
 rcases gJ.1 hx with hx|hx
 ·unfold r3 at hx;have Bg:-1<=eg c/\eg c<c.az.aC.length:=OL _ _;by_cases C:eg c >= 0
  ·rw[aY C,cJ]at hx;cases U:ow c (eg c)with
   |true=>rw[U]at hx;cases hx
   | false=>
    rw[U]at hx;have hx:=gf.1 hx;have D:=(CM (tG (decide (((bP 0 c.az.aC).length:Int) > 0)) c.az.aC (wD c)) (λi=>c.az.aC.getD i 0) c.az.aC.length).resolve_left (λe=>by have e:eg c = -1:=e;omega);have D:tG (decide (((bP 0 c.az.aC).length:Int) > 0)) c.az.aC (wD c) (eg c).toNat=true:=D;unfold tG at D;rw[hu]at D;have D:(decide (c.az.aC.getD (eg c).toNat 0 > 0)&&wD c (eg c).toNat)=true:=D;rw[aJ]at D;have hd:=of_decide_eq_true D.1;unfold fz at hx;rcases yK c (eg c) ⟨5,eg c,0,0⟩with e|⟨e,_⟩
    ·refine .inr ?_;rw[hx,e]
     refine⟨rfl,λr E hh=>?_⟩
     have hi:=D.2;unfold wD at hi;rw[fB,kT]at hi;have:=hi _ (T r E);rw[eG]at this;have Y:(cv c r.line).aq=eg c:=hh.1;omega
    ·refine .inl ?_;rw[hx,e];exact⟨rfl,by dsimp only;omega⟩
  ·rw[bh C]at hx;cases hx
 ·rcases gJ.1 hx with hx | hx
  ·unfold nJ at hx;by_cases C:kS c >= 0
   ·rw[aY C]at hx;have hx:=gf.1 hx;refine .inr ?_;rw[hx]
    refine⟨rfl,λr E hh=>?_⟩
    have I:tH (gT c) c.aF (kS c).toNat=true:=by
     unfold kS CV at C ⊢;cases Z:c.box.bX.eX != 1 with
     |true=>rw[Z,au]at C;exact absurd C (by decide)
     | false=>
      rw[Z,ax]at C;rw[ax];rcases tF (tH (gT c) c.aF) c.aF.aE.length with ⟨e,_⟩|⟨n,_,e,hp,_⟩
      ·omega
      ·rw[e,bE];exact hp
    unfold tH at I;rw[aJ,fB]at I;have O:=I.2;unfold pO at O;rw[kT]at O;have:=O _ (T r E);have eb:(((kS c).toNat:Nat):Int)=kS c:=by omega
    rw[eb]at this;have Y:(cv c r.line).aq=kS c:=hh.1;have h2:(cv c r.line).row=(ck c.aF (kS c)).row:=hh.2;rw[Y,h2,iS,iS]at this;exact this rfl
   ·rw[bh C]at hx;cases hx
  ·have hw0:cE c=0:=by rw[O0 vF,hs];rfl
   unfold mQ at hx;rw[hw0]at hx;cases hx
def Wo{g:aH}(h:Jw g):aI g<=4:=by
 obtain⟨C,D,_⟩:=h;unfold aI;cases cy g with
 |false=>rw[ax];decide
 | true=>
  rw[au];exact(NS (a:=g.bI) (b:=g.aE) (A:=2) (B:=2) (by omega) (by omega) (by omega) (by omega)).2
def auI{g:aH}{t:cg}(C:uZ t){a:aP}(D:a.kind=1){B:Int}(hb:a.aq=B):7<=fy g t a ⟨4,B,0,0⟩:=by
 obtain⟨r,w,E,I,w1,O,rfl⟩:=C;unfold fy pn pg tu jb;dsimp only;rw[D,hb];generalize uK g a _=nb;cases nb<;>simp[aT]<;>omega
def Js(p:cK)(S:dL)(C l1:Int)(a:Nat)(c:av):Prop:=∃F k,Hm p S C l1 F k c/\Hs C l1 F c 4/\(c.queue≠[]->c.now<=dH F k c+11)/\(a<=c.bA.length+c.queue.length\/12<=c.bA.length+c.queue.length)/\c.bA.length<=5
def Jo(p:cK)(S:dL)(C l1:Int)(a:Nat)(c:av):Prop:=6<=c.bA.length\/Js p S C l1 a c
def Js.step{p:cK}{S:dL}{l0 l1:Int}{a u:Nat}{c:av}(h:Js p S l0 l1 a c)(JZ:8<=p.di)(fq:60<=p.dj.sleep)(hn:0<=c.now/\c.now<6*(a:Int)/\c.now<397)(hv:Iv u c)(hu:u<400)(hz:cZ c)(hk:cD c=true)(hc:jB c.config){y:av}(e:vU c=some y):Jo p S l0 l1 a y:=by
 obtain⟨F,k,hm,hs,hw,hA,hR⟩:=h;obtain⟨y',e',y1,y2,y3,y4,y5,j,z2,k2,r,hf,hj⟩:=Wj hv hz hk hc (by omega) hu;rw[e]at e';injection e' with e';subst e';obtain⟨E,C,eL⟩:=hm.pr r hk hc ⟨hn.1,hn.2.2⟩;have hsj:=hs.pr r;have pN:=r.pN;have hq:=Pq.of z2 k2;have FR:jB j.config:=by rw[r.pC];exact hc
 have Pa:=af6 FR;have Wp:=hf.nx z2 k2;have agr:=Wp.2.2.2.2.2;have hql:j.queue.length=c.queue.length:=by rw[r.pQ]
 have Gx:j.bA.length=c.bA.length:=by rw[r.pY]
 have Fm:y.now=j.now:=Wp.1;have Di:=Wp.2.2.1.length_le;by_cases Wq:6<=y.bA.length
 ·exact .inl Wq
 refine .inr ?_;have Wr:a<=y.bA.length+y.queue.length\/12<=y.bA.length+y.queue.length:=by omega
 have U:∀F' E,Hm p S l0 l1 F' E y->Hs l0 l1 F' y 4->(y.queue≠[]->y.now<=dH F' E y+11)->Js p S l0 l1 a y:=λF' E a1 a2 a3=>⟨F',E,a1,a2,a3,Wr,by omega⟩
 have gZ:(j.aF.aE.length:Int)=aI j.config.ak:=hq.p.bl;have pt:=gu.of (Ck.of k2).pa;have dI:∀ i:Nat,j.ready.last.getD i (-1)<=j.now-1:=λi=>by
  have:=hm.hn.1 i;rw[r.pR];omega
 have auJ:AR j:=by
  have:=hv.iT.1;unfold AR at this ⊢;rw[r.pC,r.pE,r.pK,r.pR];exact this
 have yM:∀ l,cv y l=cv j l:=λl=>by
  obtain⟨s1,s2⟩:=hf.sp z2 k2;exact aum s2 s1 l
 have rA:cM j<=4:=by
  have:=Wo FR.1;unfold cM;omega
 have J1:=C.urg hq;have auK:j.config.ak.rows<16:=by have:=FR.1.2.2.1.2;omega
 have AV:j.config.ij=16:=FR.2.2.2.2.2.1;by_cases AX:j.queue=[]
 ·have AY:∀ b,F b=false:=λb=>by
   cases hb:F b with
   |false=>rfl
   | true=>
    obtain⟨_,x,hx,_⟩:=C.hF b hb;rw[AX]at hx;cases hx
  have Zi:j.queue.length=0:=by rw[AX];rfl
  have hyq:y.queue=[]:=vb (by omega);have avd:j.now<=6*(j.bA.length:Int)/\j.now<=30:=by omega
  have hd0:∀ b:Nat,j.az.aC.getD b 0<=0:=by
   rcases C.hd with ⟨_,h1,_⟩|⟨_,_,_,h4⟩
   ·intro b;have:=h1 b;omega
   ·omega
  have vF:oq j=false:=by
   unfold oq;rw[AX,C.hp,J1];rfl
  have hid:=C.hi;have ave:cE j=0\/cE j=6:=by
   unfold cE wh;rw[vF,ax,hq.ps,C.hb.1,bh (show ¬ j.aN.idle >= p.dj.sleep by omega)];rcases C.hw with q|q
   ·rw[q];cases decide (j.aN.idle >= p.dj.down)
    ·exact .inl rfl
    ·exact .inr rfl
   ·rw[q];exact .inl rfl
  have hkd:(fU j).1.kind=0\/(fU j).1.kind=4\/(fU j).1.kind=6:=by
   rcases Fk hq with ⟨_,⟨e,_⟩|e⟩|⟨_,⟨b,hb,e⟩|⟨_,⟨k,kJ,_,e⟩|⟨k,kJ,_,e⟩|e|e⟩⟩
   ·rw[e];exact .inl rfl
   ·rw[e];dsimp only;omega
   ·rw[J1]at hb;cases hb
   ·rw[C.hp]at kJ;exact absurd kJ (Nat.not_lt_zero _)
   ·rw[AX]at kJ;exact absurd kJ (Nat.not_lt_zero _)
   ·rcases OR hq e with ⟨_,_,hd,_⟩ | e | ⟨e,_⟩
    ·have:=hd0 (eg j).toNat;omega
    ·exact .inr (.inl e)
    ·rw[e];dsimp only;omega
   ·rw[e];exact .inl rfl
  obtain⟨pa1,pa2⟩:=C.parts;have avf:=(C.lam rA).1;rcases hf with ⟨_,rfl⟩|⟨T,rfl⟩
  ·exact U F E C (Hs.no AY) λh=>absurd AX h
  ·obtain⟨_,ha,_,_⟩:=AQ z2 hq T;obtain⟨_,_,hx,wE⟩:=v5 ha;simp only[jE,cI,aJ]at T;obtain⟨O,⟨I,_⟩,_⟩:=T;generalize (fU j).1=x at *
   generalize (fU j).2=i at *
   rcases hkd with k0|k4|k6
   ·omega
   ·have ho:(ck j.aF x.aq).open_=true:=by
     unfold gG at I;rw[k4]at I;have I:(j.aF.aN==0&&(ck j.aF x.aq).open_)=true:=I;rw[aJ]at I;exact I.2
    obtain⟨Y,_⟩:=C.pre (i:=i) O k4 ((On O).2 (by omega)) ho (AY _) gZ (by omega);exact U F E Y (Hs.no AY) λh=>absurd hyq h
   ·obtain⟨Y,_⟩:=C.CZ (i:=i) O (.inl ⟨k6,AY⟩) (L:=j.now) C.hn (fN _) (by rw[k6,aW (by decide)];omega);exact U F E Y (Hs.no AY) λh=>absurd hyq h
 ·have hcq:c.queue≠[]:=by rw[<-r.pQ];exact AX
  have Fp:j.now<=dH F E j+12:=by have:=hw hcq;omega
  have vF:oq j=true:=by
   unfold oq;rw[aY (show (j.queue.length:Int) > 0 by have:=List.length_pos_iff.2 AX;omega)];rfl
  rcases C.hw with mj|yd
  ·have jm:j.aN.state=0:=hq.ps.trans mj;have auL:=λD b hb=>C.auG hq Pa mj hsj dI D (b:=b) hb
   have Pb:∀ r∈j.queue,(cv j l0).aq=(cv j l1).aq->(cv j r.line).aq=(cv j l0).aq:=λr hr D=>by
    rcases(C.hq r hr).2 with q|q
    ·rw[q]
    ·rw[q];exact D.symm
   have one:(cv j l0).aq=(cv j l1).aq->∀ b,F b=true->(cv j l0).aq=(b:Int):=λD b hb=>by
    obtain⟨_,x,hx,x1,_⟩:=C.hF b hb;rw[<-Pb x hx D];exact x1
   by_cases AU:∃i,i<j.queue.length/\gA j i=true
   ·obtain⟨i0,Bp,ha0⟩:=AU;obtain⟨i,hi,G6,AZ⟩:=auw hq jm J1 C.hp Bp ha0;obtain⟨q6,avg⟩:=auy G6;obtain⟨a1,a2,a3,a4,a5,a6⟩:=OB hq hi;have ea:=agq hi;have qN:=C.O9 hi;have hkn:(gI j i).kind≠0:=by
     rw[qN];split
     ·split
      ·exact(by decide:¬ (2:Int)=0)
      ·exact(by decide:¬ (4:Int)=0)
     ·exact(by decide:¬ (1:Int)=0)
    rcases hf with ⟨k0,_⟩|⟨T,rfl⟩
    ·rw[AZ]at k0;exact absurd k0 hkn
    ·rw[AZ]at T Fm agr Di Wq Wr U yM ⊢;dsimp only at T Fm agr Di Wq Wr U yM ⊢;simp only[jE,aJ]at T;have O:=T.1;have hx:=(On O).1;obtain⟨e1,e2,e3,e4⟩:=JV (c:=j) (x:=gI j i) (i:=(i:Int)) hx;have J2:=(afK (c:=j) (x:=gI j i) (i:=(i:Int)) hx λ_=>by rw[bE];exact hi).1;have ags:=q6;simp only[cI,aJ]at ags;obtain⟨I,_,Ws⟩:=ags;have Ws:=of_decide_eq_true Ws;cases ho:(ck j.aF (dy j i).aq).open_ with
     | false=>
      rw[ho,aW (by decide)]at qN;generalize hxe:gI j i=x at *
      have Z:x.aq=(dy j i).aq:=by rw[qN]
      have xr:x.row=(dy j i).row:=by rw[qN]
      have xk:x.kind=1:=by rw[qN]
      obtain⟨Y,g2⟩:=C.act (i:=(i:Int)) k2 auK (by omega) O xk (by rw[Z];exact⟨a2,a5⟩) mj (by rw[Z];exact ho) gZ ⟨_,cR hi,by rw[Z,ea],by rw[xr,ea]⟩ Fp
      refine U _ E Y (λD b hb=>?_) λ_=>by omega
      rw[yM,yM]at D;rw[dQ,eG]at hb;have wz:b=x.aq.toNat:=by
       rcases hb with hb|hb
       ·exact hb
       ·have h1:=one D b hb;have h2:=Pb _ (cR hi) D;rw[<-ea,<-Z]at h2;omega
      refine⟨⟨j.now,x⟩,by rw[J2];exact gJ.2 (.inr (gf.2 rfl)),xk,?_,?_,λb'=>?_⟩
      ·show x.aq=(b:Int)
       rw[Z]at wz ⊢;omega
      ·show (bH j x (i:Int)).now<=j.now+4;omega
      ·have:=λkk=>wF (q:=(bH j x (i:Int)).ready) (n:=j.now) (λm=>by rw[e2];exact OY _ _ _ C.hn.1 (fN _) m) b' kk
       exact⟨this 1,this 2,this 7⟩
     | true=>
      rw[ho,aV rfl]at qN;by_cases er:(ck j.aF (dy j i).aq).row=(dy j i).row
      ·rw[aV er]at qN;generalize hxe:gI j i=x at *
       have Z:x.aq=(dy j i).aq:=by rw[qN]
       have xk:x.kind=2:=by rw[qN]
       obtain⟨Y,g2,g3,g4⟩:=C.rd O xk hi (by rw[Z];exact⟨a2,a5⟩) mj (by rw[Z];exact ho) (by rw[Z,ea]) Fp
       refine U _ E Y (λD b hb=>?_) λ_=>by omega
       exfalso;rw[yM,yM]at D;rw[aJ,bne_iff_ne]at hb;have h1:=one D b hb.1;have h2:=Pb _ (cR hi) D;rw[<-ea,<-Z]at h2;exact hb.2 (by omega)
      ·rw[aW er]at qN;generalize hxe:gI j i=x at *
       have Z:x.aq=(dy j i).aq:=by rw[qN]
       have xk:x.kind=4:=by rw[qN]
       have agt:(cv j l0).aq=(cv j l1).aq->∀ b,F b=true->False:=λD b hb=>by
        obtain⟨ev,he,q1,q2,q3,_⟩:=hsj D b hb;have h1:=one D b hb;have h2:=Pb _ (cR hi) D;rw[<-ea]at h2;have h3:=(auJ.gap hq.p.CK Ws ev he).1;have h4:=auI (g:=j.config.ak) Pa q1 (B:=(dy j i).aq) (by rw[q2,h2,h1]);rw[qN]at h3;omega
       have Fo:F x.aq.toNat=false:=by
        cases hF:F x.aq.toNat with
        |false=>rfl
        | true=>
         exfalso;obtain⟨_,rr,ng,q1,q2⟩:=C.hF _ hF;have eB:((x.aq.toNat:Nat):Int)=(dy j i).aq:=by rw[Z];omega
         rw[eB]at q1 q2;have bY:rr.line≠j.queue[i].line:=λhh=>er (by rw[<-q2,hh,<-ea])
         have D:(cv j l0).aq=(cv j l1).aq:=by
          have w1:=(C.hq rr ng).2;have w2:=(C.hq _ (cR hi)).2;rcases w1 with w1|w1<;>rcases w2 with w2|w2
          ·exact absurd (w1.trans w2.symm) bY
          ·rw[<-w1,<-w2,q1,ea]
          ·rw[<-w1,<-w2,q1,ea]
          ·exact absurd (w1.trans w2.symm) bY
         exact agt D _ hF
       obtain⟨Y,g2⟩:=C.pre (i:=(i:Int)) O xk (by rw[Z];exact⟨a2,a5⟩) (by rw[Z];exact ho) Fo gZ Fp;exact U F E Y (Hs.gU (λD b hb=>(agt D b hb).elim) O (.inl xk) J2 e2 e3 yM) λ_=>by omega
   ·have auM:j.now<=dH F E j+11:=by
     refine Classical.byContradiction λhh=>AU ?_
     exact C.dP hq Pa mj AX (by omega)
    have Wt:(cv j l0).aq=(cv j l1).aq->∀ b,F b=true->∃ e∈j.trace,e.cmd.kind=1/\e.cmd.aq=(b:Int)/\j.now<=e.at_+4/\∀ b':Nat,La j.ready b' 1<=e.at_/\La j.ready b' 2<=e.at_/\La j.ready b' 7<=e.at_:=λD b hb=>by
     obtain⟨ev,he,q1,q2,q4,_,q5⟩:=auL D b hb;exact⟨ev,he,q1,q2,q5.resolve_right AU,q4⟩
    rcases hf with ⟨_,rfl⟩|⟨T,rfl⟩
    ·exact U F E C Wt λ_=>auM
    ·have O1:=Fk hq;obtain⟨_,ha,_,_⟩:=AQ z2 hq T;obtain⟨_,_,hx,wE⟩:=v5 ha;simp only[jE,cI,aJ]at T;obtain⟨O,⟨I,_⟩,_⟩:=T;generalize (fU j).1=x at *
     generalize (fU j).2=i at *
     have q7:(x.kind=5/\j.az.aC.getD x.aq.toNat 0 >= 1)\/(x.kind=4/\∀ r∈j.queue,¬ ((cv j r.line).aq=x.aq/\(cv j r.line).row=(ck j.aF x.aq).row)):=by
      rcases O1 with ⟨q,_⟩|⟨_,⟨b,hb,_⟩|⟨_,⟨n,qV,_⟩|⟨n,qV,q,_⟩|q|q⟩⟩
      ·exact absurd jm q
      ·rw[J1]at hb;cases hb
      ·rw[C.hp]at qV;exact absurd qV (Nat.not_lt_zero _)
      ·exact absurd ⟨n,qV,q⟩ AU
      ·exact auH hq jm vF J1 q
      ·rw[q]at hx;exact absurd hx.1 (by decide)
     obtain⟨e1,e2,e3,e4⟩:=JV (c:=j) (x:=x) (i:=i) hx;have J2:=(afK (c:=j) (x:=x) (i:=i) hx λq=>by omega).1;rcases q7 with ⟨k5,Wl⟩|⟨k4,Wa⟩
     ·have ho:(ck j.aF x.aq).open_=false:=by
       unfold gG at I;rw[k5]at I;have I:(j.aF.aN==0 && !(ck j.aF x.aq).open_)=true:=I;rw[aJ,fB]at I;exact I.2
      obtain⟨Y,g2⟩:=C.ref (i:=i) JZ AV O k5 ((On O).2 (by omega)) ho Wl pt.dl pt.tl pt.gl Fp;exact U F E Y (Hs.gU Wt O (.inr k5) J2 e2 e3 yM) λ_=>by omega
     ·have ho:(ck j.aF x.aq).open_=true:=by
       unfold gG at I;rw[k4]at I;have I:(j.aF.aN==0&&(ck j.aF x.aq).open_)=true:=I;rw[aJ]at I;exact I.2
      have Bg:=(On O).2 (by omega);have Fo:F x.aq.toNat=false:=by
       cases hF:F x.aq.toNat with
       |false=>rfl
       | true=>
        exfalso;obtain⟨_,rr,ng,q1,q2⟩:=C.hF _ hF;rw[show ((x.aq.toNat:Nat):Int)=x.aq by omega]at q1 q2;exact Wa rr ng ⟨q1,q2⟩
      obtain⟨Y,g2⟩:=C.pre (i:=i) O k4 Bg ho Fo gZ Fp;exact U F E Y (Hs.gU Wt O (.inl k4) J2 e2 e3 yM) λ_=>by omega
  ·have AY:=C.hP yd;have hwt:cE j=7:=by rw[O0 vF,hq.ps,yd];rfl
   have AZ:fU j=if cI j ⟨7,0,0,0⟩=true then (⟨7,0,0,0⟩,-1)else (uV,-1):=by
    unfold fU;rw[hq.ps,yd,hwt];cases cI j ⟨7,0,0,0⟩<;>rfl
   cases hr:cI j ⟨7,0,0,0⟩with
   | false=>
    rw[hr,aW (by decide)]at AZ;have hy:y=j:=by
     rcases hf with ⟨_,e⟩|⟨hm,_⟩
     ·exact e
     ·rw[AZ]at hm;exact(auk hm).elim
    subst hy
    refine U F E C (Hs.no AY) λ_=>?_
    refine Classical.byContradiction λhh=>?_
    have:=agm hq Pa (x:=⟨7,0,0,0⟩) (by show (y.aF.aN==1)=true;rw[yd];rfl) C.hl.1 (λb=>(C.hN b).2) C.hl.2 (by omega);rw[hr]at this;cases this
   | true=>
    rw[hr,aV rfl]at AZ;rcases hf with ⟨k0,_⟩|⟨T,rfl⟩
    ·rw[AZ]at k0;exact absurd (show (7:Int)=0 from k0) (by decide)
    ·rw[AZ]at T Fm U ⊢;dsimp only at T Fm U ⊢;simp only[jE,aJ]at T;have O:=T.1;have hl7:dH F E j=36*(j.bA.length:Int)+12*(fA (vB j.aF F) (cM j)+0+((cM j:Int)*E-fA (λb=>j.az.aC.getD b 0) (cM j))):=by
      unfold dH kE;rw[yd,aW (by decide)]
     obtain⟨Y,g2⟩:=C.CZ (i:=-1) O (.inr rfl) (L:=dH F E j+12) ⟨λm=>by have:=C.hl.1 m;omega,λm hm=>by have:=C.hl.2 m hm;omega⟩ Fp (by rw[aV rfl,hl7];omega);rw[aV rfl]at g2;exact U F E Y (Hs.no AY) λ_=>by omega
def Js.new{c:fo}{p:cK}(E:jB c)(hp:we p)(I l1:Int):Js p (gB c p).spare I l1 0 (gB c p):=by
 have JP:200<=c.interval/\c.interval<=259:=E.2.2.2.2.1;have b1:=ey c.ak;have O:∀ (n k:Nat),(List.replicate n (0:Int)).getD k 0=0:=λn k=>by
  rw[cS,List.getElem?_replicate];split<;>rfl
 have C:∀ i:Nat,(gB c p).ready.last.getD i (-1) <= -1:=λi=>by
  show (List.replicate (9*(aI c.ak+1)).toNat (-1:Int)).getD i (-1) <= -1;rw[cS,List.getElem?_replicate];split<;>decide
 have hd:∀b:Nat,(gB c p).az.aC.getD b 0=0:=λb=>O _ _
 have hL:0<=dH (λ_=>false) 0 (gB c p):=by
  have h1:=(va (f:=vB (gB c p).aF λ_=>false) (lo:=0) (hi:=2) (cM (gB c p)) λb _=>O8 _ _ _).1;have T:fA (λb=>(gB c p).az.aC.getD b 0) (cM (gB c p))=0:=by
   have:=va (f:=λb=>(gB c p).az.aC.getD b 0) (lo:=0) (hi:=0) (cM (gB c p)) λb _=>by have:=hd b;omega
   omega
  have h3:0<=kE (gB c p):=by unfold kE;split<;>decide
  have U:(gB c p).bA.length=0:=rfl;unfold dH;rw[T,U];omega
 refine⟨λ_=>false,0,⟨λr Y=>(by cases Y),rfl,λb hb=>?_,λb hb=>(by cases hb),λb hb=>?_,λb=>⟨?_,?_⟩,⟨λi=>?_,λa D=>(by cases D)⟩,⟨λi=>?_,λa D=>(by cases D)⟩,.inl rfl,.inl ⟨rfl,hd,?_⟩,rfl,⟨rfl,rfl⟩,rfl,fN _,λ_ _=>rfl⟩,Hs.no λ_=>rfl,λh=>absurd rfl h,.inl (iL _),iL _⟩
 ·have hb:(b:Int)<aI c.ak:=hb;show 8<=(List.replicate (aI c.ak).toNat p.di).getD b 0;rw[cS,List.getElem?_replicate,aV];exact hp.2.1
 ·have hb:(b:Int)<aI c.ak:=hb;show C2 0 c.ak.rows.toNat ((List.replicate (aI c.ak).toNat AS).getD b zT);have Z:(List.replicate (aI c.ak).toNat AS).getD b zT=nH 16:=by
   rw[cS,List.getElem?_replicate,aV];rfl
  rw[Z];exact⟨λ_=>0,nK.new _,λ_ _=>iL _⟩
 ·have:=wF C b 3;omega
 ·have:=wF C b 9;omega
 ·have:=C i;omega
 ·have:=C i;show _<=(0:Int)
  omega
 ·show 200-(0:Int)<=c.interval;omega
def Js.ask{p:cK}{S:dL}{D l1:Int}{a:Nat}{c:av}(h:Js p S D l1 a c)(Y:cD c=true)(Z:jB c.config)(hn:c.now=6*(a:Int)){N:Int}(hv:Rv c N){r:aX}(hid:N<r.id)(hr:nE (dV (fZ c.config.ak c.spare)) (lF c r)=true)(hw:r.write=false)(hl:r.line=D\/r.line=l1):Js p S D l1 (a+1) (jV c r).1:=by
 obtain⟨F,k,C,I,hb,E,O⟩:=h;by_cases T:c.queue.length<12
 ·rw[af8 Y hv hid T hr];have hq:(O7 c r).queue=c.queue++[lF c r]:=rfl;have hlen:(O7 c r).queue.length=c.queue.length+1:=by rw[hq,nM];rfl
  have Gx:(O7 c r).bA.length=c.bA.length:=rfl
  refine⟨F,k,⟨λx hx=>?_,C.hp,C.hg,λb xE=>?_,C.hT,C.hN,C.hl,C.hn,C.hw,C.hd,C.hh,C.hb,C.hv,C.hi,C.hP⟩,I,λ_=>?_,?_,O⟩
  ·rcases gJ.1 hx with hx | hx
   ·exact C.hq x hx
   ·rw[gf.1 hx];exact⟨hw,hl⟩
  ·obtain⟨o,x,hx,x1,x2⟩:=C.hF b xE;exact⟨o,x,gJ.2 (.inl hx),x1,x2⟩
  ·show c.now<=dH F k c+11;by_cases U:c.queue=[]
   ·have rA:cM c<=4:=by
     have:=Wo Z.1;unfold cM;omega
    have:=(C.lam rA).1;rw[U]at E;have E:a<=c.bA.length+0\/12<=c.bA.length+0:=E;omega
   ·exact hb U
  ·dsimp only;omega
 ·rw[af9 r T];exact⟨F,k,C,I,hb,.inr (by dsimp only;omega),O⟩
def Rv.pr{c j:av}{N:Int}(h:Rv c N)(r:Pr c j):Rv j N:=by
 have pN:=r.pN
 refine⟨λx C=>?_,λx C=>?_⟩
 ·rw[r.pQ]at C;have:=h.1 x C;omega
 ·rw[r.pY]at C;exact h.2 x C
structure Ja (p:cK) (S:dL) (l0 l1:Int) (a:Nat) (c:av):Prop where
 jo:Jo p S l0 l1 a c
 jv:Rv c (a:Int)
 js:c.spare=S
def Ja.step{p:cK}{S:dL}{E l1:Int}{a u:Nat}{c:av}(h:Ja p S E l1 a c)(JZ:8<=p.di)(fq:60<=p.dj.sleep)(hn:0<=c.now/\c.now<6*(a:Int)/\c.now<397)(hv:Iv u c)(I:u<400)(O:cZ c)(T:cD c=true)(U:jB c.config){y:av}(e:vU c=some y):Ja p S E l1 a y:=by
 obtain⟨y',C,y1,y2,y3,y4,y5,j,Y,Z,r,hf,hj⟩:=Wj hv O T U (by omega) I;rw[e]at C;injection C with C;subst C;have D:=hf.nx Y Z;refine⟨?_,(h.jv.pr r).nx D,(hf.sp Y Z).1.trans (r.pV.trans h.js)⟩;rcases h.jo with h6|FC
 ·have h1:=D.2.2.2.2.2;have h2:=D.2.2.1.length_le;rw[r.pQ,r.pY]at h1;rw[r.pQ]at h2;exact .inl (by omega)
 ·exact FC.step JZ fq hn hv I O T U e
def Ja.ask{p:cK}{S:dL}{C l1:Int}{a:Nat}{c:av}(h:Ja p S C l1 a c)(E:cD c=true)(U:jB c.config)(hn:c.now=6*(a:Int)){r:aX}(Z:r.id=(a:Int)+1)(I:nE (dV (fZ c.config.ak c.spare)) (lF c r)=true)(hw:r.write=false)(hl:r.line=C\/r.line=l1):Ja p S C l1 (a+1) (jV c r).1:=by
 obtain⟨jo,jv,js⟩:=h;have D:Rv c ((a+1:Nat):Int):=⟨λx hx=>by have:=jv.1 x hx;omega,λx hx=>by have:=jv.2 x hx;omega⟩
 obtain⟨l,O⟩:=af7 c r;refine⟨?_,?_,by rw[O];exact js⟩
 ·rcases jo with Y | FC
  ·refine .inl ?_;rw[O];exact Y
  ·exact .inr (FC.ask E U hn jv (by omega) I hw hl)
 ·by_cases T:c.queue.length<12
  ·rw[af8 E jv (by omega) T I]
   refine⟨λx hx=>?_,D.2⟩
   rcases gJ.1 hx with hx|hx
   ·exact D.1 x hx
   ·rw[gf.1 hx];exact⟨by show r.id<=_;omega,fN _⟩
  ·rw[af9 r T];exact D
def Ja.six{p:cK}{S:dL}{D l1:Int}{c:av}(h:Ja p S D l1 60 c)(E:jB c.config)(hn:c.now=360):6<=c.bA.length:=by
 rcases h.jo with I|⟨F,k,O,_,hb,C,U⟩
 ·exact I
 ·exfalso;have T:cM c<=4:=by
   have:=Wo E.1;unfold cM;omega
  have Y:=(O.lam T).2;have hq:c.queue≠[]:=λh=>by rw[h]at C;have C:60<=c.bA.length+0\/12<=c.bA.length+0:=C;omega
  have:=hb hq;omega
def auN(l:aa Int)(h:l.length<=maxLen):Um l=some true:=by
 unfold Um Tn bR;rw[ay];by_cases agu:(l.length:Int) > 1048576
 ·rw[aY agu];rfl
 ·rw[bh agu,ax];obtain⟨c,p,bf,e1,C,hp⟩:=aus l (by omega);obtain⟨ps,e2,p9,hpb⟩:=apo l (by omega);have fq:60<=p.dj.sleep:=by have:=hp.1.2.2.2.2.2.2;omega
  have h2:=aut (c:=gB c p) (afI C hp) (afJ C hp);have h2:2<=dV (fZ c.ak (gB c p).spare):=h2;have nR:=oa (fZ c.ak (gB c p).spare);rw[e1,ay];dsimp only;rw[e2,ay,atK C hp,ay];dsimp only;rw[ap9,ay,adE,ay];generalize hLn:dV (fZ c.ak (gB c p).spare)=Ln at h2 nR ⊢;have D:(0:Int).toNat<ps.length:=by show 0<ps.length;omega
  have U:(1:Int).toNat<ps.length:=by show 1<ps.length;omega
  have a0:=hpb _ (cR D);have a1:=hpb _ (cR U);obtain⟨z,e,y,rfl,O,E,Y,T,y5,I⟩:=adC (step:=I3) 60 (λk x=>∃ y:av,x=(((),(),true,Ln,(k:Int),()),(y,ps,()))/\cZ y/\cD y=true/\Iv k y/\y.config=c/\y.now=6*(k:Int)/\Ja p (gB c p).spare ((ps[(0:Int).toNat]'D).tmod Ln) ((ps[(0:Int).toNat]'D+ps[(1:Int).toNat]'U).tmod Ln) k y) (λz=>∃ y:av,z = .inl (((),true,()),(y,()))/\cZ y/\cD y=true/\Iv 60 y/\y.config=c/\y.now=6*((60:Nat):Int)/\Ja p (gB c p).spare ((ps[(0:Int).toNat]'D).tmod Ln) ((ps[(0:Int).toNat]'D+ps[(1:Int).toNat]'U).tmod Ln) 60 y) bq (x:=(((),(),true,Ln,(0:Int),()),(gB c p,ps,()))) ⟨gB c p,rfl,afI C hp,afJ C hp,Iv.new C hp,rfl,rfl,.inr (Js.new C hp _ _),⟨λx hx=>(by cases hx),λx hx=>(by cases hx)⟩,rfl⟩ (by
   rintro k hk x ⟨y,rfl,O,E,Y,T,y5,I⟩;have Z:jB y.config:=by rw[T];exact C
   have htm:=I7 (x:=(k:Int)) (n:=2) (by omega) (by decide);unfold I3 aM xG xL;dsimp only;rw[aY (show (k:Int)<60 by omega),au,aO ⟨by decide,D⟩,aO D,aO ⟨by decide,U⟩,aO U,aW (show ¬ Ln=0 by omega)];generalize vm:ps[(0:Int).toNat]'D=v0 at a0 I ⊢;generalize Dn:ps[(1:Int).toNat]'U=v1 at a1 I ⊢;have Gu:(W6 (v0+W6 ((k:Int).tmod 2*v1))).tmod Ln=v0.tmod Ln\/(W6 (v0+W6 ((k:Int).tmod 2*v1))).tmod Ln=(v0+v1).tmod Ln:=by
    have:(k:Int).tmod 2=0\/(k:Int).tmod 2=1:=by omega
    rcases this with q|q
    ·rw[q,Int.zero_mul,aZ (n:=0),Int.add_zero,aZ];exact .inl rfl
    ·rw[q,Int.one_mul,aZ (n:=v1),aZ];exact .inr rfl
   have Oi:0<=(W6 (v0+W6 ((k:Int).tmod 2*v1))).tmod Ln/\(W6 (v0+W6 ((k:Int).tmod 2*v1))).tmod Ln<Ln:=by
    have t0:=I7 (x:=v0) (n:=Ln) (by omega) (by omega);have t1:=I7 (x:=v0+v1) (n:=Ln) (by omega) (by omega);rcases Gu with q|q<;>rw[q]<;>omega
   generalize (W6 (v0+W6 ((k:Int).tmod 2*v1))).tmod Ln=line at Gu Oi ⊢;rw[cc (i:=k)];obtain⟨r,hr⟩:∃r:aX,r=⟨((k+1:Nat):Int),(k:Int).tmod 2,line,false,0,0⟩:=⟨_,rfl⟩
   have fl:nE (dV (fZ y.config.ak y.spare)) (lF y r)=true:=by
    rw[T,I.js,hLn,hr];simp only[nE,lF,aJ];exact⟨br.2 ⟨by omega,by omega⟩,br.2 ⟨by omega,by omega⟩,aY Oi.1,aY Oi.2,by decide,by decide,br.2 ⟨by omega,by omega⟩⟩
   obtain⟨w1,w2,w3⟩:=Y.enq r;have z1:=art y r O;have k1:=(atP E r).1;have hja:=I.ask E Z y5 (r:=r) (by rw[hr];show ((k+1:Nat):Int)=_;omega) fl (by rw[hr]) (by rw[hr];exact Gu);obtain⟨y',f1,f2,f3,f4,f5,f6,f7⟩:=aui (J:=Ja p (gB c p).spare (v0.tmod Ln) ((v0+v1).tmod Ln) (k+1)) w1 hja z1 k1 (by rw[w3];exact Z) (by omega) (n:=6) (by decide) (by omega) λx z g1 g2 g3 g4 g5 g6 g7 g8=>
    g7.step hp.2.1 fq ⟨by omega,by omega,by omega⟩ g3 (by omega) g1 g2 (by rw[g4,w3];exact Z) g8
   rw[<-hr,arq y r O,ay,f1,ay];exact⟨_,rfl,y',rfl,f2,f3,f4,f5.trans (w3.trans T),by omega,f7⟩) (by
   rintro x ⟨y,rfl,O,E,Y,T,y5,I⟩;unfold I3 aM xG xL;dsimp only;rw[bh (show ¬ ((60:Nat):Int)<60 by decide),ax];exact⟨_,rfl,y,rfl,O,E,Y,T,y5,I⟩) (cu)
  have Z:jB y.config:=by rw[T];exact C
  have h6:=I.six Z (by omega);rw[e,ay];simp only[gD];rw[au,aq7 _ O,ay,E,Y.rows E Z,Bool.and_self,au,ary _ O,ay,E,Y.iT.1.saf,Bool.and_self,au,aY (show (y.bA.length:Int) > 5 by omega)]
def auO(C:Value)(w:World)(D:RdL .u8 (λx:Int=>0<=x/\x<=255) w C):Calls Tryz.prog 3 #[C] w λe w'=>e = .returned (.bool true)/\Below w.heap.size w w':=by
 obtain⟨l,hl,_,E⟩:=D;exact akO apm (akP (ai:=[(false,.sl .u8)]) (x:=(l,())) (by kernel_rfl) (auN l hl)) (akQ E)
def uU(c:av):av:=(vU c).getD c
inductive Ln where
 |skip
 |act (a:jk)
 |bad
end Go.Proofs.YtpigmalhjkekiaaGreat
