/-
  Plain laws. Nothing here is a claim.
-/
import Derived.Test.YtgjfmljpdnnihaaGreatPYSleeps
namespace Go.Proofs.YtgjfmljpdnnihaaGreat
set_option linter.defProp false
open Go.RowKit
set_option linter.unusedVariables false
set_option linter.unusedSimpArgs false
set_option maxRecDepth 100000
def ar7{c:au}(T:cG c)(h:Bs c)(U:c.ready.aZ.length <= 4){x:aS}(E:kD c.config.ak c.aI x=true){i:Int}(I:x.kind=2 \/ x.kind=3 -> qJ c i.toNat 100000/\0 <= i):cG (dB c x i):=by
 have⟨hg,hlen,Y,O⟩:=CL E;have Z:cQ c.config.ak x=true:=by
  simp[kD,aK]at E;simp_all
 have w:=h.cz x;have ht:=h.w.t;have AY:=h.tl;have z:=ar3 T U (by omega) x;have C:∀k,cG (AX (cz c x) k):=λk=>Oi z z.2.2.2.1 z.2.2.2.2.2.1 z.2.2.2.2.2.2.1 z.2.2.2.2.2.2.2.1 z.2.2.2.2.2.2.2.2.1 _
 unfold dB;rcases kinds Y with q|q|q|q|q|q|q|q|q<;>rw[q]<;>simp
 ·have⟨D,yh⟩:=O (by omega);have⟨r0,r1⟩:=Oh Z q;exact ar4 z w x D (by show _<aL c.config.ak;omega) r0 r1
 ·exact ae9 z ((I (.inl q)).1.cz x)
 ·exact ae9 z ((I (.inr q)).1.cz x)
 ·exact z
 ·have⟨D,yh⟩:=O (by omega);exact ar5 z w D (by show x.ay<aL c.config.ak;omega)
 ·exact C 6
 ·exact C 7
 ·exact C 8
 ·exact ar6 (C 9) ⟨w.hB,w.g,w.a,w.k,w.p,w.t,w.d,w.r⟩ _ (by show (c.bB.length:Int) <= aL c.config.ak;omega)
def qK(c:au)(b:Int):Bool:=decide (c.aB.aD.getD b.toNat 0 >= 4)
def JA(c:au)(b:Int):Bool:=c.pending.any λa=>a.ay==b
def fK(c:au)(i:Nat):aS:=nu c.aI (cV c i) (qG c.queue i)
def ar8(c:au)(i:Nat):Bool:=decide (c.now-(qH c i).at_<c.box.bT.cap)
def kZ(c:au)(i:Nat):Bool:=
 nv c i&&(!qK c (cV c i).ay&&(cC c (fK c i)&&(!(((fK c i).kind==1 ||(fK c i).kind==4)&&JA c (cV c i).ay) && !((fK c i).kind==4&&(Jy c c.queue.length (cV c i).ay&&ar8 c i)))))
def Vj{l:aa Int}{b:Int}(C:0 <= b)(h:b.toNat<l.length):∀ i:Nat,(((i:Int)+b)∈bO i l) ↔ l.getD b.toNat 0 >= 4:=by
 obtain⟨n,rfl⟩:=fS C;rw[bE]at *
 clear C
 induction l generalizing n with
 |nil=>simp at h
 | cons d l E=>
  intro i;have I:∀ x∈bO (i+1) l,(i:Int)+1 <= x:=λx D=>by
   have⟨j,O,_,_⟩:=aeM D;omega
  have e:bO i (d::l)=bif decide (d >= 4)then (i:Int)::bO (i+1) l else bO (i+1) l:=rfl
  grind
def Vk{c:au}{b:Int}(E:c.aB.aD.length <= 8)(C:0 <= b)(h:b.toNat<c.aB.aD.length):vW (bO 0 c.aB.aD) b=some (qK c b):=by
 have I:=UY 0 c.aB.aD;have D:=Vj C h 0;rw[dz,Int.zero_add]at D;unfold vW;rw[NL _ _ (by omega),ax];congr 1;unfold qK jm
 grind
def afa{c:au}(h:Pq c){i:Nat}(hi:i<c.queue.length):cQ c.config.ak (fK c i)=true:=arp _ (Jx h hi).1
def wE(c:au):Nat->aa Bool
 |0=>List.replicate 4 false
 |k+1=>bif kZ c k then (wE c k).set (qH c k).dR.toNat true else wE c k
def JB(c:au):∀ k,(wE c k).length=4
 |0=>rfl
 | k+1=>by
  have C:=JB c k;show (bif kZ c k then _ else _:aa Bool).length=4
  grind
def ar9{c:au}{Y:aa Int}{U:aa aP}{Z:Int×Int×Int×Int×aj}{P:Int×Int×Int×Int×Int×(aa Int)×Int×Int×aj}{I hit eZ wait:aa Bool}{T:aa (Int×Bool)}{Vl:aa aS}{k:Nat}{r:aV}{a:aP}{nd:aS}{ct rd ib:Bool}(hq:c.queue.length<=12)(hk:k<c.queue.length)(hr:c.queue[k]=r)(h2:k<U.length)(ha:U[k]=a)(h3:k<I.length)(C:k<eZ.length)(h5:Vl.length=k)(D:0<=r.dR)(E:r.dR.toNat<wait.length)(e1:Cw c.aI a r.write=some nd)(e2:vW Y a.ay=some ct)(e3:iO c nd=some rd)(e4:Cv c.pending a.ay=some ib)(b1:0<=r.at_/\r.at_<=1000000)(b2:0<=c.now/\c.now<=1000000):
  Cy ((Y,U,(),(),(),(),(),(),(),(),(),c.queue,(c.queue.length:Int),(k:Int),()),(c,Z,P,I,hit,T,Vl,eZ,wait,()))=some (.inl ((Y,U,(),(),(),(),(),(),(),(),(),c.queue,(c.queue.length:Int),((k+1:Nat):Int),()),(c,Z,P,I,hit,T,Vl++[nd],eZ.set k (I[k]&&(!ct&&(rd&&(!((nd.kind==1 ||nd.kind==4)&&ib) && !(nd.kind==4&&(mc T a.ay&&decide (c.now-r.at_<P.2.1))))))),(bif (I[k]&&(!ct&&(rd&&(!((nd.kind==1 ||nd.kind==4)&&ib) && !(nd.kind==4&&(mc T a.ay&&decide (c.now-r.at_<P.2.1)))))))then wait.set r.dR.toNat true else wait),()))):=by
 have hw:W6 (c.now-r.at_)=c.now-r.at_:=bf;unfold Cy aM xG xI xL;dsimp only;rw[aY,aq,aO ⟨by omega,by omega⟩,aO ⟨by omega,by omega⟩,aO ⟨by omega,by omega⟩];simp only[bE,hr,ha,e1,ax,h5,List.length_singleton,eO (show k+1<1073741824 by omega),aq,e2,e3,e4,hw,bY (show k<4611686018427387904 by omega)];by_cases O:nd.kind=1
 ·have k4:(nd.kind==(4:Int))=false:=by rw[O];rfl
  have O:(nd.kind==(1:Int))=true:=by rw[O];rfl
  simp only[O,k4,aq,av,Bool.true_or,cM,Bool.false_and,Bool.not_false,Bool.and_true];rw[aO ⟨by omega,by omega⟩,aO];cases I[k]<;>cases ct<;>cases rd<;>cases ib<;>simp[C,D,E]
 ·have O:(nd.kind==(1:Int))=false:=by simpa using O
  simp only[O,av,Bool.false_or];rw[aO ⟨by omega,by omega⟩,aO];cases nd.kind==(4:Int)with
  |false=>cases I[k]<;>cases ct<;>cases rd<;>cases ib<;>simp[C,D,E]
  | true=>
   cases I[k]with
   |false=>simp[C,D,E]
   | true=>
    cases ct with
    |true=>simp[C,D,E]
    | false=>
     cases rd with
     |false=>simp[C,D,E]
     | true=>
      cases ib with
      |true=>simp[C,D,E]
      | false=>
       cases mc T a.ay with
       |false=>simp[C,D,E]
       | true=>
        by_cases hc:c.now-r.at_<P.2.1
        ·simp[C,D,E,hc]
        ·simp[C,D,E,hc]
def JC(y x:aS):Bool:=(y.kind==x.kind)&&((y.ay==x.ay)&&((y.row==x.row)&&((y.bZ==x.bZ)&&true)))
def JD(c:au)(x:aS)(i:Int):Bool:=aT i 0 ((c.queue.length:Int)-1)&&(decide ((c.cc.length:Int)<400)&&JC (nu c.aI (iB c (c.queue.getD i.toNat od).line) (c.queue.getD i.toNat od).write) x)
def kJ(c:au)(x:aS)(i:Int):Bool:=cQ c.config.ak x&&(cC c x&&(!decide ((c.trace.length:Int) >= 2000)&&bif x.kind==2 ||x.kind==3 then JD c x i else i == -1 ||aT i 0 ((c.queue.length:Int)-1)))
def afb{c:au}(h:Pq c){i:Int}(hi:aT i 0 ((c.queue.length:Int)-1)=true):∃ C:i.toNat<c.queue.length,0 <= i/\c.queue.getD i.toNat od=c.queue[i.toNat]/\vX c c.queue[i.toNat].line=some (iB c c.queue[i.toNat].line,true)/\Cw c.aI (iB c c.queue[i.toNat].line) c.queue[i.toNat].write=some (nu c.aI (iB c c.queue[i.toNat].line) c.queue[i.toNat].write):=by
 have D:=br.1 hi;have C:i.toNat<c.queue.length:=by omega
 have⟨E,I⟩:=Od h (dc C);have⟨_,O,T,_⟩:=uK I;have U:=h.p.bl;have Y:=eG c.config.ak;exact⟨C,D.1,iC _ C,E,aeO _ O (by omega) (by omega)⟩
def asa{c:au}(T:cG c)(h:Pq c)(x:aS)(i:Int):sZ c x i=bif kJ c x i then (IF c x i).bind (λy=>some (y.2.1,true))else some (c,false):=by
 have Z:=h.ql;unfold sZ kJ xI;rw[Jk c T,ax,CO c T,ax,h.p.ok,bL,av];cases U:cQ c.config.ak x with
 | false=>
  have e:iO c x=some false:=by
   unfold iO;rw[Uv,U,Bool.false_and,Bool.and_false];rfl
  rw[e];rfl
 |true=>
 rw[yH h.p U,ax];cases cC c x with
 |false=>rfl
 |true=>
 rw[bL,av];cases decide ((c.trace.length:Int) >= 2000)with
 |true=>rfl
 |false=>
 rw[av,cM,cM,Bool.not_false,cM,c9,bf (n:=(c.queue.length:Int)-1),ax];unfold JD;cases hi:aT i 0 ((c.queue.length:Int)-1)with
 | true=>
  have⟨C,D,Y,f1,f3⟩:=afb h hi;rw[gv (show ¬ i = -1 by omega),bL,av,aq,av,cM,Bool.or_true,Y];by_cases E:x.kind=2
  ·rw[show (x.kind==2)=true by rw[E];rfl,aq,Bool.true_or,aq];by_cases I:(c.cc.length:Int)<400
   ·rw[aY I,bq (show ¬ (c.cc.length:Int) >= 400 by omega),av,aO ⟨D,C⟩];dsimp only;rw[f1,ax,aO ⟨D,C⟩,f3,ax];unfold JC
    grind
   ·grind
  ·rw[jS E,av,Bool.false_or];by_cases O:x.kind=3
   ·rw[show (x.kind==3)=true by rw[O];rfl,aq,aq];by_cases I:(c.cc.length:Int)<400
    ·rw[aY I,bq (show ¬ (c.cc.length:Int) >= 400 by omega),av,aO ⟨D,C⟩];dsimp only;rw[f1,ax,aO ⟨D,C⟩,f3,ax];unfold JC
     grind
    ·grind
   ·grind
 | false=>
  rw[Bool.false_and,Bool.not_false,aq,Bool.or_false];by_cases E:x.kind=2
  ·simp_all
  ·rw[jS E,av,Bool.false_or];by_cases O:x.kind=3
   ·simp_all
   ·rw[jS O,av,av];by_cases e:i = -1
    ·simp_all
    ·grind
def JE{c:au}(D:cG c)(h:Pq c){x:aS}{i:Int}(E:kJ c x i=true):Bs c/\kD c.config.ak c.aI x=true/\(x.kind=2 \/ x.kind=3 -> qJ c i.toNat 100000/\0 <= i)/\c.ready.aZ.length <= 4:=by
 simp only[kJ,aK,gk,qO]at E;have⟨O,I,Z,C⟩:=E;simp[cC,aK]at I
 refine⟨Bs.of D h.p.ok (by omega),?_,λT=>?_,(E3 h.p.UX).2.2⟩
 ·unfold kD;rw[h.p.rk,O,I.1];rfl
 ·have e:(x.kind==2 || x.kind==3)=true:=by rcases T with q | q <;>rw[q] <;>rfl
  rw[e,aq]at C;simp[JD,aK,fq]at C;have⟨U,Y,_⟩:=afb h C.1;exact⟨qJ.of D h.p.ok U (by omega),Y⟩
structure Ck (c:au):Prop where
 f1:n7 c.config c.box.bT=true
 f2:n7 c.config c.box.next=true
 nw:aT c.now 0 1000000=true
 rk:kC c.config.ak c.aI=true
 rd:jn c.config.ak c.ready=true
 ar:nj c.config.ak c.array=true
 sp:qB c.config.ak c.spare=true
 se:c.spare.cS=c.config.cS
 rf:fN c.aB=true
 pa:th c=true
 qu:gD (eA (gQ c.config.ak c.spare)) c.queue=true
 sh:jV c.shares=true
 sl:(c.shares.length:Int)=4
 dr:qw c.drain=true
 pw:kX c.aN=true
 ps:c.aN.state=c.aI.aN
 si:c.aN.since<=c.now
 s1:aT c.eg.every 1 100000=true
 s2:aT c.eg.wait 1 c.eg.every=true
 s3:aT c.eg.next 0 (W6 (eA c.config.ak-1))=true
 er:n5 c.errors=true
 tr:c.trace.length<=2000
 rp:c.cc.length<=400
def Ck.of{c:au}(h:cA c=true):Ck c:=by
 simp[cA,aK,ff,fq,gk,qO]at h;have⟨C,D,E,I,O,T,U,Y,⟨Z,h9'⟩,yz,uQ,qc,oY,s7,s8,uF,AJ,CR,CS,E8,Ay,E9⟩:=h;exact⟨C,D,E,I,O,T,U,Y,Z,h9',yz,uQ,qc,oY,s7,s8,by omega,AJ,CR,CS,E8,by omega,by omega⟩
def Ck.ok{c:au}(h:Ck c):cA c=true:=by
 have⟨C,D,E,I,O,T,U,Y,Z,h9',yz,uQ,qc,oY,s7,s8,uF,AJ,CR,CS,E8,Ay,E9⟩:=h;simp[cA,aK,ff,fq,gk,qO]
 grind
def afc:∀ (l:aa Nat) (a:Nat),l.Pairwise (λx y=>x≠y) -> l.length <= (l.filter (λx=>decide (x≠a))).length+1
 |[],a,_=>by simp
 | x :: l,a,h=>by
  have⟨C,D⟩:=List.pairwise_cons.1 h;by_cases e:x=a
  ·subst e;have:(x :: l).filter (λy=>decide (y≠x))=l:=by
    rw[List.filter_cons_of_neg (by simp)];exact List.filter_eq_self.2 λy E=>by simpa using (C y E).symm
   grind
  ·rw[List.filter_cons_of_pos (by simpa using e)];have:=afc l a D;simp only[mN];omega
def Vm:∀ (n:Nat) (l:aa Nat),(∀ x∈l,x<n)->l.Pairwise (λx y=>x≠y)->l.length<=n
 | 0,l,h,_=>by
  cases l with
  |nil=>simp
  |cons x l=>exact absurd (h x (.head _)) (by omega)
 | n+1,l,h,C=>by
  have E:=afc l n C;have I:=Vm n (l.filter (λx=>decide (x≠n))) (λx D=>by
   have:=List.mem_filter.1 D;have O:=h x this.1;have T:x≠n:=by simpa using this.2
   omega) (C.filter _)
  omega
def CZ.pw{l:aa aP}(h:CZ l):l.Pairwise (λx y=>x≠y):=by
 rw[List.pairwise_iff_getElem];intro i j hi D I e;have C:=h j D;rw[nD]at C;have E:l[i]∈l.take j:=by
  rw[List.mem_take_iff_getElem]
  grind
 exact C _ E (Js.2 e.symm)
def CZ.mk{l:aa aP}(h:l.Pairwise (λx y=>x≠y)):CZ l:=by
 rw[List.pairwise_iff_getElem]at h;intro j C;rw[nD];intro x D e;obtain⟨i,hi,rfl⟩:=List.mem_take_iff_getElem.1 D;exact h i j _ C (by omega) (Js.1 e).symm
structure gi (c:au):Prop where
 dl:(c.aB.aD.length:Int)=aL c.config.ak
 tl:(c.bB.length:Int)=aL c.config.ak
 gl:(c.guard.length:Int)=aL c.config.ak
 t:∀x∈c.bB,lO x=true
 g:∀x∈c.guard,3<=x/\x<=1000
 pd:∀a∈c.pending,fM c.config.ak a=true/\a.bZ=0
 u:c.pending.Pairwise (λx y=>x≠y)
def gi.of{c:au}(h:th c=true):gi c:=by
 simp[th,aK,ff,bS,gq]at h;have⟨E,I,O,g4,T,U⟩:=h;have key:=λi C Y=>by
  have:=T i C;unfold partAt at this;rw[bK C,bK Y,aK,br]at this;exact this
 have Z:∀ i _,fM _ c.pending[i]=true/\c.pending[i].bZ=0/\(c.pending.take i).any _=false:=λi C=>by
  have:=U i C;unfold AI at this;rw[bK C]at this
  simpa [aK]using this
 refine⟨E,I,O,λx D=>?_,λx D=>?_,λa ha=>?_,CZ.pw λi hi=>(Z i hi).2.2⟩
 ·obtain⟨i,hi,rfl⟩:=jY.1 D
  grind
 ·obtain⟨i,hi,rfl⟩:=jY.1 D
  grind
 ·obtain⟨i,hi,rfl⟩:=jY.1 ha;simp[*]
def asb{g:aH}{l:aa aP}(D:∀ a∈l,fM g a=true/\a.bZ=0)(T:l.Pairwise (λx y=>x≠y)):l.length <= 128:=by
 have E:∀ a∈l,0 <= a.ay/\a.ay<8/\0 <= a.row/\a.row<16:=λa C=>by
  have⟨I,Z,h3,h4,h5,_⟩:=uK (D a C).1;have b1:=eG g;have b2:=fY I;omega
 have I:=Vm 128 (l.map λa=>(a.ay*16+a.row).toNat) (λx U=>by
  obtain⟨a,C,rfl⟩:=List.mem_map.1 U;have:=E a C;omega) (by
  rw[List.pairwise_map]
  refine T.imp_of_mem λ{a b} C O Y e=>Y ?_
  have r1:=E a C;have r2:=E b O;have c1:=(D a C).2;have c2:=(D b O).2;cases a;cases b;simp only at *
  congr 1<;>omega)
 simp_all
def gi.ok{c:au}(h:gi c):th c=true:=by
 have⟨E,I,O,Y,Z,C,D⟩:=h;have hl:=asb C D;have T:=CZ.mk D;simp[th,aK,ff,gk,qO,bS,gq]
 refine⟨E,I,O,by omega,λi hi=>?_,λi hi=>?_⟩
 ·have U:i<c.guard.length:=by omega
  unfold partAt;rw[bK hi,bK U,aK,br];simp_all
 ·unfold AI;rw[bK hi];simp only[aK,ff,gk];exact⟨(C _ (dc hi)).1,(C _ (dc hi)).2,T i hi⟩
def asc{g:aH}{b n:Int}{l:aa aP}(I:fM g ⟨b,n,0⟩=true)(O:∀ a∈l,fM g a=true/\a.bZ=0)(C:l.Pairwise (λx y=>x≠y)):(∀ a∈iY b l n,fM g a=true/\a.bZ=0)/\(iY b l n).Pairwise (λx y=>x≠y):=by
 unfold iY;cases h:l.any _ with
 |true=>simp_all
 | false=>
  rw[av];rw[nD]at h
  refine⟨λa T=>?_,?_⟩
  ·grind
  ·rw[List.pairwise_append]
   refine⟨C,List.pairwise_singleton _ _,λx D y E e=>?_⟩
   rw[gL.1 E]at e;exact h x D (Js.2 e.symm)
def afd{g:aH}{b:Int}:∀ (ns:aa Int) {l:aa aP},(∀ n∈ns,fM g ⟨b,n,0⟩=true) -> (∀ a∈l,fM g a=true/\a.bZ=0) -> l.Pairwise (λx y=>x≠y) -> (∀ a∈ns.foldl (iY b) l,fM g a=true/\a.bZ=0)/\(ns.foldl (iY b) l).Pairwise (λx y=>x≠y)
 |[],l,_,C,D=>⟨C,D⟩
 | n :: ns,l,E,C,D=>by
  have⟨I,O⟩:=asc (E n (.head _)) C D;exact afd ns (λm T=>E m (.tail _ T)) I O
def Fi{T:Type}{p:T -> Prop}{l:aa T}{i:Nat}{x:T}(h:∀y∈l,p y)(C:p x):∀y∈l.set i x,p y:=by grind
def asd{t:cJ}(h:lO t=true)(row cF:Int):lO (mH t row cF).1=true:=by
 unfold mH
 grind
def afe{k:Int}(h:aT k 1 16=true):lO (oc k)=true:=by
 have C:=br.1 h;simp only[lO,oc,aK,ff,bS,jX,br]
 refine⟨by omega,trivial,by omega,λi hi=>?_⟩
 rw[NM (by simpa using hi) (by simpa using hi)];simp[aT]
def Oj{c:fl}{p:dD}(C:p.weights.length<1073741823)(h:n7 c p=true):3 <= p.dG/\p.dG <= 1000:=by
 have⟨_,f2⟩:=CX C h;simp[yC,aK,br]at f2;simp_all
def C2{g:aH}{a:dj}(C:cx g=true)(h:fz g 100000 a):nj g a=true:=by
 simp only[nj,aK,fq,bS]
 refine⟨C,h.cells,h.bu,h.bg,λc D=>Sy.ok (h.syms c D),λp E=>?_⟩
 have⟨x,y⟩:=p;have⟨I,O⟩:=List.of_mem_zip E;simp[yB,aK,br];exact⟨h.EX x I,h.hit y O⟩
def ase{g:aH}{c:aS}(h:cQ g c=true):qy g (gE g c).toNat=true:=by
 have⟨E,D,I,_⟩:=oX h;have⟨O,T⟩:=E2 h;unfold qy;unfold gE at *
 cases C:aT _ 1 5 with
 | true=>
  have C:=br.1 C
  grind
 | false=>
  have U:¬ c.kind <= 5:=λh=>by rw[br.2 ⟨D.1,h⟩]at C;cases C
  grind
def aff{l:aa Int}(h:∀ i,i<l.length -> qz l i=true){i:Nat}(hi:i<l.length):aT l[i] 0 1000000=true:=by
 have:=h i hi;cases i with
 |zero=>rw[NO]at this;exact this
 |succ i=>rw[Je,aK]at this;exact this.1
def afg{l:aa Int}(h:∀ i,i<l.length -> qz l i=true){i:Nat}(hi:i+1<l.length):l[i]<l[i+1]:=by
 have:=h _ hi;rw[Je hi,aK,gk,qO]at this;omega
def afh{l:aa Int}(C:∀ i (hi:i<l.length),aT l[i] 0 1000000=true)(D:∀ i (hi:i+1<l.length),l[i]<l[i+1]):∀ i,i<l.length -> qz l i=true:=λi hi=>by
 cases i with
 |zero=>rw[NO];exact C 0 hi
 | succ i=>
  have:=D i hi;rw[Je hi,aK,gk,qO];simp_all
def asf{l:aa Int}(h:∀ i,i<l.length -> qz l i=true){x:Int}(O:aT x 0 1000000=true)(D:tj ⟨[],l⟩ x=false):∀ i,i<(l++[x]).length -> qz (l++[x]) i=true:=by
 refine afh (λi hi=>?_) λi hi=>?_
 ·by_cases C:i<l.length
  ·rw[List.getElem_append_left];exact aff h C
  ·grind
 ·have E:i<l.length:=by simp at hi;omega
  by_cases C:i+1<l.length
  ·rw[List.getElem_append_left C,List.getElem_append_left];exact afg h C
  ·have e:i+1=l.length:=by omega
   have I:(l++[x])[i+1]=x:=by simp[e]
   rw[I,List.getElem_append_left E];unfold tj at D
   grind
def asg{l:aa Int}(h:∀ i,i<l.length -> qz l i=true)(k:Nat):∀ i,i<(l.drop k).length -> qz (l.drop k) i=true:=by
 refine afh (λi hi=>?_) λi hi=>?_
 ·rw[List.getElem_drop];exact aff h _
 ·rw[List.getElem_drop,List.getElem_drop];rw[List.length_drop]at hi;exact afg h _
def afi{g:aH}{r:dN}(e:bH)(h:jn g r=true):jn g (fO g r e)=true:=by
 unfold fO;cases C:jn g r&&(cQ g e.cmd&&(aT e.at_ 0 1000000 && !(e.cmd.kind==1&&tj r e.at_)))with
 |false=>exact h
 | true=>
  rw[aq];simp only[aK,gk]at C;have⟨_,O,D,E⟩:=C;simp only[jn,aK,ff,gk,qO,bS,gq]at h ⊢;have⟨T,U,Y,Z,I⟩:=h
  refine⟨T,by rw[jb];exact U,?_,λi hi=>?_,?_⟩
  ·cases e.cmd.kind==1 with
   |false=>exact Y
   | true=>
    rw[aq];unfold AK
    grind
  ·rw[jb]at hi;have hb:=Z i hi;rw[NN hi]at hb;rw[NN (by rw[jb];exact hi)];by_cases e':(gE g e.cmd).toNat=i
   ·subst e';rw[List.getElem_set_self,ase O];have:=br.1 D;rw[br.2 ⟨by omega,by omega⟩];rfl
   ·simp_all
  ·cases hk:e.cmd.kind==1 with
   |false=>exact I
   | true=>
    rw[hk]at E;exact asg (asf I D E) _
structure Qk (n:Int) (q:List aV):Prop where
 r:∀x∈q,nZ n x=true
 b:q.Pairwise λx y=>fm x y=true
 i:q.Pairwise λx y=>x.id≠y.id
 l:q.length<=12
def ash{x y z:aV}(C:fm x y=true)(D:fm y z=true):fm x z=true:=by
 simp only[fm,dZ,aK,fq,ff]at *
 omega
def Qk.of{n:Int}{q:aa aV}(h:gD n q=true):Qk n q:=by
 have I:=h;simp only[gD,aK,bS,gq,fq]at h;have⟨E,Y⟩:=h;have O:∀ x∈q,nZ n x=true:=λx T=>by
  obtain⟨i,hi,rfl⟩:=jY.1 T;have:=E i hi;unfold rH at this;simp_all
 have Z:∀ j i (D:i<j) (C:j<q.length),fm q[i] q[j]=true:=by
  intro j
  induction j with
  |zero=>simp_all
  | succ j U=>
   intro i D C;have:=E (j+1) C;rw[NI C,aK,aK]at this;by_cases e:i=j
   ·simp_all
   ·exact ash (U i (by omega) _) this.2.1
 refine⟨O,?_,?_,by omega⟩
 ·rw[List.pairwise_iff_getElem]
  grind
 ·rw[List.pairwise_iff_getElem];intro i j hi C D e;have:=UM I D C;simp_all
def Qk.ok{n:Int}{q:aa aV}(h:Qk n q):gD n q=true:=by
 have⟨C,D,E,O⟩:=h;rw[List.pairwise_iff_getElem]at D E;simp[gD,aK,bS,gq,fq]
 refine⟨λi hi=>?_,by omega⟩
 cases i with
 |zero=>rw[adY hi];exact C _ (dc hi)
 | succ i=>
  rw[NI hi,aK,aK,gk];refine⟨C _ (dc hi),D i (i+1) (by omega) hi (by omega),?_⟩;rw[nD];intro x I e;obtain⟨k,T,rfl⟩:=List.mem_take_iff_getElem.1 I
  grind
def Qk.sub{n:Int}{q s:aa aV}(h:Qk n q)(C:s.Sublist q):Qk n s:=
 ⟨λx D=>h.r x (C.subset D),h.b.sublist C,h.i.sublist C,Nat.le_trans C.length_le h.l⟩
def afj{T:Type}(l:aa T)(i:Nat):(l.take i++l.drop (i+1)).Sublist l:=by
 rw[<-List.eraseIdx_eq_take_drop_succ];exact List.eraseIdx_sublist l i
def asi(e x:cI):Prop:=¬ (e.line=x.line/\e.code=x.code)
structure Ek (l:List cI):Prop where
 e:∀x∈l,AG x=true
 k:l.Pairwise asi
 l:l.length<=6
def Vn{e x:cI}:qx e x=true ↔ x.line=e.line/\x.code=e.code:=by
 simp only[qx,aK,ff]
def Ek.of{l:aa cI}(h:n5 l=true):Ek l:=by
 simp[n5,aK,bS,gq,fq]at h;have⟨D,O⟩:=h;have key:=λi hi=>by
  have:=D i hi
  rwa [Uq hi,aK,gk]at this
 refine⟨λx E=>?_,?_,by omega⟩
 ·obtain⟨i,hi,rfl⟩:=jY.1 E
  grind
 ·rw[List.pairwise_iff_getElem];intro i j hi I T e;have C:=(key j I).2;rw[nD]at C;exact C l[i] (List.mem_take_iff_getElem.2 ⟨i,by omega,rfl⟩) (Vn.2 e)
def Ek.ok{l:aa cI}(h:Ek l):n5 l=true:=by
 have⟨D,C,I⟩:=h;rw[List.pairwise_iff_getElem]at C;simp only[n5,aK,bS,gq,fq]
 refine⟨λi hi=>?_,by omega⟩
 rw[Uq hi,aK,gk];refine⟨D _ (dc hi),?_⟩;rw[nD];intro x E e;obtain⟨k,O,rfl⟩:=List.mem_take_iff_getElem.1 E;exact C k i (by omega) hi (by omega) (Vn.1 e)
def afk{l:aa cI}(h:n5 l=true){n code:Int}(h1:0 <= n/\n <= 1023)(h2:code=1 \/ code=2):n5 (tE l n code)=true:=by
 have C:=Ek.of h;have Y:=C.l;have FQ:AG ⟨n,code,1⟩=true:=by
  simp[AG,aK,dZ,ff,br];omega
 refine Ek.ok ?_;unfold tE;cases D:l.findIdx? (qx ⟨n,code,1⟩)with
 | some i=>
  have⟨hi,hp⟩:=CY D;dsimp only;rw[iC _ hi];have Z:=C.e _ (dc hi);have hu:AG (Oe l[i])=true:=by
   simp only[AG,aK,br]at Z ⊢;unfold Oe;dsimp only;rw[bf]
   grind
  refine⟨Fi C.e hu,?_,by rw[jb];exact Y⟩;have E:=C.k;rw[List.pairwise_iff_getElem]at E ⊢;intro a b I O C3;rw[jb]at I O;have:=E a b I O C3;rw[List.getElem_set,List.getElem_set];by_cases T:i=a
  ·subst T
   rwa [aW rfl,aX]
  ·rw[aX T];by_cases e2:i=b
   ·subst e2
    rwa [aW rfl]
   ·simp[*]
 | none=>
  have hn:∀ x∈l,¬ (x.line=n/\x.code=code):=λx hx e=>by
   have:=List.findIdx?_eq_none_iff.1 D x hx;rw[Vn.2 e]at this;cases this
  have app:∀ m:aa cI,m.Sublist l -> m.length <= 5 -> Ek (m++[⟨n,code,1⟩]):=λm U hml=>by
   refine⟨λx hx=>?_,?_,by rw[List.length_append,List.length_singleton];omega⟩
   ·rcases lz.1 hx with hx | hx
    ·exact C.e x (U.subset hx)
    ·rwa [gL.1 hx]
   ·rw[List.pairwise_append]
    refine⟨C.k.sublist U,List.pairwise_singleton _ _,λx hx y hy e=>?_⟩
    rw[gL.1 hy]at e
    grind
  dsimp only;by_cases e6:l.length=6
  ·grind
  ·rw[jS (show ¬ (l.length:Int)=6 by omega),av]
   grind
def afl{l:aa dw}(h:∀ s∈l,qv s=true){k:Nat}(C:k<l.length)(E:1<=l[k].fB):∀ s∈l.set k ⟨l[k].weight,W6 (l[k].fB-1)⟩,qv s=true:=by
 have D:=h _ (dc C);simp only[qv,aK,br]at D;rw[bf (n:=l[k].fB-1)];refine Fi h ?_;simp only[qv,aK,br];omega
def asj{l:aa dw}(w:aa Bool)(hl:l.length<1073741823)(D:jV l=true)(hw:l.length=w.length):∃ y t,qm l w=some (y,t)/\y.length=l.length/\jV y=true:=by
 have mk:∀ y:aa dw,y.length=l.length -> (∀ s∈y,qv s=true) -> y.length=l.length/\jV y=true:=λy C h2=>by
  refine⟨C,?_⟩;simp[jV,aK,bS]at D ⊢;exact⟨h2,by rw[C];exact D.2⟩
 have E:∀ s∈l,qv s=true:=by
  simp only[jV,aK,bS]at D;exact D.1
 unfold qm xA xC bR xL xZ;have hb:=uV (λi=>w.getD i false) (λi=>(l.getD i ⟨0,0⟩).fB) (min l.length w.length);have T:(fP l).length=l.length:=by simp[fP]
 have gB:=uV (λi=>w.getD i false) (λi=>((fP l).getD i ⟨0,0⟩).fB) (min (fP l).length w.length);have hm:=CU (λi=>w.getD i false) (λi=>(l.getD i ⟨0,0⟩).fB) (min l.length w.length);rw[List.nil_append,Fa l w (by omega),ax,I6 _ (by omega),ax,D,bL,av,List.length_nil,fe,eO,aq];unfold oa;generalize hr:lR (λi=>w.getD i false) (λi=>(l.getD i ⟨0,0⟩).fB) (min l.length w.length)=b at *
 by_cases U:b<0
 ·rw[aY U];exact⟨_,_,rfl,mk _ rfl E⟩
 ·have C:b.toNat<l.length:=by omega
  rw[bq U,av,aO ⟨by omega,C⟩,aO C];dsimp only;have hsb:=E _ (dc C);simp only[qv,aK,br]at hsb;cases Y:l[b.toNat].fB==0 with
  | false=>
   have Y:¬ l[b.toNat].fB=0:=by simpa using Y
   rw[ aO ⟨by omega,C⟩,aO C,aO ⟨by omega,C⟩,aO C];exact⟨_,_,rfl,mk _ (by simp) (afl E C (by omega))⟩
  | true=>
   have Vo:∀ s∈fP l,qv s=true:=λs D=>by
    obtain⟨x,O,rfl⟩:=List.mem_map.1 D;have:=E x O;simp[qv,aK,br,CV]at this ⊢;omega
   rw[aq,U0 l w (by omega),ax];simp only[gA];rw[Fa _ w (by omega),ax];have Z:0 <= oa (fP l) w:=Jo _ (i:=b.toNat) (by rcases hm with h|h;exact absurd h (by omega);exact h) _ (by rw[T];omega);have hq:oa (fP l) w<((min (fP l).length w.length:Nat):Int):=gB.2;have I:(oa (fP l) w).toNat<(fP l).length:=by omega
   have h4:1 <= (fP l)[(oa (fP l) w).toNat].fB:=by
    have de:(oa (fP l) w).toNat<l.length:=by omega
    have O:=E _ (dc de);simp only[qv,aK,br]at O;simp only[fP,List.getElem_map,CV];simp only[fP]at O;omega
   rw[aO ⟨Z,I⟩,aO I,aO ⟨Z,I⟩,aO I];exact⟨_,_,rfl,mk _ (by simp[T]) (afl Vo I h4)⟩
def afm{r:eB}(h:fN r=true)(k:Nat){d:Int}(C:-2 <= d/\d <= 5):fN ⟨r.aD.set k d,r.wait,r.dJ⟩=true:=by
 simp only[fN,aK]at h ⊢;refine⟨UE h.1 ?_,by rw[jb];exact h.2.1,h.2.2⟩;exact br.2 C
def asl{r:eB}(h:fN r=true){b:Int}(C:b.toNat<r.aD.length):fN (lS r b)=true:=by
 have D:=Jr h _ (dc C);unfold lS;rw[iC _ C];by_cases e:r.aD[b.toNat] = -2
 ·simp_all
 ·rw[bq e];exact afm h _ (by omega)
def asm{r:bJ}{p:ij}{x:aS}{now:Int}(E:kX p=true)(C:p.state=r.aN)(I:p.since <= now)(O:now <= 1000000)(U:6 <= x.kind/\x.kind <= 9)(D:iz r x=true):kX (yJ p x.kind now)=true/\(yJ p x.kind now).state=(cR r x).aN/\(yJ p x.kind now).since <= now:=by
 have Y:0 <= p.since:=by
  simp[kX,aK,br]at E;omega
 have hi:0 <= p.idle/\p.idle <= 1000000:=by
  simp[kX,aK,br]at E;omega
 have T:=br.2 ⟨I,O⟩;unfold yJ;rw[E,T,Bool.and_self];have mk:∀ s:Int,0 <= s/\s <= 2 -> kX ⟨s,now,p.idle⟩=true:=λs C=>by
  simp[kX,aK,br];omega
 have:x.kind=6 \/ x.kind=7 \/ x.kind=8 \/ x.kind=9:=by omega
 rcases this with h|h|h|h
 ·have e:r.aN=0:=by simpa [iz,h]using D
  simp[cR,h,C,e,mk]
 ·have e:r.aN=1:=by simpa [iz,h]using D
  simp[cR,h,C,e,mk]
 ·have e:r.aN=0:=by have:=D;simp[iz,h]at this;exact this.1
  simp[cR,h,C,e,mk]
 ·have e:r.aN=2:=by simpa [iz,h]using D
  simp[cR,h,C,e,mk]
def asn{c:au}(h:Pq c)(Z:Int×Int×Int×Int×aj)(P:Int×Int×Int×Int×Int×(aa Int)×Int×Int×aj)(I:P.2.1=c.box.bT.cap):iter Cy bk ((bO 0 c.aB.aD,gK c,(),(),(),(),(),(),(),(),(),c.queue,(c.queue.length:Int),(0:Int),()),(c,Z,P,(List.range c.queue.length).map (nv c),(List.range c.queue.length).map (fQ c),tD c c.queue.length,([]:aa aS),List.replicate c.queue.length false,List.replicate 4 false,()))=some (.inl (((),(),(),(),(),(),(),()),(c,Z,P,(List.range c.queue.length).map (fQ c),(List.range c.queue.length).map (fK c),(List.range c.queue.length).map (kZ c),wE c c.queue.length,()))):=by
 have O:=h.ql;have vn:=h.pl;have T:=wh h.rf;have U:=Fg h;have e:=eF (step:=Cy) c.queue.length (λi=>((bO 0 _,gK c,(),(),(),(),(),(),(),(),(),c.queue,c.queue.length,i,()),(c,Z,P,(List.range _).map (nv c),(List.range c.queue.length).map (fQ c),tD c _,(List.range i).map (fK c),rP (kZ c) c.queue.length i,wE c i,()))) _ bk (λk C=>by
  have hl:=Oa (f:=kZ c) (n:=c.queue.length) (k:=k) (by omega);have hl3:=C0 c;have hwl:=JB c k;have⟨ho,D,Y,o3,o4,o5⟩:=Jx h C;have⟨q1,q2,E⟩:=h.q _ (dc C);rw[Ff C]at q1 q2 E;have SM:(qH c k).write=qG c.queue k:=by rw[Jv C,Ff C]
  refine(ar9 (r:=qH c k) (a:=cV c k) (nd:=fK c k) (ct:=qK c (cV c k).ay) (rd:=cC c (fK c k)) (ib:=JA c (cV c k).ay) O C (Ff C) (by omega) (Jw _) (by simp;exact C) (by omega) (by simp) (by omega) (by omega) (by rw[SM];exact aeO _ D Y U) (Vk T.1 D o3) (yH h.p (afa h C)) (U5 _ _ (by omega)) E h.nw).trans ?_;rw[Ju C,ae1,I,<- Ob C,List.range_succ,List.map_append];rfl) (by
  unfold Cy aM xG xI xL;dsimp only;rw[bq,av,Oc]) (cv)
 exact e
def uX(f g:Nat->Bool)(n k:Nat):aa Bool:=(List.range n).map λi=>bif Nat.blt i k then f i else g i
def aso(f g:Nat->Bool)(n:Nat):uX f g n 0=(List.range n).map g:=rfl
def asp(f g:Nat -> Bool)(n:Nat):uX f g n n=(List.range n).map f:=by
 refine List.map_congr_left λi hi=>?_
 have hi:=gq.1 hi;rw[show Nat.blt i n=true from jc hi];rfl
def Vp(f g:Nat->Bool)(n k:Nat):(uX f g n k).length=n:=by unfold uX;simp
def asq(k:Nat):Nat.blt k k=false:=by
 cases h:Nat.blt k k with
 |false=>rfl
 |true=>simp_all
def asr{f g:Nat->Bool}{n k:Nat}(C:k<(uX f g n k).length):(uX f g n k)[k]=g k:=by
 simp only[uX,List.getElem_map,lV,asq,av]
def ass{f g:Nat -> Bool}{n k:Nat}(h:k<n):(uX f g n k).set k (f k)=uX f g n (k+1):=by
 apply List.ext_getElem
 ·rw[jb,Vp,Vp]
 ·intro i I O;rw[List.getElem_set];simp only[uX,List.getElem_map,lV];by_cases e:k=i
  ·subst e;rw[aW rfl,show Nat.blt k _=true from jc (dH _)];rfl
  ·rw[aX e];rcases Nat.lt_or_gt_of_ne e with h3 | h3
   ·have D:Nat.blt i k=false:=by
     cases C:Nat.blt i k with
     |false=>rfl
     |true=>have:=cu C;omega
    have E:Nat.blt i (k+1)=false:=by
     cases C:Nat.blt i (k+1)with
     |false=>rfl
     |true=>have:=cu C;omega
    rw[D,E]
   ·rw[show Nat.blt i k=true from jc h3,show Nat.blt i _=true from jc (by omega)]
def oe(c:au)(t:Int)(i:Nat):Bool:=kZ c i&&(qH c i).dR==t
def ast{c:au}(I:c.queue.length <= 12)(t:Int)(Z:Int×Int×Int×Int×aj)(P:Int×Int×Int×Int×Int×(aa Int)×Int×Int×aj)(hit:aa Bool)(C:aa aS):iter EN bk (((),(),(),(),(),(),t,c.queue,(c.queue.length:Int),(0:Int),()),(c,Z,P,hit,C,(List.range c.queue.length).map (kZ c),()))=some (.inl (((),(),(),(),(),(),()),(c,Z,P,hit,C,(List.range c.queue.length).map (oe c t),()))):=by
 have e:=eF (step:=EN) c.queue.length (λi=>(((),(),(),(),(),(),t,c.queue,(c.queue.length:Int),(i:Int),()),(c,Z,P,hit,C,uX (oe c t) (kZ c) c.queue.length i,()))) _ bk (λk D=>by
  have O:=Vp (oe c t) (kZ c) c.queue.length k;rw[<- ass D];unfold EN aM xG xI xL;dsimp only;rw[aY,aq,aO ⟨by omega,by omega⟩,aO ⟨by omega,by omega⟩,aO,bY];simp only[bE,asr,Ff];have E:oe c t k=(kZ c k&&(qH c k).dR==t):=rfl;rw[E];cases kZ c k with
  |false=>rw[av,aO ⟨by omega,by omega⟩,aO];rfl
  |true=>rw[ aO ⟨by omega,by omega⟩,aO];rfl) (by
  unfold EN aM xG xI xL;dsimp only;rw[bq,av,asp]) (cv)
 rw[dz,aso]at e;exact e
def gj(p:Nat->Bool):Nat->Int
 |0=>-1
 |k+1=>bif decide (gj p k<0)&&p k then (k:Int)else gj p k
def Ok(p:Nat->Bool)(k:Nat):gj p (k+1)=bif decide (gj p k<0)&&p k then (k:Int)else gj p k:=rfl
def uY(p:Nat -> Bool):∀ n,(gj p n = -1 /\ ∀ k,k<n -> p k=false) \/ ∃ j:Nat,j<n/\gj p n=(j:Int)/\p j=true /\ ∀ k,k<j -> p k=false
 |0=>.inl ⟨rfl,λk C=>absurd C (Nat.not_lt_zero k)⟩
 | n+1=>by
  rw[Ok];rcases uY p n with ⟨D,E⟩|⟨j,D,E,I,O⟩
  ·grind
  ·grind
def wF(old hit eZ:Nat->Bool)(n:Nat):Int:=
 bif decide (gj (λi=>eZ i&&old i) n<0)then (bif decide (gj (λi=>eZ i&&hit i) n<0)then gj eZ n else gj (λi=>eZ i&&hit i) n)else gj (λi=>eZ i&&old i) n
def uZ(c:au)(i:Nat):Bool:=decide ((qH c i).at_<=c.now-c.box.bT.cap)
def asu{c:au}(h:Pq c)(eZ:Nat->Bool):MQ c.queue ((List.range c.queue.length).map eZ) ((List.range c.queue.length).map (fQ c)) c.box.bT.cap c.now=some (wF (uZ c) (fQ c) eZ c.queue.length):=by
 have hq:=h.ql;have JF:=h.nw;have hcp:=h.cap;have U:W6 (c.now-c.box.bT.cap)=c.now-c.box.bT.cap:=bf;have va:∀ (k:Nat),k<c.queue.length->(eZ k&&uZ c k)=false->Az (((List.range c.queue.length).map eZ,(List.range c.queue.length).map (fQ c),c.box.bT.cap,c.now,gj eZ k,gj (λi=>eZ i&&fQ c i) k,c.queue,(c.queue.length:Int),(k:Int),()),())=some (.inl (((List.range c.queue.length).map eZ,(List.range c.queue.length).map (fQ c),c.box.bT.cap,c.now,gj eZ (k+1),gj (λi=>eZ i&&fQ c i) (k+1),c.queue,(c.queue.length:Int),((k+1:Nat):Int),()),())):=by
  intro k C D;rw[Ok,Ok];unfold Az aM bG xG xI;dsimp only;rw[aY,aq,aO ⟨by omega,by omega⟩];simp only[eT,eD];rw[bq,av,aO ⟨by omega,by omega⟩];simp only[bE,Ju C,U,Ff];rw[bY];cases E:eZ k with
  |false=>simp[E]
  | true=>
   rw[E,cM]at D;unfold uZ at D;rw[D,aY (by omega:(k:Int)<(c.queue.length:Int)),aO ⟨by omega,by omega⟩];simp only[bL,av,aq,E,cM];cases fQ c k<;>cases decide (gj eZ k<0)<;>cases decide (gj (λi=>eZ i&&fQ c i) k<0)<;>simp
 unfold MQ wF cZ;rw[c9,ax,br.2 ⟨hcp.1,by omega⟩,bL,av,c9,ax,br.2 JF,bL,av];rcases uY (λi=>eZ i&&uZ c i) c.queue.length with ⟨I,O⟩|⟨j,I,O,T,h4⟩
 ·have e:=eF (step:=Az) c.queue.length (λk=>(((List.range c.queue.length).map eZ,(List.range c.queue.length).map (fQ c),c.box.bT.cap,c.now,gj eZ k,gj (λi=>eZ i&&fQ c i) k,c.queue,(c.queue.length:Int),(k:Int),()),())) (.inr (.inl ((gj eZ c.queue.length,gj (λi=>eZ i&&fQ c i) c.queue.length,()),()))) bk (λk C=>va k C (O k C)) (by
   unfold Az aM bG xG xI;dsimp only;rw[bq,av]) (cv)
  rw[dz]at e
  refine(bz (λo=>Option.bind o _) e).trans ?_
  rw[ax,I];simp only[Sum.elim_inr,gA];by_cases Y:gj (λi=>eZ i&&fQ c i) c.queue.length<0
  ·rw[bq (by omega:¬ gj (λi=>eZ i&&fQ c i) c.queue.length >= 0),aY Y];rfl
  ·rw[aY (by omega:gj (λi=>eZ i&&fQ c i) c.queue.length >= 0),bq Y];rfl
 ·have e:=eF (step:=Az) j (λk=>(((List.range c.queue.length).map eZ,(List.range c.queue.length).map (fQ c),c.box.bT.cap,c.now,gj eZ k,gj (λi=>eZ i&&fQ c i) k,c.queue,(c.queue.length:Int),(k:Int),()),())) (.inl (((j:Int),()),())) bk (λk C=>va k (by omega) (h4 k C)) (by
   rw[aK]at T;have Z:=T.2;unfold uZ at Z;unfold Az aM bG xG xI;dsimp only;rw[aY,aq,aO ⟨by omega,by omega⟩];simp only[eT,eD];rw[bq,av,aO ⟨by omega,by omega⟩];simp only[bE,Ju I,U,Ff,T.1,Z,bL,av,aq]) (cv)
  rw[dz]at e
  refine(bz (λo=>Option.bind o _) e).trans ?_
  rw[ax,O,bq];rfl
def ny:aS:=⟨0,0,0,0⟩
def tF(c:au):Int:=match qm c.shares (wE c c.queue.length)with
 |some y=>y.2
 |none=>0
def nA(c:au):Int:=wF (uZ c) (fQ c) (oe c (tF c)) c.queue.length
def mJ(c:au):aS×Int:=bif decide (nA c<0)then (ny,-1)else (fK c (nA c).toNat,nA c)
def asv{c:au}(h:Pq c):∃ l,qm c.shares (wE c c.queue.length)=some (l,tF c):=by
 have⟨y,t,e,_⟩:=U1 (wE c c.queue.length) (by have:=h.shl;omega) h.sh (by rw[JB,h.shl]);refine⟨y,?_⟩;unfold tF;rw[e]
def asw(c:au):-1 <= nA c/\nA c<c.queue.length:=by
 unfold nA wF;rcases uY _ _ with ⟨C,_⟩|⟨j,C,I,_⟩
 ·rw[C,aY,aq];rcases uY _ _ with ⟨D,_⟩ | ⟨j,D,O,_⟩
  ·rw[D,aY,aq];rcases uY (oe c (tF c)) c.queue.length with ⟨E,_⟩|⟨j,E,T,_⟩<;>omega
  ·grind
 ·grind
def asx{c:au}(h:Pq c):MU c (bO 0 c.aB.aD) (gK c)=some (mJ c):=by
 have E:=h.ql;have⟨l,I⟩:=asv h;have T:=asw c;unfold MU bR xL;rw[aW ⟨by omega,by omega,by omega⟩,bE,arT h,ax];simp only[gA];rw[aW ⟨by omega,by omega,by omega⟩,aW ⟨by omega,by omega,by omega⟩,bE,arU h,ax];simp only[gA];rw[aW ⟨by omega,by omega,by omega⟩,aW (by decide),bE,show (4:Int).toNat=4 from rfl,asn h _ _ rfl,ax];simp only[gA];rw[I,ax];dsimp only;rw[ast E,ax];simp only[gA];rw[asu h,ax];show (bif decide (nA c<0)then _ else _)=_;unfold mJ;by_cases C:nA c<0
 ·rw[aY C];rfl
 ·have O:(nA c).toNat<c.queue.length:=by omega
  rw[bq C,av,av];have U:¬ wF (uZ c) (fQ c) (oe c (tF c)) c.queue.length<0:=C;have D:=O;rw[aO ⟨by omega,by simp only[eT,eD];exact D⟩,aO (by simp only[eT,eD];exact D)];simp only[List.getElem_map,lV];rfl
def Vq{α:Type}(p:α -> Bool)(l:aa α):(eY p l=l.length/\l.find? p=none) \/ ∃ h:eY p l<l.length,l.find? p=some l[eY p l]:=by
 have E:=E7 p l;rcases Nat.lt_or_ge _ _ with h|h
 ·refine .inr ⟨h,?_⟩;rw[List.find?_eq_some_iff_getElem]
  refine⟨AQ h,_,h,rfl,λj C=>?_⟩
  rw[uU C];rfl
 ·refine .inl ⟨by omega,?_⟩;rw[List.find?_eq_none];intro x D;obtain⟨j,C,rfl⟩:=jY.1 D;rw[uU (p:=p) (by omega) C];simp
def o7(c:au)(b:Int)(x:aS):aS:=bif (cX c.aI b).open_ then ⟨4,b,0,0⟩else x
def Vr{c:au}{b:Int}(x:aS)(C:0 <= b)(h:b.toNat<c.aI.aE.length):Ax c b x=some (o7 c b x):=by
 unfold Ax o7 xI;rw[aO ⟨C,h⟩,Jq h]
 grind
def Ol{c:au}{b:Int}{x:aS}(h:Pq c)(C:0 <= b/\b<aL c.config.ak)(D:cQ c.config.ak x=true):cQ c.config.ak (o7 c b x)=true:=by
 unfold o7;cases (cX _ b).open_ with
 |false=>exact D
 |true=>exact yI h.p.R.tA (.inl rfl) C
def fA(c:au)(b:Int):aS:=o7 c b ⟨5,b,0,0⟩
def hU(c:au)(i:Nat):aP:=c.pending.getD i zA
def Om{c:au}{i:Nat}(h:i<c.pending.length):c.pending[i]=hU c i:=by
 unfold hU;rw[cL,bK h];rfl
def qL(c:au)(i:Nat):Bool:=!qK c (hU c i).ay && !((c.pending.take i).any λa=>a.ay==(hU c i).ay)
def iZ(c:au)(i:Nat):aS:=o7 c (hU c i).ay ⟨1,(hU c i).ay,(hU c i).row,0⟩
def C4(c:au):aa aS:=(bO 0 c.aB.aD).map (fA c)
def C5(c:au)(k:Nat):aa aS:=((List.range k).filter (qL c)).map (iZ c)
def Vs{c:au}(h:Pq c){i:Nat}(hi:i<c.pending.length):fM c.config.ak (hU c i)=true/\0 <= (hU c i).ay/\(hU c i).ay.toNat<c.aI.aE.length/\(hU c i).ay.toNat<c.aB.aD.length/\(hU c i).ay<aL c.config.ak:=by
 have C:=h.pe _ (dc hi);rw[Om]at C;have⟨_,D,E,I,O,T,U⟩:=uK C;have:=h.p.bl;have:=h.dl;simp_all
def Vt{c:au}(h:Pq c){b:Int}(C:b∈bO 0 c.aB.aD):(0 <= b/\b<aL c.config.ak)/\cQ c.config.ak (fA c b)=true:=by
 obtain⟨j,rfl,D,_⟩:=aeM C;have:=h.dl;have C:0 <= ((0+j):Int)/\((0+j):Int)<aL c.config.ak:=by omega
 exact⟨C,Ol h C (yI h.p.R.tA (.inr rfl) C)⟩
def asy{c:au}(h:Pq c){i:Nat}(hi:i<c.pending.length):cQ c.config.ak (iZ c i)=true:=by
 have⟨C,D,I,O,E⟩:=Vs h hi;exact Ol h ⟨D,E⟩ (aeP C)
def tG(u:Bool)(l:aa Int)(idle:Nat->Bool)(i:Nat):Bool:=bif u then decide (l.getD i 0 >= 4)else decide (l.getD i 0 > 0)&&idle i
def JG(r:eB)(idle:Nat->Bool):Int:=lR (tG (decide (((bO 0 r.aD).length:Int) > 0)) r.aD idle) (λi=>r.aD.getD i 0) r.aD.length
def Vu(r:eB)(idle:Nat->Bool):-1<=JG r idle/\JG r idle<r.aD.length:=uV _ _ _
def asz{r:eB}(D:fN r=true)(idle:Nat -> Bool):Io r ((List.range r.aD.length).map idle)=some (JG r idle):=by
 have hl:=wh D;unfold Io bR;rw[I9 _ (by omega),ax,D,bL,av,UZ D,ax];generalize T:decide (((bO 0 r.aD).length:Int) > 0)=u;have e:=eF (step:=Im) r.aD.length (λi=>(((List.range r.aD.length).map idle,(),u,lR (tG u r.aD idle) (λi=>r.aD.getD i 0) i,r.aD,(r.aD.length:Int),(i:Int),()),((r.aD,r.wait,r.dJ,()),()))) (.inl ((lR (tG u r.aD idle) (λi=>r.aD.getD i 0) r.aD.length,()),())) bk (λk E=>by
  have U:=uV (tG u r.aD idle) (λi=>r.aD.getD i 0) k;rw[Jn];generalize lR (tG u r.aD idle) (λi=>r.aD.getD i 0) k=C at U;have Y:r.aD.getD k 0=r.aD[k]:=by rw[cL,bK E];rfl
  unfold Im CT tG aM xG xI;dsimp only;rw[aY,aq,aO ⟨by omega,by omega⟩];simp only[bE,Y,eT,eD];rw[bY,aY (by omega:(k:Int)<(r.aD.length:Int)),aq,aO ⟨by omega,by omega⟩];simp only[Ju E];by_cases I:C<0
  ·rw[aY I,Bool.true_or];cases u<;>cases decide (r.aD[k] > 0)<;>cases decide (r.aD[k] >= 4)<;>cases idle k<;>rfl
  ·have O:C.toNat<r.aD.length:=by omega
   have Z:r.aD.getD C.toNat 0=r.aD[C.toNat]:=by rw[cL,bK O];rfl
   have h4:0 <= C/\C.toNat<r.aD.length:=⟨by omega,O⟩
   rw[bq I,Z];simp only[aO h4,av];cases u<;>cases decide (r.aD[k] > 0)<;>cases decide (r.aD[k] >= 4)<;>cases idle k<;>cases decide (r.aD[k] > r.aD[C.toNat])<;>rfl) (by
  unfold Im aM xG xI;dsimp only;rw[bq,av]) (cv)
 rw[dz]at e
 refine(bz (λo=>Option.bind o _) e).trans ?_
 unfold JG;rw[T];rfl
def og(w:aa aP)(r:bJ)(b:Nat):Bool:=w.any λa=>a.ay==(b:Int)&&a.row==(cX r (b:Int)).row
def tH(w:aa aP)(r:bJ)(b:Nat):Bool:=(cX r (b:Int)).open_ && !og w r b
def yK(r:bJ)(eI:Int)(w:aa aP):Int:=bif eI != 1 then -1 else gj (tH w r) r.aE.length
def afn(r:bJ)(eI:Int)(w:aa aP):-1 <= yK r eI w/\yK r eI w<r.aE.length:=by
 unfold yK;cases eI != 1 with
 |true=>grind
 | false=>
  rw[av];rcases uY (tH w r) r.aE.length with ⟨C,_⟩|⟨j,C,D,_⟩<;>omega
def asA{w:aa aP}{r:bJ}{L:aa Int}{b:Nat}{i n:Int}(C:b<r.aE.length)(E:r.aE.length<=1048576)(I:w.length<=1000):iter EO bk ((w,(),(b:Int),false,(),n,i,w,(w.length:Int),(0:Int),()),((r.aE,r.aN,()),L,()))=some (.inl ((w,(),(b:Int),og w r b,(),n,i,()),((r.aE,r.aN,()),L,()))):=by
 have e:=eF (step:=EO) w.length (λk=>((w,(),(b:Int),((w.take k).any λa=>a.ay==(b:Int)&&a.row==(cX r (b:Int)).row),(),n,i,w,(w.length:Int),(k:Int),()),((r.aE,r.aN,()),L,()))) (.inl ((w,(),(b:Int),og w r b,(),n,i,()),((r.aE,r.aN,()),L,()))) bk (λk D=>by
  rw[uM D,List.any_append,List.any_cons,List.any_nil,Bool.or_false,Jq (by rw[bE];exact C)];unfold EO aM xG xI;dsimp only;rw[aY,aq,aO ⟨by omega,by omega⟩,bY];simp only[bE];cases (w.take k).any λa=>a.ay==(b:Int)&&a.row==r.aE[b].row with
  |true=>rfl
  | false=>
   rw[av,Bool.false_or];cases w[k].ay==(b:Int)with
   |false=>rfl
   |true=>rw[aq,aO ⟨by omega,C⟩,cM]) (by
  unfold EO aM xG xI;dsimp only;rw[bq,av,mP];rfl) (cv)
 rw[dz]at e;exact e
def afo(w:aa aP)(r:bJ):∀ k,k <= r.aE.length -> (opens 0 (r.aE.take k)).find? (λb=>!og w r b.toNat)=bif decide (gj (tH w r) k<0)then none else some (gj (tH w r) k)
 |0,_=>rfl
 | k+1,I=>by
  have C:=afo w r k (by omega);have D:(cX r (k:Int)).open_=r.aE[k].open_:=by rw[Jq (by rw[bE];omega)];simp only[bE]
  have E:tH w r k=(r.aE[k].open_ && !og w r k):=by unfold tH;rw[D]
  rw[uM (show k<r.aE.length by omega),adB,kL,Nat.min_eq_left (by omega),fe,List.find?_append,C,Ok,E];have O:opens k [r.aE[k]]=bif r.aE[k].open_ then [(k:Int)]else []:=rfl
  grind
def afp(i:Nat)(l:aa dQ)(x:Int)(h:x∈opens i l):∃ j:Nat,j<l.length/\x=((i+j:Nat):Int):=by
 induction l generalizing i with
 |nil=>cases h
 | cons d l C=>
  have e:opens i (d :: l)=bif d.open_ then (i:Int) :: opens (i+1) l else opens (i+1) l:=rfl;rw[e]at h;have tl:x∈opens (i+1) l -> ∃ j:Nat,j<(d :: l).length/\x=((i+j:Nat):Int):=λh=>by
   have⟨j,D,E⟩:=C _ h;exact⟨j+1,by simpa using D,by rw[E];omega⟩
  cases I:d.open_ with
  |false=>grind
  | true=>
   rw[I,aq]at h;rcases gp.1 h with rfl|h
   ·exact⟨0,by simp,rfl⟩
   ·exact tl h
def asC{r:bJ}(eI:Int){w:aa aP}(O:r.aE.length <= 1048576)(T:w.length <= 1000):Ip r eI w=some (yK r eI w):=by
 unfold Ip yK cZ;cases eI != 1 with
 |true=>rfl
 | false=>
  rw[av,av,NB r (by omega),ax];have I:=afo w r r.aE.length (dH _);rw[mP]at I;have hol:=adC 0 r.aE;have U:=afp 0 r.aE;generalize hL:opens 0 r.aE=L at *
  have hi:=E7 (λb:Int=>!og w r b.toNat) L;have va:∀ (k:Nat) (C:k<L.length),CA ((w,(),(),(L.length:Int),(k:Int),()),((r.aE,r.aN,()),L,()))=some (bif !og w r L[k].toNat then .inr (.inl ((L[k],()),()))else .inl ((w,(),(),(L.length:Int),((k+1:Nat):Int),()),((r.aE,r.aN,()),L,()))):=by
   intro k C;have⟨j,E,D⟩:=U _ (dc C);rw[fe]at D;unfold CA aM bG xG bR xL;dsimp only;rw[aY,aq,aO ⟨by omega,by omega⟩,aO];simp only[bE,D];rw[asA E O T,ax];simp only[gA];rw[bY];cases og w r j<;>rfl
  rcases Vq (λb:Int=>!og w r b.toNat) L with ⟨E,D⟩|⟨E,D⟩
  ·have e:=eF (step:=CA) L.length (λk=>((w,(),(),(L.length:Int),(k:Int),()),((r.aE,r.aN,()),L,()))) (.inr (.inl ((),()))) bk (λk C=>by
    have:=uU (p:=λb:Int=>!og w r b.toNat) (q:=L) (i:=k) (by omega) C;rw[va k C,this];rfl) (by
    unfold CA aM bG xG bR xL;dsimp only;rw[bq,av]) (cv)
   rw[dz]at e
   refine(bz (λo=>Option.bind o _) e).trans ?_
   rw[D]at I;by_cases Y:gj (tH w r) r.aE.length<0
   ·rcases uY (tH w r) r.aE.length with ⟨Z,_⟩ | ⟨j,_,k2,_⟩
    ·rw[Z];rfl
    ·omega
   ·grind
  ·have e:=eF (step:=CA) (eY (λb:Int=>!og w r b.toNat) L) (λk=>((w,(),(),(L.length:Int),(k:Int),()),((r.aE,r.aN,()),L,()))) (.inl ((L[eY (λb:Int=>!og w r b.toNat) L],()),())) bk (λk C=>by
    have:=uU (p:=λb:Int=>!og w r b.toNat) (q:=L) (i:=k) C (by omega);rw[va k (by omega),this];rfl) (by
    have:=AQ (p:=λb:Int=>!og w r b.toNat) (q:=L) E;rw[va _ E,this];rfl) (cv)
   rw[dz]at e
   refine(bz (λo=>Option.bind o _) e).trans ?_
   rw[D]at I;by_cases Y:gj (tH w r) r.aE.length<0
   ·grind
   ·simp[*]
def bN(c:au):Int:=wj c.box.bT.bF c.aN (n9 c)
def yL(c:au)(i:Nat):Bool:=!((gK c).any λa=>a.ay==(i:Int))
def eR(c:au):Int:=JG c.aB (yL c)
def kK(c:au):Int:=yK c.aI c.box.bT.eI (gK c)
def o8(c:au):aa aS:=bif decide (eR c >= 0) && !qK c (eR c)then [fA c (eR c)]else []
def lT(c:au):aa aS:=bif decide (kK c >= 0)then [⟨4,kK c,0,0⟩]else []
def ld(c:au):aa aS:=bif bN c==8&&decide (((opens 0 c.aI.aE).length:Int) > 0)then [⟨4,(opens 0 c.aI.aE).headD 0,0,0⟩]else bif bN c != 0 then [⟨bN c,0,0,0⟩]else []
def rQ(c:au)(l:aa aS):aS:=(l.find? (cC c)).getD ny
def fnd_nil(c:au):rQ c []=ny:=rfl
def fnd_cons(c:au)(x:aS)(l:aa aS):rQ c (x :: l)=bif cC c x then x else rQ c l:=by
 unfold rQ;rw[List.find?_cons];cases cC c x<;>rfl
def On(c:au)(w:Int):ah aS:=
 let D:Int->Int->Int->Int->ah (aS):=λE I O T=>(let U:Bool->ah (aS):=λY=>bif Y then some (⟨E,I,O,T⟩:aS)else some (⟨(0:Int),(0:Int),(0:Int),(0:Int)⟩:aS);bif (E != (0:Int))then (iO c (⟨E,I,O,T⟩:aS)).bind λZ=>(U Z)else (U false));bif (w==(8:Int))then (As c.aI).bind λC=>bif (decide ((C.length:Int) > (0:Int)))then if qc:0<=(0:Int)/\(0:Int).toNat<C.length then if oY:(0:Int).toNat<C.length then (let An:=C[(0:Int).toNat]'oY;(D (4:Int) An (0:Int) (0:Int)))else none else none else (D w 0 0 0)else (D w 0 0 0)
def C6(c:au)(D:aa aP)(w:Int):ah aS:=
 (Ip c.aI c.box.bT.eI D).bind λC=>bif (C != (-1:Int))then (iO c (⟨(4:Int),C,(0:Int),(0:Int)⟩:aS)).bind λE=>bif E then some (⟨(4:Int),C,(0:Int),(0:Int)⟩:aS)else On c w else On c w
def afq(c:au)(O:aa Int)(D:aa aP)(w:Int)(idle:aa Bool):ah aS:=
 (Io c.aB idle).bind λC=>(let E:Bool->ah (aS):=λT=>bif T then (Ax c C (⟨(5:Int),C,(0:Int),(0:Int)⟩:aS)).bind λI=>(iO c I).bind λU=>bif U then some I else C6 c D w else C6 c D w;bif (C != (-1:Int))then (vW O C).bind λY=>(E (!Y))else (E false))
def C7(c:au):bN c=0\/6<=bN c/\bN c<=9:=arh _ _ _
def asD(l:aa Int)(h:0<l.length):l.headD 0=l[0]:=by
 cases l with
 |nil=>cases h
 |cons x l=>rfl
def afr(c:au)(h:Pq c)(C:0<(opens 0 c.aI.aE).length):(0 <= (opens 0 c.aI.aE)[0]/\(opens 0 c.aI.aE)[0]<aL c.config.ak)/\(opens 0 c.aI.aE).headD 0=(opens 0 c.aI.aE)[0]:=by
 have⟨j,D,E⟩:=afp 0 _ _ (dc C);have:=h.p.bl;exact⟨by omega,asD _ C⟩
def asE{c:au}(h:Pq c):On c (bN c)=some (rQ c (ld c)):=by
 have ir:=Fg h;have hw:=C7 c;have D:=h.p.R.tA;have O:bN c≠0 -> iO c ⟨bN c,0,0,0⟩=some (cC c ⟨bN c,0,0,0⟩):=λhn=>yH h.p (N5 D (by omega))
 have T:(bif (bN c != (0:Int))then (iO c (⟨bN c,0,0,0⟩:aS)).bind λU=>(bif U then some (⟨bN c,0,0,0⟩:aS)else some ny)else some ny)=some (rQ c (bif bN c != 0 then [⟨bN c,0,0,0⟩]else [])):=by
  by_cases C:bN c=0
  ·rw[C];rfl
  ·rw[gv C,aq,aq,O C,fnd_cons,fnd_nil]
   grind
 unfold On ld;dsimp only;by_cases E:bN c=8
 ·have Y:(bN c==8)=true:=by rw[E];rfl
  rw[Y,aq,NB _ (by omega),ax,cM];by_cases I:0<(opens 0 c.aI.aE).length
  ·have⟨Z,k2⟩:=afr c h I;rw[aY,aq,aq,aO ⟨by omega,I⟩,aO,k2];show (bif ((4:Int) != 0)then (iO c ⟨4,(opens 0 c.aI.aE)[0],0,0⟩).bind _ else _)=_;rw[yH h.p (yI D (.inl rfl) Z),fnd_cons,fnd_nil];cases cC c ⟨4,(opens 0 c.aI.aE)[0],0,0⟩<;>rfl
  ·rw[bq,av];exact T
 ·rwa [jS E,av,Bool.false_and,av]
def asF{c:au}(h:Pq c):C6 c (gK c) (bN c)=some (rQ c (lT c++ld c)):=by
 have C:=Fg h;have E:=h.ql;have I:=h.p.bl;have O:-1 <= kK c/\kK c<c.aI.aE.length:=afn _ _ _;unfold C6 lT;rw[asC _ C (by rw[C0];omega),ax];show (bif kK c != -1 then (iO c ⟨4,kK c,0,0⟩).bind _ else _)=_;rw[asE h];by_cases D:kK c >= 0
 ·rw[gv (by omega:¬ kK c = -1),aq,aY D,aq,yH h.p (yI h.p.R.tA (.inl rfl) (by omega)),ax,List.singleton_append,fnd_cons];cases cC c ⟨4,kK c,0,0⟩<;>rfl
 ·grind
def asG{c:au}(h:Pq c):afq c (bO 0 c.aB.aD) (gK c) (bN c) ((List.range c.aB.aD.length).map (yL c))=some (rQ c (o8 c++(lT c++ld c))):=by
 have Y:=Fg h;have I:=wh h.rf;have Z:=h.p.bl;have hdn:=h.dl;have hb:-1 <= eR c/\eR c<c.aB.aD.length:=Vu _ _;unfold afq o8;rw[asz h.rf,ax];show (bif eR c != -1 then (vW (bO 0 c.aB.aD) (eR c)).bind λO=>(bif !O then (Ax c (eR c) ⟨5,eR c,0,0⟩).bind λD=>(iO c D).bind λC=>bif C then some D else C6 c (gK c) (bN c)else C6 c (gK c) (bN c))else C6 c (gK c) (bN c))=_;rw[asF h];by_cases T:eR c >= 0
 ·have E:0 <= eR c/\eR c<aL c.config.ak:=by omega
  rw[gv (by omega:¬ eR c = -1),aq,aY T,cM,(Vk I.1 (by omega) (by omega)),ax];cases qK c (eR c)with
  |true=>rfl
  | false=>
   have U:cQ c.config.ak (fA c (eR c))=true:=Ol h E (yI h.p.R.tA (.inr rfl) E);rw[Bool.not_false,aq,aq,Vr _ (by omega) (by omega),ax];show ((iO c (fA c (eR c))).bind λC=>bif C then some (fA c (eR c))else _)=_;rw[yH h.p U,ax,List.singleton_append,fnd_cons]
   grind
 ·grind
def asH{c:au}(h:Pq c):Ir c (bO 0 c.aB.aD) (gK c) ⟨bN c,0,0,0⟩=some (rQ c (o8 c++(lT c++ld c))):=by
 have D:=Fg h;have E:=h.ql;have I:=h.p.bl;have O:=h.dl;have T:=wh h.rf;have C:c.aI.aE.length=c.aB.aD.length:=by omega
 have e:=eF (step:=Iq) c.aI.aE.length (λi=>((bO 0 c.aB.aD,gK c,(),(),(),(),(c.aI.aE.length:Int),(i:Int),()),(c,(bN c,(0:Int),(0:Int),(0:Int),()),((0:Int),(0:Int),(0:Int),(0:Int),()),(List.range i).map (yL c),()))) _ bk (λk U=>by
  unfold Iq aM xG;dsimp only;rw[aY,aq,U5 _ _ (by rw[C0];omega),ax,eT,eD,List.length_singleton,eO,aq,bY,List.range_succ,List.map_append];rfl) (by
  unfold Iq aM xG;dsimp only;rw[bq,av]) (cv)
 rw[dz]at e;unfold Ir bR xL
 refine(bz (λo=>Option.bind o _) e).trans ?_
 rw[ax,C];exact asG h
def asJ{c:au}(h:Pq c):(ld c).length <= 1 /\ ∀ x∈ld c,cQ c.config.ak x=true:=by
 have Y:=C7 c;have D:=h.p.R.tA;have E:(bif bN c != 0 then [(⟨bN c,0,0,0⟩:aS)]else []).length <= 1 /\ ∀ x∈(bif bN c != 0 then [⟨bN c,0,0,0⟩]else []),cQ c.config.ak x=true:=by
  by_cases I:bN c=0
  ·simp_all
  ·rw[gv I];exact⟨dH _,λx C=>by rw[gL.1 C];exact N5 D (by omega)⟩
 unfold ld;cases bN c==8 with
 |false=>exact E
 | true=>
  by_cases O:0<(opens 0 c.aI.aE).length
  ·have⟨T,U⟩:=afr c h O;rw[aY,U];exact⟨dH _,λx C=>by rw[gL.1 C];exact yI D (.inl rfl) T⟩
  ·simp_all
def asK{c:au}(h:Pq c):(lT c).length <= 1 /\ ∀ x∈lT c,cQ c.config.ak x=true:=by
 have E:=h.p.bl;have I:-1 <= kK c/\kK c<c.aI.aE.length:=afn _ _ _;unfold lT;by_cases C:kK c >= 0
 ·rw[aY C];exact⟨dH _,λx D=>by rw[gL.1 D];exact yI h.p.R.tA (.inl rfl) (by omega)⟩
 ·grind
def yM(c:au):ah aS:=(C4 c++C5 c c.pending.length).find? (cC c)
def gx(c:au):aS×Int:=
 bif c.aN.state != 0 then (bif bN c != 0 then (bif cC c ⟨bN c,0,0,0⟩then (⟨bN c,0,0,0⟩,-1)else (ny,-1))else (ny,-1))else
 match yM c with
 |some x=>(x,-1)
 |none=>bif decide ((mJ c).2 >= 0)then mJ c else (rQ c (o8 c++(lT c++ld c)),-1)
def asM(p:Nat -> Bool)(n:Nat):eY p (List.range n) <= n/\(∀ k,k<eY p (List.range n) -> p k=false)/\(eY p (List.range n)<n -> p (eY p (List.range n))=true):=by
 have C:=E7 p (List.range n);rw[eD]at C
 refine⟨C,λk D=>?_,λE=>?_⟩
 ·have:=uU D (by rw[eD];omega);simp_all
 ·have:=AQ (p:=p) (q:=List.range n) (by rw[eD];exact E)
  rwa [lV]at this
def asN(c:au)(n:Nat):(C5 c n).find? (cC c)=if eY (λi=>qL c i&&cC c (iZ c i)) (List.range n)<n then some (iZ c (eY (λi=>qL c i&&cC c (iZ c i)) (List.range n)))else none:=by
 unfold C5;rw[List.find?_map,List.find?_filter];have e:(List.range n).find? (λa=>decide (qL c a=true/\(cC c ∘ iZ c) a=true))=(List.range n).find? (λi=>qL c i&&cC c (iZ c i)):=by
  simp_all
 rw[e];rcases Vq (λi=>qL c i&&cC c (iZ c i)) (List.range n)with ⟨C,D⟩|⟨C,D⟩
 ·simp_all
 ·grind
def asO{c:au}(h:Pq c):MV c=some (gx c):=by
 have Z:=h.p.R.tA;have hw:=C7 c;have vn:=h.pl;have Oo:=wh h.rf;have ul:=UY 0 c.aB.aD;have I5:=h.p.bl;have hdn:=h.dl;unfold MV cZ;rw[UZ h.rf,ax,aeN h.rf,ax,arf _ _ _ h.bF h.pw,ax];have ew:wj c.box.bT.bF c.aN (n9 c)=bN c:=rfl;rw[ew];unfold gx;cases c.aN.state != 0 with
 | true=>
  rw[aq,aq];by_cases T:bN c=0
  ·rw[T];rfl
  ·rw[gv T,aq,aq,yH h.p (N5 Z (by omega)),ax];cases cC c ⟨bN c,0,0,0⟩<;>rfl
 | false=>
  rw[av,av];have va:∀ (k:Nat) (C:k<(bO 0 c.aB.aD).length),CB (((),(),(),(),(),((bO 0 c.aB.aD).length:Int),(k:Int),()),(c,((0:Int),(0:Int),(0:Int),(0:Int),()),bO 0 c.aB.aD,(bN c,(0:Int),(0:Int),(0:Int),()),()))=some (bif cC c (fA c (bO 0 c.aB.aD)[k])then .inr (.inl (((),(-1:Int),()),(((fA c (bO 0 c.aB.aD)[k]).kind,(fA c (bO 0 c.aB.aD)[k]).ay,(fA c (bO 0 c.aB.aD)[k]).row,(fA c (bO 0 c.aB.aD)[k]).bZ,()),())))else .inl (((),(),(),(),(),((bO 0 c.aB.aD).length:Int),((k+1:Nat):Int),()),(c,((0:Int),(0:Int),(0:Int),(0:Int),()),bO 0 c.aB.aD,(bN c,(0:Int),(0:Int),(0:Int),()),()))):=by
   intro k C;have⟨k1,k2⟩:=Vt h (dc C);unfold CB aM bG xG xL;dsimp only;rw[aY,aq,aO ⟨by omega,by omega⟩,aO];simp only[bE];rw[Vr _ (by omega) (by omega),ax];show ((iO c (fA c (bO 0 c.aB.aD)[k])).bind _)=_;rw[yH h.p k2,ax,bY];cases cC c (fA c (bO 0 c.aB.aD)[k])<;>rfl
  have hfu:(C4 c).find? (cC c)=((bO 0 c.aB.aD).find? (λb=>cC c (fA c b))).map (fA c):=by
   unfold C4;rw[List.find?_map];rfl
  unfold yM;rw[List.find?_append,hfu,asN];rcases Vq (λb=>cC c (fA c b)) (bO 0 c.aB.aD)with ⟨I,U⟩|⟨I,U⟩
  ·have e:=eF (step:=CB) (bO 0 c.aB.aD).length (λk=>(((),(),(),(),(),((bO 0 c.aB.aD).length:Int),(k:Int),()),(c,((0:Int),(0:Int),(0:Int),(0:Int),()),bO 0 c.aB.aD,(bN c,(0:Int),(0:Int),(0:Int),()),()))) (.inr (.inl (((),(),(),(),()),(c,((0:Int),(0:Int),(0:Int),(0:Int),()),bO 0 c.aB.aD,(bN c,(0:Int),(0:Int),(0:Int),()),())))) bk (λk C=>by
    have:=uU (p:=λb=>cC c (fA c b)) (q:=bO 0 c.aB.aD) (i:=k) (by omega) C;rw[va k C,this];rfl) (by
    unfold CB aM bG xG xL;dsimp only;rw[bq,av]) (cv)
   rw[dz]at e
   refine(bz (λo=>Option.bind o _) e).trans ?_
   rw[ax,U];simp only[Sum.elim_inr,gA,Option.map_none,Option.none_or];have⟨i1,i2,i3⟩:=asM (λi=>qL c i&&cC c (iZ c i)) c.pending.length;have O:∀ (k:Nat) (C:k<c.pending.length),CC (((),(),(),(),c.pending,(c.pending.length:Int),(k:Int),()),(c,((0:Int),(0:Int),(0:Int),(0:Int),()),bO 0 c.aB.aD,(bN c,(0:Int),(0:Int),(0:Int),()),()))=some (bif qL c k&&cC c (iZ c k)then .inr (.inl (((),(-1:Int),()),(((iZ c k).kind,(iZ c k).ay,(iZ c k).row,(iZ c k).bZ,()),())))else .inl (((),(),(),(),c.pending,(c.pending.length:Int),((k+1:Nat):Int),()),(c,((0:Int),(0:Int),(0:Int),(0:Int),()),bO 0 c.aB.aD,(bN c,(0:Int),(0:Int),(0:Int),()),()))):=by
    intro k C;have⟨ho,Y,o2,o3,o4⟩:=Vs h C;unfold CC aM bG xG xI;dsimp only;rw[aY,aq,aO ⟨by omega,by omega⟩,bY];simp only[bE,Om,(Vk Oo.1 Y o3),ax,Int.toNat_zero,List.drop_zero];have ek:qL c k=(!qK c (hU c k).ay && !((c.pending.take k).any λa=>a.ay==(hU c k).ay)):=rfl;rw[ek];cases qK c (hU c k).ay with
    |true=>rfl
    | false=>
     rw[av,aW ⟨by omega,by omega,by omega⟩,U5 _ _ (by rw[kL];omega),ax];cases (c.pending.take k).any λa=>a.ay==(hU c k).ay with
     |true=>rfl
     | false=>
      rw[av,Vr _ Y o2,ax];show ((iO c (iZ c k)).bind _)=_;rw[yH h.p (asy h C)];cases cC c (iZ c k)<;>rfl
   by_cases E:eY (λi=>qL c i&&cC c (iZ c i)) (List.range c.pending.length)<c.pending.length
   ·rw[aW E];generalize hN:eY (λi=>qL c i&&cC c (iZ c i)) (List.range c.pending.length)=N at *
    have D:=eF (step:=CC) N (λk=>(((),(),(),(),c.pending,(c.pending.length:Int),(k:Int),()),(c,((0:Int),(0:Int),(0:Int),(0:Int),()),bO 0 c.aB.aD,(bN c,(0:Int),(0:Int),(0:Int),()),()))) (.inl (((),(-1:Int),()),(((iZ c N).kind,(iZ c N).ay,(iZ c N).row,(iZ c N).bZ,()),()))) bk (λk C=>by
     rw[O k (by omega),i2 k C];rfl) (by
     rw[O N E,i3 E];rfl) (cv)
    rw[dz]at D
    refine(bz (λo=>Option.bind o _) D).trans ?_
    rfl
   ·rw[aX E];have D:=eF (step:=CC) c.pending.length (λk=>(((),(),(),(),c.pending,(c.pending.length:Int),(k:Int),()),(c,((0:Int),(0:Int),(0:Int),(0:Int),()),bO 0 c.aB.aD,(bN c,(0:Int),(0:Int),(0:Int),()),()))) (.inr (.inl (((),(),(),(),()),(c,((0:Int),(0:Int),(0:Int),(0:Int),()),bO 0 c.aB.aD,(bN c,(0:Int),(0:Int),(0:Int),()),())))) bk (λk C=>by
     rw[O k C,i2 k (by omega)];rfl) (by
     unfold CC aM bG xG xI;dsimp only;rw[bq,av]) (cv)
    rw[dz]at D
    refine(bz (λo=>Option.bind o _) D).trans ?_
    rw[ax];simp only[Sum.elim_inr,gA];rw[arS h,ax,asx h,ax];cases decide ((mJ c).2 >= 0)with
    |true=>rfl
    | false=>
     rw[av,av];show ((Ir c (bO 0 c.aB.aD) (gK c) ⟨bN c,0,0,0⟩).bind _)=_;rw[asH h,ax]
  ·have e:=eF (step:=CB) (eY (λb=>cC c (fA c b)) (bO 0 c.aB.aD)) (λk=>(((),(),(),(),(),((bO 0 c.aB.aD).length:Int),(k:Int),()),(c,((0:Int),(0:Int),(0:Int),(0:Int),()),bO 0 c.aB.aD,(bN c,(0:Int),(0:Int),(0:Int),()),()))) (.inl (((),(-1:Int),()),(((fA c (bO 0 c.aB.aD)[eY (λb=>cC c (fA c b)) (bO 0 c.aB.aD)]).kind,(fA c (bO 0 c.aB.aD)[eY (λb=>cC c (fA c b)) (bO 0 c.aB.aD)]).ay,(fA c (bO 0 c.aB.aD)[eY (λb=>cC c (fA c b)) (bO 0 c.aB.aD)]).row,(fA c (bO 0 c.aB.aD)[eY (λb=>cC c (fA c b)) (bO 0 c.aB.aD)]).bZ,()),()))) bk (λk C=>by
    have:=uU (p:=λb=>cC c (fA c b)) (q:=bO 0 c.aB.aD) (i:=k) C (by omega);rw[va k (by omega),this];rfl) (by
    have:=AQ (p:=λb=>cC c (fA c b)) (q:=bO 0 c.aB.aD) I;rw[va _ I,this];rfl) (cv)
   simp_all
def Vv{r:bJ}{x:aS}(C:x.kind <= 5):(cR r x).aN=r.aN:=by
 unfold cR
 grind
def gi.cz{c:au}(p:gi c)(x:aS):gi (cz c x):=⟨p.dl,p.tl,p.gl,p.t,p.g,p.pd,p.u⟩
def Ck.cz{c:au}(h:Ck c){x:aS}(C:kD c.config.ak c.aI x=true)(D:x.kind<=5)(E:c.trace.length<2000):Ck (cz c x):=by
 simp only[kD,aK]at C;exact⟨h.f1,h.f2,h.nw,UF C.1 C.2.1 C.2.2,afi _ h.rd,h.ar,h.sp,h.se,h.rf,((gi.of h.pa).cz x).ok,h.qu,h.sh,h.sl,h.dr,h.pw,h.ps.trans (Vv D).symm,h.si,h.s1,h.s2,h.s3,h.er,by simp[Proofs.YtgjfmljpdnnihaaGreat.cz];omega,h.rp⟩
def Ck.Vw{c:au}(h:Ck c){x:aS}(E:0 <= x.ay)(I:x.ay<aL c.config.ak)(O:0 <= x.row)(T:x.row<c.config.ak.rows):Ck (uW c x):=by
 have C:=(rK h.rk).1;have gb:=fY C;have p:=gi.of h.pa;have AY:=p.tl;have hgl:=p.gl;have U:x.ay.toNat<c.bB.length:=by omega
 have D:fz c.config.ak 100000 (AS c.config.ak c.config.dO c.array x.ay x.row):=US C c.config.dO (by decide) (fz.wD h.ar) E I O T;have Y:∀a∈qF c x,fM c.config.ak a=true/\a.bZ=0:=λa D=>p.pd a (List.mem_filter.1 D).1
 have Z:(qF c x).Pairwise (λx y=>x≠y):=p.u.filter _;have q:(∀ a∈(uW c x).pending,fM c.config.ak a=true/\a.bZ=0)/\(uW c x).pending.Pairwise (λx y=>x≠y):=by
  show (∀a∈(bif (rN c x).2 then (gR c.config.ak.rows x.row).foldl (iY x.ay) (qF c x)else qF c x),fM c.config.ak a=true/\a.bZ=0)/\(bif (rN c x).2 then (gR c.config.ak.rows x.row).foldl (iY x.ay) (qF c x)else qF c x).Pairwise (λx y=>x≠y);cases (rN c x).2 with
  |false=>simp_all
  | true=>
   refine afd _ (λn hn=>?_) Y Z
   have:=aeo O T n hn;exact AE C E I this.1 this.2 (gz 0) (by show 0<_;omega)
 have hp:gi (uW c x):=⟨p.dl,by show ((c.bB.set x.ay.toNat (rN c x).1).length:Int)=_;rw[jb];exact p.tl,p.gl,Fi p.t (by unfold rN;rw[iC _ U];exact asd (p.t _ (dc U)) _ _),p.g,q.1,q.2⟩
 exact⟨h.f1,h.f2,h.nw,h.rk,h.rd,C2 C D,h.sp,h.se,h.rf,hp.ok,h.qu,h.sh,h.sl,h.dr,h.pw,h.ps,h.si,h.s1,h.s2,h.s3,h.er,h.tr,h.rp⟩
def Ck.ref{c:au}(h:Ck c)(E:c.box.bT.weights.length<1073741823)(I:aT c.config.gU 1 16=true){b:Int}(O:0 <= b)(T:b<aL c.config.ak):Ck (Jz c b):=by
 have C:=(rK h.rk).1;have Y:=fY C;have p:=gi.of h.pa;have Z:=p.dl;have D:fz _ 100000 (gS _ c.config.dO c.array b c.config.ak.rows.toNat):=Jt C _ (by decide) (fz.wD h.ar) O T _ (by omega);have U:gi (Jz c b):=⟨by show ((lS c.aB b).aD.length:Int)=_;rw[ae6];exact p.dl,by show ((c.bB.set b.toNat _).length:Int)=_;rw[jb];exact p.tl,by show ((c.guard.set b.toNat _).length:Int)=_;rw[jb];exact p.gl,Fi p.t (afe I),Fi p.g (Oj E h.f1),λa D=>p.pd a (List.mem_filter.1 D).1,p.u.filter _⟩
 exact⟨h.f1,h.f2,h.nw,h.rk,h.rd,C2 C D,h.sp,h.se,asl h.rf (by omega),U.ok,h.qu,h.sh,h.sl,h.dr,h.pw,h.ps,h.si,h.s1,h.s2,h.s3,h.er,h.tr,h.rp⟩
def Vx{T:Type}{p:T->Prop}{l:aa T}{x:T}(h:∀ y∈l,p y)(C:p x):∀ k:Nat,∀ y∈(List.range k).foldl (λd b=>d.set b x) l,p y
 |0=>h
 | k+1=>by
  rw[o6];exact Fi (Vx h C k) C
def afs{r:eB}(h:fN r=true):∀ k:Nat,fN ⟨(List.range k).foldl (λd b=>d.set b 0) r.aD,r.wait,r.dJ⟩=true
 |0=>h
 | k+1=>by
  rw[o6];exact afm (afs h k) k (by omega)
def Ck.U9{c:au}(h:Ck c)(E:c.box.bT.weights.length<1073741823)(I:aT c.config.gU 1 16=true)(n:Nat)(O:(n:Int) <= aL c.config.ak):Ck (iF c n []):=by
 have D:=(rK h.rk).1;have p:=gi.of h.pa;have C:=N9 D c.config.dO (by decide) (fz.wD h.ar) n O;have T:gi (iF c n []):=⟨by show (((List.range n).foldl _ c.aB.aD).length:Int)=_;rw[wo];exact p.dl,by show (((List.range n).foldl _ c.bB).length:Int)=_;rw[wo];exact p.tl,by show (((List.range n).foldl _ c.guard).length:Int)=_;rw[wo];exact p.gl,Vx p.t (afe I) n,Vx p.g (Oj E h.f1) n,λa C=>(by cases C),List.Pairwise.nil⟩
 exact⟨h.f1,h.f2,h.nw,h.rk,h.rd,C2 D C,h.sp,h.se,afs h.rf n,T.ok,h.qu,h.sh,h.sl,h.dr,h.pw,h.ps,h.si,h.s1,h.s2,h.s3,h.er,h.tr,h.rp⟩
def Ck.acc{c:au}(h:Ck c){i:Nat}(C:qJ c i 100000)(hr:c.cc.length<400):Ck (jq c i):=by
 have T:=(rK h.rk).1;have p:=gi.of h.pa;have hi:=C.i;have⟨f1,f3,f4,f5,f6,f7,f8⟩:=C.facts (dc hi);have D:c.queue.getD i od=c.queue[i]:=iC _ hi;have E:=C.d _ (dc hi);have U:=C.shl;have I:jV (C1 c.shares c.queue[i].dR)=true/\((C1 c.shares c.queue[i].dR).length:Int)=4:=by
  have⟨y,t,e,hl,ho⟩:=asj ((List.replicate 4 false).set c.queue[i].dR.toNat true) (by omega) h.sh (by simp[U])
  grind
 have Y:gD (eA (gQ c.config.ak c.spare)) (c.queue.take i++c.queue.drop (i+1))=true:=((Qk.of h.qu).sub (afj _ _)).ok;have key:∀ (a:dj) (e:aa cI) (x:eJ),fz c.config.ak 100000 a -> n5 e=true -> Ck (qI c i a e x):=λa e x Z he=>
  ⟨h.f1,h.f2,h.nw,h.rk,h.rd,C2 T Z,h.sp,h.se,h.rf,(show gi (qI c i a e x)from ⟨p.dl,p.tl,p.gl,p.t,p.g,p.pd,p.u⟩).ok,Y,by unfold qI;rw[D];exact I.1,by unfold qI;rw[D];exact I.2,h.dr,h.pw,h.ps,h.si,h.s1,h.s2,h.s3,he,h.tr,by simp[qI];omega⟩
 unfold jq;rw[D];dsimp only;cases c.queue[i].write with
 |true=>exact key _ _ _ (C.a.Jg _ (c:=⟨_,false⟩) (Ve E.1 E.2).2.1) h.er
 | false=>
  have O:=C.a.syms _ (dc f4);rw[av,iC _ f4];refine key _ _ _ (C.a.Jg _ (Vc O)) ?_;have hec:=Vh O;by_cases e:kI c.array.cells[tu c.config.ak (iB c c.queue[i].line)]=0
  ·rw[e];exact h.er
  ·rw[gv e,aq];exact afk h.er ⟨by omega,f5⟩ (by omega)
def Ck.Oq{c:au}(h:Ck c){x:aS}(C:kD c.config.ak c.aI x=true)(D:6 <= x.kind/\x.kind <= 9)(U:c.trace.length<2000):Ck (AX (Proofs.YtgjfmljpdnnihaaGreat.cz c x) x.kind):=by
 simp[kD,aK]at C;have E:=br.1 h.nw;have⟨I,O,T⟩:=asm h.pw h.ps h.si E.2 D C.2.2;have p:=gi.of h.pa;exact⟨h.f1,h.f2,h.nw,UF C.1 C.2.1 C.2.2,afi _ h.rd,h.ar,h.sp,h.se,h.rf,(show gi _ from ⟨p.dl,p.tl,p.gl,p.t,p.g,p.pd,p.u⟩).ok,h.qu,h.sh,h.sl,h.dr,I,O,T,h.s1,h.s2,h.s3,h.er,by simp[AX,ae4,Proofs.YtgjfmljpdnnihaaGreat.cz];omega,h.rp⟩
def Ck.Vy{c:au}(I:cG c)(h:Ck c){x:aS}{i:Int}(E:kJ c x i=true):Ck (dB c x i):=by
 have Y:=Pq.of I h.ok;have O:c.box.bT.weights.length<1073741823:=by
  have:=I.1.1;unfold Jf at this;omega
 have Z:aT c.config.gU 1 16=true:=by
  have:=(CX O h.f1).1;simp[qt,aK]at this;exact this.2.2.2.2.2.1
 have⟨hb,C,hs,hr⟩:=JE I Y E;have D:c.trace.length<2000:=by
  simp only[kJ,aK,gk,qO]at E;omega
 have hrp:x.kind=2 \/ x.kind=3 -> c.cc.length<400:=λT=>by
  simp only[kJ,aK]at E;have e:(x.kind==2 ||x.kind==3)=true:=by rcases T with q|q<;>rw[q]<;>rfl
  rw[e,aq]at E;simp[JD,aK,fq]at E;omega
 have⟨hg,hlen,T,A0⟩:=CL C;have hc:cQ c.config.ak x=true:=by
  simp only[kD,aK]at C
  grind
 have AY:=(gi.of h.pa).tl;have ir:=Y.p.bl;unfold dB;rcases kinds T with q|q|q|q|q|q|q|q|q<;>rw[q]<;>simp only[Int.reduceBEq,Int.reduceBNe,aq,av,Bool.or_true,Bool.or_false,Bool.true_or,Bool.false_or,Bool.or_self]
 ·have⟨U,yh⟩:=A0 (by omega);have⟨r0,r1⟩:=Oh hc q;exact(h.cz C (by omega) D).Vw U (by show x.ay<aL c.config.ak;omega) r0 r1
 ·exact(h.cz C (by omega) D).acc ((hs (.inl q)).1.cz x) (hrp (.inl q))
 ·exact(h.cz C (by omega) D).acc ((hs (.inr q)).1.cz x) (hrp (.inr q))
 ·exact h.cz C (by omega) D
 ·have⟨U,yh⟩:=A0 (by omega);exact(h.cz C (by omega) D).ref O Z U (by show x.ay<aL c.config.ak;omega)
 ·have:=h.Oq C (by omega) D;rw[q]at this;exact this
 ·have:=h.Oq C (by omega) D;rw[q]at this;exact this
 ·have:=h.Oq C (by omega) D;rw[q]at this;exact this
 ·have:=h.Oq C (by omega) D;rw[q]at this;exact this.U9 O Z _ (by show (c.bB.length:Int) <= aL c.config.ak;omega)
def Adv(n:Int)(c y:au):Prop:=(y.trace=c.trace/\y.aI=c.aI/\y.ready=c.ready)\/∃x,y.trace=c.trace++[⟨n,x⟩]/\y.aI=cR c.aI x/\y.ready=fO c.config.ak c.ready ⟨n,x⟩/\cQ c.config.ak x=true/\iz c.aI x=true/\lQ c.config.ak c.config.bP c.ready x<=n
def Nx(c y:au):Prop:=y.now=c.now/\y.config=c.config/\y.queue.Sublist c.queue/\(∀r∈y.cc,r∈c.cc\/∃q∈c.queue,r.id=q.id)/\Adv c.now c y/\y.queue.length+y.cc.length=c.queue.length+c.cc.length
def Nx.refl(c:au):Nx c c:=⟨rfl,rfl,List.Sublist.refl _,λr C=>.inl C,.inl ⟨rfl,rfl,rfl⟩,rfl⟩
def aft{c:au}{x:aS}(C:cQ c.config.ak x=true/\iz c.aI x=true/\lQ c.config.ak c.config.bP c.ready x<=c.now){i:Nat}(hi:i<c.queue.length):Nx c (jq (cz c x) i):=by
 have key:∀ (a:dj) (e:aa cI) (t:eJ),t.id=c.queue[i].id->Nx c (qI (cz c x) i a e t):=λa e t D=>by
  refine⟨rfl,rfl,afj _ _,λr hr=>?_,.inr ⟨x,rfl,rfl,rfl,C⟩,?_⟩
  ·rcases lz.1 hr with hr | hr
   ·exact .inl hr
   ·rw[gL.1 hr];exact .inr ⟨_,dc hi,D⟩
  ·show (c.queue.take i++c.queue.drop (i+1)).length+(c.cc++[t]).length=_;rw[List.length_append,List.length_append,kL,List.length_drop,List.length_singleton];omega
 have E:(cz c x).queue.getD i od=c.queue[i]:=iC _ hi;unfold jq;rw[E];dsimp only;cases c.queue[i].write with
 |true=>exact key _ _ _ rfl
 |false=>exact key _ _ _ rfl
def asP{c:au}{x:aS}{i:Int}(D:kJ c x i=true)(Y:1<=x.kind/\x.kind<=9)(I:x.kind=2\/x.kind=3->i.toNat<c.queue.length):Nx c (dB c x i):=by
 have E:cQ c.config.ak x=true/\iz c.aI x=true/\lQ c.config.ak c.config.bP c.ready x<=c.now:=by
  simp only[kJ,cC,aK,fq]at D;exact⟨D.1,D.2.1.1,D.2.1.2.2⟩
 have C:∀y:au,y.now=c.now->y.config=c.config->y.queue=c.queue->y.cc=c.cc->y.trace=c.trace++[⟨c.now,x⟩]->y.aI=cR c.aI x->y.ready=fO c.config.ak c.ready ⟨c.now,x⟩->Nx c y:=λy Z h2 O T h5 h6 h7=>⟨Z,h2,by rw[O];exact List.Sublist.refl _,λr U=>by rw[T]at U;exact .inl U,.inr ⟨x,h5,h6,h7,E⟩,by rw[O,T]⟩
 unfold dB;rcases kinds Y with q|q|q|q|q|q|q|q|q<;>rw[q]<;>simp only[Int.reduceBEq,Int.reduceBNe,aq,av,Bool.or_true,Bool.or_false,Bool.true_or,Bool.false_or,Bool.or_self]
 ·exact C _ rfl rfl rfl rfl rfl rfl rfl
 ·exact aft E (I (.inl q))
 ·exact aft E (I (.inr q))
 ·exact C _ rfl rfl rfl rfl rfl rfl rfl
 ·exact C _ rfl rfl rfl rfl rfl rfl rfl
 ·exact C _ rfl rfl rfl rfl rfl rfl rfl
 ·exact C _ rfl rfl rfl rfl rfl rfl rfl
 ·exact C _ rfl rfl rfl rfl rfl rfl rfl
 ·exact C _ rfl rfl rfl rfl rfl rfl rfl
def tJ(d:Int):Int:=if (5:Int)<W6 (d+1)then 5 else W6 (d+1)
def asQ(q:aa aV)(w:Bool)(E:q.length<1073741824):∃ n,EU q w=some n:=by
 unfold EU bR;have e:=eF (step:=IK) q.length (λi=>((w,(((q.take i).countP λr=>r.write==w:Nat):Int),q,(q.length:Int),(i:Int),()),())) (.inl (((((q.take q.length).countP λr=>r.write==w:Nat):Int),()),())) bk (λk C=>by
  have D:=List.countP_le_length (p:=λr:aV=>r.write==w) (l:=q.take k);rw[kL]at D;unfold IK aM xG xI;dsimp only;rw[aY,aq,aO ⟨by omega,by omega⟩,bY];simp only[bE];rw[uM C,List.countP_append,List.countP_singleton];cases q[k].write==w with
  |true=>rw[ bY];rfl
  |false=>rw[ bY];rfl) (by
  unfold IK aM xG xI;dsimp only;rw[bq,av]) (cv)
 rw[dz]at e;exact⟨_,(bz (λo=>Option.bind o _) e).trans rfl⟩
def asR{d:mR}(h:qw d=true)(n:Int):∃ y,ET d n=some y/\qw y=true:=by
 unfold ET;rw[NH,ax,h,bL];cases decide (n >= d.high)with
 |true=>exact⟨_,rfl,h⟩
 | false=>
  cases decide (n <= d.low)with
  |true=>exact⟨_,rfl,h⟩
  |false=>simp_all
def asT(b:mS)(h:NU b)(x:Bool):∃ t,IL b x=some (bif t then ⟨b.next,b.next,false⟩else b,t):=by
 have C:b.next.weights.length <= 1048576:=h.2
 unfold IL;rw[aeI b h];cases x with
 |false=>simp_all
 | true=>
  cases b.waits with
  |false=>simp_all
  | true=>
   refine⟨true,?_⟩;unfold vT xA xZ;rw[n8 _];rfl
def asU{c:fl}{p:dD}(C:p.weights.length<1073741823)(h:n7 c p=true):∃ l t,yl p.weights=some (l,t)/\jV l=true/\(l.length:Int)=4/\qw ⟨false,p.low,p.high⟩=true:=by
 have⟨_,f2⟩:=CX C h;simp[yC,aK,ff]at f2;have⟨f3,f4,f5,f6,f7,f8,f9⟩:=f2;refine⟨p.weights.map nY,true,?_,f8,by rw[eT];exact f7,f6⟩;rw[Uk _ C];unfold CJ;simp_all
def asW{s:tN}{n:Int}(C:aT s.every 1 100000=true)(E:aT s.wait 1 s.every=true)(D:aT s.next 0 (W6 (n-1))=true)(Z:1<=n/\n<=1000000):∃ y m,yx s n=some (y,m)/\aT y.every 1 100000=true/\aT y.wait 1 y.every=true/\aT y.next 0 (W6 (n-1))=true/\m<n:=by
 have T:=br.1 C;have b2:=br.1 E;have I:W6 (n-1)=n-1:=bf;have U:=br.1 D;rw[I]at U;unfold yx;rw[c9,ax,C,bL,av,c9,ax,E,bL,av,bq,av,c9,ax,D,bL,av,bf (n:=s.wait-1)];by_cases O:s.wait-1 > 0
 ·rw[aY O,aq];exact⟨_,_,rfl,C,br.2 ⟨by dsimp only;omega,by dsimp only;omega⟩,D,by omega⟩
 ·rw[bq O,av,aX,bf (n:=s.next+1)];refine⟨_,_,rfl,C,br.2 ⟨T.1,gz _⟩,?_,by omega⟩;rw[I,rS (by omega)];have Y:=Int.emod_nonneg (s.next+1) (show n≠0 by omega);have e2:=Int.emod_lt_of_pos (s.next+1) (show 0<n by omega);exact br.2 ⟨Y,by dsimp only;omega⟩
def vb(c:au)(b:mS)(a:dj)(r:eB)(s:aa dw)(d:mR)(p:ij)(u:tN):au:=⟨c.config,b,W6 (c.now+1),c.aI,c.ready,a,c.spare,r,c.bB,c.guard,c.pending,c.queue,s,d,p,u,c.errors,c.trace,c.cc⟩
def Ot(x:au):ah au:=(sY x).bind λC=>bif (C.1.kind != (0:Int))then (sZ x C.1 C.2).bind λD=>some D.1 else some x
def Ou(x:au)(n:Int):ah au:=bif (decide (n >= (0:Int)))then (yu x n).bind λC=>(yp C.2.1 n C.1.2).bind λD=>Ot D.2.1 else Ot x
def stepT(c:au)(r:eB)(a:dj):ah au:=(EU c.queue true).bind λT=>(ET c.drain T).bind λI=>(Aw (vb c c.box a r c.shares I c.aN c.eg)).bind λU=>(EV c.aN U).bind λO=>(IL c.box ((c.queue.length:Int)==(0:Int))).bind λC=>bif C.2 then (yl C.1.bT.weights).bind λY=>(sW c.config.ak).bind λE=>(yx c.eg E).bind λD=>Ou (vb c C.1 a r Y.1 ⟨false,C.1.bT.low,C.1.bT.high⟩ O D.1) D.2 else (sW c.config.ak).bind λE=>(yx c.eg E).bind λD=>Ou (vb c C.1 a r c.shares I O D.1) D.2
def vc(r:eB)(n:Int):eB:=if 0<r.wait-1 then ⟨r.aD,r.wait-1,r.dJ⟩else ⟨r.aD.map tJ,bif r.dJ then n / 2 else n,r.dJ⟩
def asX{t:bW}(h:iW t=true):2<=EZ t:=by
 have q:=adQ t;unfold Ce at q;rw[I4,ax,h,bL,av]at q;simp only[iW,aK,bS]at h;have k:∀ x∈rF t,0<=x/\x<=1000:=λx C=>by
  have:=h.1 x C;simp only[EY,br]at this;omega
 simp only[rF,List.forall_mem_cons]at k;injection q with q;rw[<-q];simp (disch:=omega) only [bf];omega
def asY{c:fl}{p:dD}(C:p.weights.length<1073741823)(h:n7 c p=true):2<=c.interval/\c.interval<=10000:=by
 have q:=(CX C h).1;have t:=asX (adT q).2.1;simp only[qt,aK,br]at q;omega
def asZ{r:eB}(h:fN r=true){n:Int}(E:2<=n/\n<=10000):fN (vc r n)=true/\(vc r n).aD.length=r.aD.length:=by
 have I:=wh h;have C:=Jr h;simp only[fN,aK,br]at h;unfold vc;split
 ·refine⟨?_,rfl⟩;simp only[fN,aK,br];exact⟨h.1,by omega⟩
 ·refine⟨?_,eT _⟩;simp only[fN,aK,bS,I8,br,eT,List.mem_map,forall_exists_index,and_imp,forall_apply_eq_imp_iff₂]
  refine⟨λd D=>?_,by omega,?_⟩
  ·have:=C d D;unfold tJ;rw[bf (n:=d+1)];split<;>omega
  ·cases r.dJ<;>simp<;>omega
def as0{r:eB}(h:fN r=true){n:Int}(D:2<=n/\n<=10000):Ni r n=some (vc r n):=by
 have I:=wh h;have O:=Jr h;have T:1<=r.wait/\r.wait<=10000:=by
  simp only[fN,aK,br]at h;exact h.2.2
 have E:W6 (n.tdiv 2)=n / 2:=by rw[Int.tdiv_eq_ediv_of_nonneg (by omega)];exact bf
 unfold Ni Cl vc bR xA xZ;rw[eO (by simp;omega),aq,List.nil_append,ax,I9 _ (by omega),ax,h,bL,av,c9,ax,br.2 D,bL,av];dsimp only;rw[bf (n:=r.wait-1)];by_cases C:r.wait-1 > 0
 ·rw[aY C,aq,aW C]
 ·rw[bq C,av,aX C];have e:=eF (step:=IG) r.aD.length (λi=>((n,(),(),(),(r.aD.length:Int),(i:Int),()),((r.aD,r.wait,r.dJ,()),((),(0:Int),false,()),((),r.wait-1,r.dJ,()),([]:aa Int),upto tJ r.aD i,()))) (.inl ((n,(),(),(),()),((r.aD,r.wait,r.dJ,()),((),(0:Int),false,()),((),r.wait-1,r.dJ,()),([]:aa Int),r.aD.map tJ,()))) bk (λi hi=>by
   have hlen:=Nz tJ r.aD i;unfold IG aM xG xL;dsimp only;rw[aY,aq,aO ⟨by omega,by omega⟩,aO,aO ⟨by omega,by omega⟩,aO,bY];simp only[bE];rw[T7 tJ r.aD i hi,<-T8 tJ r.aD i hi];rfl) (by
   unfold IG aM xG xL;dsimp only;rw[bq,av,T6]) (cv)
  rw[dz,adu]at e
  refine(bz (λo=>Option.bind o _) e).trans ?_
  rw[ax];simp only[gA];rw[E];cases r.dJ<;>rfl
def afu(a:dj):dj:=⟨a.cells,a.bu.map (nq 1),a.bg⟩
def as1{g:aH}{a:dj}(h:nj g a=true):nj g (afu a)=true:=by
 have C:=fz.wD h
 refine C2 (UJ h).1 ⟨C.cells,C.syms,(bz (λn:Nat=>(n:Int)) (eT _)).trans C.bu,C.bg,λx D=>?_,C.hit⟩
 obtain⟨y,E,rfl⟩:=List.mem_map.1 D;exact adM (C.EX y E) (by decide)
def as2{g:aH}{a:dj}(h:nj g a=true):IJ g a 1=some (afu a):=aqu (UJ h).1 (fz.wD h) (by decide) (by decide) (by decide)
def Vz{A T:Type}(f:Nat->A->T->ah A)(e:T):∀ (l:aa T) (k:Nat) (a:A),mF f k (l++[e]) a=(mF f k l a).bind λC=>f (k+l.length) C e
 | [],k,a=>by
  show (match f k a e with|some C=>some C|none=>none)=f k a e;cases f k a e<;>rfl
 | x :: l,k,a=>by
  show (match f k a x with|some C=>mF f (k+1) (l++[e]) C|none=>none)=(match f k a x with|some C=>mF f (k+1) l C|none=>none).bind λC=>f (k+(l.length+1)) C e
  cases f k a x with
  |none=>rfl
  | some C=>
   rw[show k+(l.length+1)=k+1+l.length by omega];exact Vz f e l (k+1) C
def afv{A T:Type}{f f':Nat->A->T->ah A}:∀ (l:aa T) (k:Nat) (a:A),(∀ i (h:i<l.length) a,f (k+i) a l[i]=f' (k+i) a l[i])->mF f k l a=mF f' k l a
 |[],_,_,_=>rfl
 | x :: l,k,a,h=>by
  have D:f k a x=f' k a x:=h 0 (Nat.zero_lt_succ _) a;show (match f k a x with|some C=>mF f (k+1) l C|none=>none)=(match f' k a x with|some C=>mF f' (k+1) l C|none=>none)
  rw[D];cases f' k a x with
  |none=>rfl
  | some C=>
   exact afv l (k+1) C λi hi b=>by
    have:=h (i+1) (Nat.succ_lt_succ hi) b;rw[show k+(i+1)=k+1+i by omega]at this;exact this
def as3{l:aa bH}{e x:bH}:∀ {k:Nat},k<=l.length->tq (l++[e]) k x=tq l k x
 |0,_=>rfl
 | k+1,h=>by
  simp only[tq];rw[List.getElem?_append_left (by omega)]
def afw(g:aH)(t:bW){l:aa bH}(e x:bH){k:Nat}(h:k<=l.length)(r:bJ):fT g t (l++[e]) k r x=fT g t l k r x:=by
 unfold fT;rw[as3 h,List.take_append_of_le_length h]
def as4(g:aH)(t:bW)(l:aa bH)(e:bH):runT g t (l++[e])=(runT g t l).bind λr=>fT g t l l.length r e:=by
 unfold runT;rw[Vz,fe,afv (f':=fT g t l) l 0 (kE g) λi hi a=>afw g t e _ (by omega) a];congr 1;funext r;exact afw g t e e (dH _) r
structure yN (g:aH) (t:bW) (l:List bH) (r:bJ) (q:dN):Prop where
 tkR:runT g t l=some r
 tkF:CN g l=some r
 tkY:n6 g l=q
 tkV:∀e∈l,yF g e=true/\e.at_<=q.last.getD (gE g e.cmd).toNat (-1)
 tkA:q.aZ=(gw l).drop ((gw l).length-4)
def yN.new(g:aH)(t:bW):yN g t [] (kE g) (uT g):=⟨rfl,rfl,rfl,λe h=>(by cases h),rfl⟩
def as5(g:aH)(t:bW){a b:aS}(c:aS)(C:a.kind=b.kind)(E:a.kind<=5->a.ay=b.ay):gf g t a c=gf g t b c:=by
 have e:rJ a c=rJ b c:=by unfold rJ;rw[C]
 unfold gf yE;rw[<-e,C];cases D:rJ a c with
 |false=>rfl
 | true=>
  simp only[rJ,aK,br]at D;rw[E D.1.2]
def as6{g:aH}{c:aS}(h:cQ g c=true):(jW (gE g c).toNat).kind=c.kind/\((jW (gE g c).toNat).kind<=5->(jW (gE g c).toNat).ay=c.ay):=by
 obtain⟨_,D,T,_⟩:=oX h;obtain⟨E,_⟩:=E2 h;have e:((gE g c).toNat:Int)=gE g c:=Int.toNat_of_nonneg E;have I:gE g c % 9+1=c.kind:=by unfold gE;omega
 unfold jW;dsimp only;rw[e,I]
 refine⟨rfl,λC=>?_⟩
 have O:aT c.kind 1 5=true:=br.2 ⟨D.1,C⟩;rw[aW C];unfold gE;rw[O,aq];omega
def afx(g:aH)(t:bW)(l:aa Int)(c:aS):∀ (k:Nat),k<=l.length->∀ (i:Nat) (hi:i<l.length),i<k->0<=l[i]->l[i]+gf g t (jW i) c<=tw g t l c k
 |0,_,_,_,h,_=>absurd h (Nat.not_lt_zero _)
 | k+1,E,i,hi,h,C=>by
  rw[N0,N1 (by omega)];by_cases e:i=k
  ·subst e;rw[bq,av];unfold tv;split<;>omega
  ·have D:=afx g t l c k (by omega) i hi (by omega) C;cases decide (l[k]<0)with
   |true=>exact D
   | false=>
    rw[av];unfold tv;split<;>omega
def as7(g:aH)(t:bW)(r:dN)(c:aS):tw g t r.last c r.last.length<=lQ g t r c:=by
 unfold lQ tv;cases c.kind==1&&(r.aZ.length:Int)==4 with
 |false=>exact gz _
 | true=>
  rw[aq];split<;>omega
def yN.gap{g:aH}{t:bW}{l:aa bH}{r:bJ}{q:dN}(h:yN g t l r q)(E:jn g q=true){x:aS}{n:Int}(ha:lQ g t q x<=n):∀ e∈l,e.at_+gf g t e.cmd x<=n/\e.at_<n:=λe I=>by
 obtain⟨O,T⟩:=h.tkV e I;obtain⟨D,h0,_⟩:=UC O;obtain⟨p0,p1⟩:=E2 D;have hl:=(E3 E).2.1;have C:(gE g e.cmd).toNat<q.last.length:=by omega
 rw[cL,bK C,Option.getD_some]at T;have U:=afx g t q.last x q.last.length (dH _) _ C C (by omega);have h4:=as7 g t q x;obtain⟨Y,Z⟩:=as6 D;rw[as5 g t x Y Z]at U;have h5:=apS g t e.cmd x;omega
def as8(l:aa bH)(e:bH):gw (l++[e])=bif e.cmd.kind==1 then gw l++[e.at_]else gw l:=by
 unfold gw;rw[List.filter_append,List.map_append];cases h:e.cmd.kind==1<;>simp[List.filter_cons,h]
def as9{l:aa bH}{y:Int}(h:y∈gw l):∃ e∈l,e.at_=y:=by
 obtain⟨e,C,rfl⟩:=List.mem_map.1 h;exact⟨e,(List.mem_filter.1 C).1,rfl⟩
def ve{T:Type}{l:aa T}{i:Nat}{x:T}(d:T)(h:i<l.length):(l.set i x).getD i d=x:=by
 rw[cL,List.getElem?_set_self h];rfl
def getD_set_ne{T:Type}{l:aa T}{i j:Nat}{x:T}(d:T)(h:i≠j):(l.set i x).getD j d=l.getD j d:=by
 rw[cL,List.getElem?_set_ne h,<-cL]
def yN.add{g:aH}{t:bW}{l:aa bH}{r:bJ}{q:dN}(h:yN g t l r q)(hr:kC g r=true)(I:jn g q=true){x:aS}{n:Int}(C:cQ g x=true)(T:iz r x=true)(ha:lQ g t q x<=n)(hn:0<=n/\n<=1000000):yN g t (l++[⟨n,x⟩]) (cR r x) (fO g q ⟨n,x⟩):=by
 have E:=h.gap I ha;have hl:=(E3 I).2.1;obtain⟨p0,p1⟩:=E2 C;have hi:aT n 0 1000000=true:=br.2 hn;have D:=h.tkA;have h1:tq l l.length ⟨n,x⟩=true:=by
  cases e:l.length with
  |zero=>rfl
  | succ k=>
   simp only[tq];rw[bK (by omega)];exact aY (E _ (dc (by omega))).2
 have h2:uR g t l ⟨n,x⟩=false:=by
  unfold uR
  refine nD.2 λe he=>?_
  have:=(E e he).1;rw[fq];dsimp only;omega
 have h3:(x.kind==1&&AM t (gw l) n)=false:=by
  cases U:x.kind==1 with
  |false=>rfl
  | true=>
   rw[cM];unfold AM;by_cases O:4<=(gw l).length
   ·have e4:q.aZ.length=4:=by rw[D,List.length_drop];omega
    have e0:q.aZ.getD 0 0=(gw l).getD ((gw l).length-4) 0:=by
     rw[D,cL,List.getElem?_drop,Nat.add_zero,<-cL]
    have e5:q.aZ.getD 0 0+t.jZ<=lQ g t q x:=by
     unfold lQ tv;rw[U,e4,show ((4:Nat):Int)==4 from rfl,Bool.and_self,aq];split<;>omega
    rw[<-e0,bq (show ¬ n-q.aZ.getD 0 0<t.jZ by omega),Bool.and_false]
   ·rw[bq O,Bool.false_and]
 have O:(x.kind==1&&tj q n)=false:=by
  cases U:x.kind==1 with
  |false=>rfl
  | true=>
   rw[cM];unfold tj;cases hL:q.aZ.getLast? with
   |none=>rfl
   | some y=>
    have Y:y∈q.aZ:=List.mem_of_getLast? hL;rw[D]at Y;obtain⟨e,he,rfl⟩:=as9 (List.mem_of_mem_drop Y);exact bq (by have:=(E e he).2;omega)
 have Z:fO g q ⟨n,x⟩=⟨q.last.set (gE g x).toNat n,bif x.kind==1 then AK q.aZ n else q.aZ⟩:=by
  unfold fO;dsimp only;rw[I,C,hi,O];rfl
 refine⟨?_,?_,?_,?_,?_⟩
 ·rw[as4,h.tkR,Option.bind_some];unfold fT;dsimp only;rw[C,hi,h1,T,mP,h2,h3];rfl
 ·have e:=h.tkF;unfold CN at e ⊢;rw[Vz,e,Option.bind_some];unfold fE kD;dsimp only;rw[hr,C,T];rfl
 ·have e:=h.tkY;unfold n6 at e ⊢;rw[List.foldl_append,e];rfl
 ·rw[Z];dsimp only;intro e he;rcases lz.1 he with he | he
  ·obtain⟨e1,e2⟩:=h.tkV e he;refine⟨e1,?_⟩;by_cases ep:(gE g x).toNat=(gE g e.cmd).toNat
   ·rw[<-ep,ve _ (by omega)];have:=(E e he).2;omega
   ·rw[getD_set_ne _ ep];exact e2
  ·obtain rfl:=gL.1 he;dsimp only;rw[ve _ (by omega)];refine⟨?_,gz _⟩;unfold yF;rw[C,hi];rfl
 ·rw[Z,as8];dsimp only;cases x.kind==1 with
  |false=>exact D
  | true=>
   rw[aq,aq];unfold AK;rw[D,List.length_append,List.length_singleton,List.length_drop];by_cases hs:(gw l).length<=3
   ·rw[show (gw l).length-4=0 by omega,List.drop_zero];rfl
   ·rw[<-List.drop_append_of_le_length (l₂:=[n]) (show (gw l).length-4<=(gw l).length by omega),List.drop_drop];congr 1;omega
def afy(l:aa Int):AN l l=true:=by
 unfold AN;rw[kM,cM,bS];intro p C;obtain⟨i,hi,rfl⟩:=jY.1 C;rw[List.getElem_zip];exact kM _
def ata(l:aa dQ):(l.zip l).all CQ=true:=by
 rw[bS];intro p C;obtain⟨i,hi,rfl⟩:=jY.1 C;rw[List.getElem_zip];unfold CQ;rw[kM,kM];rfl
def Fj(c:au):Prop:=yN c.config.ak c.config.bP c.trace c.aI c.ready
def Fj.saf{c:au}(h:Fj c):NY c=true:=by
 unfold NY;rw[h.tkR,h.tkF,h.tkY];dsimp only;rw[kM,ata,afy,afy];rfl
def Fk:cJ:=⟨List.replicate 16 (-1),List.replicate 16 0,0⟩
def atb:Em 16=some (Fk,true):=by kernel_rfl
def atc:Ap 0=some (List.replicate 11 0):=by kernel_rfl
def VA:cy:=⟨List.replicate 11 0,false⟩
def A1(g:aH):dj:=⟨List.replicate (eA g).toNat VA,List.replicate (fF g).toNat 0,List.replicate (fF g).toNat 0⟩
def atd{g:aH}(D:cx g=true):Ml g=some (A1 g):=by
 have E:=oV g;have O:=s9 g;have er:aL g*g.rows=fF g:=by simp[fF,D]
 obtain⟨n,C⟩:=fS E.1;unfold Ml bR;rw[qp,ax,D,bL,av,jl,ax,er,bf (n:=fF g),aW ⟨by omega,by omega,by omega⟩,aW ⟨by omega,by omega,by omega⟩];generalize I:List.replicate (fF g).toNat (0:Int)=A;have e:=eF (step:=HI) n (λi=>(((),(),(),(i:Int),()),((g.bM,g.aE,g.rows,g.aR,()),((),(),(),()),((),(),(),()),([]:aa cy),([]:aa Int),([]:aa Int),List.replicate i VA,A,A,())))
  (.inl (((),(),()),(((),(),(),()),((),(),(),()),([]:aa cy),([]:aa Int),([]:aa Int),List.replicate n VA,A,A,()))) bk (λk h=>by
  unfold HI aM xG;dsimp only;rw[uN,AD,ax,C,aY,aq,atc,ax,eO (by simp;omega),aq,bY,List.replicate_succ' (n:=k)];rfl) (by
  unfold HI aM xG;dsimp only;rw[uN,AD,ax,C,bq,av]) (cv)
 rw[dz,List.replicate_zero]at e;rw[e,ax];unfold A1;rw[C,I,bE];rfl
def rR(c:fl)(p:dD):au:=⟨c,⟨p,p,false⟩,0,kE c.ak,uT c.ak,A1 c.ak,(v8 c.ak c.cS).1,⟨List.replicate (aL c.ak).toNat 0,c.interval,false⟩,List.replicate (aL c.ak).toNat Fk,List.replicate (aL c.ak).toNat p.dG,[],[],p.weights.map nY,⟨false,p.low,p.high⟩,⟨0,0,0⟩,⟨0,10,10⟩,[],[],[]⟩
def Fl{p:dD}(h:wg p):yC p=true/\jV (p.weights.map nY)=true/\p.weights.length=4:=by
 have⟨⟨⟨E,I⟩,⟨O,T⟩,⟨U,Y⟩,⟨Z,h8⟩,⟨i,w,hi,hw1,hw2,hw⟩,⟨h9,yz⟩,uQ,qc⟩,oY,s7⟩:=h;have C:p.weights.length=4:=by rw[hw,jb];rfl
 have D:jV (p.weights.map nY)=true:=by
  rw[hw];rcases(by omega:i=0 \/ i=1 \/ i=2 \/ i=3)with rfl|rfl|rfl|rfl<;>rcases(by omega:w=1 \/ w=2 \/ w=3 \/ w=4)with rfl|rfl|rfl|rfl<;>rfl
 refine⟨?_,D,C⟩;unfold yC qw E0;rw[D,C];simp only[aT,aK,fq]
 grind
def ate{n:Int}(C:8<=n)(D:n<=17):Ak n=some (2*n+2):=by
 unfold Ak;rw[c9,ax,br.2 ⟨by omega,by omega⟩,bL,av,bf (n:=2*n),bf]
def Fm{g:aH}(h:NW g):cx g=true:=by
 have⟨⟨C,D⟩,⟨E,I⟩,⟨O,T⟩,U,Y⟩:=h;simp[cx,aT,aK,fq];omega
def atf:∀ r∈[(1:Int),2,3,4],∀ w∈[(4:Int),5,6,7,8],iW (kF r w)=true/\decide (EZ (kF r w) <= 200)=true:=by
 intro r C w D;simp at C D;rcases C with rfl|rfl|rfl|rfl<;>rcases D with rfl|rfl|rfl|rfl|rfl<;>exact⟨by kernel_rfl,by kernel_rfl⟩
def atg{c:fl}(h:kG c):qt c=true:=by
 have⟨C,⟨r,w,U,Y,Z,hw2,E⟩,⟨GU,qe⟩,⟨FX,VB⟩,⟨hi1,hi2⟩,I,O⟩:=h;have T:=Fm C;have⟨t1,D⟩:=atf r (by simp;omega) w (by simp;omega);have D:=of_decide_eq_true D;have⟨⟨h1,h2⟩,⟨h3,h4⟩,⟨h5,h6⟩,h7,h8⟩:=C;unfold qt nX;rw[T,E,t1,O,I];rw[bf];simp only[aT,aK,fq,true_and];omega
def afz{c:fl}{p:dD}(C:kG c)(D:wg p):sV c p=some true:=by
 have I:=atg C;have⟨O,_,h3⟩:=Fl D;have⟨hg,⟨r,w,VC,tW,hw1,hw2,E⟩,⟨GU,qe⟩,⟨FX,VB⟩,⟨hi1,hi2⟩,T,U⟩:=C;have⟨_,Y,Z⟩:=D;have e1:c.bP.jG=7:=by rw[E];rfl
 have e2:c.bP.rp=3:=by rw[E];rfl
 unfold sV;rw[NG,ax,I,aq,I7 _ (by omega),ax,O,aq,ate Y Z,ax,U,T,e1,e2,bf (n:=2*p.dG+2+2)];dsimp only;rw[aY,aq,bf (n:=7+3),aX,bf (n:=5*c.interval),Int.tdiv_eq_ediv_of_nonneg (by omega),bf (n:=16+1),bf (n:=(16+1)*p.dG),bf (n:=5*c.interval / (7+3)),bf,aY]
def ath{p:dD}(h:p.weights.length=4):vT p=some p:=by
 unfold vT xA xZ;rw[eO (by simp[h]),aq,List.nil_append]
def ati{p:dD}(C:wg p):Mm p=some (⟨p,p,false⟩,true):=by
 obtain⟨D,_,E⟩:=Fl C;unfold Mm;rw[I7 _ (by omega),ax,D,bL,av,ath E,ax,ax]
def grow(x:au)(l:Int)(i:Nat):au:=⟨x.config,x.box,x.now,x.aI,x.ready,x.array,x.spare,x.aB,x.bB++List.replicate i Fk,x.guard++List.replicate i l,x.pending,x.queue,x.shares,x.drain,x.aN,x.eg,x.errors,x.trace,x.cc⟩
def atj(Z C:au)(c:fl)(p:dD)(n:Nat)(D:aL c.ak=(n:Int))(U:n<=8)(E:c.gU=16)(I:C.bB=[])(O:C.guard=[]):
  iter En bk (((),(),(),(),(),(0:Int),()),(Z,C,c,(p.eI,p.cap,p.dG,p.low,p.high,p.weights,p.bF.down,p.bF.sleep,()),(c.ak.bM,c.ak.aE,c.ak.rows,c.ak.aR,()),()))=some (.inl (((),(),()),(Z,grow C p.dG n,()))):=by
 have e:=eF (step:=En) n (λi=>(((),(),(),(),(),(i:Int),()),(Z,grow C p.dG i,c,(p.eI,p.cap,p.dG,p.low,p.high,p.weights,p.bF.down,p.bF.sleep,()),(c.ak.bM,c.ak.aE,c.ak.rows,c.ak.aR,()),()))) (.inl (((),(),()),(Z,grow C p.dG n,()))) bk (λk h=>by
  unfold En grow aM xG;dsimp only;rw[uN,jl,ax,D,aY,aq,E,atb,ax,I,O,eO (by simp;omega),aq,eO (by simp;omega),aq,bY,List.replicate_succ' (n:=k),List.replicate_succ' (n:=k),List.append_assoc,List.append_assoc]) (by
  unfold En aM xG;dsimp only;rw[uN,jl,ax,D,bq,av]) (cv)
 have T:grow C p.dG 0=C:=by
  unfold grow;simp only[List.replicate_zero,List.append_nil]
 rw[dz,T]at e;exact e
def atk{c:fl}{p:dD}(C:kG c)(D:wg p):Mo c p=some (rR c p,true):=by
 have E:=Fm C.1;have O:=eG c.ak;have RJ:=I0 E;obtain⟨h2,T,h3⟩:=Fl D;obtain⟨n,I⟩:=fS O.1;have U:c.gU=16:=C.2.2.2.2.2.1;have Ov:200<=c.interval/\c.interval<=259:=C.2.2.2.2.1;have Y:Mn (aL c.ak) c.interval=some (⟨List.replicate (aL c.ak).toNat 0,c.interval,false⟩,true):=by
  unfold Mn;rw[c9,ax,br.2 ⟨by omega,by omega⟩,bL,av,c9,ax,br.2 ⟨by omega,by omega⟩,bL,av,aW ⟨by omega,by omega,by omega⟩]
 have Z:Ti 10=some (⟨0,10,10⟩,true):=rfl;have hsn:CJ p.weights=(p.weights.map nY,true):=by unfold CJ;rw[T,aq]
 unfold Mo bR;rw[afz C D,ax,bL,av,Ux,ax,aeg E,ax,atd E,ax,ati D,ax,Uj,ax,jl,ax,Y,ax,Uk _ (by omega),ax,Z,ax,hsn];dsimp only;rw[atj _ _ c p n I (by omega) U rfl rfl,ax];unfold rR grow;rw[I];rfl
def VD(g:aH)(sp:Int):aH:=⟨g.bM,g.aE,g.rows-sp,g.aR⟩
def Ow(g:aH)(sp:Int):Bool:=kC g (kE g)&&(jn g (uT g)&&(nj g (A1 g)&&(qB g (v8 g sp).1&&((v8 g sp).1.cS==sp&&(cx (VD g sp)&&(decide (0<eA (VD g sp))&&(W6 (W6 ((eA g).tdiv g.rows)*W6 (g.rows-sp))==eA (VD g sp)&&(decide (1<=eA g)&&decide ((v8 g sp).1.map.length<=1048576)))))))))
def atl:(([1,2]:aa Int).all λG=>([1,2]:aa Int).all λB=>([4,5,6]:aa Int).all λR=>([1,2]:aa Int).all λC=>([0,1,2]:aa Int).all λsp=>Ow ⟨G,B,R,C⟩ sp)=true:=by kernel_rfl
def afA{g:aH}{sp:Int}(h:NW g)(C:0 <= sp)(D:sp <= 2):Ow g sp=true:=by
 have⟨⟨E,I⟩,⟨O,T⟩,⟨U,Y⟩,d1,d2⟩:=h;have e:=atl;simp only[bS]at e;exact e _ (by simp;omega) _ (by simp;omega) _ (by simp;omega) _ (by simp;omega) sp (by simp;omega)
def atm:lO Fk=true:=by kernel_rfl
def atn{c:fl}{p:dD}(C:kG c)(I:wg p):cG (rR c p):=by
 have O:=eG c.ak;have T:=oV c.ak;have U:=s9 c.ak;have⟨_,_,Y⟩:=Fl I;have E:=afA C.1 C.2.2.2.1.1 C.2.2.2.1.2;simp only[Ow,aK,fq]at E
 refine⟨⟨?_,?_⟩,?_,⟨?_,?_⟩,⟨⟨?_,λy D=>?_⟩,?_,?_⟩,E.2.2.2.2.2.2.2.2.2,?_,⟨?_,λy D=>?_⟩,?_,?_,?_,?_,?_,?_,?_⟩
 ·show p.weights.length <= _;omega
 ·show p.weights.length <= _;omega
 ·show (List.replicate _ _).length <= _;rw[jX];omega
 ·show (List.replicate _ _).length <= _;rw[jX];omega
 ·exact Nat.zero_le _
 ·show (List.replicate _ _).length <= _;rw[jX];omega
 ·obtain rfl:=List.eq_of_mem_replicate D;exact cu rfl
 ·show (List.replicate _ _).length <= _;rw[jX];omega
 ·show (List.replicate _ _).length <= _;rw[jX];omega
 ·show (List.replicate _ _).length <= _;rw[jX];omega
 ·show (List.replicate _ _).length <= _;rw[jX];omega
 ·obtain rfl:=List.eq_of_mem_replicate D;exact⟨cu rfl,cu rfl⟩
 ·show (List.replicate _ _).length <= _;rw[jX];omega
 ·exact Nat.zero_le _
 ·exact Nat.zero_le _
 ·show (p.weights.map nY).length <= _;rw[eT];omega
 ·exact Nat.zero_le _
 ·exact Nat.zero_le _
 ·exact Nat.zero_le _
def ato{c:fl}{p:dD}(C:kG c)(D:wg p):cA (rR c p)=true:=by
 have hb:=eG c.ak;have RJ:=I0 (Fm C.1);have hl:=oV c.ak;obtain⟨_,O,T⟩:=Fl D;have E:=afA C.1 C.2.2.2.1.1 C.2.2.2.1.2;simp only[Ow,aK,fq]at E;obtain⟨U,Y,Z,g4,g5,g6,g7,g8,g9,g10⟩:=E;have I:n7 c p=true:=by unfold n7;rw[afz C D];rfl
 have Ov:200<=c.interval/\c.interval<=259:=C.2.2.2.2.1;obtain⟨⟨_,_,⟨l1,l2⟩,⟨l3,l4⟩,_⟩,p1,p2⟩:=D;have e1:fN (rR c p).aB=true:=by
  unfold fN;simp only[rR,jX,aT,aK,fq,List.all_replicate];refine⟨?_,by omega,aY,aY⟩;split<;>rfl
 have e2:th (rR c p)=true:=by
  unfold th;simp only[rR,jX,aK,ff,List.length_nil,List.range_zero,List.all_nil];refine⟨by omega,by omega,by omega,rfl,?_,trivial⟩;rw[bS];intro i hi;have hi:i<(aL c.ak).toNat:=gq.1 hi;unfold partAt;simp only[List.getElem?_replicate,hi,if_true,atm,cM];exact br.2 ⟨by omega,by omega⟩
 have e3:qw (rR c p).drain=true:=by
  unfold qw;simp only[rR,aK];exact⟨aY l1,aY l3,aY⟩
 have e4:aT 0 0 (W6 (eA c.ak-1))=true:=by
  rw[bf];exact br.2 ⟨by omega,by omega⟩
 have e5:((p.weights.map nY).length:Int)==4:=by rw[eT,T];rfl
 unfold cA;simp only[aK];exact⟨I,I,rfl,U,Y,Z,g4,g5,⟨e1,e2⟩,rfl,O,e5,e3,rfl,rfl,rfl,rfl,rfl,e4,rfl,rfl,rfl⟩
def atp{c:au}(D:cA c=true)(r:aV):cA (kH c r).1=true/\((kH c r).2=false -> (kH c r).1=c):=by
 have h:=Ck.of D;have p:=gi.of h.pa;unfold kH;cases C:((!cA c) ||((!(nt c r).2) ||(c.cc.any λx=>x.id==r.id)))with
 |true=>simp_all
 | false=>
  refine⟨?_,λh=>by cases h⟩
  rw[av];simp only[mO,Bool.not_eq_false']at C;have E:gD (eA (gQ c.config.ak c.spare)) (nt c r).1=true:=by
   have I:=C.2.1;unfold nt CP at I ⊢
   grind
  exact Ck.ok ⟨h.f1,h.f2,h.nw,h.rk,h.rd,h.ar,h.sp,h.se,h.rf,(show gi { c with queue:=(nt c r).1 } from ⟨p.dl,p.tl,p.gl,p.t,p.g,p.pd,p.u⟩).ok,E,h.sh,h.sl,h.dr,h.pw,h.ps,h.si,h.s1,h.s2,h.s3,h.er,h.tr,h.rp⟩
def atq{b:aa Int}{c:bw}(E:jT b c):Dr b (L0 c) λ_=>True:=by
 unfold L0;rw[E.eq]
 refine(eX E 4).bind λx T U D=>?_
 rw[D.eta];cases Y:(x==0)with
 | true=>
  refine(NC D _ (by decide)).bind λy I _ C=>?_
  rw[C.eta];exact Dr.pure C trivial
 | false=>
  cases Z:(x==1)with
  | true=>
   refine(eX D 200).bind λy I _ C=>?_
   rw[C.eta];exact Dr.pure C trivial
  | false=>
   refine(eX D 65536).bind λy I _ C=>?_
   rw[C.eta]
   refine(eX C 65536).bind λy c3 _ O=>?_
   rw[O.eta];exact Dr.pure O trivial
def atr{b:aa Int}{c:bw}(D:jT b c)(n:Int):Dr b (L1 c n) λ_=>True:=by
 unfold L1;rw[D.eq]
 refine(eX D 60).bind λZ k1 h1 E=>?_
 dsimp only;rw[E.eta]
 refine(eX E 3).bind λx2 k2 h2 I=>?_
 dsimp only;rw[I.eta]
 refine(eX I n).bind λx3 k3 h3 O=>?_
 dsimp only;rw[O.eta]
 refine(eX O 50).bind λx4 k4 h4 T=>?_
 dsimp only;rw[T.eta]
 refine(ND T 2).bind λY k5 h5 C=>?_
 dsimp only;rw[C.eta];cases Y with
 | true=>
  refine(atq C).bind λx6 k6 h6 U=>?_
  rw[U.eta];exact Dr.pure U trivial
 |false=>exact Dr.pure C trivial
def Rv(c:au)(N:Int):Prop:=(∀r∈c.queue,r.id<=N/\r.at_<=c.now)/\∀r∈c.cc,r.id<=N
def Tq(c:au)(u:Nat):Prop:=Fj c/\c.queue.length+c.cc.length<=u
def Tq.up{c:au}{u:Nat}(h:Tq c u):Tq c (u+1):=⟨h.1,Nat.le_succ_of_le h.2⟩
def Tq.adv{c y:au}{u:Nat}{n:Int}(h:Tq c u)(T:cA c=true)(U:0<=n/\n<=1000000)(O:y.config=c.config)(Y:Adv n c y)(Z:y.queue.length+y.cc.length=c.queue.length+c.cc.length):Tq y u:=by
 have k:=Ck.of T;have C:=h.1;unfold Fj at C;refine⟨?_,by rw[Z];exact h.2⟩;unfold Fj;rcases Y with ⟨D,E,I⟩|⟨x,D,E,I,a4,a5,a6⟩
 ·rw[O,D,E,I];exact C
 ·rw[O,D,E,I];exact C.add k.rk k.rd a4 a5 a6 U
def Tq.nx{c y:au}{u:Nat}(h:Tq c u)(D:cA c=true)(C:Nx c y):Tq y u:=h.adv D (br.1 (Ck.of D).nw) C.2.1 C.2.2.2.2.1 C.2.2.2.2.2
def att{c:au}{u:Nat}(h:Tq c u)(r:aV):Tq (kH c r).1 (u+1)/\(kH c r).1.now=c.now/\(kH c r).1.config=c.config:=by
 unfold kH;cases D:((!cA c) ||((!(nt c r).2) ||(c.cc.any λx=>x.id==r.id)))with
 |true=>exact⟨h.up,rfl,rfl⟩
 | false=>
  have C:=h.2;refine⟨⟨h.1,?_⟩,rfl,rfl⟩;show (nt c r).1.length+c.cc.length<=u+1;unfold nt CP;cases (gD (eA (gQ c.config.ak c.spare)) c.queue&&gD (eA (gQ c.config.ak c.spare)) (jo (λx=>fm (lP c r) x) c.queue (lP c r)))with
  |false=>exact Nat.le_succ_of_le C
  | true=>
   rw[aq];dsimp only;rw[UL];omega
def JH(c:au)(x:aS):Prop:=cQ c.config.ak x=true/\x.kind≠2/\x.kind≠3
def VE{c:au}{x:aS}(h:JH c x)(D:cC c x=true)(E:¬ (c.trace.length:Int) >= 2000):kJ c x (-1)=true/\x.kind≠0:=by
 obtain⟨C,I,O⟩:=h;have T:=(oX C).2.1;refine⟨?_,by omega⟩;unfold kJ;rw[C,D,bq E,jS I,jS O];rfl
def VF{c:au}(h:Pq c){b:Int}(D:0<=b/\b<aL c.config.ak){x:aS}(C:JH c x):JH c (o7 c b x):=by
 refine⟨Ol h D C.1,?_⟩;unfold o7;cases (cX c.aI b).open_ with
 |true=>exact⟨(by decide:(4:Int)≠2),(by decide:(4:Int)≠3)⟩
 |false=>exact C.2
def atu{c:au}(h:Pq c):∀ x∈C4 c++C5 c c.pending.length,JH c x:=λx hx=>by
 rcases lz.1 hx with hx|hx
 ·obtain⟨b,D,rfl⟩:=List.mem_map.1 hx;have C:=(Vt h D).1;exact VF h C ⟨yI h.p.R.tA (.inr rfl) C,by dsimp only;omega,by dsimp only;omega⟩
 ·obtain⟨i,hi,rfl⟩:=List.mem_map.1 hx;obtain⟨o,E,_,_,I⟩:=Vs h (gq.1 (List.mem_filter.1 hi).1);exact VF h ⟨E,I⟩ ⟨aeP o,by dsimp only;omega,by dsimp only;omega⟩
def atv{c:au}(h:Pq c):∀ x∈o8 c++(lT c++ld c),JH c x:=λx hx=>by
 have U:=C7 c;have I:=h.p.R.tA;rcases lz.1 hx with hx|hx
 ·have Y:=h.dl;have Z:-1<=eR c/\eR c<c.aB.aD.length:=Vu _ _;unfold o8 at hx;by_cases C:eR c >= 0
  ·have D:0<=eR c/\eR c<aL c.config.ak:=by omega
   rw[aY C,cM]at hx;cases hu:qK c (eR c)with
   |true=>rw[hu]at hx;cases hx
   | false=>
    rw[hu]at hx;rw[gL.1 hx];exact VF h D ⟨yI I (.inr rfl) D,by dsimp only;omega,by dsimp only;omega⟩
  ·rw[bq C]at hx;cases hx
 ·have O:=(asK h).2;have T:=(asJ h).2;rcases lz.1 hx with hx | hx
  ·refine⟨O x hx,?_⟩;unfold lT at hx;cases C:decide (kK c >= 0)with
   |false=>rw[C]at hx;cases hx
   |true=>rw[C]at hx;rw[gL.1 hx];exact⟨by dsimp only;omega,by dsimp only;omega⟩
  ·refine⟨T x hx,?_⟩;unfold ld at hx;cases C:bN c==8&&decide (((opens 0 c.aI.aE).length:Int) > 0)with
   |true=>rw[C]at hx;rw[gL.1 hx];exact⟨by dsimp only;omega,by dsimp only;omega⟩
   | false=>
    rw[C,av]at hx;cases E:bN c != 0 with
    |false=>rw[E]at hx;cases hx
    |true=>rw[E]at hx;rw[gL.1 hx];exact⟨by dsimp only;omega,by dsimp only;omega⟩
def afB{old hit eZ:Nat->Bool}{n:Nat}:wF old hit eZ n = -1\/∃ j:Nat,j<n/\wF old hit eZ n=(j:Int)/\eZ j=true:=by
 unfold wF;rcases uY (λi=>eZ i&&old i) n with ⟨E,_⟩|⟨j,E,I,C,_⟩
 ·rw[E,aY,aq];rcases uY (λi=>eZ i&&hit i) n with ⟨C,_⟩ | ⟨j,C,O,D,_⟩
  ·rw[C,aY,aq];rcases uY eZ n with ⟨D,_⟩ | ⟨j,D,T,U,_⟩
   ·exact .inl D
   ·exact .inr ⟨j,D,T,U⟩
  ·rw[O,bq,av];exact .inr ⟨j,C,rfl,(aK _ _ ▸ D).1⟩
 ·rw[I,bq,av];exact .inr ⟨j,E,rfl,(aK _ _ ▸ C).1⟩
def atw{c:au}(h:Pq c)(I:¬ (c.trace.length:Int) >= 2000)(U:c.cc.length<400):((mJ c).1.kind=0/\(mJ c).2 = -1)\/kJ c (mJ c).1 (mJ c).2=true/\(mJ c).1.kind≠0:=by
 unfold mJ;rcases afB (old:=uZ c) (hit:=fQ c) (eZ:=oe c (tF c)) (n:=c.queue.length)with e|⟨j,C,e,D⟩
 ·rw[show nA c = -1 from e];exact .inl ⟨rfl,rfl⟩
 ·rw[show nA c=(j:Int)from e,bq,av];dsimp only;rw[bE];simp only[oe,kZ,aK]at D;have E:=afa h C;have Y:=(oX E).2.1;refine .inr ⟨?_,by omega⟩;have O:nu c.aI (iB c (c.queue.getD (j:Int).toNat od).line) (c.queue.getD (j:Int).toNat od).write=fK c j:=by
   unfold fK;rw[bE,iC _ C,Jv C,<-Jw (by rw[C0];exact C),ae0 C]
  have hi:aT (j:Int) 0 ((c.queue.length:Int)-1)=true:=br.2 ⟨by omega,by omega⟩;have T:JC (fK c j) (fK c j)=true:=by
   unfold JC;simp only[kM,Bool.and_self]
  unfold kJ JD;rw[E,D.1.2.2.1,bq I,O,T,hi,aY (show (c.cc.length:Int)<400 by omega),Bool.or_true];cases (fK c j).kind==2 ||(fK c j).kind==3<;>rfl
def atx{c:au}(h:Pq c)(C:¬ (c.trace.length:Int) >= 2000)(I:c.cc.length<400):((gx c).1.kind=0/\(gx c).2 = -1)\/kJ c (gx c).1 (gx c).2=true/\(gx c).1.kind≠0:=by
 have T:=C7 c;unfold gx;cases c.aN.state != 0 with
 | true=>
  rw[aq];by_cases D:bN c=0
  ·rw[D];exact .inl ⟨rfl,rfl⟩
  ·rw[gv D,aq];cases O:cC c ⟨bN c,0,0,0⟩with
   |false=>exact .inl ⟨rfl,rfl⟩
   |true=>exact .inr (VE ⟨N5 h.p.R.tA (by omega),by show bN c≠2;omega,by show bN c≠3;omega⟩ O C)
 | false=>
  rw[av];cases hu:yM c with
  | some x=>
   unfold yM at hu;exact .inr (VE (atu h x (List.mem_of_find?_eq_some hu)) (List.find?_some hu) C)
  | none=>
   dsimp only;cases U:decide ((mJ c).2 >= 0)with
   |true=>exact atw h C I
   | false=>
    rw[av];unfold rQ;cases E:(o8 c++(lT c++ld c)).find? (cC c)with
    |none=>exact .inl ⟨rfl,rfl⟩
    |some x=>exact .inr (VE (atv h x (List.mem_of_find?_eq_some E)) (List.find?_some E) C)
def Mc(l C:aa cy)(e D:aa cI):Prop:=(C=l/\D=e)\/∃(n:Nat) (h:n<l.length),C=l.set n (rO l[n])/\D=bif kI l[n] != 0 then tE e (n:Int) (kI l[n])else e
def Qs(s j:au):Prop:=∃l e,j=⟨s.config,s.box,s.now,s.aI,s.ready,⟨l,s.array.bu,s.array.bg⟩,s.spare,s.aB,s.bB,s.guard,s.pending,s.queue,s.shares,s.drain,s.aN,s.eg,e,s.trace,s.cc⟩/\Mc s.array.cells l s.errors e
def Fn(j y:au):Prop:=((gx j).1.kind=0/\y=j)\/(kJ j (gx j).1 (gx j).2=true/\y=dB j (gx j).1 (gx j).2)
def Ke(j:au)(o:ah au):Prop:=∃y,o=some y/\cG y/\cA y=true/\cG j/\cA j=true/\Fn j y
def Kf(s:au)(o:ah au):Prop:=∃j,Qs s j/\Ke j o
def VG{x:au}(C:cG x)(D:cA x=true)(ht:x.trace.length<2000)(O:x.cc.length<400):Ke x (Ot x):=by
 have h:=Pq.of C D;have T:¬ (x.trace.length:Int) >= 2000:=by omega
 have e:sY x=some (gx x):=by
  unfold sY;rw[CO x C,ax,D,bL,av,asO h,bq T];rfl
 unfold Ot;rw[e,ax];rcases atx h T O with ⟨E,_⟩|⟨I,E⟩
 ·rw[E];exact⟨x,rfl,C,D,C,D,.inl ⟨E,rfl⟩⟩
 ·obtain⟨U,Y,Z,O⟩:=JE C h I;rw[gv E,aq,asa C h,I,aq,ar0 U Y Z];exact⟨_,rfl,ar7 C U O Y Z,(Ck.Vy C (Ck.of D) I).ok,C,D,.inr ⟨I,rfl⟩⟩
def afC{x:au}(Z:cG x)(h:cA x=true)(I:x.trace.length<2000)(O:x.cc.length<400){n:Int}(hn:n<eA x.config.ak):Kf x (Ou x n):=by
 unfold Ou;by_cases T:n >= 0
 ·have C:=Ck.of h;have U:=fz.wD C.ar;have hg:=(rK C.rk).1;have hl:=U.cells;have hb:=oV x.config.ak;obtain⟨j,rfl⟩:=fS T;have D:j<x.array.cells.length:=by omega
  have Y:=U.syms _ (dc D);have hec:=Vh Y;have E:fz x.config.ak 100000 ⟨x.array.cells.set j (rO x.array.cells[j]),x.array.bu,x.array.bg⟩:=U.Jg _ (Vc Y);have p:=gi.of C.pa;have iq:=(Ek.of C.er).l;rw[aY T,aq,aeX D Y,ax];dsimp only;rw[ae2 (c:=wz x j (rO x.array.cells[j])) C.er ⟨by omega,by omega⟩ hec,ax];dsimp only;obtain⟨z1,z2,z3,z5,z6,z7,z8,z9,nU,qC,rL,oU,rM,we⟩:=Z;have yd:cG (wz x j (rO x.array.cells[j])):=⟨z1,z2,z3,AZ E,z6,z7,z8,z9,nU,qC,rL,oU,rM,we⟩
  have Q0:Ck (wz x j (rO x.array.cells[j])):=⟨C.f1,C.f2,C.nw,C.rk,C.rd,C2 hg E,C.sp,C.se,C.rf,(show gi (wz x j (rO x.array.cells[j]))from ⟨p.dl,p.tl,p.gl,p.t,p.g,p.pd,p.u⟩).ok,C.qu,C.sh,C.sl,C.dr,C.pw,C.ps,C.si,C.s1,C.s2,C.s3,C.er,C.tr,C.rp⟩
  unfold Og;by_cases e:kI x.array.cells[j]=0
  ·rw[e];exact⟨_,⟨_,_,rfl,.inr ⟨j,D,rfl,by rw[e];rfl⟩⟩,VG yd Q0.ok I O⟩
  ·rw[gv e,aq];have he:=afk (l:=x.errors) C.er (n:=(j:Int)) ⟨by omega,by omega⟩ (code:=kI x.array.cells[j]) (by omega);have hle:=ae8 (l:=x.errors) (j:Int) (kI x.array.cells[j]);exact⟨_,⟨_,_,rfl,.inr ⟨j,D,rfl,by rw[gv e,aq]⟩⟩,(VG (x:=Of (wz x j (rO x.array.cells[j])) (tE x.errors (j:Int) (kI x.array.cells[j]))) ⟨z1,z2,z3,AZ E,z6,z7,z8,z9,nU,qC,rL,by show (tE x.errors (j:Int) (kI x.array.cells[j])).length<=_;omega,rM,we⟩ (Ck.ok ⟨C.f1,C.f2,C.nw,C.rk,C.rd,C2 hg E,C.sp,C.se,C.rf,(show gi (Of (wz x j (rO x.array.cells[j])) (tE x.errors (j:Int) (kI x.array.cells[j])))from ⟨p.dl,p.tl,p.gl,p.t,p.g,p.pd,p.u⟩).ok,C.qu,C.sh,C.sl,C.dr,C.pw,C.ps,C.si,C.s1,C.s2,C.s3,he,C.tr,C.rp⟩) I O)⟩
 ·rw[bq T,av];exact⟨_,⟨_,_,rfl,.inl ⟨rfl,rfl⟩⟩,VG Z h I O⟩
def Ox(w:Bool)(i:Int):Int:=bif w then 0 else if 1000000<i+1 then 1000000 else i+1
def aty{p:ij}(h:kX p=true)(w:Bool):∃ y,EV p w=some y/\kX y=true/\y.state=p.state/\y.since=p.since/\y.idle=Ox w p.idle:=by
 unfold EV Ox;rw[NJ,ax,h,bL,av];simp only[kX,aK,br]at h;cases w with
 |true=>exact⟨_,rfl,by simp only[kX,aK,br];omega,rfl,rfl,rfl⟩
 | false=>
  rw[bf (n:=p.idle+1)];refine⟨_,rfl,?_,rfl,rfl,rfl⟩;simp only[kX,aK,br];split<;>omega
structure Pr (c j:au):Prop where
 pN:j.now=c.now+1
 pC:j.config=c.config
 pK:j.aI=c.aI
 pR:j.ready=c.ready
 pH:j.array.bg=c.array.bg
 pA:j.array.bu=bif c.aI.aN != 2 then c.array.bu.map (nq 1)else c.array.bu
 pF:j.aB=bif c.aI.aN != 2 then vc c.aB c.config.interval else c.aB
 pT:j.bB=c.bB
 pG:j.guard=c.guard
 pP:j.pending=c.pending
 pQ:j.queue=c.queue
 pS:j.aN.state=c.aN.state
 pE:j.trace=c.trace
 pY:j.cc=c.cc
 pI:j.aN.idle=Ox (n9 j) c.aN.idle
 pB:j.box=c.box\/j.box=⟨c.box.next,c.box.next,false⟩
 pV:j.spare=c.spare
 pM:Mc c.array.cells j.array.cells c.errors j.errors
def afD{c:au}(hz:cG c)(h:Ck c)(hn:c.now<1000000)(T:c.trace.length<2000)(U:c.cc.length<400){r:eB}{a:dj}(Y:fN r=true)(Q2:r.aD.length=c.aB.aD.length)(Z:nj c.config.ak a=true)
  (e1:r=bif c.aI.aN != 2 then vc c.aB c.config.interval else c.aB) (e2:a.bu=bif c.aI.aN != 2 then c.array.bu.map (nq 1)else c.array.bu) (e3:a.bg=c.array.bg) (e4:a.cells=c.array.cells):∃j y,stepT c r a=some y/\cG y/\cA y=true/\cG j/\cA j=true/\Pr c j/\Fn j y:=by
 obtain⟨z1,z2,z3,z5,z6,z7,z8,z9,nU,qC,rL,oU,rM,we⟩:=hz;have p:=gi.of h.pa;have hg:=(rK h.rk).1;have JF:=br.1 h.nw;have hb:=oV c.config.ak;have hLp:1<=eA c.config.ak:=by
  have:=br.1 h.s3;rw[bf (n:=eA c.config.ak-1)]at this;omega
 have w1:c.box.bT.weights.length<=1048576:=z1.1;have w2:c.box.next.weights.length<=1048576:=z1.2
 obtain⟨n,f1⟩:=asQ c.queue true (by omega);obtain⟨d,f2,D⟩:=asR h.dr n;have f3:Aw (vb c c.box a r c.shares d c.aN c.eg)=some (n9 (vb c c.box a r c.shares d c.aN c.eg)):=aeN (c:=vb c c.box a r c.shares d c.aN c.eg) Y;obtain⟨pw,f4,SN,xV,hp3,hp4⟩:=aty h.pw (n9 (vb c c.box a r c.shares d c.aN c.eg));obtain⟨t,f5⟩:=asT c.box z1 ((c.queue.length:Int)==(0:Int));obtain⟨u,m,f6,PJ,oI,JI,hm⟩:=asW h.s1 h.s2 h.s3 ⟨hLp,by omega⟩;have E:W6 (c.now+1)=c.now+1:=bf;have key:∀ (b:mS) (s:aa dw) (d:mR),NU b->n7 c.config b.bT=true->n7 c.config b.next=true->jV s=true->(s.length:Int)=4->qw d=true->cG (vb c b a r s d pw u)/\cA (vb c b a r s d pw u)=true:=λb s d yh gB VH FX VB D=>by
  refine⟨⟨yh,z2,z3,AZ (fz.wD Z),z6,by have:=z7;unfold E6 at this ⊢;show r.aD.length<=_;omega,z8,z9,nU,qC,by show s.length<=_;omega,oU,rM,we⟩,Ck.ok ⟨gB,VH,?_,h.rk,h.rd,Z,h.sp,h.se,Y,(show gi (vb c b a r s d pw u)from ⟨by show (r.aD.length:Int)=_;rw[Q2];exact p.dl,p.tl,p.gl,p.t,p.g,p.pd,p.u⟩).ok,h.qu,FX,VB,D,SN,xV.trans h.ps,?_,PJ,oI,JI,h.er,h.tr,h.rp⟩⟩
  ·show aT (W6 (c.now+1)) 0 1000000=true;rw[E];exact br.2 ⟨by omega,by omega⟩
  ·show pw.since<=W6 (c.now+1);have:=h.si;rw[E,hp3];omega
 have BF:∀ (b:mS) (s:aa dw) (d:mR) (o:ah au),(b=c.box\/b=⟨c.box.next,c.box.next,false⟩)->Kf (vb c b a r s d pw u) o->∃ j y,o=some y/\cG y/\cA y=true/\cG j/\cA j=true/\Pr c j/\Fn j y:=λb s d o hb ho=>by
  obtain⟨j,⟨l,e,rfl,C⟩,y,g1,g2,g3,g4,g5,g6⟩:=ho;have C:Mc a.cells l c.errors e:=C;rw[e4]at C;exact⟨_,y,g1,g2,g3,g4,g5,⟨E,rfl,rfl,rfl,e3,e2,e1,rfl,rfl,rfl,rfl,xV,rfl,rfl,hp4,hb,rfl,C⟩,g6⟩
 unfold stepT;rw[f1,ax,f2,ax,f3,ax,f4,ax,f5,ax];dsimp only;cases t with
 | false=>
  rw[av,av,AD,ax,f6,ax];obtain⟨I,O⟩:=key c.box c.shares d z1 h.f1 h.f2 h.sh h.sl D;exact BF _ _ _ _ (.inl rfl) (afC I O T U hm)
 | true=>
  obtain⟨l,t2,f7,l6,ko,hl3⟩:=asU (p:=c.box.next) (by omega) h.f2;rw[aq,aq];dsimp only;rw[f7,ax,AD,ax,f6,ax];obtain⟨I,O⟩:=key ⟨c.box.next,c.box.next,false⟩ l ⟨false,c.box.next.low,c.box.next.high⟩ ⟨z1.2,z1.2⟩ h.f2 h.f2 l6 ko hl3;exact BF _ _ _ _ (.inr rfl) (afC I O T U hm)
def VI{c:au}(C:cG c)(E:cA c=true)(I:c.now<1000000)(O:c.trace.length<2000)(T:c.cc.length<400):∃ j y,uJ c=some y/\cG y/\cA y=true/\cG j/\cA j=true/\Pr c j/\Fn j y:=by
 have h:=Ck.of E;have w1:c.box.bT.weights.length<=1048576:=C.1.1;have hi:=asY (by omega) h.f1;unfold uJ;rw[Jk c C,ax,CO c C,ax,E,bL,av,jS (show ¬ c.now=1000000 by omega),av];cases D:c.aI.aN != (2:Int)with
 | true=>
  obtain⟨U,Y⟩:=asZ h.rf hi;rw[aq,as0 h.rf hi,ax,as2 h.ar,ax];exact afD C h I O T U Y (as1 h.ar) (by rw[D];rfl) (by rw[D];rfl) rfl rfl
 | false=>
  rw[av];exact afD C h I O T h.rf rfl h.ar (by rw[D];rfl) (by rw[D];rfl) rfl rfl
def Why(c:au)(x:aS):Prop:=
 (c.aN.state≠0/\(x=ny/\(bN c=0\/cC c ⟨bN c,0,0,0⟩=false)\/x=⟨bN c,0,0,0⟩))\/
 (c.aN.state=0/\((∃ b∈bO 0 c.aB.aD,x=fA c b)\/(∀ b∈bO 0 c.aB.aD,cC c (fA c b)=false)/\
  ((∃k,k<c.pending.length/\qL c k=true/\x=iZ c k)\/(∃j,j<c.queue.length/\kZ c j=true/\x=fK c j)\/x∈o8 c++(lT c++ld c)\/x=ny)))
def Oy{c:au}(h:Pq c):Why c (gx c).1:=by
 unfold gx;by_cases D:c.aN.state=0
 ·refine .inr ⟨D,?_⟩;rw[D,bne_self_eq_false,av];unfold yM;rw[List.find?_append];cases O:(C4 c).find? (cC c)with
  | some y=>
   obtain⟨b,E,rfl⟩:=List.mem_map.1 (List.mem_of_find?_eq_some O);exact .inl ⟨b,E,rfl⟩
  | none=>
   refine .inr ⟨λb E=>Bool.eq_false_iff.2 (List.find?_eq_none.1 O _ (List.mem_map_of_mem E)),?_⟩
   rw[Option.none_or];cases U:(C5 c c.pending.length).find? (cC c)with
   | some y=>
    obtain⟨k,Y,rfl⟩:=List.mem_map.1 (List.mem_of_find?_eq_some U);obtain⟨Z,k2⟩:=List.mem_filter.1 Y;exact .inl ⟨k,gq.1 Z,k2,rfl⟩
   | none=>
    refine .inr ?_;dsimp only;cases C:decide ((mJ c).2 >= 0)with
    | true=>
     rw[aq];have C:(mJ c).2 >= 0:=of_decide_eq_true C;unfold mJ at C ⊢;rcases afB (old:=uZ c) (hit:=fQ c) (eZ:=oe c (tF c)) (n:=c.queue.length)with e|⟨j,hj,e,I⟩
     ·rw[show nA c = -1 from e]at C;exact absurd (show (-1:Int) >= 0 from C) (by decide)
     ·rw[show nA c=(j:Int)from e,bq,av];dsimp only;rw[bE];unfold oe at I;rw[aK]at I;exact .inl ⟨j,hj,I.1,rfl⟩
    | false=>
     rw[av];unfold rQ;cases hf:(o8 c++(lT c++ld c)).find? (cC c)with
     |none=>exact .inr (.inr rfl)
     |some x=>exact .inr (.inl (List.mem_of_find?_eq_some hf))
 ·refine .inl ⟨D,?_⟩;rw[gv D,aq];by_cases T:bN c=0
  ·rw[T];exact .inl ⟨rfl,.inl rfl⟩
  ·rw[gv T,aq];cases E:cC c ⟨bN c,0,0,0⟩with
   |false=>exact .inl ⟨rfl,.inr rfl⟩
   |true=>exact .inr rfl
def VJ{c:au}(h:Pq c){b:Int}(C:b∈bO 0 c.aB.aD):0<=b/\b<aL c.config.ak/\c.aB.aD.getD b.toNat 0 >= 4:=by
 have D:=(Vt h C).1;have E:=h.dl;refine⟨D.1,D.2,?_⟩;rw[show b=((0:Nat):Int)+b by omega]at C;exact(Vj D.1 (by omega) 0).1 C
def VK{c:au}(h:Pq c){b:Int}(C:0<=b)(E:b<aL c.config.ak)(D:c.aB.aD.getD b.toNat 0 >= 4):b∈bO 0 c.aB.aD:=by
 have I:=h.dl;have:=(Vj (l:=c.aB.aD) C (by omega) 0).2 D;rw[show ((0:Nat):Int)+b=b by omega]at this;exact this
def A3(c:au)(b:Int)(x:aS):o7 c b x=⟨4,b,0,0⟩\/o7 c b x=x/\(cX c.aI b).open_=false:=by
 unfold o7;cases (cX c.aI b).open_ with
 |true=>exact .inl rfl
 |false=>exact .inr ⟨rfl,rfl⟩
def VL(r:bJ)(a:aP)(w:Bool):(nu r a w).ay=a.ay/\((nu r a w).kind=1/\(nu r a w).row=a.row\/(nu r a w).kind=4\/(nu r a w).kind=3\/(nu r a w).kind=2):=by
 unfold nu;cases (cX r a.ay).open_ with
 |false=>exact⟨rfl,.inl ⟨rfl,rfl⟩⟩
 | true=>
  rw[bL,av];cases (cX r a.ay).row != a.row with
  |true=>exact⟨rfl,.inr (.inl rfl)⟩
  | false=>
   cases w with
   |true=>exact⟨rfl,.inr (.inr (.inl rfl))⟩
   |false=>exact⟨rfl,.inr (.inr (.inr rfl))⟩
def VM{c:au}(h:Pq c){x:aS}(hx:x∈o8 c++(lT c++ld c)):(x=⟨5,eR c,0,0⟩/\0<=eR c/\c.aB.aD.getD (eR c).toNat 0 > 0/\bO 0 c.aB.aD=[]/\yL c (eR c).toNat=true)\/x.kind=4\/(x=⟨bN c,0,0,0⟩/\bN c≠0):=by
 rcases lz.1 hx with hx|hx
 ·unfold o8 at hx;have T:=h.dl;have U:-1<=eR c/\eR c<c.aB.aD.length:=Vu _ _;by_cases C:eR c >= 0
  ·have Y:0<=eR c/\eR c<aL c.config.ak:=by omega
   rw[aY C,cM]at hx;cases E:qK c (eR c)with
   |true=>rw[E]at hx;cases hx
   | false=>
    rw[E]at hx;have hx:=gL.1 hx;have D:=(CU (tG (decide (((bO 0 c.aB.aD).length:Int) > 0)) c.aB.aD (yL c)) (λi=>c.aB.aD.getD i 0) c.aB.aD.length).resolve_left (λe=>by have e:eR c = -1:=e;omega);have D:tG (decide (((bO 0 c.aB.aD).length:Int) > 0)) c.aB.aD (yL c) (eR c).toNat=true:=D;unfold tG at D;unfold qK at E;have E:¬ c.aB.aD.getD (eR c).toNat 0 >= 4:=of_decide_eq_false E;by_cases O:((bO 0 c.aB.aD).length:Int) > 0
    ·rw[aY O,aq]at D;exact absurd (of_decide_eq_true D) E
    ·rw[bq O,av,aK]at D;have I:bO 0 c.aB.aD=[]:=vg (by omega);rcases A3 c (eR c) ⟨5,eR c,0,0⟩with e | ⟨e,_⟩
     ·exact .inr (.inl (by rw[hx];unfold fA;rw[e]))
     ·exact .inl ⟨by rw[hx];unfold fA;rw[e],C,of_decide_eq_true D.1,I,D.2⟩
  ·rw[bq C]at hx;cases hx
 ·refine .inr ?_;rcases lz.1 hx with hx | hx
  ·unfold lT at hx;cases C:decide (kK c >= 0)with
   |false=>rw[C]at hx;cases hx
   |true=>rw[C]at hx;rw[gL.1 hx];exact .inl rfl
  ·unfold ld at hx;cases C:bN c==8&&decide (((opens 0 c.aI.aE).length:Int) > 0)with
   |true=>rw[C]at hx;rw[gL.1 hx];exact .inl rfl
   | false=>
    rw[C,av]at hx;by_cases I:bN c=0
    ·rw[I]at hx;cases hx
    ·rw[gv I]at hx;exact .inr ⟨gL.1 hx,I⟩
def afE{c:au}(h:Pq c)(C:(gx c).1.kind=5):c.aB.aD.getD (gx c).1.ay.toNat 0 >= 1/\(c.aB.aD.getD (gx c).1.ay.toNat 0 >= 4\/bO 0 c.aB.aD=[]):=by
 have O:=C7 c;rcases Oy h with ⟨_,⟨e,_⟩|e⟩|⟨_,⟨b,D,e⟩|⟨_,⟨k,_,_,e⟩|⟨j,_,_,e⟩|e|e⟩⟩
 ·rw[e]at C;exact absurd C (by decide)
 ·rw[e]at C;dsimp only at C;omega
 ·rw[e]at C ⊢;unfold fA at C ⊢;rcases A3 c b ⟨5,b,0,0⟩with e | ⟨e,_⟩
  ·rw[e]at C;exact absurd C (show ¬ (4:Int)=5 by decide)
  ·rw[e];have:=(VJ h D).2.2;exact⟨by dsimp only;omega,.inl (by dsimp only;omega)⟩
 ·rw[e]at C;unfold iZ at C;rcases A3 c (hU c k).ay ⟨1,(hU c k).ay,(hU c k).row,0⟩with e | ⟨e,_⟩ <;>rw[e]at C
  ·exact absurd C (show ¬ (4:Int)=5 by decide)
  ·exact absurd C (show ¬ (1:Int)=5 by decide)
 ·rw[e]at C;have:=(VL c.aI (cV c j) (qG c.queue j)).2;unfold fK at C;omega
 ·rcases VM h e with ⟨e,_,E,I,_⟩ | e | ⟨e,_⟩
  ·rw[e];exact⟨E,.inr I⟩
  ·omega
  ·rw[e]at C;dsimp only at C;omega
 ·rw[e]at C;exact absurd C (by decide)
def JJ(l:aa Int)(i k:Nat):(l.set i 0).getD k 0=if i=k then 0 else l.getD k 0:=by
 rw[cL,List.getElem?_set];split
 ·split<;>rfl
 ·rw[<-cL]
def afF(l:aa Int){i:Nat}(x:Int)(k:Nat)(h:i<l.length):(l.set i x).getD k 0=if i=k then x else l.getD k 0:=by
 rw[cL,List.getElem?_set,aW h];split
 ·rfl
 ·rw[<-cL]
def VN(f:Int->Int)(l:aa Int){k:Nat}(h:k<l.length):(l.map f).getD k 0=f (l.getD k 0):=by
 rw[cL,ef,bK h,cL,bK h];rfl
def afG(l:aa Int)(k:Nat):(l.map (nq 1)).getD k 0<=l.getD k 0+1:=by
 by_cases h:k<l.length
 ·rw[VN _ _ h];unfold nq;split<;>omega
 ·rw[cL,cL,o9 (by rw[eT];omega),o9 (by omega)];decide
def Oz(c:au){x:aS}(i:Int)(h:x.kind=1):dB c x i=uW (cz c x) x:=by
 unfold dB;rw[h];rfl
def VO(c:au){x:aS}(i:Int)(h:x.kind=5):dB c x i=Jz (cz c x) x.ay:=by
 unfold dB;rw[h];rfl
def JK(c:au){x:aS}(i:Int)(h:x.kind=9):dB c x i=iF (AX (cz c x) 9) c.bB.length []:=by
 unfold dB;rw[h];rfl
def VP{c:au}{x:aS}{i:Int}(C:1<=x.kind/\x.kind<=9)(D:x.kind≠1)(E:x.kind≠5)(I:x.kind≠9):(dB c x i).array.bu=c.array.bu/\(dB c x i).array.bg=c.array.bg/\(dB c x i).aB=c.aB/\(dB c x i).bB=c.bB/\(dB c x i).guard=c.guard/\(dB c x i).pending=c.pending:=by
 have acc:∀ i:Nat,(jq (cz c x) i).array.bu=c.array.bu/\(jq (cz c x) i).array.bg=c.array.bg/\(jq (cz c x) i).aB=c.aB/\(jq (cz c x) i).bB=c.bB/\(jq (cz c x) i).guard=c.guard/\(jq (cz c x) i).pending=c.pending:=λi=>by
  unfold jq;dsimp only;cases ((cz c x).queue.getD i od).write<;>exact⟨rfl,rfl,rfl,rfl,rfl,rfl⟩
 unfold dB;rcases kinds C with q|q|q|q|q|q|q|q|q<;>rw[q]<;>simp only[Int.reduceBEq,Int.reduceBNe,aq,av,Bool.or_true,Bool.or_false,Bool.true_or,Bool.false_or,Bool.or_self]
 ·exact absurd q D
 ·exact acc _
 ·exact acc _
 ·exact⟨rfl,rfl,rfl,rfl,rfl,rfl⟩
 ·exact absurd q E
 ·exact⟨rfl,rfl,rfl,rfl,rfl,rfl⟩
 ·exact⟨rfl,rfl,rfl,rfl,rfl,rfl⟩
 ·exact⟨rfl,rfl,rfl,rfl,rfl,rfl⟩
 ·exact absurd q I
def VQ(g:aH)(l:lA)(a:dj)(b:Int):∀ n k:Nat,(gS g l a b n).bu.getD k 0=a.bu.getD k 0\/(gS g l a b n).bu.getD k 0=0
 |0,k=>.inl rfl
 | n+1,k=>by
  unfold gS;rw[o6];show ((gS g l a b n).bu.set _ 0).getD k 0=_\/((gS g l a b n).bu.set _ 0).getD k 0=0;rw[JJ];split
  ·exact .inr rfl
  ·exact VQ g l a b n k
def VR(g:aH)(l:lA)(a:dj)(b:Int):∀ n r:Nat,r<n->(gS g l a b n).bu.getD (b*g.rows+(r:Int)).toNat 0=0
 | n+1,r,h=>by
  unfold gS;rw[o6];show ((gS g l a b n).bu.set (b*g.rows+(n:Int)).toNat 0).getD _ 0=0;rw[JJ];split
  ·rfl
  ·rename_i C;exact VR g l a b n r (by
    by_cases e:r=n
    ·subst e;exact absurd rfl C
    ·omega)
def yO(g:aH)(l:lA)(a:dj)(k:Nat):dj:=(List.range k).foldl (λa (b:Nat)=>gS g l a (b:Int) g.rows.toNat) a
def afH(g:aH)(l:lA)(a:dj):∀ n b r:Nat,b<n->r<g.rows.toNat->(yO g l a n).bu.getD ((b:Int)*g.rows+(r:Int)).toNat 0=0
 | n+1,b,r,D,C=>by
  unfold yO;rw[o6];by_cases e:b=n
  ·subst e;exact VR g l _ _ _ r C
  ·rcases VQ g l (yO g l a n) (n:Int) g.rows.toNat ((b:Int)*g.rows+(r:Int)).toNat with e2 | e2
   ·exact e2.trans (afH g l a n b r (by omega) C)
   ·exact e2
def VS(l:aa Int):∀ n k:Nat,((List.range n).foldl (λd b=>d.set b 0) l).getD k 0=if k<n then 0 else l.getD k 0
 |0,k=>rfl
 | n+1,k=>by
  rw[o6,JJ,VS l n k];by_cases e:n=k
  ·subst e;rw[aW rfl,aW]
  ·rw[aX e];by_cases C:k<n
   ·rw[aW C,aW]
   ·rw[aX C,aX]
def OA(r:eB){b:Int}(C:b.toNat<r.aD.length)(k:Nat)(h:r.aD.getD b.toNat 0 >= 1):(lS r b).aD.getD k 0=(if b.toNat=k then r.aD.getD k 0-1 else r.aD.getD k 0)/\(lS r b).wait=r.wait/\(lS r b).dJ=r.dJ:=by
 unfold lS;rw[bq (show ¬ r.aD.getD b.toNat 0 = -2 by omega),av];refine⟨?_,rfl,rfl⟩;dsimp only;rw[afF _ _ _ C];split
 next e=>rw[e]
 ·rfl
def mK(r:eB):Int:=bif r.dJ then 2*r.wait-1 else r.wait
def tK(c:au):Prop:=mK c.aB<=c.config.interval/\∀b r:Nat,(b:Int)<aL c.config.ak->r<c.config.ak.rows.toNat->0<=c.aB.aD.getD b 0/\c.array.bu.getD ((b:Int)*c.config.ak.rows+(r:Int)).toNat 0+mK c.aB<=(c.aB.aD.getD b 0+1)*c.config.interval
def OB{d I w:Int}(C:0<=d)(E:w<=I)(D:0<=I):0+w<=(d+1)*I:=by
 have:=Int.mul_nonneg C D;rw[Int.add_mul,Int.one_mul];omega
def tK.pr{c j:au}(h:tK c)(p:Pr c j)(hi:2<=c.config.interval/\c.config.interval<=10000)(hw:1<=c.aB.wait/\c.aB.wait<=10000)(hl:(c.aB.aD.length:Int)=aL c.config.ak)(T:∀ b:Nat,c.aB.aD.getD b 0<=4):tK j:=by
 unfold tK at h ⊢;rw[p.pC,p.pA,p.pF];cases hp:c.aI.aN != 2 with
 |false=>exact h
 | true=>
  rw[aq,aq];obtain⟨h1,E⟩:=h;unfold vc;by_cases I:0<c.aB.wait-1
  ·rw[aW I];have U:mK ⟨c.aB.aD,c.aB.wait-1,c.aB.dJ⟩<=mK c.aB-1:=by
    unfold mK;dsimp only;cases c.aB.dJ with
    |true=>rw[aq,aq];omega
    |false=>rw[av,av];omega
   refine⟨by omega,λb r C D=>?_⟩
   obtain⟨O,Y⟩:=E b r C D;have:=afG c.array.bu ((b:Int)*c.config.ak.rows+(r:Int)).toNat;exact⟨O,by dsimp only;omega⟩
  ·rw[aX I];have U:mK c.aB=1:=by
    unfold mK;cases c.aB.dJ with
    |true=>rw[aq];omega
    |false=>rw[av];omega
   have Z:mK ⟨c.aB.aD.map tJ,bif c.aB.dJ then c.config.interval / 2 else c.config.interval,c.aB.dJ⟩<=c.config.interval:=by
    unfold mK;dsimp only;cases c.aB.dJ with
    |true=>rw[aq,aq];omega
    |false=>rw[av,av];omega
   refine⟨Z,λb r C D=>?_⟩
   obtain⟨O,Y⟩:=E b r C D;have ir:b<c.aB.aD.length:=by omega
   have hm:=T b;have ht:(c.aB.aD.map tJ).getD b 0=c.aB.aD.getD b 0+1:=by
    rw[VN _ _ ir];unfold tJ;rw[bf,aX]
   have:=afG c.array.bu ((b:Int)*c.config.ak.rows+(r:Int)).toNat;dsimp only;rw[ht];refine⟨by omega,?_⟩;rw[Int.add_mul (c.aB.aD.getD b 0+1) 1,Int.one_mul];omega
def tK.Vy{c:au}(h:tK c)(hq:Pq c){x:aS}{i:Int}(hc:cQ c.config.ak x=true)(h5:x.kind=5->c.aB.aD.getD x.ay.toNat 0 >= 1)(hi:0<=c.config.interval)(AY:(c.bB.length:Int)=aL c.config.ak):tK (dB c x i):=by
 obtain⟨hg,Y,C,_⟩:=oX hc;have Oo:=hq.dl;obtain⟨E,O⟩:=h;have gb:=fY hg;by_cases Z:x.kind=1
 ·rw[Oz c i Z]
  refine⟨E,λb r C D=>?_⟩
  have C:(b:Int)<aL c.config.ak:=C;have D:r<c.config.ak.rows.toNat:=D;obtain⟨I,T⟩:=O b r C D;refine⟨I,?_⟩;show (c.array.bu.set (x.ay*c.config.ak.rows+x.row).toNat 0).getD ((b:Int)*c.config.ak.rows+(r:Int)).toNat 0+mK c.aB<=(c.aB.aD.getD b 0+1)*c.config.interval;rw[JJ];split
  ·exact OB I E hi
  ·exact T
 ·by_cases U:x.kind=5
  ·have hd:=h5 U;obtain⟨b0,b1⟩:=C (by omega);have ir:x.ay.toNat<c.aB.aD.length:=by omega
   obtain⟨_,w1,w2⟩:=OA c.aB ir 0 hd;have hw:mK (lS c.aB x.ay)=mK c.aB:=by unfold mK;rw[w1,w2]
   rw[VO c i U]
   refine⟨by show mK (lS c.aB x.ay)<=_;rw[hw];exact E,λb r C D=>?_⟩
   have C:(b:Int)<aL c.config.ak:=C;have D:r<c.config.ak.rows.toNat:=D;obtain⟨I,T⟩:=O b r C D;show 0<=(lS c.aB x.ay).aD.getD b 0/\(gS c.config.ak c.config.dO c.array x.ay c.config.ak.rows.toNat).bu.getD ((b:Int)*c.config.ak.rows+(r:Int)).toNat 0+mK (lS c.aB x.ay)<=((lS c.aB x.ay).aD.getD b 0+1)*c.config.interval;rw[(OA c.aB ir b hd).1,hw];by_cases e:x.ay.toNat=b
   ·subst e;rw[aW rfl,Int.toNat_of_nonneg b0,VR _ _ _ _ _ r D];exact⟨by omega,OB (by omega) E hi⟩
   ·rw[aX e];refine⟨I,?_⟩;rcases VQ c.config.ak c.config.dO c.array x.ay c.config.ak.rows.toNat ((b:Int)*c.config.ak.rows+(r:Int)).toNat with e2 | e2
    ·rw[e2];exact T
    ·rw[e2];exact OB I E hi
  ·by_cases k9:x.kind=9
   ·rw[JK c i k9]
    refine⟨E,λb r C D=>?_⟩
    have C:(b:Int)<aL c.config.ak:=C;have D:r<c.config.ak.rows.toNat:=D;show 0<=((List.range c.bB.length).foldl (λd b=>d.set b 0) c.aB.aD).getD b 0/\(yO c.config.ak c.config.dO c.array c.bB.length).bu.getD ((b:Int)*c.config.ak.rows+(r:Int)).toNat 0+mK c.aB<=(((List.range c.bB.length).foldl (λd b=>d.set b 0) c.aB.aD).getD b 0+1)*c.config.interval;rw[VS,aW,afH _ _ _ _ _ _ (by omega) D];exact⟨gz _,OB (gz _) E hi⟩
   ·obtain⟨e1,_,e3,_⟩:=VP (c:=c) (i:=i) Y Z U k9;have e4:(dB c x i).config=c.config:=by
     unfold dB;rcases kinds Y with q|q|q|q|q|q|q|q|q<;>rw[q]<;>first|rfl|(unfold jq;dsimp only;cases ((cz c x).queue.getD i.toNat od).write<;>rfl)
    unfold tK;rw[e1,e3,e4];exact⟨E,O⟩
def La(q:dN)(b k:Nat):Int:=q.last.getD (9*b+k-1) (-1)
def atz{g:aH}{r w:Int}(D:1<=r/\r<=4)(E:4<=w/\w<=8){a:aS}(C:1<=a.kind/\a.kind<=9)(B:Int):gf g (kF r w) a ⟨4,B,0,0⟩<=16/\(a.kind=7->gf g (kF r w) a ⟨4,B,0,0⟩<=4)/\(a.kind≠7->a.kind≠9->(a.ay≠B\/4<=a.kind)->gf g (kF r w) a ⟨4,B,0,0⟩<=1):=by
 unfold gf yE rJ rI v9 kF;dsimp only;rcases kinds C with h|h|h|h|h|h|h|h|h<;>rw[h]<;>cases I:a.ay==B<;>simp[aT]at *<;>omega
def atA{g:aH}{r w:Int}(O:1<=r/\r<=4)(T:4<=w/\w<=8){a:aS}(C:1<=a.kind/\a.kind<=9)(B:Int):gf g (kF r w) a ⟨5,B,0,0⟩<=16/\(a.kind=7->gf g (kF r w) a ⟨5,B,0,0⟩<=4)/\(a.kind=4->gf g (kF r w) a ⟨5,B,0,0⟩<=3)/\(a.kind=5->a.ay≠B->gf g (kF r w) a ⟨5,B,0,0⟩<=3)/\(a.kind≠7->a.kind≠9->a.kind≠5->a.ay≠B\/5<a.kind->gf g (kF r w) a ⟨5,B,0,0⟩<=1):=by
 have D:W6 (r+3)=r+3:=bf;have E:W6 (w+3)=w+3:=bf;have I:W6 (7+3)=10:=by decide
 unfold gf yE rJ rI v9 kF;dsimp only;rw[D,E,I];rcases kinds C with h|h|h|h|h|h|h|h|h<;>rw[h]<;>cases U:a.ay==B<;>simp[aT]at *<;>omega
def atB{g:aH}{r w:Int}{a:aS}(C:1<=a.kind/\a.kind<=9):gf g (kF r w) a ⟨7,0,0,0⟩<=16:=by
 unfold gf yE rJ rI v9 kF;dsimp only;rcases kinds C with h|h|h|h|h|h|h|h|h<;>rw[h]<;>simp[aT]<;>omega
def afI(g:aH)(t:bW)(l:aa Int)(c:aS){n:Int}(C:0<=n)(h:∀ (i:Nat) (hi:i<l.length),0<=l[i]->l[i]+gf g t (jW i) c<=n):∀ k,k<=l.length->tw g t l c k<=n
 |0,_=>C
 | k+1,I=>by
  have E:=afI g t l c C h k (by omega);rw[N0,N1 (by omega)];by_cases D:l[k]<0
  ·rw[aY D];exact E
  ·rw[bq D,av];have:=h k (by omega) (by omega);unfold tv;split<;>omega
def OC{c:au}(h:Pq c){x:aS}(U:x.kind=1->c.ready.aZ.length≠4)(Y:iz c.aI x=true)(Z:∀ (b k:Nat),1<=k->k<=9->((k<=5/\(b:Int)<aL c.config.ak)\/(5<k/\(b:Int)=aL c.config.ak))->0<=La c.ready b k->La c.ready b k+gf c.config.ak c.config.bP ⟨(k:Int),if k<=5 then (b:Int)else 0,0,0⟩ x<=c.now):cC c x=true:=by
 have hn:=h.nw;have hl:=(E3 h.p.UX).2.1;have ha:lQ c.config.ak c.config.bP c.ready x<=c.now:=by
  unfold lQ;have e4:(x.kind==1&&(c.ready.aZ.length:Int)==4)=false:=by
   by_cases E:x.kind=1
   ·rw[jS (show ¬ (c.ready.aZ.length:Int)=4 from λe=>U E (by omega)),Bool.and_false]
   ·rw[jS E,Bool.false_and]
  rw[e4,av]
  refine afI _ _ _ _ hn.1 (λi hi h0=>?_) _ (dH _)
  have C:=((h.p.R.last i hi).2).resolve_left (by omega);unfold qy at C;have C:=ff.1 C;obtain⟨b,k,rfl,k1,k9⟩:∃b k:Nat,i=9*b+k-1/\1<=k/\k<=9:=⟨i / 9,i % 9+1,by omega,by omega,by omega⟩
  have I:((9*b+k-1:Nat):Int) % 9+1=(k:Int):=by omega
  have O:((9*b+k-1:Nat):Int) / 9=(b:Int):=by omega
  rw[I,O]at C;have T:La c.ready b k=c.ready.last[9*b+k-1]:=iC _ hi;have e3:jW (9*b+k-1)=⟨(k:Int),if k<=5 then (b:Int)else 0,0,0⟩:=by
   unfold jW;rw[I,O];by_cases D:k<=5
   ·rw[aW,aW D]
   ·rw[aX,aX D]
  rw[e3,<-T];refine Z b k k1 k9 ?_ (by rw[T];exact h0);by_cases D:k<=5
  ·refine .inl ⟨D,?_⟩;rw[aY (show (k:Int)<=5 by omega)]at C;exact of_decide_eq_true C
  ·refine .inr ⟨by omega,?_⟩;rw[bq (show ¬ (k:Int)<=5 by omega)]at C;have:=of_decide_eq_false C;omega
 unfold cC;rw[Y,aY ha,aY (show lQ c.config.ak c.config.bP c.ready x<=1000000 by omega)];rfl
def Fo{q:dN}{n:Int}(h:∀i:Nat,q.last.getD i (-1)<=n)(b k:Nat):La q b k<=n:=h _
def atC(g:aH)(q:dN)(e:bH)(C:cQ g e.cmd=true)(b k:Nat)(O:1<=k/\k<=9):La (fO g q e) b k=La q b k\/(La (fO g q e) b k=e.at_/\(k:Int)=e.cmd.kind/\(b:Int)=if k<=5 then e.cmd.ay else aL g):=by
 obtain⟨_,E,I,_⟩:=oX C;obtain⟨T,_⟩:=E2 C;unfold fO La;cases jn g q&&(cQ g e.cmd&&(aT e.at_ 0 1000000 && !(e.cmd.kind==1&&tj q e.at_)))with
 |false=>exact .inl rfl
 | true=>
  rw[aq];dsimp only;rw[cL,List.getElem?_set,cL];by_cases hi:(gE g e.cmd).toNat=9*b+k-1
  ·rw[aW hi];by_cases D:(gE g e.cmd).toNat<q.last.length
   ·rw[aW D];refine .inr ⟨rfl,?_⟩;have hi:gE g e.cmd=9*(b:Int)+(k:Int)-1:=by omega
    unfold gE at hi;cases hu:aT e.cmd.kind 1 5 with
    | true=>
     rw[hu,aq]at hi;have:=br.1 hu;have:=I this.2;refine⟨by omega,?_⟩;rw[aW];omega
    | false=>
     rw[hu,av]at hi;have U:¬ e.cmd.kind<=5:=λh=>by rw[br.2 ⟨E.1,h⟩]at hu;cases hu
     refine⟨by omega,?_⟩;rw[aX];omega
   ·rw[aX D];refine .inl ?_;rw[<-hi,o9 (by omega)]
  ·rw[aX hi];exact .inl rfl
def Fp(g:aH)(q:dN)(e:bH){n:Int}(h:∀ i:Nat,q.last.getD i (-1)<=n)(C:e.at_<=n)(i:Nat):(fO g q e).last.getD i (-1)<=n:=by
 unfold fO;cases jn g q&&(cQ g e.cmd&&(aT e.at_ 0 1000000 && !(e.cmd.kind==1&&tj q e.at_)))with
 |false=>exact h i
 | true=>
  rw[aq];dsimp only;rw[cL,List.getElem?_set];have:=h i;rw[cL]at this;split
  ·split
   ·exact C
   next D E=>rw[<-D,o9 (by omega)]at this;exact this
  ·exact this
def count_le{p q:Nat->Bool}:∀ n,(∀ b,b<n->q b=true->p b=true)->(List.range n).countP q<=(List.range n).countP p
 |0,_=>dH _
 | n+1,h=>by
  have E:=count_le (p:=p) (q:=q) n λb I=>h b (by omega)
  have e:=h n (by omega);rw[List.range_succ,List.countP_append,List.countP_append,List.countP_singleton,List.countP_singleton];cases C:q n<;>cases D:p n<;>simp[C,D]at e ⊢<;>omega
def VT{p q:Nat->Bool}{b:Nat}:∀ n,b<n->(∀ b,b<n->q b=true->p b=true)->p b=true->q b=false->(List.range n).countP q+1<=(List.range n).countP p
 | n+1,C,h,D,E=>by
  rw[List.range_succ,List.countP_append,List.countP_append,List.countP_singleton,List.countP_singleton];by_cases e:b=n
  ·subst e;have:=count_le (p:=p) (q:=q) b λb C=>h b (by omega)
   rw[D,E,aW rfl,aX (by decide)];omega
  ·have T:=VT (p:=p) (q:=q) (b:=b) n (by omega) (λb C=>h b (by omega)) D E;have e:=h n (by omega);cases I:q n<;>cases O:p n<;>simp[I,O]at e ⊢<;>omega
def afJ{p:Nat->Bool}{b n:Nat}(C:b<n)(h:p b=true):1<=(List.range n).countP p:=List.countP_pos_iff.2 ⟨b,gq.2 C,h⟩
def afK(p:Nat->Bool)(n:Nat):(List.range n).countP p<=n:=by
 have:=List.countP_le_length (p:=p) (l:=List.range n)
 rwa [eD]at this
def vf(r:eB):Int:=bif r.dJ then r.wait else (r.wait+1) / 2
def uB(d:aa Int)(b:Nat):Bool:=decide (d.getD b 0 >= 4)
def oB(r:bJ)(b:Nat):Bool:=(cX r (b:Int)).open_
def cU(g:aH)(d:aa Int):Int:=((List.range (aL g).toNat).countP (uB d):Nat)
def cO(g:aH)(r:bJ)(d:aa Int):Int:=((List.range (aL g).toNat).countP (λb=>uB d b&&oB r b):Nat)
structure Du (n t:Int) (g:aH) (r:bJ) (q:dN) (d:List Int) (B:Nat):Prop where
 u1:r.aN≠2
 u2:La q (aL g).toNat 7<=t+16/\La q (aL g).toNat 9<=t
 u3:r.aN=1->n<=t+15/\∀i:Nat,q.last.getD i (-1)<=t
 u4:La q B 1<=t/\La q B 2<=t/\La q B 3<=t/\La q B 5<=t/\La q B 4<=t+48
 u5:oB r B=true->n+cU g d+cO g r d<=t+48
 u6:n+3*cU g d<=t+90
 u7:∀b:Nat,(b:Int)<aL g->La q b 5+3*cU g d<=t+88
structure Dx (n t:Int) (c:au):Prop where
 d1:∀i:Nat,c.ready.last.getD i (-1)<=n
 d2:0<=t/\t<=c.now
 d3:100<=vf c.aB+(c.now-t)
 d4:∀b:Nat,c.aB.aD.getD b 0<=4
 d5:∀B:Nat,(B:Int)<aL c.config.ak->uB c.aB.aD B=true->Du n t c.config.ak c.aI c.ready c.aB.aD B
def OD(g:aH)(d:aa Int):0<=cU g d/\cU g d<=aL g:=by
 have C:=eG g;have:=afK (uB d) (aL g).toNat;unfold cU;omega
def JL(g:aH)(r:bJ)(d:aa Int):0<=cO g r d/\cO g r d<=aL g:=by
 have C:=eG g;have:=afK (λb=>uB d b&&oB r b) (aL g).toNat;unfold cO;omega
def afL{g:aH}{d:aa Int}{B:Nat}(hB:(B:Int)<aL g)(h:uB d B=true):1<=cU g d:=by
 have:=afJ (p:=uB d) (n:=(aL g).toNat) (b:=B) (by omega) h;unfold cU;omega
def afM{g:aH}{r:bJ}{d:aa Int}{B:Nat}(hB:(B:Int)<aL g)(h:uB d B=true)(C:oB r B=true):1<=cO g r d:=by
 have:=afJ (p:=λb=>uB d b&&oB r b) (n:=(aL g).toNat) (b:=B) (by omega) (by rw[h,C];rfl);unfold cO;omega
def Dx.pr{c j:au}{t:Int}(h:Dx c.now t c)(p:Pr c j)(T:cA c=true)(hi:200<=c.config.interval/\c.config.interval<=10000):∃ U,Dx c.now U j:=by
 have k:=Ck.of T;have Z:=br.1 k.nw;have I:=k.rf;have Oo:=(gi.of k.pa).dl;simp only[fN,aK,br]at I;have hw:=I.2.2;have pN:=p.pN;have b1:=eG c.config.ak;have d2:=h.d2;have d3:=h.d3;have pF:=p.pF;cases E:c.aI.aN != 2 with
 | false=>
  rw[E,av]at pF;refine⟨t,⟨by rw[p.pR];exact h.d1,by omega,by rw[pF];omega,by rw[pF];exact h.d4,?_⟩⟩;rw[p.pC,p.pK,p.pR,pF];exact h.d5
 | true=>
  rw[E,aq]at pF;unfold vc at pF;by_cases O:0<c.aB.wait-1
  ·rw[aW O]at pF;have hg:vf c.aB<=vf ⟨c.aB.aD,c.aB.wait-1,c.aB.dJ⟩+1:=by
    unfold vf;dsimp only;cases c.aB.dJ with
    |true=>rw[aq,aq];omega
    |false=>rw[av,av];omega
   refine⟨t,⟨by rw[p.pR];exact h.d1,by omega,by rw[pF];omega,by rw[pF];exact h.d4,?_⟩⟩;rw[p.pC,p.pK,p.pR,pF];exact h.d5
  ·rw[aX O]at pF;have h1:vf c.aB<=1:=by
    unfold vf;cases c.aB.dJ with
    |true=>rw[aq];omega
    |false=>rw[av];omega
   have Y:∀ b:Nat,c.aB.aD.getD b 0<=3:=λb=>by
    by_cases C:b<c.aB.aD.length
    ·by_cases D:c.aB.aD.getD b 0 >= 4
     ·have D:uB c.aB.aD b=true:=aY D;have hB:(b:Int)<aL c.config.ak:=by omega
      have:=(h.d5 b hB D).u6;have:=afL hB D;omega
     ·omega
    ·rw[cL,o9 (by omega)];decide
   have Bl:100<=vf ⟨c.aB.aD.map tJ,bif c.aB.dJ then c.config.interval / 2 else c.config.interval,c.aB.dJ⟩:=by
    unfold vf;dsimp only;cases c.aB.dJ with
    |true=>rw[aq,aq];omega
    |false=>rw[av,av];omega
   refine⟨c.now+1,⟨by rw[p.pR];exact h.d1,by omega,by rw[pF];omega,λb=>?_,λB hB D=>?_⟩⟩
   ·rw[pF];dsimp only;by_cases C:b<c.aB.aD.length
    ·rw[VN _ _ C];have:=Y b;have:=Jr k.rf _ (dc C);rw[<-iC 0 C]at this;unfold tJ;rw[bf];split<;>omega
    ·rw[cL,o9 (by rw[eT];omega)];decide
   ·rw[p.pC]at hB ⊢;rw[p.pK,p.pR];have a1:=OD c.config.ak j.aB.aD;have a2:=JL c.config.ak c.aI j.aB.aD;have l:=Fo h.d1;have l1:=l B 1;have l2:=l B 2;have l3:=l B 3;have l4:=l B 4;have l5:=l B 5;have l7:=l (aL c.config.ak).toNat 7;have l9:=l (aL c.config.ak).toNat 9
    refine⟨bne_iff_ne.1 E,by omega,λ_=>⟨by omega,λi=>by have:=h.d1 i;omega⟩,by omega,λ_=>by omega,by omega,λb C=>?_⟩
    have:=l b 5;omega
def JM{c:au}{x:aS}{i:Int}(C:1<=x.kind/\x.kind<=9):(dB c x i).aI=cR c.aI x/\(dB c x i).ready=fO c.config.ak c.ready ⟨c.now,x⟩/\(dB c x i).now=c.now/\(dB c x i).config=c.config:=by
 have acc:∀ i:Nat,(jq (cz c x) i).aI=cR c.aI x/\(jq (cz c x) i).ready=fO c.config.ak c.ready ⟨c.now,x⟩/\(jq (cz c x) i).now=c.now/\(jq (cz c x) i).config=c.config:=λi=>by
  unfold jq;dsimp only;cases ((cz c x).queue.getD i od).write<;>exact⟨rfl,rfl,rfl,rfl⟩
 unfold dB;rcases kinds C with q|q|q|q|q|q|q|q|q<;>rw[q]<;>simp only[Int.reduceBEq,Int.reduceBNe,aq,av,Bool.or_true,Bool.or_false,Bool.true_or,Bool.false_or,Bool.or_self]
 ·exact⟨rfl,rfl,rfl,rfl⟩
 ·exact acc _
 ·exact acc _
 ·exact⟨rfl,rfl,rfl,rfl⟩
 ·exact⟨rfl,rfl,rfl,rfl⟩
 ·exact⟨rfl,rfl,rfl,rfl⟩
 ·exact⟨rfl,rfl,rfl,rfl⟩
 ·exact⟨rfl,rfl,rfl,rfl⟩
 ·exact⟨rfl,rfl,rfl,rfl⟩
def afN{c:au}{x:aS}{i:Int}(T:1<=x.kind/\x.kind<=9)(E:x.kind=5->x.ay.toNat<c.aB.aD.length)(I:x.kind=5->c.aB.aD.getD x.ay.toNat 0 >= 1):(dB c x i).aB.wait=c.aB.wait/\(dB c x i).aB.dJ=c.aB.dJ/\(x.kind≠5->x.kind≠9->(dB c x i).aB.aD=c.aB.aD)/\(x.kind=5->∀ b,(dB c x i).aB.aD.getD b 0=if x.ay.toNat=b then c.aB.aD.getD b 0-1 else c.aB.aD.getD b 0)/\(x.kind=9->∀ b,b<c.bB.length->(dB c x i).aB.aD.getD b 0=0)/\∀ b,(dB c x i).aB.aD.getD b 0<=max 0 (c.aB.aD.getD b 0):=by
 by_cases C:x.kind=5
 ·have e:∀ b,(lS c.aB x.ay).aD.getD b 0=if x.ay.toNat=b then c.aB.aD.getD b 0-1 else c.aB.aD.getD b 0:=λb=>(OA c.aB (E C) b (I C)).1
  obtain⟨_,w1,U⟩:=OA c.aB (E C) 0 (I C);rw[VO c i C]
  refine⟨w1,U,λh=>absurd C h,λ_=>e,λh=>by omega,λb=>?_⟩
  show (lS c.aB x.ay).aD.getD b 0<=_;rw[e b];split<;>omega
 ·by_cases D:x.kind=9
  ·have e:∀ b,(dB c x i).aB.aD.getD b 0=if b<c.bB.length then 0 else c.aB.aD.getD b 0:=λb=>by
    rw[JK c i D];exact VS c.aB.aD c.bB.length b
   refine⟨by rw[JK c i D];rfl,by rw[JK c i D];rfl,λ_ h=>absurd D h,λh=>absurd h C,λ_ b E=>by rw[e b,aW E],λb=>?_⟩
   rw[e b];split<;>omega
  ·have e:(dB c x i).aB=c.aB:=by
    by_cases O:x.kind=1
    ·rw[Oz c i O];rfl
    ·exact(VP T O C D).2.2.1
   rw[e];exact⟨rfl,rfl,λ_ _=>rfl,λh=>absurd h C,λh=>absurd h D,λb=>by omega⟩
def VU{r:bJ}{x:aS}{b:Nat}(h:b≠x.ay.toNat):cX (cR r x) (b:Int)=cX r (b:Int):=by
 have key:∀ v:dQ,cX ⟨r.aE.set x.ay.toNat v,r.aN⟩ (b:Int)=cX r (b:Int):=λv=>by
  unfold cX;rw[bE,cL,List.getElem?_set_ne (λe=>h e.symm),<-cL]
 unfold cR;cases x.kind==1 with
 |true=>exact key _
 | false=>
  cases x.kind==4 with
  |true=>exact key _
  |false=>cases x.kind==6<;>cases x.kind==8<;>cases (x.kind==7 ||x.kind==9)<;>rfl
def afO{r:bJ}{x:aS}{b:Nat}(C:x.kind=4)(h:b=x.ay.toNat):(cX (cR r x) (b:Int)).open_=false:=by
 unfold cR cX;rw[C];show ((r.aE.set x.ay.toNat (⟨false,0⟩:dQ)).getD (b:Int).toNat ⟨false,0⟩).open_=false;rw[bE,h,cL,List.getElem?_set,aW rfl];split<;>rfl
def qM(t:bW):Prop:=∃r w:Int,1<=r/\r<=4/\4<=w/\w<=8/\t=kF r w
def atD{j:au}{n t:Int}(E:Pq j)(I:qM j.config.bP)(hn:n=j.now-1)(d1:∀ i:Nat,j.ready.last.getD i (-1)<=n){B:Nat}(u:Du n t j.config.ak j.aI j.ready j.aB.aD B)(O:j.aI.aN=0)(T:oB j.aI B=true)(hT:t+33<=j.now):cC j ⟨4,(B:Int),0,0⟩=true:=by
 obtain⟨r,w,U,Y,w1,Z,et⟩:=I
 refine OC E (λh=>absurd (show (4:Int)=1 from h) (by decide)) ?_ λb k k1 k9 hu h0=>?_
 ·show (j.aI.aN==0&&(cX j.aI (B:Int)).open_)=true;rw[O,show (cX j.aI (B:Int)).open_=true from T];rfl
 ·rw[et];obtain⟨g1,C,D⟩:=atz (g:=j.config.ak) (a:=⟨(k:Int),if k<=5 then (b:Int)else 0,0,0⟩) ⟨U,Y⟩ ⟨w1,Z⟩ ⟨by dsimp only;omega,by dsimp only;omega⟩ (B:Int);dsimp only at C D;have hl:=Fo d1 b k;have oI:=u.u2;have hu4:=u.u4;by_cases h7:k=7
  ·obtain rfl:b=(aL j.config.ak).toNat:=by omega
   have:=C (by omega);subst h7;omega
  ·by_cases h9:k=9
   ·obtain rfl:b=(aL j.config.ak).toNat:=by omega
    subst h9;omega
   ·by_cases hb:b=B/\k<=3
    ·obtain⟨rfl,h3⟩:=hb;have:k=1\/k=2\/k=3:=by omega
     rcases this with rfl|rfl|rfl<;>omega
    ·have:=D (by omega) (by omega) (by
      by_cases h5:k<=5
      ·rw[aW h5];omega
      ·exact .inr (by omega))
     omega
def atE{j:au}{n t:Int}(T:Pq j)(U:qM j.config.bP)(hn:n=j.now-1)(d1:∀ i:Nat,j.ready.last.getD i (-1)<=n){B:Nat}(u:Du n t j.config.ak j.aI j.ready j.aB.aD B)(Y:j.aI.aN=0)(Z:oB j.aI B=false)(hT:t+67<=j.now)(C:∀ b:Nat,(b:Int)<aL j.config.ak->La j.ready b 5+3<=j.now):cC j ⟨5,(B:Int),0,0⟩=true:=by
 obtain⟨r,w,r1,r2,w1,w2,et⟩:=U
 refine OC T (λh=>absurd (show (5:Int)=1 from h) (by decide)) ?_ λb k k1 k9 hu h0=>?_
 ·show (j.aI.aN==0 && !(cX j.aI (B:Int)).open_)=true;rw[Y,show (cX j.aI (B:Int)).open_=false from Z];rfl
 ·rw[et];obtain⟨g1,D,E,I,O⟩:=atA (g:=j.config.ak) (a:=⟨(k:Int),if k<=5 then (b:Int)else 0,0,0⟩) ⟨r1,r2⟩ ⟨w1,w2⟩ ⟨by dsimp only;omega,by dsimp only;omega⟩ (B:Int);dsimp only at D E I O;have hl:=Fo d1 b k;have oI:=u.u2;have hu4:=u.u4;by_cases h7:k=7
  ·obtain rfl:b=(aL j.config.ak).toNat:=by omega
   have:=D (by omega);subst h7;omega
  ·by_cases h9:k=9
   ·obtain rfl:b=(aL j.config.ak).toNat:=by omega
    subst h9;omega
   ·by_cases hb:b=B/\k<=5
    ·obtain⟨rfl,h3⟩:=hb;have:k=1\/k=2\/k=3\/k=4\/k=5:=by omega
     rcases this with rfl|rfl|rfl|rfl|rfl
     ·omega
     ·omega
     ·omega
     ·have:=E rfl;omega
     ·omega
    ·by_cases e5:k=5
     ·subst e5;have:=I rfl (by rw[aW];omega);have:=C b (by omega);omega
     ·have:=O (by omega) (by omega) (by omega) (by
       by_cases C:k<=5
       ·rw[aW C];exact .inl (by omega)
       ·exact .inr (by omega))
      omega
def atF{j:au}{t:Int}(C:Pq j)(D:qM j.config.bP)(E:j.aI.aN=1)(I:∀ i:Nat,j.ready.last.getD i (-1)<=t)(T:t+16<=j.now):cC j ⟨7,0,0,0⟩=true:=by
 obtain⟨r,w,U,Y,w1,Z,O⟩:=D
 refine OC C (λh=>absurd (show (7:Int)=1 from h) (by decide)) ?_ λb k k1 k9 hu h0=>?_
 ·show (j.aI.aN==1)=true;rw[E];rfl
 ·rw[O];have:=atB (g:=j.config.ak) (r:=r) (w:=w) (a:=⟨(k:Int),if k<=5 then (b:Int)else 0,0,0⟩) ⟨by dsimp only;omega,by dsimp only;omega⟩;have:=Fo I b k;omega
def atG{g:aH}{x:aS}(h:cQ g x=true)(C:x.kind=4):x=⟨4,x.ay,0,0⟩:=by
 simp only[cQ,aK]at h;obtain⟨_,_,_,D,E⟩:=h;rw[C]at D E;have I:x.row=0:=ff.1 D;have O:x.bZ=0:=ff.1 E;clear D E;obtain⟨k,b,r,c⟩:=x;dsimp only at C I O;subst C I O;rfl
def OE{c:au}(h:n9 c=true):bN c=bif c.aN.state==1 then 7 else bif c.aN.state==2 then 9 else 0:=by
 unfold bN wj;rw[h];rfl
def afP{c:au}{b:Int}(h:b∈bO 0 c.aB.aD):n9 c=true:=by
 have:0<(bO 0 c.aB.aD).length:=List.length_pos_of_mem h;unfold n9;rw[aY (show ((bO 0 c.aB.aD).length:Int) > 0 by omega),Bool.or_true,Bool.or_true]
def Dx.core{j:au}{t:Int}(h:Dx (j.now-1) t j)(E:Pq j)(U:qM j.config.bP)(Y:j.aI.aN=0)(sG:∀ b∈bO 0 j.aB.aD,cC j (fA j b)=false){B:Nat}(hB:(B:Int)<aL j.config.ak)(I:uB j.aB.aD B=true):(oB j.aI B=true->j.now+cU j.config.ak j.aB.aD+cO j.config.ak j.aI j.aB.aD<=t+48)/\j.now+3*cU j.config.ak j.aB.aD<=t+90:=by
 have u:=h.d5 B hB I;have b1:=eG j.config.ak;have a1:=OD j.config.ak j.aB.aD;have a2:=JL j.config.ak j.aI j.aB.aD;have C:=sG _ (VK E (b:=(B:Int)) (by omega) hB (of_decide_eq_true I));unfold fA o7 at C
 refine⟨λD=>?_,?_⟩
 ·rw[show (cX j.aI (B:Int)).open_=true from D,aq]at C;by_cases O:t+33<=j.now
  ·rw[atD E U rfl h.d1 u Y D O]at C;cases C
  ·omega
 ·by_cases O:t+67<=j.now
  ·cases D:oB j.aI B with
   | true=>
    have:=u.u5 D;have:=afM hB I D;omega
   | false=>
    rw[show (cX j.aI (B:Int)).open_=false from D,av]at C;by_cases Z:∀b:Nat,(b:Int)<aL j.config.ak->La j.ready b 5+3<=j.now
    ·rw[atE E U rfl h.d1 u Y D O Z]at C;cases C
    ·obtain⟨b,T⟩:=Classical.not_forall.1 Z;obtain⟨T,gB⟩:=Classical.not_imp.1 T;have:=u.u7 b T;omega
  ·omega
def Du.stay{n n' t:Int}{g:aH}{r D:bJ}{q E:dN}{d:aa Int}{B:Nat}(u:Du n t g r q d B)(hB:(B:Int)<aL g)(hp:D.aN=0)
  (C:∀b k:Nat,1<=k->k<=9->(b=B/\k<=5\/k=5\/k=7\/k=9)->La E b k=La q b k) (I:oB D B=true->n'+cU g d+cO g D d<=t+48) (O:n'+3*cU g d<=t+90):Du n' t g D E d B:=by
 have T:=C B 1 (by omega) (by omega) (by omega);have U:=C B 2 (by omega) (by omega) (by omega);have Y:=C B 3 (by omega) (by omega) (by omega);have Z:=C B 4 (by omega) (by omega) (by omega);have e5:=C B 5 (by omega) (by omega) (by omega);have e7:=C (aL g).toNat 7 (by omega) (by omega) (by omega);have e9:=C (aL g).toNat 9 (by omega) (by omega) (by omega)
 refine⟨by omega,by rw[e7,e9];exact u.u2,λh=>by omega,by rw[T,U,Y,Z,e5];exact u.u4,I,O,λb hb=>?_⟩
 rw[C b 5 (by omega) (by omega) (by omega)];exact u.u7 b hb
def Dx.fn{j y:au}{t:Int}(h:Dx (j.now-1) t j)(hz:cG j)(hk:cA j=true)(ht:qM j.config.bP)(hf:Fn j y):Dx j.now t y:=by
 have E:=Pq.of hz hk;have b1:=eG j.config.ak;have ps:=E.ps;have Oo:=E.dl;have AY:=(gi.of (Ck.of hk).pa).tl;have C8:=(rK E.p.rk).2.2.1;have up:∀{B:Nat},(B:Int)<aL j.config.ak->uB j.aB.aD B=true->(B:Int)∈bO 0 j.aB.aD:=λhB Y=>VK E (by omega) hB (of_decide_eq_true Y)
 have b8:aL j.config.ak<=8:=by have:=E.rf;have:=wh this;omega
 rcases hf with ⟨k0,rfl⟩|⟨hm,rfl⟩
 ·refine⟨λi=>by have:=h.d1 i;omega,h.d2,h.d3,h.d4,λB hB Y=>?_⟩
  have u:=h.d5 B hB Y;have a1:=OD y.config.ak y.aB.aD;have a2:=JL y.config.ak y.aI y.aB.aD;have T:=OE (afP (up hB Y));rcases Oy E with ⟨hs,Z⟩|⟨hs,⟨b,hb,e⟩|⟨sG,_⟩⟩
  ·have O:y.aI.aN=1:=by have:=u.u1;omega
   rw[ps,O]at T;have T:bN y=7:=T;have JI:=u.u3 O;have hT:¬ t+16<=y.now:=λhT=>by
    have hr:=atF E ht O JI.2 hT;rcases Z with ⟨_,e|e⟩|e
    ·omega
    ·rw[T,hr]at e;cases e
    ·rw[e]at k0;dsimp only at k0;omega
   exact⟨u.u1,u.u2,λ_=>⟨by omega,JI.2⟩,u.u4,λ_=>by omega,by omega,u.u7⟩
  ·exfalso;rw[e]at k0;unfold fA at k0;rcases A3 y b ⟨5,b,0,0⟩with e|⟨e,_⟩<;>rw[e]at k0<;>dsimp only at k0<;>omega
  ·have O:y.aI.aN=0:=by omega
   obtain⟨c1,c2⟩:=h.core E ht O sG hB Y;exact u.stay hB O (λ_ _ _ _ _=>rfl) c1 c2
 ·have afQ:=Oy E;have hpr:=afE E;generalize hX:(gx j).1=x at hm afQ hpr ⊢;generalize (gx j).2=i at hm ⊢;obtain⟨_,ha,_,_⟩:=JE hz E hm;obtain⟨_,_,Z,A0⟩:=CL ha;simp only[kJ,cC,aK]at hm;have hc:=hm.1;have xH:=hm.2.1.1;have oF:cC j x=true:=by
   simp only[cC,aK];exact hm.2.1
  obtain⟨e1,e2,e3,e4⟩:=JM (c:=j) (x:=x) (i:=i) Z;have hb5:x.kind=5->x.ay.toNat<j.aB.aD.length:=λk=>by have:=A0 (by omega);have:=E.p.bl;omega
  obtain⟨w1,w2,w3,w4,w5,w6⟩:=afN (c:=j) (x:=x) (i:=i) Z hb5 λk=>(hpr k).1
  refine⟨by rw[e2];exact Fp _ _ _ (λi=>by have:=h.d1 i;omega) (gz _),by rw[e3];exact h.d2,?_,λb=>by have:=w6 b;have:=h.d4 b;omega,λB hB Y=>?_⟩
  ·have:vf (dB j x i).aB=vf j.aB:=by unfold vf;rw[w1,w2]
   rw[this,e3];exact h.d3
  ·rw[e4]at hB ⊢;rw[e1,e2];have kj:uB j.aB.aD B=true:=aY (by have:=of_decide_eq_true Y;have:=w6 B;omega);have u:=h.d5 B hB kj;have a1:=OD j.config.ak j.aB.aD;have a2:=JL j.config.ak j.aI j.aB.aD;have T:=OE (afP (up hB kj));have la:=atC j.config.ak j.ready ⟨j.now,x⟩ hc;have hBb:∀ {b k:Nat},(k:Int)=x.kind->k<=5->(b:Int)=(if k<=5 then x.ay else aL j.config.ak)->b=x.ay.toNat:=λh1 U h3=>by rw[aW U]at h3;omega
   rcases afQ with ⟨hs,hx7⟩|⟨hs,⟨b,hb,e⟩|⟨sG,atH⟩⟩
   ·-- the power comes back
    have O:j.aI.aN=1:=by have:=u.u1;omega
    rw[ps,O]at T;have T:bN j=7:=T;have ex:x=⟨7,0,0,0⟩:=by
     rcases hx7 with ⟨e,_⟩|e
     ·rw[e]at Z;exact absurd Z.1 (by decide)
     ·rw[e,T]
    have k7:x.kind=7:=by rw[ex]
    have JI:=u.u3 O;rw[w3 (by omega) (by omega)];have D:∀ b k:Nat,1<=k->k<=9->k≠7->La (fO j.config.ak j.ready ⟨j.now,x⟩) b k=La j.ready b k:=λb k h1 h9 hk=>by
     rcases la b k ⟨h1,h9⟩with e|⟨_,e,_⟩
     ·exact e
     ·dsimp only at e;omega
    have FY:(cR j.aI x).aN=0:=by rw[ex];rfl
    have l7:La (fO j.config.ak j.ready ⟨j.now,x⟩) (aL j.config.ak).toNat 7<=t+16:=by
     have:=Fo (Fp j.config.ak j.ready ⟨j.now,x⟩ (n:=j.now) (λi=>by have:=h.d1 i;omega) (gz _)) (aL j.config.ak).toNat 7;omega
    refine⟨by omega,⟨l7,by rw[D _ 9 (by omega) (by omega) (by omega)];exact u.u2.2⟩,λh=>by omega,?_,λ_=>?_,by omega,λb hb=>by rw[D b 5 (by omega) (by omega) (by omega)];exact u.u7 b hb⟩
    ·rw[D B 1 (by omega) (by omega) (by omega),D B 2 (by omega) (by omega) (by omega),D B 3 (by omega) (by omega) (by omega),D B 4 (by omega) (by omega) (by omega),D B 5 (by omega) (by omega) (by omega)];exact u.u4
    ·have:=JL j.config.ak (cR j.aI x) j.aB.aD;omega
   ·-- an urgent bank
    have O:j.aI.aN=0:=by omega
    obtain⟨v1,v2,v3⟩:=VJ E hb;have C9:uB j.aB.aD b.toNat=true:=aY v3;have I5:((b.toNat:Nat):Int)=b:=Int.toNat_of_nonneg v1;unfold fA at e;rcases A3 j b ⟨5,b,0,0⟩with e5|⟨e5,e6⟩
    ·-- it closes
     have ho:oB j.aI b.toNat=true:=by
      unfold o7 at e5;unfold oB;rw[I5];cases I:(cX j.aI b).open_ with
      |true=>rfl
      |false=>rw[I]at e5;cases e5
     have ex:x=⟨4,b,0,0⟩:=e.trans e5;have k4:x.kind=4:=by rw[ex]
     have xb:x.ay=b:=by rw[ex]
     have FY:(cR j.aI x).aN=0:=by rw[ex];exact O
     have hu5:=(h.d5 b.toNat (by omega) C9).u5 ho;have cu1:=afL (g:=j.config.ak) (by omega) C9;have co1:=afM (g:=j.config.ak) (by omega) C9 ho;have hco:cO j.config.ak (cR j.aI x) j.aB.aD+1<=cO j.config.ak j.aI j.aB.aD:=by
      have:=VT (p:=λb=>uB j.aB.aD b&&oB j.aI b) (q:=λb=>uB j.aB.aD b&&oB (cR j.aI x) b) (b:=b.toNat) (aL j.config.ak).toNat (by omega) (λC _ r5=>by
       rw[aK]at r5 ⊢;refine⟨r5.1,?_⟩;by_cases eb:C=x.ay.toNat
       ·have:=afO (r:=j.aI) k4 eb;have U:=r5.2;unfold oB at U;rw[this]at U;cases U
       ·have:=VU (r:=j.aI) eb;have U:=r5.2;unfold oB at U ⊢;rw[this]at U;exact U) (by rw[C9,ho];rfl) (by
       have:=afO (r:=j.aI) (b:=b.toNat) k4 (by rw[xb]);unfold oB;rw[this,Bool.and_false])
      unfold cO;omega
     rw[w3 (by omega) (by omega)];have D:∀ b k:Nat,1<=k->k<=9->k≠4->La (fO j.config.ak j.ready ⟨j.now,x⟩) b k=La j.ready b k:=λb k h1 h9 hk=>by
      rcases la b k ⟨h1,h9⟩with e|⟨_,e,_⟩
      ·exact e
      ·dsimp only at e;omega
     have l4:La (fO j.config.ak j.ready ⟨j.now,x⟩) B 4<=t+48:=by
      rcases la B 4 ⟨by omega,by omega⟩with e|⟨e,_,_⟩
      ·rw[e];exact u.u4.2.2.2.2
      ·rw[e];dsimp only;omega
     refine⟨by omega,by rw[D _ 7 (by omega) (by omega) (by omega),D _ 9 (by omega) (by omega) (by omega)];exact u.u2,λh=>by omega,?_,λhB'=>by omega,by omega,λb hb=>by rw[D b 5 (by omega) (by omega) (by omega)];exact u.u7 b hb⟩
     rw[D B 1 (by omega) (by omega) (by omega),D B 2 (by omega) (by omega) (by omega),D B 3 (by omega) (by omega) (by omega),D B 5 (by omega) (by omega) (by omega)];exact⟨u.u4.1,u.u4.2.1,u.u4.2.2.1,u.u4.2.2.2.1,l4⟩
    ·-- it is refreshed
     have ex:x=⟨5,b,0,0⟩:=e.trans e5;have k5:x.kind=5:=by rw[ex]
     have xb:x.ay=b:=by rw[ex]
     have w4:=w4 k5;rw[xb]at w4;have er:cR j.aI x=j.aI:=by rw[ex];rfl
     have X0:=h.d4 b.toNat;have cm:B≠b.toNat:=λeb=>by
      have:=of_decide_eq_true Y;rw[w4 B,aW eb.symm,eb]at this;omega
     have PB:∀ C,uB (dB j x i).aB.aD C=true->uB j.aB.aD C=true:=λC I=>aY (by
      have:=of_decide_eq_true I;have:=w6 C;omega)
     have Fq:uB (dB j x i).aB.aD b.toNat=false:=bq (by rw[w4 b.toNat,aW rfl];omega);have KA:cU j.config.ak (dB j x i).aB.aD+1<=cU j.config.ak j.aB.aD:=by
      have:=VT (p:=uB j.aB.aD) (q:=uB (dB j x i).aB.aD) (b:=b.toNat) (aL j.config.ak).toNat (by omega) (λC _ I=>PB C I) C9 Fq;unfold cU;omega
     have hco:cO j.config.ak j.aI (dB j x i).aB.aD<=cO j.config.ak j.aI j.aB.aD:=by
      have:=count_le (p:=λb=>uB j.aB.aD b&&oB j.aI b) (q:=λb=>uB (dB j x i).aB.aD b&&oB j.aI b) (aL j.config.ak).toNat λC _ I=>by
       rw[aK]at I ⊢;exact⟨PB C I.1,I.2⟩
      unfold cO;omega
     rw[er];have D:∀ C k:Nat,1<=k->k<=9->(k≠5\/C≠b.toNat)->La (fO j.config.ak j.ready ⟨j.now,x⟩) C k=La j.ready C k:=λC k h1 h9 hk=>by
      rcases la C k ⟨h1,h9⟩with e|⟨_,e,e'⟩
      ·exact e
      ·dsimp only at e e';have:=hBb e (by omega) e';rw[xb]at this;omega
     have hu6:=u.u6;have hu7:=u.u7
     refine⟨by omega,by rw[D _ 7 (by omega) (by omega) (by omega),D _ 9 (by omega) (by omega) (by omega)];exact u.u2,λh=>by omega,?_,λhB'=>by have:=u.u5 hB';omega,by omega,λC xh=>?_⟩
     ·rw[D B 1 (by omega) (by omega) (by omega),D B 2 (by omega) (by omega) (by omega),D B 3 (by omega) (by omega) (by omega),D B 4 (by omega) (by omega) (by omega),D B 5 (by omega) (by omega) (by omega)];exact u.u4
     ·rcases la C 5 ⟨by omega,by omega⟩with e | ⟨e,_,_⟩
      ·rw[e];have:=hu7 C xh;omega
      ·rw[e];dsimp only;omega
   ·-- another command
    have O:j.aI.aN=0:=by omega
    obtain⟨c1,c2⟩:=h.core E ht O sG hB kj;have OF:bN j=0:=by
     rw[hs]at T;exact T
    have VV:x.kind<=4/\uB j.aB.aD x.ay.toNat=false:=by
     have cl:∀ (b:Int) (z:aS),z.kind=1->z.ay=b->uB j.aB.aD b.toNat=false->x=o7 j b z->x.kind<=4/\uB j.aB.aD x.ay.toNat=false:=λb z z1 z2 z3 z4=>by
      rcases A3 j b z with e|⟨e,_⟩
      ·rw[z4,e];exact⟨by dsimp only;omega,z3⟩
      ·rw[z4,e,z1,z2];exact⟨by omega,z3⟩
     rcases atH with ⟨k,hkl,rq,e⟩|⟨k,hkl,C3,e⟩|e|e
     ·unfold qL at rq;rw[aK,gk]at rq;exact cl (hU j k).ay ⟨1,(hU j k).ay,(hU j k).row,0⟩ rfl rfl rq.1 e
     ·unfold kZ at C3;simp only[aK,gk]at C3;obtain⟨n1,n2⟩:=VL j.aI (cV j k) (qG j.queue k);rw[e];unfold fK;rw[n1];exact⟨by omega,C3.2.1⟩
     ·rcases VM E e with ⟨_,_,_,atI,_⟩ | k4 | ⟨_,e⟩
      ·have:=up hB kj;rw[atI]at this;cases this
      ·refine⟨by omega,?_⟩;cases C9:uB j.aB.aD x.ay.toNat with
       |false=>rfl
       | true=>
        obtain⟨x0,x1⟩:=A0 (by omega);have ir:=E.p.bl;have qe:=sG _ (VK E (b:=x.ay) x0 (by omega) (of_decide_eq_true C9));have sN:(cX j.aI x.ay).open_=true:=by
         unfold iz at xH;rw[k4]at xH;have xH:(j.aI.aN==0&&(cX j.aI x.ay).open_)=true:=xH;rw[aK]at xH;exact xH.2
        unfold fA o7 at qe;rw[sN,aq,<-atG hc k4,oF]at qe;cases qe
      ·exact absurd OF e
     ·rw[e]at Z;exact absurd Z.1 (by decide)
    rw[w3 (by omega) (by omega)];have hoB:∀ C,uB j.aB.aD C=true->oB (cR j.aI x) C=oB j.aI C:=λC I=>by
     unfold oB;rw[VU (λeb=>by rw[eb,VV.2]at I;cases I)]
    have hco:cO j.config.ak (cR j.aI x) j.aB.aD<=cO j.config.ak j.aI j.aB.aD:=by
     have:=count_le (p:=λb=>uB j.aB.aD b&&oB j.aI b) (q:=λb=>uB j.aB.aD b&&oB (cR j.aI x) b) (aL j.config.ak).toNat λC _ I=>by
      rw[aK]at I ⊢;exact⟨I.1,by rw[<-hoB C I.1];exact I.2⟩
     unfold cO;omega
    have FY:(cR j.aI x).aN=0:=(Vv (by omega)).trans O
    refine u.stay hB FY (λC k h1 h9 hk=>?_) (λho=>?_) c2
    ·rcases la C k ⟨h1,h9⟩with e | ⟨_,e,e'⟩
     ·exact e
     ·dsimp only at e e';exfalso;rcases hk with ⟨hk,sQ⟩ | hk | hk | hk
      ·have:=hBb e sQ e';rw[<-this,hk]at VV;rw[VV.2]at kj;cases kj
      ·omega
      ·omega
      ·omega
    ·have:=c1 (by rw[<-hoB B kj];exact ho);omega
structure oh (R:Nat) (t:cJ) (f:Nat->Nat):Prop where
 tr:t.rows.length=16
 tc:t.counts.length=16
 ts:t.fh=0
 te:∀i,i<16->(t.rows.getD i (-1) = -1/\t.counts.getD i 0=0)\/∃r,r<R/\t.rows.getD i (-1)=(r:Int)/\t.counts.getD i 0=(f r:Int)/\1<=f r
 tf:∀r,r<R->1<=f r->∃i,i<16/\t.rows.getD i (-1)=(r:Int)
 td:∀i j,i<16->j<16->t.rows.getD i (-1)=t.rows.getD j (-1)->t.rows.getD i (-1) ≠ -1->i=j
def oh.new(R:Nat):oh R (oc 16) λ_=>0:=by
 have C:∀i,i<16->(oc 16).rows.getD i (-1) = -1/\(oc 16).counts.getD i 0=0:=by decide
 exact⟨by decide,by decide,rfl,λi hi=>.inl (C i hi),λr _ h=>absurd h (by decide),λi j hi _ _ h=>absurd (C i hi).1 h⟩
def oh.afR{R:Nat}{t:cJ}{f:Nat->Nat}(h:oh R t f)(hR:R<=16)(T:∀ r,r<R->f r<=100000):lO t=true:=by
 have U:=h.tr;have Y:=h.tc;unfold lO;rw[U,Y,h.ts];simp only[aK];refine⟨by decide,by decide,by decide,?_⟩;rw[bS];intro i hi;have hi:=gq.1 hi;have D:t.rows.getD i (-1)=t.rows[i]:=iC _ (by omega);have Z:t.counts.getD i 0=t.counts[i]:=iC _ (by omega);rw[NM (by omega) (by omega),h.ts];have O:=h.te i hi;rw[D,Z]at O;rcases O with ⟨C,E⟩|⟨r,hr,C,E,e3⟩
 ·rw[C,E];rfl
 ·have:=T r hr;rw[C,E,br.2 ⟨by omega,by omega⟩,br.2 ⟨by omega,by omega⟩,gv (show ¬ (r:Int) = -1 by omega),jS (show ¬ (r:Int) = -1 by omega)];have hn:((t.rows.take i).any λx=>(r:Int)==x)=false:=by
   rw[nD];intro x hx I;obtain⟨j,hj,rfl⟩:=List.mem_take_iff_getElem.1 hx;have I:=ff.1 I;have g3:t.rows.getD j (-1)=t.rows[j]:=iC _ (by omega);have:=h.td i j hi (by omega) (by rw[D,g3,C];exact I) (by rw[D,C];omega);omega
  rw[hn];rfl
def oh.room{R:Nat}{t:cJ}{f:Nat->Nat}(h:oh R t f)(Y:R<16):∃ i,i<16/\t.counts.getD i 0=0:=by
 refine Classical.byContradiction λT=>?_
 have I:∀ i,i<16->∃ r,r<R/\t.rows.getD i (-1)=(r:Int):=λi hi=>by
  rcases h.te i hi with ⟨_,D⟩|⟨r,E,C,_⟩
  ·exact absurd ⟨i,hi,D⟩ T
  ·exact⟨r,E,C⟩
 have:=Vm R ((List.range 16).map λi=>(t.rows.getD i (-1)).toNat) (λx U=>by
  obtain⟨i,hi,rfl⟩:=List.mem_map.1 U;obtain⟨r,E,e⟩:=I i (gq.1 hi);rw[e,bE];exact E) (by
  rw[List.pairwise_iff_getElem];intro i j hi O Z e;rw[eT,eD]at hi O;rw[List.getElem_map,List.getElem_map,lV,lV]at e;obtain⟨r,E,C⟩:=I i hi;obtain⟨r2,tW,D⟩:=I j O;rw[C,D,bE,bE]at e;have:=h.td i j hi O (by rw[C,D,e]) (by rw[C];omega);omega)
 rw[eT,eD]at this;omega
def oh.trk{R:Nat}{t:cJ}{f:Nat->Nat}(h:oh R t f)(hR:R<16){row:Nat}(hr:row<R):oh R (iX t (row:Int)) (λr=>if r=row then f r+1 else f r)/\∃ i,qE t (row:Int)=some i/\(iX t (row:Int)).counts.getD i 0=((f row+1:Nat):Int):=by
 have h1:=h.tr;have h2:=h.tc;unfold iX qE;cases hf:t.rows.findIdx? (λe=>e==(row:Int))with
 | some i=>
  obtain⟨hi,hp⟩:=CY hf;have T:i<16:=by omega
  have er:t.rows.getD i (-1)=(row:Int):=(iC _ hi).trans (ff.1 hp);have ec:t.counts.getD i 0=(f row:Int):=by
   rcases h.te i T with ⟨C,_⟩|⟨r,_,C,I,_⟩
   ·omega
   ·rw[I];congr 1;congr 1;omega
  have U:(t.counts.set i (t.counts.getD i 0+1)).getD i 0=((f row+1:Nat):Int):=by
   rw[ve _ (by omega),ec];rfl
  dsimp only
  refine⟨⟨h1,by rw[jb];exact h2,h.ts,λj D=>?_,λr tW O=>?_,h.td⟩,i,rfl,U⟩
  ·dsimp only;by_cases e:i=j
   ·subst e;exact .inr ⟨row,hr,er,by rw[aW rfl];exact U,by rw[aW rfl];omega⟩
   ·rw[getD_set_ne _ e];rcases h.te j D with C | ⟨r,k1,Y,k3,k4⟩
    ·exact .inl C
    ·have Z:r≠row:=λE=>e (h.td i j T D (by rw[er,Y,E]) (by rw[er];omega))
     exact .inr ⟨r,k1,Y,by rw[aX Z];exact k3,by rw[aX Z];exact k4⟩
  ·by_cases e:r=row
   ·subst e;exact⟨i,T,er⟩
   ·rw[aX e]at O;exact h.tf r tW O
 | none=>
  have hn:∀ i,i<16->t.rows.getD i (-1)≠(row:Int):=λi hi e=>by
   have g1:t.rows.getD i (-1)=t.rows[i]:=iC _ (by omega);have:=List.findIdx?_eq_none_iff.1 hf t.rows[i] (dc _);rw[<-g1,e,kM]at this;cases this
  have f0:f row=0:=by
   cases hz:f row with
   |zero=>rfl
   | succ k=>
    obtain⟨i,hi,e⟩:=h.tf row hr (by omega);exact absurd e (hn i hi)
  cases O:t.counts.findIdx? (λe=>e==t.fh)with
  | none=>
   obtain⟨i,hi,e⟩:=h.room hR;have g2:t.counts.getD i 0=t.counts[i]:=iC _ (by omega);have:=List.findIdx?_eq_none_iff.1 O t.counts[i] (dc _);rw[<-g2,e,h.ts,kM]at this;cases this
  | some i=>
   obtain⟨hi,hp⟩:=CY O;have T:i<16:=by omega
   have ec:t.counts.getD i 0=0:=(iC _ hi).trans (by rw[ff.1 hp];exact h.ts);have er:t.rows.getD i (-1) = -1:=by
    rcases h.te i T with ⟨C,_⟩|⟨r,_,_,I,e3⟩
    ·exact C
    ·omega
   have U:(t.counts.set i (t.fh+1)).getD i 0=((f row+1:Nat):Int):=by
    rw[ve _ (by omega),h.ts,f0];rfl
   have gV:(t.rows.set i (row:Int)).getD i (-1)=(row:Int):=ve _ (by omega);dsimp only
   refine⟨⟨by rw[jb];exact h1,by rw[jb];exact h2,h.ts,λj D=>?_,λr tW O=>?_,λj k D hk=>?_⟩,i,rfl,U⟩
   ·dsimp only;by_cases e:i=j
    ·subst e;exact .inr ⟨row,hr,gV,by rw[aW rfl];exact U,by rw[aW rfl];omega⟩
    ·rw[getD_set_ne _ e,getD_set_ne _ e];rcases h.te j D with C | ⟨r,k1,Y,k3,k4⟩
     ·exact .inl C
     ·have Z:r≠row:=λE=>hn j D (by rw[Y,E])
      exact .inr ⟨r,k1,Y,by rw[aX Z];exact k3,by rw[aX Z];exact k4⟩
   ·by_cases e:r=row
    ·subst e;exact⟨i,T,gV⟩
    ·rw[aX e]at O;obtain⟨j,D,ej⟩:=h.tf r tW O;exact⟨j,D,(getD_set_ne _ (λE=>by subst E;omega)).trans ej⟩
   ·dsimp only;by_cases C:i=j
    ·subst C;by_cases I:i=k
     ·exact λ_ _=>I
     ·rw[gV,getD_set_ne _ I];exact λE=>absurd E.symm (hn k hk)
    ·by_cases I:i=k
     ·subst I;rw[gV,getD_set_ne _ C];exact λE=>absurd E (hn j D)
     ·rw[getD_set_ne _ C,getD_set_ne _ I];exact h.td j k D hk
def oh.step{R:Nat}{t:cJ}{f:Nat->Nat}(h:oh R t f)(I:R<16){row:Nat}(C:row<R){L:Nat}(Z:2<=L)(hL:L<=1000)(D:∀ r,r<R->f r<100000):mH t (row:Int) (L:Int)=(iX t (row:Int),decide ((f row+1) % L=0))/\oh R (iX t (row:Int)) (λr=>if r=row then f r+1 else f r):=by
 obtain⟨E,i,O,T⟩:=h.trk I C;refine⟨?_,E⟩;have U:=h.afR (by omega) λr C=>by have:=D r C;omega
 have Y:=E.afR (by omega) λr C=>by
  have:=D r C;split<;>omega
 unfold mH;rw[U,Y,br.2 ⟨by omega,by omega⟩,br.2 ⟨by omega,by omega⟩,O];show (iX t (row:Int),((iX t (row:Int)).counts.getD i 0).tmod (L:Int)==0)=_;rw[T,rS (by omega),<-Int.natCast_emod];congr 1;rw[Bool.eq_iff_iff,ff,fq];omega
def ja(b r:Nat)(a:aP):Bool:=eH ⟨(b:Int),(r:Int),0⟩ a
def Da{b r:Nat}{a:aP}:ja b r a=true ↔ (⟨(b:Int),(r:Int),0⟩:aP)=a:=Js
def afS{b r C D:Nat}{a:aP}(h:ja b r a=true)(E:ja C D a=true):b=C/\r=D:=by
 have e:=(Da.1 h).trans (Da.1 E).symm;simp only[aP.mk.injEq]at e;omega
def mL(P:aa aP)(b r:Nat):Bool:=P.any (ja b r)
def nB(P:aa aP)(b n r:Nat):Bool:=(P.takeWhile λa=>!ja b r a).any (ja b n)
def wT(c L:Nat):Nat:=if c % L=0/\0<c then L else c % L
def wH(f:Nat->Nat)(L:Nat)(P:aa aP)(b n r:Nat):Nat:=if mL P b r=true/\nB P b n r=false then wT (f n) L else f n % L
def wS(R:Nat)(f:Nat->Nat)(L:Nat)(P:aa aP)(b r:Nat):Nat:=(if 0<r then wH f L P b (r-1) r else 0)+(if r+1<R then wH f L P b (r+1) r else 0)
def atJ(c:Nat){L:Nat}(h:0<L):c % L<=wT c L/\wT c L<=L:=by
 have:=Nat.mod_lt c h;unfold wT;split<;>omega
def atK(c:Nat){L:Nat}(h:0<L):wT (c+1) L=c % L+1/\((c+1) % L≠0->(c+1) % L=c % L+1):=by
 have e:(c+1) % L=(c % L+1) % L:=(Nat.mod_add_mod c L 1).symm;have:=Nat.mod_lt c h;by_cases E:c % L+1=L
 ·have C:(c+1) % L=0:=by rw[e,E,Nat.mod_self]
  unfold wT;rw[aW ⟨C,by omega⟩];exact⟨by omega,λI=>absurd C I⟩
 ·have D:(c+1) % L=c % L+1:=by rw[e];exact Nat.mod_eq_of_lt (by omega)
  unfold wT;rw[aX];exact⟨D,λ_=>D⟩
def VW(f:Nat->Nat){L:Nat}(h:0<L)(P:aa aP)(b n r:Nat):f n % L<=wH f L P b n r/\wH f L P b n r<=L:=by
 have:=atJ (f n) h;have:=Nat.mod_lt (f n) h;unfold wH;split<;>omega
def atM(R:Nat)(f:Nat->Nat){L:Nat}(h:0<L)(P:aa aP)(b r:Nat):wS R f L P b r<=2*L:=by
 have:=(VW f h P b (r-1) r).2;have:=(VW f h P b (r+1) r).2;unfold wS;split<;>split<;>omega
def afT{f f':Nat->Nat}{L:Nat}(D:0<L){P P':aa aP}{b n r:Nat}(C:f' n=f n)(E:mL P b r=true->mL P' b r=true)(I:mL P b r=true->nB P' b n r=true->nB P b n r=true):wH f L P b n r<=wH f' L P' b n r:=by
 by_cases c:mL P b r=true/\nB P b n r=false
 ·have O:mL P' b r=true/\nB P' b n r=false:=⟨E c.1,Bool.eq_false_iff.2 λh=>by rw[I c.1 h]at c;exact absurd c.2 (by decide)⟩
  unfold wH;rw[aW c,aW O,C];exact dH _
 ·have:=(VW f' D P' b n r).1;unfold wH at this ⊢;rw[aX c,<-C];exact this
def afU{p:aP->Bool}{b r:Nat}(D:∀ a,ja b r a=true->p a=true){P:aa aP}(new:aa aP)(h:mL P b r=true):mL (P.filter p++new) b r=true:=by
 unfold mL at h ⊢;obtain⟨a,E,C⟩:=List.any_eq_true.1 h;exact List.any_eq_true.2 ⟨a,List.mem_append_left _ (List.mem_filter.2 ⟨E,D a C⟩),C⟩
def OG{p:aP->Bool}{b n r:Nat}(E:∀ a,ja b r a=true->p a=true)(new:aa aP):∀ (P:aa aP),mL P b r=true->nB (P.filter p++new) b n r=true->nB P b n r=true
 |[],h,_=>by cases h
 | a :: l,h,C=>by
  unfold nB at C ⊢;by_cases D:ja b r a=true
  ·rw[List.filter_cons_of_pos (E a D),List.cons_append,List.takeWhile_cons,D]at C;cases C
  ·have D:=Bool.eq_false_iff.2 D;have I:mL l b r=true:=by
    unfold mL at h ⊢;rw[List.any_cons,D,Bool.false_or]at h;exact h
   rw[List.takeWhile_cons,D];show ((a::l.takeWhile λa=>!ja b r a).any (ja b n))=true;rw[List.any_cons];by_cases pa:p a=true
   ·rw[List.filter_cons_of_pos pa,List.cons_append,List.takeWhile_cons,D]at C;have C:((a :: (l.filter p++new).takeWhile λa=>!ja b r a).any (ja b n))=true:=C;rw[List.any_cons]at C;cases O:ja b n a with
    |true=>rfl
    | false=>
     rw[O,Bool.false_or]at C;exact OG E new l I C
   ·rw[List.filter_cons_of_neg pa]at C;have:=OG E new l I C;unfold nB at this;rw[this,Bool.or_true]
def afV{b row r:Nat}(O:row≠r):∀ (P:aa aP) (k:Nat) (D:k<P.length),ja b row P[k]=true->((P.take k).any λa=>a.ay==(b:Int))=false->nB P b row r=true
 | a :: l,0,D,h,_=>by
  unfold nB;have E:ja b r a=false:=Bool.eq_false_iff.2 λI=>O (afS h I).2
  have h:ja b row a=true:=h;rw[List.takeWhile_cons,E];show ((a::l.takeWhile λa=>!ja b r a).any (ja b row))=true;rw[List.any_cons,h];rfl
 | a :: l,k+1,D,h,C=>by
  have C:((a :: l.take k).any λa=>a.ay==(b:Int))=false:=C;rw[List.any_cons,mO]at C;have T:=afV O l k (by simpa using D) h C.2;unfold nB at T ⊢;have E:ja b r a=false:=Bool.eq_false_iff.2 λI=>by
   rw[<-Da.1 I]at C;dsimp only at C;rw[kM]at C;exact absurd C.1 (by decide)
  rw[List.takeWhile_cons,E];show ((a::l.takeWhile λa=>!ja b r a).any (ja b row))=true;rw[List.any_cons,T,Bool.or_true]
def VX(b:Int):∀ (ns:aa Int) (P:aa aP),∃ new,ns.foldl (iY b) P=P++new/\(∀ a∈new,∃ n∈ns,a=⟨b,n,0⟩)/\∀ n∈ns,(ns.foldl (iY b) P).any (eH ⟨b,n,0⟩)=true
 |[],P=>⟨[],(List.append_nil P).symm,λa h=>(by cases h),λn h=>(by cases h)⟩
 | n :: ns,P=>by
  obtain⟨new,C,D,E⟩:=VX b ns (iY b P n);have key:∃ m,iY b P n=P++m/\(∀ a∈m,a=⟨b,n,0⟩)/\(iY b P n).any (eH ⟨b,n,0⟩)=true:=by
   unfold iY;cases h:P.any (eH ⟨b,n,0⟩)with
   |true=>exact⟨[],(List.append_nil P).symm,λa h=>(by cases h),h⟩
   |false=>exact⟨[⟨b,n,0⟩],rfl,λa h=>gL.1 h,by rw[av,List.any_append,h];simp[eH]⟩
  obtain⟨m,I,O,T⟩:=key
  refine⟨m++new,?_,λa ha=>?_,λx hx=>?_⟩
  ·rw[List.foldl_cons,C,I,List.append_assoc]
  ·rcases lz.1 ha with ha | ha
   ·exact⟨n,.head _,O a ha⟩
   ·obtain⟨x,hx,e⟩:=D a ha;exact⟨x,.tail _ hx,e⟩
  ·rw[List.foldl_cons];rcases gp.1 hx with rfl | hx
   ·rw[C,List.any_append,T,Bool.true_or]
   ·exact E x hx
def afW(k m:Nat)(h:aa Int):(nW k h).getD m 0<=if k=m then h.getD m 0+1 else h.getD m 0:=by
 unfold nW;by_cases e:k=m
 ·subst e;rw[aW rfl];by_cases C:k<h.length
  ·rw[afF _ _ _ C,aW rfl];unfold nq;split<;>omega
  ·rw[cL,cL,o9 (by rw[jb];omega),o9 (by omega)];decide
 ·rw[aX e,getD_set_ne _ e];exact gz _
def OH{b B r s R:Nat}(h:b≠B)(C:r<R)(D:s<R):b*R+r≠B*R+s:=λe=>by
 rcases Nat.lt_or_gt_of_ne h with h|h
 ·have:=jF R h;rw[Nat.succ_mul]at this;omega
 ·have:=jF R h;rw[Nat.succ_mul]at this;omega
def VY{R B row b r:Nat}(Db:row<R)(Y:r<R)(h:aa Int):(oW (R:Int) (row:Int) (B*R+row) h).getD (b*R+r) 0<=if b=B/\r=row then 0 else if b=B/\(r+1=row\/r=row+1)then h.getD (b*R+r) 0+1 else h.getD (b*R+r) 0:=by
 have Z:=JJ h (B*R+row) (b*R+r);have O:(v7 (row:Int) (B*R+row) h).getD (b*R+r) 0<=if b=B/\r=row then 0 else if b=B/\r+1=row then h.getD (b*R+r) 0+1 else h.getD (b*R+r) 0:=by
  unfold v7;by_cases c:0<row
  ·rw[aY (show 0<(row:Int) by omega),aq];have D:=afW (B*R+row-1) (b*R+r) (h.set (B*R+row) 0);by_cases E:b=B
   ·subst E;by_cases I:r=row
    ·subst I;rw[aW ⟨rfl,rfl⟩];rw[aX,Z,aW rfl]at D;exact D
    ·rw[aX (λC=>I C.2)];rw[Z,aX (show ¬ b*R+row=b*R+r by omega)]at D;by_cases T:r+1=row
     ·rw[aW ⟨rfl,T⟩];rw[aW]at D;exact D
     ·rw[aX (λC=>T C.2)];rw[aX]at D;exact D
   ·have U:=OH E Y Db;have n2:=OH (s:=row-1) E Y (by omega);rw[aX (λC=>E C.1),aX (λC=>E C.1)];rw[aX,Z,aX (λC=>U C.symm)]at D;exact D
  ·rw[bq (show ¬ 0<(row:Int) by omega),av,Z];by_cases E:b=B
   ·subst E;by_cases I:r=row
    ·subst I;rw[aW rfl,aW ⟨rfl,rfl⟩];exact gz _
    ·rw[aX,aX (λC=>I C.2),aX];exact gz _
   ·have U:=OH E Y Db;rw[aX (λC=>U C.symm),aX (λC=>E C.1),aX (λC=>E C.1)];exact gz _
 unfold oW;by_cases c:row+1<R
 ·rw[aY (show (row:Int)<(R:Int)-1 by omega),aq];have D:=afW (B*R+row+1) (b*R+r) (v7 (row:Int) (B*R+row) h);by_cases E:b=B
  ·subst E;by_cases I:r=row
   ·subst I;rw[aW ⟨rfl,rfl⟩]at O ⊢;rw[aX]at D;omega
   ·rw[aX (λC=>I C.2)]at O ⊢;by_cases T:r+1=row
    ·rw[aW ⟨rfl,T⟩]at O;rw[aW ⟨rfl,.inl T⟩];rw[aX]at D;omega
    ·rw[aX (λC=>T C.2)]at O;by_cases k3:r=row+1
     ·rw[aW ⟨rfl,.inr k3⟩];rw[aW]at D;omega
     ·rw[aX];rw[aX]at D;omega
  ·have U:=OH (s:=row+1) E Y c;rw[aX (λC=>E C.1),aX (λC=>E C.1)]at O ⊢;rw[aX (λC=>U (by omega))]at D;omega
 ·rw[bq (show ¬ (row:Int)<(R:Int)-1 by omega),av];refine Int.le_trans O ?_;split
  ·exact gz _
  ·split
   next C=>rw[aW ⟨C.1,.inl C.2⟩];exact gz _
   ·split<;>omega
def VZ{g:aH}{R:Nat}(O:g.rows=(R:Int))(l:lA)(a:dj)(B:Nat):∀ n,n<=R->∀ b r,r<R->(b≠B->(gS g l a (B:Int) n).bg.getD (b*R+r) 0<=a.bg.getD (b*R+r) 0)/\(b=B->r<n->(gS g l a (B:Int) n).bg.getD (b*R+r) 0<=if r+1=n then 0 else 1)
 |0,_,b,r,_=>⟨λ_=>gz _,λ_ h=>absurd h (Nat.not_lt_zero _)⟩
 | n+1,hn,b,r,U=>by
  obtain⟨Z,I⟩:=VZ O l a B n (by omega) b r U;unfold gS;rw[o6];show (b≠B->(oW g.rows (n:Int) ((B:Int)*g.rows+(n:Int)).toNat (gS g l a (B:Int) n).bg).getD (b*R+r) 0<=a.bg.getD (b*R+r) 0)/\(b=B->r<n+1->(oW g.rows (n:Int) ((B:Int)*g.rows+(n:Int)).toNat (gS g l a (B:Int) n).bg).getD (b*R+r) 0<=if r+1=n+1 then 0 else 1);have ei:((B:Int)*g.rows+(n:Int)).toNat=B*R+n:=by
   rw[O,<-Int.natCast_mul];omega
  rw[ei,O];have C:=VY (R:=R) (B:=B) (row:=n) (b:=b) (r:=r) (by omega) U (gS g l a (B:Int) n).bg
  refine⟨λD=>?_,λD hrn=>?_⟩
  ·rw[aX (λE=>D E.1),aX (λE=>D E.1)]at C;exact Int.le_trans C (Z D)
  ·by_cases Y:r=n
   ·rw[aW ⟨D,Y⟩]at C;rw[aW];exact C
   ·have I:=I D (by omega);rw[aX (λE=>Y E.2)]at C;rw[aX];by_cases T:r+1=n
    ·rw[aW T]at I;rw[aW ⟨D,.inl T⟩]at C;omega
    ·rw[aX T]at I;rw[aX]at C;omega
def atO(g:aH)(l:lA)(a:dj)(n:Nat):yO g l a (n+1)=gS g l (yO g l a n) (n:Int) g.rows.toNat:=o6 _ _ _
def afX{g:aH}{R:Nat}(D:g.rows=(R:Int))(l:lA)(a:dj):∀ n b r,b<n->r<R->(yO g l a n).bg.getD (b*R+r) 0<=1
 | n+1,b,r,O,C=>by
  rw[atO,show g.rows.toNat=R by omega];obtain⟨E,I⟩:=VZ D l (yO g l a n) n R (dH _) b r C;by_cases e:b=n
  ·have:=I e C;refine Int.le_trans this ?_;split<;>omega
  ·exact Int.le_trans (E e) (afX D l a n b r (by omega) C)
def Hb(R:Nat)(cF now:Int)(t:cJ)(C:Int)(P:aa aP)(bg:aa Int)(b:Nat):Prop:=∃(f:Nat->Nat) (L:Nat),oh R t f/\(∀r,r<R->(f r:Int)<=now)/\C=(L:Int)/\3<=L/\L<=1000/\2*(L:Int)+4<=cF/\∀r,r<R->bg.getD (b*R+r) 0<=1+((wS R f L P b r:Nat):Int)
def Ht(n:Int)(c:au):Prop:=∀b:Nat,(b:Int)<aL c.config.ak->Hb c.config.ak.rows.toNat c.config.dO.bg n (c.bB.getD b zT) (c.guard.getD b 0) c.pending c.array.bg b
def afY{R:Nat}{f f':Nat->Nat}{L:Nat}{P P':aa aP}{b r:Nat}(h:∀ n,n+1=r\/n=r+1->wH f L P b n r<=wH f' L P' b n r):wS R f L P b r<=wS R f' L P' b r:=by
 unfold wS;refine Nat.add_le_add ?_ ?_
 ·split
  ·exact h _ (by omega)
  ·exact dH _
 ·split
  ·exact h _ (by omega)
  ·exact dH _
def Hb.iQ{R:Nat}{cF n n':Int}{t:cJ}{D:Int}{P:aa aP}{bg V0:aa Int}{b:Nat}(h:Hb R cF n t D P bg b)(I:n<=n'){p:aP->Bool}(new:aa aP)(O:∀ a:aP,a.ay=(b:Int)->p a=true)(T:∀ r,r<R->V0.getD (b*R+r) 0<=bg.getD (b*R+r) 0):Hb R cF n' t D (P.filter p++new) V0 b:=by
 obtain⟨f,L,U,Y,Z,h4,h5,h6,h7⟩:=h
 refine⟨f,L,U,λr C=>Int.le_trans (Y r C) I,Z,h4,h5,h6,λr C=>?_⟩
 have E:∀a,ja b r a=true->p a=true:=λa ha=>O a (by rw[<-Da.1 ha])
 have:=afY (R:=R) (f:=f) (f':=f) (L:=L) (P:=P) (P':=P.filter p++new) (b:=b) (r:=r) λn _=>afT (by omega) rfl (afU E new) (OG E new P)
 have:=T r C;have:=h7 r C;omega
def Hb.same{R:Nat}{cF n n':Int}{t:cJ}{C:Int}{P:aa aP}{bg:aa Int}{b:Nat}(h:Hb R cF n t C P bg b)(D:n<=n'):Hb R cF n' t C P bg b:=by
 have:=h.iQ (V0:=bg) D (p:=λ_=>true) [] (λ_ _=>rfl) λr _=>gz _
 rwa [List.append_nil,List.filter_eq_self.2 λ_ _=>rfl]at this
def Hb.new{R:Nat}{cF n L:Int}{P:aa aP}{bg:aa Int}{b:Nat}(C:0<=n)(I:3<=L/\L<=1000)(O:2*L+4<=cF)(D:∀ r,r<R->bg.getD (b*R+r) 0<=1):Hb R cF n (oc 16) L P bg b:=by
 refine⟨λ_=>0,L.toNat,oh.new R,λr _=>C,by omega,by omega,by omega,by omega,λr E=>?_⟩
 have:=D r E;omega
def Ht.pr{c j:au}{n:Int}(h:Ht n c)(p:Pr c j):Ht n j:=by
 unfold Ht at h ⊢;rw[p.pC,p.pT,p.pG,p.pP,p.pH];exact h
def atP{f f':Nat->Nat}{L:Nat}(D:0<L){P P':aa aP}{b row r:Nat}(E:f' row=f row+1)(I:mL P b r=true->nB P b row r=true)(O:(f row+1) % L=0->mL P' b r=true)(T:nB P' b row r=false):wH f L P b row r+1<=wH f' L P' b row r:=by
 obtain⟨w1,U⟩:=atK (f row) D;have Y:wH f L P b row r=f row % L:=by
  unfold wH;exact aX λC=>by
   rw[I C.1]at C;exact absurd C.2 (by decide)
 rw[Y];unfold wH;rw[E];cases hm:mL P' b r with
 | true=>
  rw[aW ⟨rfl,T⟩,w1];exact dH _
 | false=>
  rw[aX (λC=>absurd C.1 (by decide)),U (λZ=>by rw[O Z]at hm;cases hm)];exact dH _
def Hb.Vw{R:Nat}(hR:R<16){cF n:Int}{t:cJ}{O:Int}{P:aa aP}{bg:aa Int}{B row:Nat}(Z:row<R)(h:Hb R cF n t O P bg B)(hn:n+1<100000)(OI:∀ r,r≠row->mL P B r=true->nB P B row r=true):
  Hb R cF (n+1) (mH t (row:Int) O).1 O (bif (mH t (row:Int) O).2 then (gR (R:Int) (row:Int)).foldl (iY (B:Int)) (P.filter λa=>!eH ⟨(B:Int),(row:Int),0⟩ a)else P.filter λa=>!eH ⟨(B:Int),(row:Int),0⟩ a) (oW (R:Int) (row:Int) (B*R+row) bg) B:=by
 obtain⟨f,L,h1,h2,rfl,h4,h5,h6,h7⟩:=h;obtain⟨k1,k2⟩:=h1.step hR Z (L:=L) (by omega) h5 λr C=>by have:=h2 r C;omega
 have hL:0<L:=by omega
 -- the pending rows behind it
 obtain⟨new,e1,e2,e3⟩:∃ new,(bif (mH t (row:Int) (L:Int)).2 then (gR (R:Int) (row:Int)).foldl (iY (B:Int)) (P.filter λa=>!eH ⟨(B:Int),(row:Int),0⟩ a)else P.filter λa=>!eH ⟨(B:Int),(row:Int),0⟩ a)=(P.filter λa=>!eH ⟨(B:Int),(row:Int),0⟩ a)++new/\(∀ a∈new,∃ m∈gR (R:Int) (row:Int),a=⟨(B:Int),m,0⟩)/\((f row+1) % L=0->∀ m∈gR (R:Int) (row:Int),((P.filter λa=>!eH ⟨(B:Int),(row:Int),0⟩ a)++new).any (eH ⟨(B:Int),m,0⟩)=true):=by
  rw[k1];by_cases D:(f row+1) % L=0
  ·rw[aY D,aq];obtain⟨new,q1,q2,q3⟩:=VX (B:Int) (gR (R:Int) (row:Int)) (P.filter λa=>!eH ⟨(B:Int),(row:Int),0⟩ a);exact⟨new,q1,q2,λ_ m hm=>by rw[<-q1];exact q3 m hm⟩
  ·rw[bq D,av];exact⟨[],(List.append_nil _).symm,λa ha=>(by cases ha),λE=>absurd E D⟩
 rw[e1,k1];have nb:∀ m∈gR (R:Int) (row:Int),m≠(row:Int):=λm hm=>by
  unfold gR at hm;rcases lz.1 hm with hm|hm
  ·cases I:decide (0<(row:Int))with
   |false=>rw[I]at hm;cases hm
   |true=>rw[I]at hm;rw[gL.1 hm];omega
  ·cases I:decide ((row:Int)<(R:Int)-1)with
   |false=>rw[I]at hm;cases hm
   |true=>rw[I]at hm;rw[gL.1 hm];omega
 refine⟨_,L,k2,λr C=>?_,rfl,h4,h5,h6,λr C=>?_⟩
 ·have:=h2 r C;split<;>omega
 ·have T:=VY (R:=R) (B:=B) (row:=row) (b:=B) (r:=r) Z C bg;have h8:=h7 r C;by_cases er:r=row
  ·rw[aW ⟨rfl,er⟩]at T;omega
  ·rw[aX (λE=>er E.2)]at T;have hp:∀ a,ja B r a=true->(!eH ⟨(B:Int),(row:Int),0⟩ a)=true:=λa ha=>by
    rw[gk];exact Bool.eq_false_iff.2 λU=>er (afS ha (U:ja B row a=true)).2
   have Y:∀m,m≠row->wH f L P B m r<=wH (λr=>if r=row then f r+1 else f r) L ((P.filter λa=>!eH ⟨(B:Int),(row:Int),0⟩ a)++new) B m r:=λm hm=>afT hL (aX hm) (afU hp new) (OG hp new P)
   by_cases en:r+1=row\/r=row+1
   ·rw[aW ⟨rfl,en⟩]at T;have tT:(r:Int)∈gR (R:Int) (row:Int):=by
     unfold gR;rcases en with en|en
     ·rw[aY (show 0<(row:Int) by omega)];exact List.mem_append_left _ (gL.2 (by omega))
     ·rw[aY (show (row:Int)<(R:Int)-1 by omega)];exact List.mem_append_right _ (gL.2 (by omega))
    have VH:nB ((P.filter λa=>!eH ⟨(B:Int),(row:Int),0⟩ a)++new) B row r=false:=by
     refine nD.2 λa ha U=>?_
     have ha:=(List.takeWhile_sublist _).subset ha;rcases lz.1 ha with ha|ha
     ·have:=(List.mem_filter.1 ha).2;rw[show eH ⟨(B:Int),(row:Int),0⟩ a=true from U]at this;cases this
     ·obtain⟨m,hm,rfl⟩:=e2 a ha;have:=Da.1 U;simp only[aP.mk.injEq]at this;exact nb m hm this.2.1.symm
    have hw:=atP (f:=f) (f':=λr=>if r=row then f r+1 else f r) hL (P:=P) (P':=(P.filter λa=>!eH ⟨(B:Int),(row:Int),0⟩ a)++new) (b:=B) (r:=r) (aW rfl) (OI r er) (λD=>e3 D _ tT) VH;have auN:wS R f L P B r+1<=wS R (λr=>if r=row then f r+1 else f r) L ((P.filter λa=>!eH ⟨(B:Int),(row:Int),0⟩ a)++new) B r:=by
     unfold wS;rcases en with en|en
     ·rw[aW (show r+1<R by omega),aW (show r+1<R by omega),en];have:=Y (r-1) (by omega);split<;>omega
     ·rw[aW (show 0<r by omega),aW (show 0<r by omega),show r-1=row by omega];have:=Y (r+1) (by omega);split<;>omega
    omega
   ·rw[aX (λE=>en E.2)]at T;have:=afY (R:=R) (f:=f) (f':=λr=>if r=row then f r+1 else f r) (L:=L) (P:=P) (P':=(P.filter λa=>!eH ⟨(B:Int),(row:Int),0⟩ a)++new) (b:=B) (r:=r) λm hm=>Y m (by omega)
    omega
def atQ{c:fl}{p:dD}(C:p.weights.length<1073741823)(h:n7 c p=true):2*p.dG+4<=c.dO.bg:=by
 have D:=Oj C h;obtain⟨E,I⟩:=CX C h;have e:=Jh c p C;rw[h]at e;have O:Ak p.dG=some (2*p.dG+2):=by
  unfold Ak;rw[c9,ax,br.2 D,bL,av,bf (n:=2*p.dG),bf]
 unfold sV at e;simp only[NG,I7 _ C,O,ax,E,I,aq]at e;rw[bf (n:=2*p.dG+2+2)]at e;by_cases T:2*p.dG+2+2<=c.dO.bg
 ·omega
 ·rw[bq T]at e;exact absurd e (by simp)
def OJ{T:Type}(x d:T)(l:aa T):∀ n k:Nat,k<n->k<l.length->((List.range n).foldl (λd b=>d.set b x) l).getD k d=x
 | n+1,k,h,C=>by
  have hlen:=wo x l n;rw[o6];by_cases e:n=k
  ·subst e;exact ve _ (by omega)
  ·rw[getD_set_ne _ e];exact OJ x d l n k (by omega) C
def atT{c:au}(h:Pq c)(hu:c.pending.Pairwise (λx y=>x≠y))(Z:∀ a∈c.pending,a.bZ=0)(C:(gx c).1.kind=1){B row:Nat}(hB:(gx c).1.ay=(B:Int))(D:(gx c).1.row=(row:Int)):∀ r,r≠row->mL c.pending B r=true->nB c.pending B row r=true:=λr hr Y=>by
 have hw:=C7 c;rcases Oy h with ⟨_,⟨e,_⟩|e⟩|⟨_,⟨b,hb,e⟩|⟨_,⟨k,E,O,e⟩|⟨j,hj,I,e⟩|e|e⟩⟩
 ·rw[e]at C;exact absurd C (by decide)
 ·rw[e]at C;dsimp only at C;omega
 ·rw[e]at C;unfold fA at C;rcases A3 c b ⟨5,b,0,0⟩with e|⟨e,_⟩<;>rw[e]at C<;>dsimp only at C<;>omega
 ·rw[e]at C hB D;unfold iZ at C hB D;rcases A3 c (hU c k).ay ⟨1,(hU c k).ay,(hU c k).row,0⟩with T | ⟨T,_⟩
  ·rw[T]at C;dsimp only at C;omega
  ·rw[T]at hB D;have hB:(hU c k).ay=(B:Int):=hB;have D:(hU c k).row=(row:Int):=D;unfold qL at O;rw[aK,gk,gk,hB]at O
   refine afV (λe=>hr e.symm) c.pending k E ?_ O.2
   rw[Da,Om E];have q6:(hU c k).bZ=0:=by rw[<-Om E];exact Z _ (dc E)
   rw[<-hB,<-D,<-q6]
 ·have hB2:(cV c j).ay=(B:Int):=by
   rw[e]at hB;unfold fK at hB;rw[(VL c.aI (cV c j) (qG c.queue j)).1]at hB;exact hB
  rw[e]at C;unfold kZ at I;rw[C]at I;simp only[aK,gk,kM,Bool.true_or,cM]at I;have U:=I.2.2.2.1;unfold JA at U;rw[hB2]at U;unfold mL at Y;obtain⟨a,ha,h1⟩:=List.any_eq_true.1 Y;have:=nD.1 U a ha;rw[<-Da.1 h1]at this;exact absurd (kM _) this
 ·rcases VM h e with ⟨e,_⟩ | e | ⟨e,_⟩
  ·rw[e]at C;dsimp only at C;omega
  ·omega
  ·rw[e]at C;dsimp only at C;omega
 ·rw[e]at C;exact absurd C (by decide)
def Ht.fn{j y:au}(h:Ht (j.now-1) j)(Z:cG j)(hk:cA j=true)(A4:j.config.gU=16)(hR:j.config.ak.rows<16)(hn:1<=j.now/\j.now<50000)(hf:Fn j y):Ht j.now y:=by
 have T:=Pq.of Z hk;have k:=Ck.of hk;have p:=gi.of k.pa;have b1:=eG j.config.ak;have hw:j.box.bT.weights.length<1073741823:=by
  have:=Z.1.1;unfold Jf at this;omega
 have zW:=atQ hw k.f1;have KF:=Oj hw k.f1;rcases hf with ⟨k0,rfl⟩|⟨I,rfl⟩
 ·exact λb C=>(h b C).same (by omega)
 ·have OI:=λB row=>atT T p.u (λa ha=>(p.pd a ha).2) (B:=B) (row:=row)
  generalize hX:(gx j).1=x at I OI ⊢;generalize (gx j).2=i at I ⊢;obtain⟨_,ha,_,_⟩:=JE Z T I;obtain⟨hg,_,hx,A0⟩:=CL ha;simp only[kJ,aK]at I;have hc:=I.1;have gb:=fY hg;obtain⟨R,V1⟩:=fS (show 0<=j.config.ak.rows by omega);have V2:j.config.ak.rows.toNat=R:=by omega
  have AY:=p.tl;have hgl:=p.gl;by_cases U:x.kind=1
  ·obtain⟨Kp,yh⟩:=A0 (by omega);obtain⟨r0,r1⟩:=Oh hc U;have ir:=T.p.bl;obtain⟨B,hB⟩:=fS Kp;obtain⟨row,Db⟩:=fS r0;have E:=OI B row U hB Db;have ei:((B:Int)*(R:Int)+(row:Int)).toNat=B*R+row:=by rw[<-Int.natCast_mul];omega
   rw[Oz j i U];intro b C;have C:(b:Int)<aL j.config.ak:=C;have hold:=h b C;show Hb j.config.ak.rows.toNat j.config.dO.bg j.now ((j.bB.set x.ay.toNat (mH (j.bB.getD x.ay.toNat zT) x.row (j.guard.getD x.ay.toNat 0)).1).getD b zT) (j.guard.getD b 0) (bif (mH (j.bB.getD x.ay.toNat zT) x.row (j.guard.getD x.ay.toNat 0)).2 then (gR j.config.ak.rows x.row).foldl (iY x.ay) (j.pending.filter λa=>!eH ⟨x.ay,x.row,0⟩ a)else j.pending.filter λa=>!eH ⟨x.ay,x.row,0⟩ a) (oW j.config.ak.rows x.row (x.ay*j.config.ak.rows+x.row).toNat j.array.bg) b;rw[V2]at hold ⊢;rw[hB,Db,V1,ei,bE];by_cases e:B=b
   ·subst e;rw[ve _ (by omega)];have:=Hb.Vw (R:=R) (by omega) (row:=row) (by omega) hold (by omega) E;rw[show j.now-1+1=j.now by omega]at this;exact this
   ·rw[getD_set_ne _ e];have O:∀ r,r<R->(oW (R:Int) (row:Int) (B*R+row) j.array.bg).getD (b*R+r) 0<=j.array.bg.getD (b*R+r) 0:=λr D=>by
     have:=VY (R:=R) (B:=B) (row:=row) (b:=b) (r:=r) (by omega) D j.array.bg;rw[aX (λE=>e E.1.symm),aX (λE=>e E.1.symm)]at this;exact this
    have KV:∀ a:aP,a.ay=(b:Int)->(!eH ⟨(B:Int),(row:Int),0⟩ a)=true:=λa Y=>by
     rw[gk]
     refine Bool.eq_false_iff.2 λh9=>e ?_
     have:=Js.1 h9;rw[<-this]at Y;dsimp only at Y;omega
    cases (mH (j.bB.getD B zT) (row:Int) (j.guard.getD B 0)).2 with
    | true=>
     rw[aq];obtain⟨new,q1,_,_⟩:=VX (B:Int) (gR (R:Int) (row:Int)) (j.pending.filter λa=>!eH ⟨(B:Int),(row:Int),0⟩ a);rw[q1];exact hold.iQ (by omega) new KV O
    | false=>
     rw[av];have:=hold.iQ (n':=j.now) (by omega) [] KV O
     rwa [List.append_nil]at this
  ·by_cases k5:x.kind=5
   ·obtain⟨Kp,yh⟩:=A0 (by omega);have ir:=T.p.bl;obtain⟨B,hB⟩:=fS Kp;rw[VO j i k5];intro b C;have C:(b:Int)<aL j.config.ak:=C;have hold:=h b C;show Hb j.config.ak.rows.toNat j.config.dO.bg j.now ((j.bB.set x.ay.toNat (oc j.config.gU)).getD b zT) ((j.guard.set x.ay.toNat j.box.bT.dG).getD b 0) (j.pending.filter λa=>!(a.ay==x.ay)) (gS j.config.ak j.config.dO j.array x.ay j.config.ak.rows.toNat).bg b;rw[V2]at hold ⊢;rw[hB,A4,bE];have O:=λr D=>VZ V1 j.config.dO j.array B R (dH _) b r D
    by_cases e:B=b
    ·subst e;rw[ve _ (by omega),ve _ (by omega)]
     refine Hb.new (by omega) KF zW λr D=>?_
     refine Int.le_trans ((O r D).2 rfl D) ?_;split<;>omega
    ·rw[getD_set_ne _ e,getD_set_ne _ e];have:=hold.iQ (n':=j.now) (by omega) (p:=λa=>!(a.ay==(B:Int))) [] (λa Y=>by
      rw[Y,jS (show ¬ (b:Int)=(B:Int) by omega)];rfl) λr D=>(O r D).1 (λE=>e E.symm)
     rwa [List.append_nil]at this
   ·by_cases k9:x.kind=9
    ·rw[JK j i k9];intro b C;have C:(b:Int)<aL j.config.ak:=C;show Hb j.config.ak.rows.toNat j.config.dO.bg j.now (((List.range j.bB.length).foldl (λd b=>d.set b (oc j.config.gU)) j.bB).getD b zT) (((List.range j.bB.length).foldl (λd b=>d.set b j.box.bT.dG) j.guard).getD b 0) [] (yO j.config.ak j.config.dO j.array j.bB.length).bg b;rw[V2,OJ _ _ _ _ _ (by omega) (by omega),OJ _ _ _ _ _ (by omega) (by omega),A4];exact Hb.new (by omega) KF zW λr D=>afX V1 j.config.dO j.array j.bB.length b r (by omega) D
    ·obtain⟨_,e2,_,e4,e5,e6⟩:=VP (c:=j) (i:=i) hx U k5 k9;have e7:=(JM (c:=j) (x:=x) (i:=i) hx).2.2.2;unfold Ht;rw[e2,e4,e5,e6,e7];exact λb C=>(h b C).same (by omega)
structure Iv (u:Nat) (c:au):Prop where
 iT:Tq c u
 iA:tK c
 iD:∃t,Dx c.now t c
 iH:Ht c.now c
 iE:(c.trace.length:Int)<=c.now
def V3{c:fl}(h:kG c):qM c.bP:=by
 obtain⟨r,w,C,D,E,I,O⟩:=h.2.1;exact⟨r,w,C,D,E,I,O⟩
def Fn.nx{j y:au}(C:cG j)(E:cA j=true)(h:Fn j y):Nx j y:=by
 rcases h with ⟨_,rfl⟩|⟨D,rfl⟩
 ·exact Nx.refl _
 ·obtain⟨_,I,O,_⟩:=JE C (Pq.of C E) D;exact asP D (CL I).2.2.1 λq=>(O q).1.i
def Okj(j:au):Prop:=tK j/\(∀b:Nat,j.aB.aD.getD b 0<=4)/\Ht (j.now-1) j
def atU{c:au}{u:Nat}(h:Iv u c)(hz:cG c)(O:cA c=true)(I:kG c.config)(hn:c.now<1900)(hu:u<400):∃ y,uJ c=some y/\cG y/\cA y=true/\Iv u y/\y.config=c.config/\y.now=c.now+1/\∃ j,cG j/\cA j=true/\Pr c j/\Fn j y/\Okj j:=by
 have k:=Ck.of O;have JF:=br.1 k.nw;have xl:=h.iT.2;have hE:=h.iE;obtain⟨j,y,e,z1,k1,D,C,p,E⟩:=VI hz O (by omega) (by omega) (by omega);have pN:=p.pN;have Ov:200<=c.config.interval/\c.config.interval<=259:=I.2.2.2.2.1;have A4:c.config.gU=16:=I.2.2.2.2.2.1;have hrw:c.config.ak.rows<=6:=I.1.2.2.1.2;have nx:=E.nx D C;have V4:y.config=c.config:=nx.2.1.trans p.pC;have hny:y.now=c.now+1:=nx.1.trans pN;have Z:=k.rf;simp only[fN,aK,br]at Z;have hqj:=Pq.of D C;obtain⟨t,hD⟩:=h.iD;have hTj:Tq j u:=by
  refine⟨?_,by rw[p.pQ,p.pY];exact xl⟩;have:=h.iT.1;unfold Fj at this ⊢;rw[p.pC,p.pE,p.pK,p.pR];exact this
 have T:tK j:=h.iA.pr p ⟨by omega,by omega⟩ Z.2.2 (gi.of k.pa).dl hD.d4;obtain⟨t',U⟩:=hD.pr p O ⟨by omega,by omega⟩;rw[show c.now=j.now-1 by omega]at U;have hHj:Ht (j.now-1) j:=by
  have:=h.iH.pr p
  rwa [show c.now=j.now-1 by omega]at this
 have hAy:tK y:=by
  rcases E with ⟨_,rfl⟩|⟨hm,rfl⟩
  ·exact T
  ·simp only[kJ,aK]at hm;exact T.Vy hqj hm.1 (λh5=>(afE hqj h5).1) (by rw[p.pC];omega) (gi.of (Ck.of C).pa).tl
 refine⟨y,e,z1,k1,⟨hTj.nx C nx,hAy,⟨t',?_⟩,?_,?_⟩,V4,hny,j,D,C,p,E,T,U.d4,hHj⟩
 ·have:=U.fn D C (by rw[p.pC];exact V3 I) E
  rwa [show j.now=y.now by omega]at this
 ·have:=hHj.fn D C (by rw[p.pC];exact A4) (by rw[p.pC];omega) ⟨by omega,by omega⟩ E
  rwa [show j.now=y.now by omega]at this
 ·rcases nx.2.2.2.2.1 with ⟨Y,_⟩ | ⟨x,Y,_⟩
  ·rw[Y,p.pE];omega
  ·rw[Y,p.pE,List.length_append,List.length_singleton];omega
def afZ{c:au}{u:Nat}(h:Iv u c)(C:cG c)(D:cA c=true)(E:kG c.config)(I:c.now<1900)(O:u<400):∃ y,uJ c=some y/\cG y/\cA y=true/\Iv u y/\y.config=c.config/\y.now=c.now+1:=by
 obtain⟨y,T,U,Y,Z,h5,h6,_⟩:=atU h C D E I O;exact⟨y,T,U,Y,Z,h5,h6⟩
def atV{J:au->Prop}{c:au}{u:Nat}(h:Iv u c)(hJ:J c)(U:cG c)(Y:cA c=true)(hc:kG c.config)(hu:u<400){n:Int}(h0:0<=n)(hn:c.now+n<=1900)(hs:∀ x y,cG x->cA x=true->Iv u x->x.config=c.config->c.now<=x.now->x.now<c.now+n->J x->uJ x=some y->J y):∃ y,Nj c n=some y/\cG y/\cA y=true/\Iv u y/\y.config=c.config/\y.now=c.now+n/\J y:=by
 have JF:=br.1 (Ck.of Y).nw;obtain⟨m,rfl⟩:=fS h0;have h5:aT (m:Int) 0 5000=true:=br.2 ⟨by omega,by omega⟩;unfold Nj bR;rw[Jk c U,ax];generalize (⟨⟨⟨(0:Int),(0:Int),(0:Int),(0:Int)⟩,⟨(0:Int),(0:Int),(0:Int),(0:Int),(0:Int),(0:Int),(0:Int),(0:Int),(0:Int),(0:Int),(0:Int),(0:Int),(0:Int),(0:Int),(0:Int),(0:Int),(0:Int)⟩,⟨(0:Int),false⟩,(0:Int),(0:Int),(0:Int),⟨(0:Int),(0:Int)⟩⟩,_,_,_,_,_,_,_,_,_,_,_,_,_,_,_,_,_,_⟩:au)=Z;obtain⟨z,e,y,rfl,D,E,I,C,T,O⟩:=ao3 (step:=IM) m (λk x=>∃ y:au,x=(((m:Int),(),(),(k:Int),()),(Z,y,()))/\cG y/\cA y=true/\Iv u y/\y.config=c.config/\y.now=c.now+(k:Int)/\J y) (λz=>∃ y:au,z = .inl (((),(),()),(Z,y,()))/\cG y/\cA y=true/\Iv u y/\y.config=c.config/\y.now=c.now+(m:Int)/\J y) bk (x:=(((m:Int),(),(),(0:Int),()),(Z,c,()))) ⟨c,rfl,U,Y,h,rfl,(Int.add_zero _).symm,hJ⟩ (by
  rintro k OL x ⟨y,rfl,D,E,I,C,T,O⟩;obtain⟨v,f1,f2,f3,f4,f5,f6⟩:=afZ I D E (by rw[C];exact hc) (by omega) hu;unfold IM aM xG;dsimp only;rw[aY (show (k:Int)<(m:Int) by omega),aq,c9,ax,h5,aq,f1,ax,bY];exact⟨_,rfl,v,rfl,f2,f3,f4,f5.trans C,by omega,hs y v D E I C (by omega) (by omega) O f1⟩) (by
  rintro x ⟨y,rfl,D,E,I,C,T,O⟩;unfold IM aM xG;dsimp only;rw[bq (show ¬ (m:Int)<(m:Int) by omega),av];exact⟨_,rfl,y,rfl,D,E,I,C,T,O⟩) (cv)
 rw[e,ax];exact⟨y,rfl,D,E,I,C,T,O⟩
def af0{r w:Int}(I:1<=r/\r<=4)(O:4<=w/\w<=8)(a b:Int):0<=rI (kF r w) a b/\rI (kF r w) a b<=16:=by
 have C:W6 (r+3)=r+3:=bf;have D:W6 (w+3)=w+3:=bf;have E:W6 (7+3)=10:=by decide
 unfold rI kF;dsimp only;rw[C,D,E];cases a==1<;>cases a==2<;>cases a==3<;>cases a==4<;>cases a==5<;>cases b==4<;>cases (b==2 ||b==3)<;>cases (b==1 ||b==5)<;>simp only[aq,av]<;>omega
def atW{r w:Int}(C:1<=r/\r<=4)(D:4<=w/\w<=8)(a b:Int)(n:Bool):v9 (kF r w) a b n<=16:=by
 have E:=af0 C D a 1;unfold v9;show (bif _ then (4:Int)else bif _ then (16:Int)else bif _ then (3:Int)else bif _ then (bif n then (3:Int)else 2)else bif _ then (bif n then (3:Int)else 2)else bif _ then (bif n then (5:Int)else 4)else bif _ then (4:Int)else bif _ then (3:Int)else bif _ then r else bif _ then w else bif _ then rI (kF r w) a 1 else (0:Int))<=16;refine(oZ (a:=0) ⟨by omega,by omega⟩ (oZ ⟨by omega,by omega⟩ (oZ ⟨by omega,by omega⟩ (oZ (oZ ⟨by omega,by omega⟩ ⟨by omega,by omega⟩) (oZ (oZ ⟨by omega,by omega⟩ ⟨by omega,by omega⟩) (oZ (oZ ⟨by omega,by omega⟩ ⟨by omega,by omega⟩) (oZ ⟨by omega,by omega⟩ (oZ ⟨by omega,by omega⟩ (oZ ⟨by omega,by omega⟩ (oZ ⟨by omega,by omega⟩ (oZ ⟨by omega,by omega⟩ ⟨by omega,by omega⟩))))))))))).2
def atX{g:aH}{t:bW}(I:qM t)(a b:aS):gf g t a b<=16:=by
 obtain⟨r,w,C,D,w1,E,rfl⟩:=I;have O:=atW ⟨C,D⟩ ⟨w1,E⟩ a.kind b.kind (yE g a b);have T:=(af0 ⟨C,D⟩ ⟨w1,E⟩ a.kind b.kind).2;unfold gf;cases rJ a b&&a.ay==b.ay with
 |true=>rw[aq];omega
 |false=>rw[av];omega
def JN{c:au}(h:Pq c)(C:qM c.config.bP){x:aS}(D:x.kind=1->c.ready.aZ.length≠4)(E:iz c.aI x=true){n:Int}(I:∀ i:Nat,c.ready.last.getD i (-1)<=n)(O:n+16<=c.now):cC c x=true:=
 OC h D E λb k _ _ _ _=>by
  have:=atX (g:=c.config.ak) C ⟨(k:Int),if k<=5 then (b:Int)else 0,0,0⟩ x;have:=Fo I b k;omega
structure Sl (p:dD) (c:au):Prop where
 sq:c.queue=[]
 sp:c.pending=[]
 sr:c.cc=[]
 sd:∀b:Nat,c.aB.aD.getD b 0<=0
 so:(c.aI.aE.all λb=>!b.open_)=true
 sb:c.box.bT=p/\c.box.next=p
 sh:c.aB.dJ=false
def OM{c:au}(C:Pq c)(D:∀ b:Nat,c.aB.aD.getD b 0<=0):bO 0 c.aB.aD=[]:=by
 cases h:bO 0 c.aB.aD with
 |nil=>rfl
 | cons b l=>
  have:=(VJ C (b:=b) (by rw[h];exact .head _)).2.2;have:=D b.toNat;omega
def af1{c:au}(I:Pq c)(O:∀ b:Nat,c.aB.aD.getD b 0<=0):o8 c=[]:=by
 cases h:o8 c with
 |nil=>rfl
 | cons x l=>
  have D:x∈o8 c:=by rw[h];exact .head _
  have T:=I.dl;unfold o8 at D;cases E:decide (eR c >= 0)with
  |false=>rw[E]at D;cases D
  | true=>
   have E:=of_decide_eq_true E;have C:=(CU (tG (decide (((bO 0 c.aB.aD).length:Int) > 0)) c.aB.aD (yL c)) (λi=>c.aB.aD.getD i 0) c.aB.aD.length).resolve_left (λe=>by have e:eR c = -1:=e;omega);have C:tG (decide (((bO 0 c.aB.aD).length:Int) > 0)) c.aB.aD (yL c) (eR c).toNat=true:=C;have:=O (eR c).toNat;unfold tG at C;rw[OM I O]at C;have C:(decide (c.aB.aD.getD (eR c).toNat 0 > 0)&&yL c (eR c).toNat)=true:=C;rw[aK]at C;have:=of_decide_eq_true C.1;omega
def V5{p:Nat->Bool}{n:Nat}(h:∀ k,k<n->p k=false):gj p n = -1:=by
 rcases uY p n with ⟨e,_⟩|⟨j,D,_,C,_⟩
 ·exact e
 ·rw[h j D]at C;cases C
def JO{r:bJ}(h:(r.aE.all λb=>!b.open_)=true)(b:Int):(cX r b).open_=false:=by
 unfold cX;by_cases C:b.toNat<r.aE.length
 ·rw[iC _ C];have:=bS.1 h _ (dc C)
  simpa using this
 ·rw[cL,o9 (by omega)];rfl
def atY{c:au}(h:(c.aI.aE.all λb=>!b.open_)=true):lT c=[]:=by
 have e:kK c = -1:=by
  unfold kK yK;cases c.box.bT.eI != 1 with
  |true=>rfl
  | false=>
   rw[av]
   refine V5 λk _=>?_
   unfold tH;rw[JO h,Bool.false_and]
 unfold lT;rw[e];rfl
def atZ{c:au}(h:(c.aI.aE.all λb=>!b.open_)=true):ld c=bif bN c != 0 then [⟨bN c,0,0,0⟩]else []:=by
 have e:(opens 0 c.aI.aE).length=0:=by
  have:=Um 0 c.aI.aE;rw[h]at this;exact ff.1 this
 unfold ld;rw[bq,Bool.and_false,av]
def at0{p:dD}{c:au}(E:Pq c)(h:Sl p c):gx c=if bN c≠0/\cC c ⟨bN c,0,0,0⟩=true then (⟨bN c,0,0,0⟩,-1)else (ny,-1):=by
 have I:(bif bN c != 0 then (bif cC c ⟨bN c,0,0,0⟩then ((⟨bN c,0,0,0⟩:aS),(-1:Int))else (ny,-1))else (ny,-1))=if bN c≠0/\cC c ⟨bN c,0,0,0⟩=true then (⟨bN c,0,0,0⟩,-1)else (ny,-1):=by
  by_cases C:bN c=0
  ·rw[aX (λD=>D.1 C),C];rfl
  ·rw[gv C,aq];cases U:cC c ⟨bN c,0,0,0⟩with
   |true=>rw[aW ⟨C,rfl⟩];rfl
   |false=>rw[aX (λD=>by cases D.2)];rfl
 unfold gx;cases c.aN.state != 0 with
 |true=>rw[aq];exact I
 | false=>
  rw[av];have O:yM c=none:=by
   unfold yM C4 C5;rw[OM E h.sd,h.sp];rfl
  have T:mJ c=(ny,-1):=by
   have:nA c = -1:=by
    unfold nA;rw[h.sq];rfl
   unfold mJ;rw[this];rfl
  rw[O,T,af1 E h.sd,atY h.so,atZ h.so];dsimp only;rw[List.nil_append,List.nil_append,<-I];unfold rQ;by_cases C:bN c=0
  ·rw[C];rfl
  ·rw[gv C,aq,aq];show (bif decide ((-1:Int) >= 0)then _ else (((List.find? (cC c) [⟨bN c,0,0,0⟩]).getD ny,(-1:Int)):aS×Int))=_;rw[show decide ((-1:Int) >= 0)=false from rfl,av,List.find?_cons];cases cC c ⟨bN c,0,0,0⟩<;>rfl
def af2{p:dD}{c:au}(C:Pq c)(h:Sl p c):n9 c=false:=by
 unfold n9;rw[h.sq,h.sp,OM C h.sd];rfl
def at1{c:au}{k i:Int}(C:k=6\/k=7\/k=8):dB c ⟨k,0,0,0⟩ i=AX (cz c ⟨k,0,0,0⟩) k:=by
 rcases C with rfl|rfl|rfl<;>rfl
def at2(p:ij)(k n:Int):(yJ p k n).idle=p.idle:=by
 unfold yJ;cases kX p&&aT n p.since 1000000 with
 |false=>rfl
 | true=>
  rw[aq];cases (k==6)&&(p.state==0)<;>cases (k==8)&&(p.state==0)<;>cases (k==7)&&(p.state==1)<;>cases (k==9)&&(p.state==2)<;>rfl
structure Zz (p:dD) (c:au):Prop where
 zs:Sl p c
 zi:c.aN.idle=c.now
 zw:c.config.interval-c.now<=c.aB.wait\/p.bF.sleep+33<=c.now
 zx:c.config.interval-(p.bF.sleep+33)<=c.aB.wait
 za:c.ready.aZ=[]
 zl:∀i:Nat,c.ready.last.getD i (-1)<=c.now/\c.ready.last.getD i (-1)<=p.bF.sleep+33
 z1:c.aI.aN=1->(∀i:Nat,c.ready.last.getD i (-1)<=p.bF.sleep-1)/\c.now<p.bF.sleep+16
 z0:c.aI.aN=0->p.bF.sleep<=c.now->(∀i:Nat,c.ready.last.getD i (-1)<=p.bF.sleep+16)/\c.now<p.bF.sleep+33
def Sl.pr{p:dD}{c j:au}(h:Sl p c)(r:Pr c j)(U:1<c.aB.wait):Sl p j/\j.aB.aD=c.aB.aD/\c.aB.wait-1<=j.aB.wait/\(c.aI.aN=2->j.aB.wait=c.aB.wait):=by
 have E:=r.pF;have key:j.aB.aD=c.aB.aD/\c.aB.wait-1<=j.aB.wait/\(c.aI.aN=2->j.aB.wait=c.aB.wait)/\j.aB.dJ=c.aB.dJ:=by
  rw[E];by_cases C:c.aI.aN=2
  ·rw[C,bne_self_eq_false,av];exact⟨rfl,by omega,λ_=>rfl,rfl⟩
  ·rw[gv C,aq];unfold vc;rw[aW];exact⟨rfl,gz _,λh=>absurd h C,rfl⟩
 obtain⟨D,I,O,T⟩:=key;refine⟨⟨r.pQ.trans h.sq,r.pP.trans h.sp,r.pY.trans h.sr,by rw[D];exact h.sd,by rw[r.pK];exact h.so,?_,T.trans h.sh⟩,D,I,O⟩;rcases r.pB with e|e
 ·rw[e];exact h.sb
 ·rw[e];exact⟨h.sb.2,h.sb.2⟩
def ON(g:aH)(q:dN)(e:bH)(h:e.cmd.kind≠1):(fO g q e).aZ=q.aZ:=by
 unfold fO;cases jn g q&&(cQ g e.cmd&&(aT e.at_ 0 1000000 && !(e.cmd.kind==1&&tj q e.at_)))with
 |false=>rfl
 |true=>rw[aq,jS h];rfl
def Sl.pw{p:dD}{j:au}(h:Sl p j){k i:Int}(C:k=6\/k=7\/k=8):Sl p (dB j ⟨k,0,0,0⟩ i)/\(dB j ⟨k,0,0,0⟩ i).aN.idle=j.aN.idle/\(dB j ⟨k,0,0,0⟩ i).aB=j.aB/\(dB j ⟨k,0,0,0⟩ i).ready.aZ=j.ready.aZ:=by
 rw[at1 C];refine⟨⟨h.sq,h.sp,h.sr,h.sd,?_,h.sb,h.sh⟩,at2 _ _ _,rfl,?_⟩
 ·show ((cR j.aI ⟨k,0,0,0⟩).aE.all λb=>!b.open_)=true;rcases C with rfl|rfl|rfl<;>exact h.so
 ·show (fO j.config.ak j.ready ⟨j.now,⟨k,0,0,0⟩⟩).aZ=_;exact ON _ _ _ (by dsimp only;omega)
def Zz.step{p:dD}{c y:au}(h:Zz p c)(hz:cG c)(O:cA c=true)(ht:qM c.config.bP)(hi:200<=c.config.interval)(hs:60<=p.bF.sleep/\p.bF.sleep<=119)(hd:p.bF.down<=24)(hn:c.now<1900)(hE:c.trace.length<2000)(e:uJ c=some y):Zz p y:=by
 obtain⟨j,y',e',z1,k1,z2,k2,r,hf⟩:=VI hz O (by omega) hE (by rw[h.zs.sr];decide);rw[e]at e';injection e' with e';subst e';have hx:=h.zx;obtain⟨E,jd,jw,jw2⟩:=h.zs.pr r (by omega);have I:=Pq.of z2 k2;have pN:=r.pN;have hid:j.aN.idle=j.now:=by
  rw[r.pI,af2 I E];unfold Ox;rw[av,h.zi,aX];omega
 have C:bN j=bif j.aI.aN==0&&decide (j.now >= p.bF.sleep)then 8 else bif j.aI.aN==0&&decide (j.now >= p.bF.down)then 6 else bif j.aI.aN==1&&decide (j.now >= p.bF.sleep)then 7 else 0:=by
  unfold bN wj;rw[af2 I E,av,I.ps,hid,E.sb.1]
 have V6:=at0 I E;have C8:=(rK I.p.rk).2.2.1;have hR:=r.pK;have T:=r.pC;have OO:(c.config.interval-j.now<=j.aB.wait\/p.bF.sleep+33<=j.now)/\c.config.interval-(p.bF.sleep+33)<=j.aB.wait:=by
  refine⟨?_,?_⟩
  ·rcases h.zw with e | e
   ·exact .inl (by omega)
   ·exact .inr (by omega)
  ·by_cases hp:c.aI.aN=2
   ·rw[jw2 hp];exact hx
   ·have auO:c.now<p.bF.sleep+33:=by
     have:c.aI.aN=0\/c.aI.aN=1:=by rw[hR]at C8;omega
     rcases this with q|q
     ·by_cases D:p.bF.sleep<=c.now
      ·exact(h.z0 q D).2
      ·omega
     ·have:=(h.z1 q).2;omega
    rcases h.zw with e|e<;>omega
 have U:∀i:Nat,j.ready.last.getD i (-1)<=c.now/\j.ready.last.getD i (-1)<=p.bF.sleep+33:=by rw[r.pR];exact h.zl
 have yd:j.aI.aN=1->(∀i:Nat,j.ready.last.getD i (-1)<=p.bF.sleep-1)/\c.now<p.bF.sleep+16:=by rw[r.pR,hR];exact h.z1
 have BP:j.aI.aN=0->(∀ i:Nat,j.ready.last.getD i (-1)<=p.bF.sleep+16)/\c.now<p.bF.sleep+33:=λhp=>by
  by_cases D:p.bF.sleep<=c.now
  ·have:=h.z0 (by rw[<-hR];exact hp) D;rw[r.pR];exact this
  ·exact⟨λi=>by have:=(U i).1;omega,by omega⟩
 have htj:qM j.config.bP:=by rw[T];exact ht
 rcases hf with ⟨k0,rfl⟩|⟨hm,rfl⟩
 ·have Fq:¬ (bN y≠0/\cC y ⟨bN y,0,0,0⟩=true):=λhh=>by
   rw[V6,aW hh]at k0;exact hh.1 k0
  refine⟨E,hid,by rw[T];exact OO.1,by rw[T];exact OO.2,by rw[r.pR];exact h.za,λi=>⟨by have:=(U i).1;omega,(U i).2⟩,λhp=>?_,λhp D=>?_⟩
  ·have q:=yd hp;refine⟨q.1,?_⟩;by_cases uF:p.bF.sleep+16<=y.now
   ·have hw7:bN y=7:=by rw[C,hp,aY (show y.now >= p.bF.sleep by omega)];rfl
    have:=JN I htj (x:=⟨7,0,0,0⟩) (λh=>absurd (show (7:Int)=1 from h) (by decide)) (by show (y.aI.aN==1)=true;rw[hp];rfl) q.1 (by omega);exact absurd ⟨by rw[hw7];decide,by rw[hw7];exact this⟩ Fq
   ·omega
  ·have q:=BP hp;refine⟨q.1,?_⟩;by_cases h33:p.bF.sleep+33<=y.now
   ·have hw8:bN y=8:=by rw[C,hp,aY (show y.now >= p.bF.sleep by omega)];rfl
    have:=JN I htj (x:=⟨8,0,0,0⟩) (λh=>absurd (show (8:Int)=1 from h) (by decide)) (by show (y.aI.aN==0&&y.aI.aE.all λb=>!b.open_)=true;rw[hp,E.so];rfl) q.1 (by omega);exact absurd ⟨by rw[hw8];decide,by rw[hw8];exact this⟩ Fq
   ·omega
 ·have af3:bN j≠0/\cC j ⟨bN j,0,0,0⟩=true:=by
   refine Classical.byContradiction λFq=>?_
   rw[V6,aX Fq]at hm;simp only[kJ,aK]at hm;exact absurd (oX hm.1).2.1.1 (by decide)
  rw[V6,aW af3];dsimp only;have O:(bN j=6/\j.aI.aN=0/\j.now<p.bF.sleep)\/(bN j=7/\j.aI.aN=1)\/(bN j=8/\j.aI.aN=0):=by
   have h0:=af3.1;have at3:j.aI.aN=0\/j.aI.aN=1\/j.aI.aN=2:=by omega
   rcases at3 with hp|hp|hp
   ·rw[hp]at C;by_cases D:j.now >= p.bF.sleep
    ·rw[aY D]at C;exact .inr (.inr ⟨C,hp⟩)
    ·rw[bq D]at C;by_cases hD:j.now >= p.bF.down
     ·rw[aY hD]at C;exact .inl ⟨C,hp,by omega⟩
     ·rw[bq hD]at C;exact absurd C h0
   ·rw[hp]at C;by_cases D:j.now >= p.bF.sleep
    ·rw[aY D]at C;exact .inr (.inl ⟨C,hp⟩)
    ·rw[bq D]at C;exact absurd C h0
   ·rw[hp]at C;exact absurd C h0
  generalize bN j=Y at O ⊢;have OL:Y=6\/Y=7\/Y=8:=by omega
  obtain⟨s1,s2,s3,s4⟩:=E.pw (i:=-1) OL;obtain⟨e1,e2,Z,e4⟩:=JM (c:=j) (x:=⟨Y,0,0,0⟩) (i:=-1) ⟨by dsimp only;omega,by dsimp only;omega⟩;have V7:∀ {n:Int},(∀ i:Nat,j.ready.last.getD i (-1)<=n)->j.now<=n->∀ i:Nat,(dB j ⟨Y,0,0,0⟩ (-1)).ready.last.getD i (-1)<=n:=λh1 h2 i=>by
   rw[e2];exact Fp _ _ _ h1 h2 i
  have l6:=V7 (n:=j.now) (λi=>by have:=(U i).1;omega) (gz _)
  refine⟨s1,by rw[s2,Z];exact hid,by rw[Z,e4,s3,T];exact OO.1,by rw[e4,s3,T];exact OO.2,by rw[s4,r.pR];exact h.za,λi=>⟨by rw[Z];exact l6 i,?_⟩,?_,?_⟩
  ·have:=l6 i;rcases O with ⟨_,hp,_⟩ | ⟨_,hp⟩ | ⟨_,hp⟩
   ·omega
   ·have:=(yd hp).2;omega
   ·have:=(BP hp).2;omega
  ·rw[e1,Z];rcases O with ⟨rfl,hp,D⟩ | ⟨rfl,hp⟩ | ⟨rfl,hp⟩
   ·exact λ_=>⟨V7 (λi=>by have:=(U i).1;omega) (by omega),by omega⟩
   ·exact λh=>absurd (show (0:Int)=1 from h) (by decide)
   ·exact λh=>absurd (show (2:Int)=1 from h) (by decide)
  ·rw[e1,Z];rcases O with ⟨rfl,hp,D⟩ | ⟨rfl,hp⟩ | ⟨rfl,hp⟩
   ·exact λh=>absurd (show (1:Int)=0 from h) (by decide)
   ·have q:=yd hp;exact λ_ _=>⟨V7 (λi=>by have:=q.1 i;omega) (by omega),by omega⟩
   ·exact λh=>absurd (show (2:Int)=0 from h) (by decide)
def at4{l:aa dw}(w:aa Bool)(hl:l.length<1073741823)(O:jV l=true)(hw:l.length=w.length){i:Nat}(hi:i<w.length)(T:w.getD i false=true):∃ y t,qm l w=some (y,t)/\0<=t/\w.getD t.toNat false=true:=by
 unfold qm xA xC bR xL xZ;have hb:=uV (λi=>w.getD i false) (λi=>(l.getD i ⟨0,0⟩).fB) (min l.length w.length);have U:(fP l).length=l.length:=by simp[fP]
 have Y:=uV (λi=>w.getD i false) (λi=>((fP l).getD i ⟨0,0⟩).fB) (min (fP l).length w.length);have Z:=CU (λi=>w.getD i false) (λi=>(l.getD i ⟨0,0⟩).fB) (min l.length w.length);have qe:=CU (λi=>w.getD i false) (λi=>((fP l).getD i ⟨0,0⟩).fB) (min (fP l).length w.length);have h0:=Jo (may:=λi=>w.getD i false) (λi=>(l.getD i ⟨0,0⟩).fB) (i:=i) T (min l.length w.length) (by omega);rw[List.nil_append,Fa l w (by omega),ax,I6 _ (by omega),ax,O,bL,av,List.length_nil,fe,eO,aq];unfold oa;generalize hr:lR (λi=>w.getD i false) (λi=>(l.getD i ⟨0,0⟩).fB) (min l.length w.length)=b at *
 have I:=Z.resolve_left (by omega);have C:b.toNat<l.length:=by omega
 rw[bq,av,aO ⟨by omega,C⟩,aO C];dsimp only;cases l[b.toNat].fB==0 with
 | false=>
  rw[av,aO ⟨by omega,C⟩,aO C,aO ⟨by omega,C⟩,aO C];exact⟨_,_,rfl,h0,I⟩
 | true=>
  rw[aq,U0 l w (by omega),ax];simp only[gA];rw[Fa _ w (by omega),ax];have E:0<=oa (fP l) w:=Jo _ (i:=b.toNat) I _ (by rw[U];omega);have hq:oa (fP l) w<((min (fP l).length w.length:Nat):Int):=Y.2;have D:(oa (fP l) w).toNat<(fP l).length:=by omega
  rw[aO ⟨E,D⟩,aO D,aO ⟨E,D⟩,aO D];exact⟨_,_,rfl,E,qe.resolve_left (λe=>by have e:oa (fP l) w = -1:=e;omega)⟩
def V8(p:Nat->Bool):gj p 1=bif p 0 then 0 else -1:=by
 show (bif decide ((-1:Int)<0)&&p 0 then ((0:Nat):Int)else -1)=_;rw[show decide ((-1:Int)<0)=true from rfl,cM];rfl
def af4{c:au}(E:Pq c){q:aV}(D:c.queue=[q])(Y:c.pending=[])(O:∀ b:Nat,c.aB.aD.getD b 0<=0)(Z:q.dR=0)(hs:c.aN.state=0)(fV:kK c = -1)(sP:(fK c 0).kind≠4):gx c=if cC c (fK c 0)=true then (fK c 0,0)else (ny,-1):=by
 have V9:n9 c=true:=by
  unfold n9;rw[D];rfl
 have Wa:bN c=0:=by
  rw[OE V9,hs];rfl
 have C3:kZ c 0=cC c (fK c 0):=by
  have e1:nv c 0=true:=by
   unfold nv wB wA mI;rw[D];cases hw:q.write<;>simp[AV,qG,Fe,wC,wA,mI,hw]
  have I:qK c (cV c 0).ay=false:=by
   unfold qK;exact bq (by have:=O (cV c 0).ay.toNat;omega)
  have T:JA c (cV c 0).ay=false:=by
   unfold JA;rw[Y];rfl
  unfold kZ;rw[e1,I,T,jS sP,Bool.and_false,Bool.not_false,Bool.false_and,Bool.not_false,Bool.and_true,Bool.and_true,cM,cM]
 have hch:nA c=bif kZ c 0 then 0 else -1:=by
  unfold nA;rw[D];show wF (uZ c) (fQ c) (oe c (tF c)) 1=_;unfold wF;rw[V8,V8,V8];cases U:kZ c 0 with
  | false=>
   have:∀t,oe c t 0=false:=λt=>by unfold oe;rw[U,Bool.false_and]
   rw[this];rfl
  | true=>
   have OF:wE c c.queue.length=(List.replicate 4 false).set 0 true:=by
    rw[D];show (bif kZ c 0 then (List.replicate 4 false).set (qH c 0).dR.toNat true else _)=_;rw[U,aq,show qH c 0=q by unfold qH;rw[D];rfl,Z];rfl
   have htn:tF c=0:=by
    obtain⟨y,t,e,t0,C⟩:=at4 (l:=c.shares) (wE c c.queue.length) (by have:=E.shl;omega) E.sh (by rw[JB,E.shl]) (i:=0) (by rw[JB];omega) (by rw[OF];rfl);have I:tF c=t:=by unfold tF;rw[e]
    rw[OF]at C;rw[I];obtain⟨k,rfl⟩:=fS t0;rw[bE]at C;rcases k with _|_|_|_|k
    ·rfl
    ·cases C
    ·cases C
    ·cases C
    ·rw[cL,o9 (by simp)]at C;cases C
   have ha:oe c (tF c) 0=true:=by
    unfold oe;rw[U,htn,show qH c 0=q by unfold qH;rw[D];rfl,Z];rfl
   rw[ha];cases uZ c 0<;>cases fQ c 0<;>rfl
 have eu:yM c=none:=by
  unfold yM C4 C5;rw[OM E O,Y];rfl
 have I:lT c=[]:=by
  unfold lT;rw[fV];rfl
 have T:ld c=[]:=by
  unfold ld;rw[Wa];rfl
 unfold gx mJ;rw[hs,bne_self_eq_false,av,eu,af1 E O,I,T,hch,C3];dsimp only;cases cC c (fK c 0)with
 |true=>rfl
 |false=>rfl
def Pr.tk{c j:au}(r:Pr c j)(D:1<c.aB.wait):j.aB.aD=c.aB.aD/\c.aB.wait-1<=j.aB.wait:=by
 rw[r.pF];by_cases C:c.aI.aN=2
 ·rw[C,bne_self_eq_false,av];exact⟨rfl,by omega⟩
 ·rw[gv C,aq];unfold vc;rw[aW];exact⟨rfl,gz _⟩
structure Wq (N:Int) (q:aV) (rs:List eJ) (c:au):Prop where
 wq:c.queue=[q]
 wp:c.pending=[]
 wr:c.cc=rs
 Dc:∀b:Nat,c.aB.aD.getD b 0<=0
 wx:48-(c.now-N)<=c.aB.wait
 wa:c.ready.aZ.length<=3
 wn:q.dR=0
def Fs(c:au):Prop:=(cX c.aI (cV c 0).ay).open_=true/\(cX c.aI (cV c 0).ay).row=(cV c 0).row/\∀b:Nat,b≠(cV c 0).ay.toNat->(cX c.aI (b:Int)).open_=false
def A5(n R:Nat)(t:cJ):Prop:=∃f:Nat->Nat,oh R t f/\∀r,r<R->f r<=n
def A5.up{n R:Nat}{t:cJ}(h:A5 n R t):A5 (n+1) R t:=by
 obtain⟨f,C,D⟩:=h;exact⟨f,C,λr E=>Nat.le_succ_of_le (D r E)⟩
def Dd(n:Nat)(c:au):Prop:=(∀b:Nat,(b:Int)<aL c.config.ak->A5 n c.config.ak.rows.toNat (c.bB.getD b zT))/\c.ready.aZ.length<=n
def Dd.pr{n:Nat}{c j:au}(h:Dd n c)(r:Pr c j):Dd n j:=by
 unfold Dd;rw[r.pC,r.pT,r.pR];exact h
def Bz(N:Int)(c:au):Prop:=c.aI.aN=2/\c.now=N/\(∀i:Nat,c.ready.last.getD i (-1)<=N-16)/\(c.aI.aE.all λb=>!b.open_)=true
def Bo(n:Nat)(N:Int)(c:au):Prop:=c.aI.aN=0/\(∀i:Nat,c.ready.last.getD i (-1)<=N+1)/\(c.aI.aE.all λb=>!b.open_)=true/\c.now<=N+16/\Dd n c
def Bw(n:Nat)(N:Int)(c:au):Prop:=c.aI.aN=0/\(∀i:Nat,c.ready.last.getD i (-1)<=N+17)/\Fs c/\c.now<=N+32/\Dd (n+1) c
def Bd(N:Int)(q:aV)(rs:aa eJ)(c:au):Prop:=c.queue=[]/\∃r,c.cc=rs++[r]/\r.at_<=N+33/\r.id=q.id
def Wq.pr{N:Int}{q:aV}{rs:aa eJ}{c j:au}(h:Wq N q rs c)(r:Pr c j)(C:1<c.aB.wait):Wq N q rs j:=by
 obtain⟨D,E⟩:=r.tk C;have:=h.wx;have:=r.pN;exact⟨r.pQ.trans h.wq,r.pP.trans h.wp,r.pY.trans h.wr,by rw[D];exact h.Dc,by omega,by rw[r.pR];exact h.wa,h.wn⟩
def at5{c j:au}(r:Pr c j):cV j 0=cV c 0:=by
 unfold cV gK iB;rw[r.pQ,r.pC,r.pV]
def at6(g:aH)(q:dN)(e:bH):(fO g q e).aZ.length<=q.aZ.length+1:=by
 unfold fO;cases jn g q&&(cQ g e.cmd&&(aT e.at_ 0 1000000 && !(e.cmd.kind==1&&tj q e.at_)))with
 |false=>exact Nat.le_succ _
 | true=>
  rw[aq];dsimp only;cases e.cmd.kind==1 with
  |false=>exact Nat.le_succ _
  | true=>
   rw[aq];unfold AK;rw[List.length_drop,List.length_append,List.length_singleton];omega
def Bz.step{N:Int}{q:aV}{rs:aa eJ}{c j y:au}(h:Wq N q rs c)(D:Bz N c)(r:Pr c j)(hz:cG j)(T:cA j=true)(ht:qM j.config.bP)(A4:j.config.gU=16)(U:c.ready.aZ=[])(hf:Fn j y):Wq N q rs y/\Bo 0 N y:=by
 have hx:=h.wx;obtain⟨p1,p2,Y,p4⟩:=D;have C:=h.pr r (by omega);have E:=Pq.of hz T;have pN:=r.pN;have I:j.aI.aN=2:=by rw[r.pK];exact p1
 have V9:n9 j=true:=by unfold n9;rw[C.wq];rfl
 have Wa:bN j=9:=by rw[OE V9,E.ps,I];rfl
 have hr:cC j ⟨9,0,0,0⟩=true:=JN E ht (x:=⟨9,0,0,0⟩) (λh=>absurd (show (9:Int)=1 from h) (by decide)) (by show (j.aI.aN==2)=true;rw[I];rfl) (n:=N-16) (by rw[r.pR];exact Y) (by omega);have Z:gx j=(⟨9,0,0,0⟩,-1):=by
  unfold gx;rw[E.ps,I,Wa,hr];rfl
 have AY:=(gi.of (Ck.of T).pa).tl;rcases hf with ⟨k0,_⟩|⟨_,rfl⟩
 ·rw[Z]at k0;exact absurd (show (9:Int)=0 from k0) (by decide)
 ·rw[Z];dsimp only;obtain⟨e1,O,e3,e4⟩:=JM (c:=j) (x:=⟨9,0,0,0⟩) (i:=-1) ⟨by decide,by decide⟩;obtain⟨w1,_,_,_,_,w6⟩:=afN (c:=j) (x:=⟨9,0,0,0⟩) (i:=-1) ⟨by decide,by decide⟩ (λh=>absurd (show (9:Int)=5 from h) (by decide)) (λh=>absurd (show (9:Int)=5 from h) (by decide))
  refine⟨⟨C.wq,rfl,C.wr,λb=>by have:=w6 b;have:=C.Dc b;omega,by rw[w1,e3];exact C.wx,?_,C.wn⟩,by rw[e1];rfl,λi=>?_,by rw[e1];show (j.aI.aE.all λb=>!b.open_)=true;rw[r.pK];exact p4,by rw[e3];omega,λb D=>?_,?_⟩
  ·rw[O,ON _ _ _ (show ¬ (9:Int)=1 by decide),r.pR,U];decide
  ·rw[O];exact Fp _ _ _ (λi=>by rw[r.pR];have:=Y i;omega) (by dsimp only;omega) i
  ·have D:(b:Int)<aL j.config.ak:=D;show A5 0 j.config.ak.rows.toNat (((List.range j.bB.length).foldl (λd b=>d.set b (oc j.config.gU)) j.bB).getD b zT);rw[OJ _ _ _ _ _ (by omega) (by omega),A4];exact⟨λ_=>0,oh.new _,λ_ _=>Nat.zero_le _⟩
  ·rw[O,ON _ _ _ (show ¬ (9:Int)=1 by decide),r.pR,U];decide
def at7{c:au}(h:Fs c)(C:0<(gK c).length)(T:0<=(cV c 0).ay):kK c = -1:=by
 obtain⟨U,D,E⟩:=h;unfold kK yK;cases c.box.bT.eI != 1 with
 |true=>rfl
 | false=>
  rw[av]
  refine V5 λk Y=>?_
  unfold tH;by_cases e:k=(cV c 0).ay.toNat
  ·have I:og (gK c) c.aI k=true:=by
    unfold og;refine List.any_eq_true.2 ⟨cV c 0,?_,?_⟩
    ·rw[<-Jw C];exact dc C
    ·have O:(cV c 0).ay=(k:Int):=by omega
     rw[aK,ff,ff,<-O,D];exact⟨rfl,rfl⟩
   rw[I,bL,Bool.and_false]
  ·rw[E k e,Bool.false_and]
def at8{c:au}(h:(c.aI.aE.all λb=>!b.open_)=true):kK c = -1:=by
 unfold kK yK;cases c.box.bT.eI != 1 with
 |true=>rfl
 | false=>
  rw[av]
  refine V5 λk _=>?_
  unfold tH;rw[JO h,Bool.false_and]
def af5{c:au}{i:Int}(h:kJ c ny i=true):False:=by
 simp only[kJ,aK]at h;exact absurd (oX h.1).2.1.1 (by decide)
def Bo.step{n:Nat}(xu:n<=1){N:Int}{q:aV}{rs:aa eJ}{c j y:au}(h:Wq N q rs c)(I:Bo n N c)(hN:N<=c.now)(r:Pr c j)(hz:cG j)(hk:cA j=true)(ht:qM j.config.bP)(hR:j.config.ak.rows<16)(hf:Fn j y):Wq N q rs y/\(Bo n N y\/Bw n N y):=by
 have hx:=h.wx;obtain⟨p1,p2,p3,p4,O⟩:=I;obtain⟨O,p6⟩:=O.pr r;have C:=h.pr r (by omega);have T:=Pq.of hz hk;have pN:=r.pN;have Z:j.aI.aN=0:=by rw[r.pK];exact p1
 have U:(j.aI.aE.all λb=>!b.open_)=true:=by rw[r.pK];exact p3
 have Wb:∀i:Nat,j.ready.last.getD i (-1)<=N+1:=by rw[r.pR];exact p2
 have Fh:0<j.queue.length:=by rw[C.wq];exact Nat.zero_lt_succ _
 obtain⟨a1,a2,a3,a4,a5,a6⟩:=Jx T Fh;have D:fK j 0=⟨1,(cV j 0).ay,(cV j 0).row,0⟩:=by
  unfold fK nu;rw[JO U];rfl
 have Y:=af4 T C.wq C.wp C.Dc C.wn (T.ps.trans Z) (at8 U) (by rw[D];exact(by decide:¬ (1:Int)=4));cases E:cC j (fK j 0)with
 | false=>
  rw[E,aX (by decide)]at Y;have hy:y=j:=by
   rcases hf with ⟨_,e⟩|⟨hm,_⟩
   ·exact e
   ·rw[Y]at hm;exact(af5 hm).elim
  subst hy;have hT:¬ N+17<=y.now:=λhT=>by
   have:=JN T ht (x:=fK y 0) (λ_=>by omega) (by
    rw[D];show (y.aI.aN==0 && !(cX y.aI (cV y 0).ay).open_)=true;rw[Z,JO U];rfl) Wb (by omega)
   rw[E]at this;cases this
  exact⟨C,.inl ⟨Z,Wb,U,by omega,O,p6⟩⟩
 | true=>
  rw[E,aW rfl]at Y;rcases hf with ⟨k0,_⟩|⟨_,rfl⟩
  ·rw[Y,D]at k0;exact absurd (show (1:Int)=0 from k0) (by decide)
  ·rw[Y];dsimp only;generalize hxe:fK j 0=x at D;have k1:x.kind=1:=by rw[D]
   have kb:x.ay=(cV j 0).ay:=by rw[D]
   have kr:x.row=(cV j 0).row:=by rw[D]
   obtain⟨e1,e2,e3,e4⟩:=JM (c:=j) (x:=x) (i:=0) ⟨by omega,by omega⟩;have gl:=fY (rK T.p.rk).1;have AY:=(gi.of (Ck.of hk).pa).tl;obtain⟨Vo,at9⟩:(rN (cz j x) x).2=false/\A5 (n+1) j.config.ak.rows.toNat (rN (cz j x) x).1:=by
    show (mH (j.bB.getD x.ay.toNat zT) x.row (j.guard.getD x.ay.toNat 0)).2=false/\A5 (n+1) j.config.ak.rows.toNat (mH (j.bB.getD x.ay.toNat zT) x.row (j.guard.getD x.ay.toNat 0)).1;obtain⟨B,hB⟩:=fS a2;obtain⟨row,Db⟩:=fS a6;have p:=gi.of (Ck.of hk).pa;have hgl:=p.gl;have hg:j.guard.getD B 0=j.guard[B]'(by omega):=iC _ (by omega);have Bl:=p.g _ (dc (show B<j.guard.length by omega));obtain⟨L,hL⟩:=fS (show 0<=j.guard[B]'(by omega) by omega);have lY:=(uK a1).2.2.2.2.1;obtain⟨f,hf1,Wc⟩:=O B (by omega);rw[kb,kr,hB,Db,bE,hg,hL];obtain⟨s1,s2⟩:=hf1.step (by omega) (row:=row) (by omega) (L:=L) (by omega) (by omega) (λr E=>by have:=Wc r E;omega);rw[s1]
    refine⟨bq λh0=>?_,_,s2,λr E=>?_⟩
    ·have h1:=Wc row (by omega);rw[Nat.mod_eq_of_lt (by omega)]at h0;omega
    ·have:=Wc r E;split<;>omega
   have aua:∀ i:Nat,(dB j x 0).ready.last.getD i (-1)<=N+17:=λi=>by
    rw[e2];exact Fp _ _ _ (λi=>by have:=Wb i;omega) (by dsimp only;omega) i
   have aub:(dB j x 0).ready.aZ.length<=n+1:=by
    rw[e2];have:=at6 j.config.ak j.ready ⟨j.now,x⟩;omega
   have C8:(dB j x 0).aI.aN=0:=by rw[e1];exact(Vv (by omega)).trans Z
   have ho:cX (cR j.aI x) (cV j 0).ay=⟨true,(cV j 0).row⟩:=by
    unfold cR;rw[k1];show (j.aI.aE.set x.ay.toNat ⟨true,x.row⟩).getD (cV j 0).ay.toNat ⟨false,0⟩=_;rw[kb,kr];exact ve _ a3
   have dJ:∀ b:Nat,b≠(cV j 0).ay.toNat->(cX (cR j.aI x) (b:Int)).open_=false:=λb I5=>by
    rw[VU (by rw[kb];exact I5)];exact JO U _
   rw[<-e1]at ho dJ;rw[Oz j 0 k1]at *
   refine⟨⟨C.wq,?_,C.wr,C.Dc,C.wx,by omega,C.wn⟩,.inr ⟨C8,aua,⟨?_,?_,dJ⟩,by show j.now<=N+32;omega,λb I=>?_,aub⟩⟩
   ·show (bif (rN (cz j x) x).2 then (gR j.config.ak.rows x.row).foldl (iY x.ay) (qF (cz j x) x)else qF (cz j x) x)=[]
    rw[Vo,av];show (j.pending.filter _)=[]
    rw[C.wp];rfl
   ·show (cX (uW (cz j x) x).aI (cV j 0).ay).open_=true;rw[ho]
   ·show (cX (uW (cz j x) x).aI (cV j 0).ay).row=(cV j 0).row;rw[ho]
   ·have I:(b:Int)<aL j.config.ak:=I;show A5 (n+1) j.config.ak.rows.toNat ((j.bB.set x.ay.toNat (rN (cz j x) x).1).getD b zT);by_cases e:x.ay.toNat=b
    ·subst e;rw[ve _ (by omega)];exact at9
    ·rw[cL,List.getElem?_set_ne e,<-cL];exact(O b I).up
def Ad(n:Nat)(N:Int)(A:aP)(c:au):Prop:=c.aI.aN=0/\(∀i:Nat,c.ready.last.getD i (-1)<=N+33)/\(∀b:Nat,(cX c.aI (b:Int)).open_=true->b=A.ay.toNat/\(cX c.aI (b:Int)).row=A.row)/\c.pending=[]/\(∀b:Nat,c.aB.aD.getD b 0<=0)/\Dd (n+1) c
def Fs.so{c:au}(h:Fs c)(E:0<=(cV c 0).ay)(b:Nat)(C:(cX c.aI (b:Int)).open_=true):b=(cV c 0).ay.toNat/\(cX c.aI (b:Int)).row=(cV c 0).row:=by
 by_cases e:b=(cV c 0).ay.toNat
 ·have D:(b:Int)=(cV c 0).ay:=by omega
  rw[D];exact⟨e,h.2.1⟩
 ·rw[h.2.2 b e]at C;cases C
def Bw.step{n:Nat}{N:Int}{q:aV}{rs:aa eJ}{c j y:au}(h:Wq N q rs c)(D:Bw n N c)(hN:N<=c.now)(r:Pr c j)(hz:cG j)(hk:cA j=true)(ht:qM j.config.bP)(hf:Fn j y):(Wq N q rs y/\Bw n N y)\/(Bd N q rs y/\Ad n N (cV c 0) y):=by
 have hx:=h.wx;obtain⟨p1,p2,⟨p3,p4,p5⟩,p6,I⟩:=D;have I:=I.pr r;have C:=h.pr r (by omega);have U:=Pq.of hz hk;have pN:=r.pN;have O:j.aI.aN=0:=by rw[r.pK];exact p1
 have Z:∀i:Nat,j.ready.last.getD i (-1)<=N+17:=by rw[r.pR];exact p2
 have ea:=at5 r;have E:Fs j:=by unfold Fs;rw[ea,r.pK];exact⟨p3,p4,p5⟩
 have Fh:0<j.queue.length:=by rw[C.wq];exact Nat.zero_lt_succ _
 obtain⟨a1,a2,a3,a4,a5,a6⟩:=Jx U Fh;have We:fK j 0=⟨if q.write=true then 3 else 2,(cV j 0).ay,0,(cV j 0).bZ⟩:=by
  unfold fK nu;rw[E.1,E.2.1,Jv Fh];have:j.queue[0]=q:=by simp[C.wq]
  rw[this,bne_self_eq_false];cases q.write<;>rfl
 have Wf:(fK j 0).kind=3\/(fK j 0).kind=2:=by
  rw[We];cases q.write with
  |true=>exact .inl rfl
  |false=>exact .inr rfl
 have T:=af4 U C.wq C.wp C.Dc C.wn (U.ps.trans O) (at7 E (by rw[C0];exact Fh) a2) (by omega);cases hr:cC j (fK j 0)with
 | false=>
  rw[hr,aX (by decide)]at T;have hy:y=j:=by
   rcases hf with ⟨_,e⟩|⟨hm,_⟩
   ·exact e
   ·rw[T]at hm;exact(af5 hm).elim
  subst hy;have hT:¬ N+33<=y.now:=λhT=>by
   have:=JN U ht (x:=fK y 0) (λh1=>by omega) (by
    rw[We];cases q.write with
    | true=>
     show (y.aI.aN==0&&(cX y.aI (cV y 0).ay).open_)=true;rw[O,E.1];rfl
    | false=>
     show (y.aI.aN==0&&(cX y.aI (cV y 0).ay).open_)=true;rw[O,E.1];rfl) Z (by omega)
   rw[hr]at this;cases this
  exact .inl ⟨C,O,Z,E,by omega,I⟩
 | true=>
  rw[hr,aW rfl]at T;rcases hf with ⟨k0,_⟩|⟨_,rfl⟩
  ·rw[T]at k0;dsimp only at k0;omega
  ·refine .inr ?_;rw[T];dsimp only;generalize hxe:fK j 0=x at Wf;have e:dB j x 0=jq (cz j x) 0:=by
    unfold dB;rcases Wf with k3|k3<;>rw[k3]<;>rfl
   have hg:(cz j x).queue.getD 0 od=q:=by
    show j.queue.getD 0 od=q;rw[C.wq];rfl
   have xk:j.queue.take 0++j.queue.drop 1=[]:=by rw[C.wq];rfl
   have VC:∀v:eJ,j.cc++[v]=rs++[v]:=λv=>by rw[C.wr]
   have Y:cR j.aI x=j.aI:=by
    unfold cR;rcases Wf with k3|k3<;>rw[k3]<;>rfl
   have Wg:=λb D=>E.so a2 b D
   rw[ea]at Wg;have af6:∀i:Nat,(fO j.config.ak j.ready ⟨j.now,x⟩).last.getD i (-1)<=N+33:=λi=>Fp _ _ _ (λi=>by have:=Z i;omega) (by dsimp only;omega) i
   have hac:(fO j.config.ak j.ready ⟨j.now,x⟩).aZ.length<=n+1:=by
    rw[ON _ _ _ (by dsimp only;omega)];exact I.2
   rw[e];unfold jq;rw[hg];dsimp only;cases q.write with
   | true=>
    refine⟨⟨xk,_,VC ⟨q.id,j.now,0,0⟩,by show j.now<=N+33;omega,rfl⟩,?_,af6,λb D=>?_,C.wp,C.Dc,I.1,hac⟩
    ·show (cR j.aI x).aN=0;rw[Y];exact O
    ·have D:(cX (cR j.aI x) (b:Int)).open_=true:=D;show _/\(cX (cR j.aI x) (b:Int)).row=_;rw[Y]at D ⊢;exact Wg b D
   | false=>
    refine⟨⟨xk,_,VC ⟨q.id,j.now,_,_⟩,by show j.now<=N+33;omega,rfl⟩,?_,af6,λb D=>?_,C.wp,C.Dc,I.1,hac⟩
    ·show (cR j.aI x).aN=0;rw[Y];exact O
    ·have D:(cX (cR j.aI x) (b:Int)).open_=true:=D;show _/\(cX (cR j.aI x) (b:Int)).row=_;rw[Y]at D ⊢;exact Wg b D
def auc(c:au)(r:aV):∃ l,(kH c r).1 = { c with queue:=l }:=by
 unfold kH;cases ((!cA c) ||((!(nt c r).2) ||(c.cc.any λx=>x.id==r.id)))with
 |true=>exact⟨c.queue,rfl⟩
 |false=>exact⟨_,rfl⟩
def Iv.new{c:fl}{p:dD}(D:kG c)(O:wg p):Iv 0 (rR c p):=by
 have Z:=Fm D.1;have b1:=eG c.ak;have Ov:200<=c.interval/\c.interval<=259:=D.2.2.2.2.1;have T:c.dO=⟨6*c.interval,40⟩:=D.2.2.2.2.2.2;have z1:∀ (n k:Nat),(List.replicate n (0:Int)).getD k 0=0:=λn k=>by
  rw[cL,List.getElem?_replicate];split<;>rfl
 have E:(A1 c.ak).bu=List.replicate (fF c.ak).toNat 0/\(A1 c.ak).bg=List.replicate (fF c.ak).toNat 0:=⟨rfl,rfl⟩
 refine⟨⟨yN.new _ _,dH _⟩,⟨gz _,λb r _ _=>?_⟩,⟨0,λi=>?_,⟨gz _,gz _⟩,?_,λb=>?_,λB _ C=>?_⟩,λb I=>?_,gz _⟩
 ·show 0<=(List.replicate (aL c.ak).toNat (0:Int)).getD b 0/\(A1 c.ak).bu.getD ((b:Int)*c.ak.rows+(r:Int)).toNat 0+c.interval<=((List.replicate (aL c.ak).toNat (0:Int)).getD b 0+1)*c.interval;rw[E.1,z1,z1];exact⟨gz _,by omega⟩
 ·show (List.replicate (9*(aL c.ak+1)).toNat (-1:Int)).getD i (-1)<=0;rw[cL,List.getElem?_replicate];split<;>decide
 ·show 100<=(c.interval+1) / 2+((0:Int)-0)
  omega
 ·show (List.replicate (aL c.ak).toNat (0:Int)).getD b 0<=4;rw[z1];decide
 ·have C:(List.replicate (aL c.ak).toNat (0:Int)).getD B 0 >= 4:=of_decide_eq_true C;rw[z1]at C;exact absurd C (by decide)
 ·have I:(b:Int)<aL c.ak:=I;show Hb c.ak.rows.toNat c.dO.bg 0 ((List.replicate (aL c.ak).toNat Fk).getD b zT) ((List.replicate (aL c.ak).toNat p.dG).getD b 0) [] (A1 c.ak).bg b;have U:(List.replicate (aL c.ak).toNat Fk).getD b zT=oc 16:=by
   rw[cL,List.getElem?_replicate,aW];rfl
  have Y:(List.replicate (aL c.ak).toNat p.dG).getD b 0=p.dG:=by
   rw[cL,List.getElem?_replicate,aW];rfl
  have xV:=O.2;rw[U,Y,T,E.2];exact Hb.new (gz _) ⟨by omega,by omega⟩ (by dsimp only;omega) λr _=>by rw[z1];decide
def aud{p:aV->Bool}{q:aa aV}{r:aV}(h:∀ x∈q,p x=false):jo p q r=q++[r]:=by
 have e:jD p q=q.length:=by
  unfold jD;rw[List.findIdx?_eq_none_iff.2 h];rfl
 unfold jo;rw[e,mP,List.drop_length,List.append_nil]
def aue{n:Int}{q:aa aV}{r:aV}(h:gD n q=true)(T:q.length<12)(E:nZ n r=true)(C:∀ x∈q,fm x r=true/\x.id≠r.id):gD n (q++[r])=true:=by
 unfold gD at h ⊢;rw[aK,bS]at h ⊢
 refine⟨λi hi=>?_,aY (by simp;omega)⟩
 have hi:i<q.length+1:=by simpa using hi
 by_cases c:i<q.length
 ·have D:=h.1 i (gq.2 c);unfold rH at D ⊢;rw[List.getElem?_append_left c,List.getElem?_append_left (by omega),List.take_append_of_le_length (by omega)];exact D
 ·obtain rfl:i=q.length:=by omega
  unfold rH;rw[List.getElem?_append_right (dH _),Nat.sub_self,List.take_left];have I:(q.any λx=>x.id==r.id)=false:=nD.2 λx O=>by simpa using (C x O).2
  simp only[List.getElem?_cons_zero,E,I,Bool.not_false,Bool.and_true,cM];cases U:q.length with
  |zero=>rfl
  | succ k=>
   rw[Nat.add_sub_cancel,List.getElem?_append_left (by omega),bK (by omega)];rw[dZ];exact .inr (C _ (dc (by omega))).1
def auf{c:au}{N:Int}(C:Rv c N){r:aV}(E:N<r.id):∀ x∈c.queue,fm x (lP c r)=true/\x.id≠(lP c r).id/\fm (lP c r) x=false:=λx D=>by
 obtain⟨I,O⟩:=C.1 x D;refine⟨?_,by show x.id≠r.id;omega,?_⟩
 ·unfold fm lP;by_cases e:x.at_=c.now
  ·simp only[dZ,aK,fq,ff];exact .inr ⟨e,by omega⟩
  ·simp only[dZ,aK,fq,ff];exact .inl (by omega)
 ·unfold fm lP;simp only[mO,Bool.and_eq_false_iff,qO,beq_eq_false_iff_ne];exact⟨by omega,.inr (by omega)⟩
def A6(c:au)(r:aV):au:={ c with queue:=c.queue++[lP c r] }
def aug{c:au}{N:Int}(E:cA c=true)(I:Rv c N){r:aV}(T:N<r.id)(U:c.queue.length<12)(Y:nZ (eA (gQ c.config.ak c.spare)) (lP c r)=true):kH c r=(A6 c r,true):=by
 have D:=auf I T;have O:=(Ck.of E).qu;have Z:jo (λx=>fm (lP c r) x) c.queue (lP c r)=c.queue++[lP c r]:=aud λx C=>(D x C).2.2
 have h2:(c.cc.any λx=>x.id==r.id)=false:=nD.2 λx C=>by
  have:=I.2 x C;simp only[ff];omega
 unfold kH nt CP;rw[Z,O,aue O U Y λx C=>⟨(D x C).1,(D x C).2.1⟩,E,h2];rfl
def va(c:au):au:=(uJ c).getD c
def A7(N:Int)(q:aV)(rs:aa eJ)(k:Nat)(c:au):Prop:=(c.now=N+(k:Int)/\Wq N q rs c/\((Bz N c/\c.ready.aZ=[])\/Bo 0 N c\/Bw 0 N c))\/Bd N q rs c
def A7.step{N:Int}{q:aV}{rs:aa eJ}{k:Nat}{c y:au}(h:A7 N q rs k c)(hq:c.queue≠[])(hz:cG c)(hk:cA c=true)(T:kG c.config)(hn:c.now<1900)(hE:c.trace.length<2000)(hr:c.cc.length<400)(e:uJ c=some y):A7 N q rs (k+1) y:=by
 obtain⟨j,y',D,z1,k1,E,I,r,O⟩:=VI hz hk (by omega) hE hr;rw[e]at D;injection D with D;subst D;have U:qM j.config.bP:=by rw[r.pC];exact V3 T
 have A4:j.config.gU=16:=by rw[r.pC];exact T.2.2.2.2.2.1
 have hRj:j.config.ak.rows<16:=by rw[r.pC];have:=T.1.2.2.1.2;omega
 have hny:y.now=c.now+1:=(O.nx E I).1.trans r.pN;rcases h with ⟨auP,Y,hb⟩|hb
 ·have Z:N<=c.now:=by omega
  rcases hb with ⟨hb,ha⟩|hb|hb
  ·obtain⟨C,g2⟩:=hb.step Y r E I U A4 ha O;exact .inl ⟨by omega,C,.inr (.inl g2)⟩
  ·obtain⟨C,g2 | g2⟩:=hb.step (Nat.zero_le 1) Y Z r E I U hRj O
   ·exact .inl ⟨by omega,C,.inr (.inl g2)⟩
   ·exact .inl ⟨by omega,C,.inr (.inr g2)⟩
  ·rcases hb.step Y Z r E I U O with ⟨C,g2⟩ | ⟨g2,_⟩
   ·exact .inl ⟨by omega,C,.inr (.inr g2)⟩
   ·exact .inr g2
 ·exact absurd hb.1 hq
def auh{c:au}{u:Nat}{q:aV}{rs:aa eJ}(h:Iv u c)(U:cG c)(Y:cA c=true)(hc:kG c.config)(hu:u<400)(hn:c.now<=1800)(hw:A7 c.now q rs 0 c):∃ y,Nn c=some y/\cG y/\cA y=true/\Iv u y/\y.config=c.config/\Bd c.now q rs y:=by
 have JF:=br.1 (Ck.of Y).nw;unfold Nn bR;rw[Jk c U,ax,CO c U,ax,Y,bL,av];generalize (⟨⟨⟨(0:Int),(0:Int),(0:Int),(0:Int)⟩,⟨(0:Int),(0:Int),(0:Int),(0:Int),(0:Int),(0:Int),(0:Int),(0:Int),(0:Int),(0:Int),(0:Int),(0:Int),(0:Int),(0:Int),(0:Int),(0:Int),(0:Int)⟩,⟨(0:Int),false⟩,(0:Int),(0:Int),(0:Int),⟨(0:Int),(0:Int)⟩⟩,_,_,_,_,_,_,_,_,_,_,_,_,_,_,_,_,_,_⟩:au)=Z;have fdn:∀ (k:Nat) (y:au),A7 c.now q rs k y->y.queue=[]->Bd c.now q rs y:=λk y hy hq=>by
  rcases hy with ⟨_,g,_⟩|g
  ·rw[g.wq]at hq;cases hq
  ·exact g
 obtain⟨z,e,zE⟩:=adt (step:=IS) 40 (λk x=>∃ y:au,x=(((),(),(k:Int),()),(Z,y,()))/\cG y/\cA y=true/\Iv u y/\y.config=c.config/\y.now<=c.now+(k:Int)/\A7 c.now q rs k y) (λz=>∃ y:au,z = .inl (((),(),()),(Z,y,()))/\cG y/\cA y=true/\Iv u y/\y.config=c.config/\Bd c.now q rs y) bk (x:=(((),(),(0:Int),()),(Z,c,()))) ⟨c,rfl,U,Y,h,rfl,by omega,hw⟩ (by
  rintro k OL x ⟨y,rfl,E,I,C,D,y5,O⟩;unfold IS aM xG;dsimp only;rw[aY (show (k:Int)<5000 by omega),aq];by_cases T:(y.queue.length:Int) > 0
  ·obtain⟨v,f1,f2,f3,f4,f5,f6⟩:=afZ C E I (by rw[D];exact hc) (by omega) hu;have hE:=C.iE;have auQ:=C.iT.2;rw[aY T,aq,f1,ax,bY];exact .inl ⟨_,rfl,v,rfl,f2,f3,f4,f5.trans D,by omega,O.step (λhh=>by rw[hh]at T;exact absurd T (by decide)) E I (by rw[D];exact hc) (by omega) (by omega) (by omega) f1⟩
  ·rw[bq T,av];exact .inr ⟨_,rfl,y,rfl,E,I,C,D,fdn k y O (vg (by omega))⟩) (by
  rintro x ⟨y,rfl,E,I,C,D,y5,O⟩;have hd:Bd c.now q rs y:=by
   rcases O with ⟨g0,g,g1⟩|g
   ·exfalso;rcases g1 with ⟨g1,_⟩ | g1 | g1
    ·have:=g1.2.1;omega
    ·have:=g1.2.2.2.1;omega
    ·have:=g1.2.2.2.1;omega
   ·exact g
  unfold IS aM xG;dsimp only;rw[aY (show ((40:Nat):Int)<5000 by omega),aq,hd.1];exact⟨_,rfl,y,rfl,E,I,C,D,hd⟩) (cv)
 rw[e,ax];obtain⟨y,rfl,E,I,C,D,y5⟩:=zE;exact⟨y,rfl,E,I,C,D,y5⟩
def Zz.new{c:fl}{p:dD}(D:kG c)(E:wg p):Zz p (rR c p):=by
 have O:200<=c.interval/\c.interval<=259:=D.2.2.2.2.1;have T:60<=p.bF.sleep/\p.bF.sleep<=119:=E.1.2.2.2.2.2.2;have z1:∀ (n k:Nat),(List.replicate n (0:Int)).getD k 0=0:=λn k=>by
  rw[cL,List.getElem?_replicate];split<;>rfl
 have C:∀ i:Nat,(rR c p).ready.last.getD i (-1) <= -1:=λi=>by
  show (List.replicate (9*(aL c.ak+1)).toNat (-1:Int)).getD i (-1) <= -1;rw[cL,List.getElem?_replicate];split<;>decide
 refine⟨⟨rfl,rfl,rfl,λb=>Int.le_of_eq (z1 _ _),?_,⟨rfl,rfl⟩,rfl⟩,rfl,.inl ?_,?_,rfl,λi=>⟨?_,?_⟩,λh=>absurd (show (0:Int)=1 from h) (by decide),λ_ h=>?_⟩
 ·show ((List.replicate (aL c.ak).toNat (⟨false,0⟩:dQ)).all λb=>!b.open_)=true;rw[bS];intro x I;rw[(List.mem_replicate.1 I).2];rfl
 ·show c.interval-0<=c.interval;omega
 ·show c.interval-(p.bF.sleep+33)<=c.interval;omega
 ·have:=C i;show _<=(0:Int)
  omega
 ·have:=C i;omega
 ·have h:p.bF.sleep<=0:=h;omega
def Zz.ask{p:dD}{c:au}(h:Zz p c)(C:kG c.config)(I:60<=p.bF.sleep/\p.bF.sleep<=119)(O:c.now=p.bF.sleep+400)(D:c.aI.aN=2){r:aV}(E:r.dR=0):A7 c.now (lP c r) [] 0 (A6 c r):=by
 have T:200<=c.config.interval/\c.config.interval<=259:=C.2.2.2.2.1;have U:=h.zx
 refine .inl ⟨by show c.now=c.now+((0:Nat):Int);omega,⟨?_,h.zs.sp,h.zs.sr,h.zs.sd,?_,?_,E⟩,.inl ⟨⟨D,rfl,λi=>?_,h.zs.so⟩,h.za⟩⟩
 ·show c.queue++[lP c r]=_;rw[h.zs.sq];rfl
 ·show 48-(c.now-c.now)<=c.aB.wait;omega
 ·show c.ready.aZ.length<=3;rw[h.za];decide
 ·have:=(h.zl i).2;show c.ready.last.getD i (-1)<=c.now-16;omega
def Zz.aui{p:dD}{c:au}(h:Zz p c)(C:cA c=true)(D:c.now=p.bF.sleep+400):c.aI.aN=2:=by
 have E:=(rK (Ck.of C).rk).2.2.1;have:c.aI.aN=0\/c.aI.aN=1\/c.aI.aN=2:=by omega
 rcases this with q|q|q
 ·have:=(h.z0 q (by omega)).2;omega
 ·have:=(h.z1 q).2;omega
 ·exact q
def Iv.Wh{u:Nat}{c:au}(C:Iv u c)(r:aV):Iv (u+1) (kH c r).1/\(kH c r).1.now=c.now/\(kH c r).1.config=c.config:=by
 obtain⟨I,D⟩:=C.iD;obtain⟨O,T,U⟩:=att C.iT r;obtain⟨l,E⟩:=auc c r;refine⟨⟨O,?_,?_,?_,?_⟩,T,U⟩
 ·rw[E];exact C.iA
 ·rw[E];exact⟨I,D.d1,D.d2,D.d3,D.d4,D.d5⟩
 ·rw[E];exact C.iH
 ·rw[E];exact C.iE
def Sl.Wh{p:dD}{c:au}(h:Sl p c)(D:cA c=true){r:aV}(E:0<r.id)(I:nZ (eA (gQ c.config.ak c.spare)) (lP c r)=true):kH c r=(A6 c r,true):=
 aug (N:=0) D ⟨λx C=>(by rw[h.sq]at C;cases C),λx C=>(by rw[h.sr]at C;cases C)⟩ E (by rw[h.sq];decide) I
def WtN(a:jr):Prop:=a.eK.weights.length<=1048576/\(a.kind=2->a.n<=40)
def auj{b:aa Int}{c:bw}(O:jT b c){x:fl}(hx:kG x)(i:Int):Dr b (L2 c x i) WtN:=by
 have T:=Fm hx.1;have gb:=fY T;unfold L2;rw[ao5,ax,aX,O.eq];dsimp only
 refine(eX O 12).bind λD k2 h2 C=>?_
 dsimp only;rw[C.eta];have U:∀ l:aa Int,0<l.length->(∀ x∈l,x<=40)->Dr b ((Ai k2 l).bind λE=>some ((⟨(2:Int),⟨(0:Int),(0:Int),(0:Int),false,(0:Int),(0:Int)⟩,E.1,(0:Int),⟨(0:Int),(0:Int),(0:Int)⟩,⟨(0:Int),(0:Int),(0:Int),(0:Int),(0:Int),[],⟨(0:Int),(0:Int)⟩⟩⟩:jr),((⟨b,E.2.1.i,E.2.1.h⟩:bw),()))) WtN:=λl Y h40=>by
  refine(NC C l Y).bind λy k hy Z=>?_
  dsimp only;rw[Z.eta];exact Dr.pure Z ⟨by show (0:Nat)<=1048576;omega,λ_=>h40 _ hy⟩
 cases h0:D==(0:Int)with
 | true=>
  rw[aq,aq];exact U _ (by simp) (by decide)
 |false=>
 rw[av];cases h1:D==(1:Int)with
 | true=>
  rw[aq];exact U _ (by simp) (by decide)
 |false=>
 rw[av];cases D==(2:Int)with
 | true=>
  rw[aq]
  refine(apo C T).bind λy5 k5 h5 sQ=>?_
  dsimp only;rw[sQ.eta]
  refine(eX sQ 11).bind λy6 k6 h6 AO=>?_
  dsimp only;rw[AO.eta]
  refine(eX AO 16).bind λy7 k7 h7 AP=>?_
  dsimp only;rw[AP.eta];exact Dr.pure AP ⟨by show (0:Nat)<=1048576;omega,λh=>absurd (show (3:Int)=2 from h) (by decide)⟩
 |false=>
 rw[av];cases D==(3:Int)with
 | true=>
  rw[aq]
  refine(NC C _ (by simp)).bind λy8 k8 h8 Ji=>?_
  dsimp only;rw[Ji.eta]
  refine(eX Ji 2).bind λy9 k9 h9 Jj=>?_
  rw[T9,ax];dsimp only;rw[Jj.eta]
  refine(eX Jj _).bind λoS TE uQ af7=>?_
  dsimp only;rw[af7.eta]
  refine(eX af7 _).bind λvR TD qc af8=>?_
  dsimp only;rw[af8.eta]
  refine(aeB af8).bind λkW EC oY af9=>?_
  dsimp only;rw[af9.eta];have Y:=(Fl oY).2.2;exact Dr.pure af9 ⟨by show kW.weights.length<=1048576;omega,λ_=>by show y9<=40;have:=h9.2.2 (by decide);omega⟩
 |false=>
 rw[av]
 refine(atr C _).bind λnT TB s7 aga=>?_
 dsimp only;rw[aga.eta]
 refine(ND aga 2).bind λmC TA s8 I=>?_
 dsimp only;rw[I.eta];cases mC with
 | true=>
  rw[aq]
  refine(eX I 3).bind λqj k16 uF agb=>?_
  dsimp only;rw[agb.eta];exact Dr.pure agb ⟨by show (0:Nat)<=1048576;omega,λh=>absurd (show (1:Int)=2 from h) (by decide)⟩
 |false=>exact Dr.pure I ⟨by show (0:Nat)<=1048576;omega,λh=>absurd (show (1:Int)=2 from h) (by decide)⟩
def Iv.rows{u:Nat}{c:au}(h:Iv u c)(U:cA c=true)(C:kG c.config):(List.range c.array.bu.length).all (yG c)=true:=by
 have k:=Ck.of U;have Y:=fz.wD k.ar;have D:=Fm C.1;have Z:=eG c.config.ak;have gb:=fY D;have Ov:200<=c.config.interval/\c.config.interval<=259:=C.2.2.2.2.1;have E:c.config.dO=⟨6*c.config.interval,40⟩:=C.2.2.2.2.2.2;obtain⟨t,hD⟩:=h.iD;obtain⟨g1,g2⟩:=h.iA;have hrf:=k.rf;simp only[fN,aK,br]at hrf;have hgw:1<=mK c.aB:=by
  unfold mK;cases c.aB.dJ with
  |true=>rw[aq];omega
  |false=>rw[av];omega
 obtain⟨R,I⟩:=fS (show 0<=c.config.ak.rows by omega);obtain⟨nb,zH⟩:=fS Z.1;have QU:0<R:=by omega
 have hlen:c.array.bu.length=nb*R:=by
  have:=Y.bu;have e:fF c.config.ak=aL c.config.ak*c.config.ak.rows:=by simp[fF,D]
  rw[e,I,zH,<-Int.natCast_mul]at this;omega
 rw[bS];intro i hi;have hi:=gq.1 hi;rw[hlen]at hi;have hb:i / R<nb:=Nat.div_lt_of_lt_mul (by rw[Nat.mul_comm];exact hi);have hr:i % R<R:=Nat.mod_lt _ QU;have N6:i / R*R+i % R=i:=by rw[Nat.mul_comm];exact Nat.div_add_mod i R
 obtain⟨a1,a2⟩:=g2 (i / R) (i % R) (by omega) (by omega);rw[I,<-Int.natCast_mul,show (((i / R*R:Nat):Int)+((i % R:Nat):Int)).toNat=i by omega]at a2;obtain⟨f,L,_,_,_,h3,_,O,h6⟩:=h.iH (i / R) (by omega);have T:=h6 (i % R) (by omega);rw[show c.config.ak.rows.toNat=R by omega]at T;rw[N6]at T;have h8:=atM R f (L:=L) (by omega) c.pending (i / R) (i % R);have h4:=hD.d4 (i / R);have hm:(c.aB.aD.getD (i / R) 0+1)*c.config.interval<=5*c.config.interval:=Int.mul_le_mul_of_nonneg_right (by omega) (by omega);rw[E]at O;dsimp only at O;unfold yG uO;rw[E];dsimp only;rw[bq,bq];rfl
def auk{b:aa Int}{c:bw}(C:jT b c):Dr b (L7 c) λ_=>True:=by
 unfold L7 xA xZ;rw[C.eq]
 refine(aeC C).bind λx k1 O D=>?_
 dsimp only;rw[D.eta]
 refine(eX D 40).bind λy k2 h2 E=>?_
 dsimp only;rw[E.eta]
 refine(auj E O _).bind λa k3 T I=>?_
 dsimp only;rw[I.eta];have hw:a.eK.weights.length<=1048576:=T.1;have U:bV (([]:aa Int).length+([]:aa Int).length)=true:=by decide
 have Y:bV (([]:aa Int).length+a.eK.weights.length)=true:=eO (by rw[List.length_nil];omega);have Z:bV (([a.eK.eI,a.eK.cap,a.eK.dG,a.eK.low,a.eK.high]:aa Int).length+a.eK.weights.length)=true:=eO (by simp only[mN,List.length_nil];omega);have hz7:bV (([a.eK.eI,a.eK.cap,a.eK.dG,a.eK.low,a.eK.high]++a.eK.weights:aa Int).length+([a.eK.bF.down,a.eK.bF.sleep]:aa Int).length)=true:=eO (by simp only[List.length_append,mN,List.length_nil];omega);have hz8:bV (([]++a.eK.weights:aa Int).length)=true:=eO (by rw[List.nil_append];omega);cases a.kind==1<;>cases a.kind==2<;>cases a.kind==3<;>cases a.kind==4<;>cases a.kind==5<;>cases a.kind==6<;>cases a.kind != 5<;>cases a.request.write<;>simp only[aq,av,bL,Bool.not_false,U,Y,Z,hz7]<;>exact Dr.pure I trivial
def aul(l:aa Int)(h:l.length<=1073741823):∃ c p aZ,Me l=some (c,p,aZ)/\kG c/\wg p:=by
 unfold Me bR;obtain⟨h0,e0⟩:=adz l h;obtain⟨x,k,C,U,hx⟩:=aeC (adA l h0 h);obtain⟨p,O,e2,rB,hp⟩:=aeB U;generalize (⟨⟨(0:Int),(0:Int),(0:Int),(0:Int)⟩,⟨(0:Int),(0:Int),(0:Int),(0:Int),(0:Int),(0:Int),(0:Int),(0:Int),(0:Int),(0:Int),(0:Int),(0:Int),(0:Int),(0:Int),(0:Int),(0:Int),(0:Int)⟩,⟨(0:Int),false⟩,(0:Int),(0:Int),(0:Int),⟨(0:Int),(0:Int)⟩⟩:fl)=D;obtain⟨z,e,aZ,rfl⟩:=adt (step:=Hs) 10 (λk s=>∃ (E:bw) (aZ:aa jr),jT l E/\aZ.length=k/\s=(((),(),(),(),(),(),(k:Int),()),(D,((0:Int),(0:Int),(0:Int),(0:Int),(0:Int),(),(0:Int),(0:Int),()),(l,E.i,E.h,()),x,(p.eI,p.cap,p.dG,p.low,p.high,(),p.bF.down,p.bF.sleep,()),aZ,([]:aa Int),p.weights,())))
  (λz=>∃aZ:aa jr,z = .inl (((),(),(),(),(),()),(D,((0:Int),(0:Int),(0:Int),(0:Int),(0:Int),(),(0:Int),(0:Int),()),x,(p.eI,p.cap,p.dG,p.low,p.high,(),p.bF.down,p.bF.sleep,()),aZ,([]:aa Int),p.weights,()))) bk (x:=(((),(),(),(),(),(),(0:Int),()),(D,((0:Int),(0:Int),(0:Int),(0:Int),(0:Int),(),(0:Int),(0:Int),()),(l,O.i,O.h,()),x,(p.eI,p.cap,p.dG,p.low,p.high,(),p.bF.down,p.bF.sleep,()),([]:aa jr),([]:aa Int),p.weights,()))) ⟨O,[],rB,rfl,rfl⟩ (by
  rintro k OL s ⟨E,aZ,I,Y,rfl⟩;unfold Hs aM xG;dsimp only;rw[I.eta];obtain⟨Z,k1,C,T,h1⟩:=eX I 10;rw[C,ax];dsimp only;by_cases de:(k:Int)<Z
  ·obtain⟨y2,k3,e3,sO,_⟩:=auk T;rw[aY de,aq,T.eta,e3,ax];dsimp only;rw[eO (by rw[List.length_singleton];omega),aq,bY];exact .inl ⟨_,rfl,k3,aZ++[y2],sO,by rw[List.length_append,List.length_singleton,Y],rfl⟩
  ·rw[bq de,av];exact .inr ⟨_,rfl,aZ,rfl⟩) (by
  rintro s ⟨E,aZ,I,Y,rfl⟩;unfold Hs aM xG;dsimp only;rw[I.eta];obtain⟨Z,k1,C,T,h1⟩:=eX I 10;have h31:=h1.2.2 (by omega);rw[C,ax];dsimp only;rw[bq,av];exact⟨_,rfl,aZ,rfl⟩) (cv)
 refine⟨x,p,aZ,?_,hx,hp⟩;rw[e0,ax,C,ax];dsimp only;rw[U.eta,e2,ax];dsimp only;exact(bz (λo=>Option.bind o _) e).trans rfl
def aum{c:au}(D:cG c)(E:cA c=true):2<=eA (gQ c.config.ak c.spare):=by
 have I:=Pq.of D E;obtain⟨O,Y,C,Z,s1,s2,s3,s4⟩:=U4 I.sp;have gb:=fY C;have hb:=I0 C;have T:2<=(gQ c.config.ak c.spare).rows:=by rw[O];exact s3
 have U:=Int.mul_le_mul (show 1<=aL (gQ c.config.ak c.spare) by omega) T (by decide) (by omega);have h2:=Int.mul_le_mul U (show 1<=(gQ c.config.ak c.spare).aR by omega) (by decide) (by omega);unfold eA;rw[C,aq];omega
def aun(l:aa Int)(h:l.length<=maxLen):T4 l=some true:=by
 unfold T4 S3;rw[ax];by_cases agc:(l.length:Int) > 1048576
 ·rw[aY agc];rfl
 ·rw[bq agc,av];obtain⟨c,p,aZ,e1,C,D⟩:=aul l (by omega);obtain⟨ps,e2,pU,hpb⟩:=ao6 l (by omega);have hs:60<=p.bF.sleep/\p.bF.sleep<=119:=D.1.2.2.2.2.2.2;have hd:p.bF.down<=24:=D.1.2.2.2.2.2.1.2;obtain⟨x,e3,U,E,x3,Y,I,Z⟩:=atV (J:=Zz p) (Iv.new C D) (Zz.new C D) (atn C D) (ato C D) C (by decide) (n:=p.bF.sleep+400) (by omega) (by show (0:Int)+(p.bF.sleep+400)<=1900;omega) λz y g1 g2 g3 g4 g5 g6 g7 g8=>by
   have g5:0<=z.now:=g5;have g6:z.now<0+(p.bF.sleep+400):=g6;have QN:kG z.config:=by rw[g4];exact C
   have hE:=g3.iE;exact g7.step g1 g2 (V3 QN) QN.2.2.2.2.1.1 hs hd (by omega) (by omega) g8
  have I:x.now=p.bF.sleep+400:=I.trans (Int.zero_add _);have Y:x.config=c:=Y;have Wi:kG x.config:=by rw[Y];exact C
  rw[e1,ax];dsimp only;rw[e2,ax,atk C D,ax];dsimp only;have p0:(0:Int).toNat<ps.length:=by show 0<ps.length;omega
  have p1:(1:Int).toNat<ps.length:=by show 1<ps.length;omega
  rw[bf (n:=p.bF.sleep+400),e3,ax,aO ⟨by decide,p0⟩,aO p0,aO ⟨by decide,p1⟩,aO p1];have a0:=hpb _ (dc p0);have a1:=hpb _ (dc p1);generalize ps[(0:Int).toNat]=v0 at a0 ⊢;generalize ps[(1:Int).toNat]=v1 at a1 ⊢;have hm:=Ud (x:=v0) (n:=2) a0.1 (by decide);have h2:=aum U E;obtain⟨r,O⟩:∃r:aV,r=⟨1,0,v0.tmod 2,true,v1,0⟩:=⟨_,rfl⟩
  have dY:nZ (eA (gQ x.config.ak x.spare)) (lP x r)=true:=by
   rw[O];simp only[nZ,lP,aK];exact⟨by decide,by decide,aY hm.1,aY,br.2 ⟨by omega,by omega⟩,rfl,br.2 ⟨by omega,by omega⟩⟩
  have en:kH x r=(A6 x r,true):=Z.zs.Wh E (by rw[O];show (0:Int)<1;decide) dY;obtain⟨w1,w2,T⟩:=x3.Wh r;have z1:=aqZ x r U;have k1:=(atp E r).1;rw[en]at w1 w2 T z1 k1;dsimp only at w1 w2 T z1 k1;have C8:=Z.aui E I;have auo:A7 (A6 x r).now (lP x r) [] 0 (A6 x r):=Z.ask Wi hs I C8 (by rw[O]);obtain⟨y,e4,y1,y2,y3,y4,_,rr,er,ea,_⟩:=auh w1 z1 k1 (by rw[T];exact Wi) (by decide) (by omega) auo;have V4:kG y.config:=by rw[y4,T];exact Wi
  rw[<-O,aqX x r U,ax,en];dsimp only;have hlen:y.cc.length=1:=by rw[er];rfl
  have l0:(0:Int).toNat<y.cc.length:=by show 0<y.cc.length;omega
  have hg:y.cc[(0:Int).toNat]=rr:=by simp[er]
  have l6:((y.cc.length:Int)==1)=true:=by rw[hlen];rfl
  rw[e4,ax,C8,kM,aq,aq,l6,aq,aO ⟨by decide,l0⟩,aO l0,hg,bf (n:=(A6 x r).now+200)];rw[aY (show rr.at_<=(A6 x r).now+200 by omega),aq,aq4 _ y1,ax,y2,y3.iT.1.saf,Bool.and_self,aq,aqH _ y1,ax,y2,y3.rows y2 V4,Bool.and_self]
def aup(C:Value)(w:World)(D:Z6 .u8 (λx:Int=>0<=x/\x<=255) w C):Calls Tryz.prog 3 #[C] w λe w'=>e = .returned (.bool true)/\Below w.heap.size w w':=by
 obtain⟨l,E,_,I⟩:=D;exact akz ao2 (akA (ai:=[(false,.sl .u8)]) (x:=(l,())) (by kernel_rfl) (aun l E)) (akB I)
end Go.Proofs.YtgjfmljpdnnihaaGreat
