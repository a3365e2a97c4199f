/-
  Plain laws. Nothing here is a claim.
-/
import Derived.Test.YtnilicojgkhpnaaGreatPYExactStep
namespace Go.Proofs.YtnilicojgkhpnaaGreat
set_option linter.defProp false
open Go.RowKit
set_option linter.unusedVariables false
set_option linter.unusedSimpArgs false
set_option maxRecDepth 100000
def akL{x:Int}(h:0<=x/\x<=100000):(if (100000:Int)<W6 (x+1)then (100000:Int)else W6 (x+1))=kL 1 x:=by
 rw[aK (n:=x+1)];rfl
def Sd(C:av)(O D T:Int)(E:aa Int):ah (af×(av×af)):=bif (decide (O<(W6 (T-(1:Int)))))then if Z:0<=(W6 (D+(1:Int)))/\(W6 (D+(1:Int))).toNat<E.length then if U:(W6 (D+(1:Int))).toNat<E.length then (let L:=E[(W6 (D+(1:Int))).toNat]'U;if h61:0<=(W6 (D+(1:Int)))/\(W6 (D+(1:Int))).toNat<E.length then if Y:(W6 (D+(1:Int))).toNat<E.length then (let e63:=E[(W6 (D+(1:Int))).toNat]'Y;some ((),((⟨C.config,C.box,C.now,C.aX,C.ready,⟨C.array.cells,(C.array.bh.set D.toNat (0:Int)),(E.set (W6 (D+(1:Int))).toNat (if (100000:Int)<(W6 (L+(1:Int)))then (100000:Int)else (W6 (L+(1:Int)))))⟩,C.spare,C.aL,C.bx,C.guard,C.pending,C.queue,C.shares,C.drain,C.aS,C.cu,C.errors,C.trace,C.cA⟩:av),())))else none else none)else none else none else some ((),((⟨C.config,C.box,C.now,C.aX,C.ready,⟨C.array.cells,(C.array.bh.set D.toNat (0:Int)),E⟩,C.spare,C.aL,C.bx,C.guard,C.pending,C.queue,C.shares,C.drain,C.aS,C.cu,C.errors,C.trace,C.cA⟩:av),()))
def Se(D:av)(E C L:Int):ah (af×(av×af)):=if h45:0<=C/\C.toNat<D.array.bh.length then if T:C.toNat<D.array.bh.length then (let e47:=D.array.bh[C.toNat]'T;if h48:0<=C/\C.toNat<D.array.aZ.length then if U:C.toNat<D.array.aZ.length then (let e50:=D.array.aZ[C.toNat]'U;(bif (decide (E > (0:Int)))then if h51:0<=(W6 (C-(1:Int)))/\(W6 (C-(1:Int))).toNat<(D.array.aZ.set C.toNat (0:Int)).length then if Y:(W6 (C-(1:Int))).toNat<(D.array.aZ.set C.toNat (0:Int)).length then (let O:=(D.array.aZ.set C.toNat (0:Int))[(W6 (C-(1:Int))).toNat]'Y;if h54:0<=(W6 (C-(1:Int)))/\(W6 (C-(1:Int))).toNat<(D.array.aZ.set C.toNat (0:Int)).length then if Z:(W6 (C-(1:Int))).toNat<(D.array.aZ.set C.toNat (0:Int)).length then (let Xe:=(D.array.aZ.set C.toNat (0:Int))[(W6 (C-(1:Int))).toNat]'Z;(Sd D E C L ((D.array.aZ.set C.toNat (0:Int)).set (W6 (C-(1:Int))).toNat (if (100000:Int)<(W6 (O+(1:Int)))then (100000:Int)else (W6 (O+(1:Int)))))))else none else none)else none else none else (Sd D E C L (D.array.aZ.set C.toNat (0:Int)))))else none else none)else none else none
def akM{d:av}{R r:Int}{i:Nat}{H:aa Int}(T:H.length<1000000)(D:r<R-1->i+1<H.length)(E:W6 (R-1)=R-1)(L:∀ x∈H,0<=x/\x<=100000)(hi:i<1000000):Sd d r (i:Int) R H=some ((),(cO d ⟨d.array.cells,d.array.bh.set i 0,bif decide (r<R-1)then nP (i+1) H else H⟩,())):=by
 have O:W6 ((i:Int)+1)=((i+1:Nat):Int):=bq;unfold Sd cO;rw[E,O];simp only[Int.toNat_natCast];by_cases C:r<R-1
 ·have q:i+1<H.length:=D C;rw[decide_eq_true C,cond_true,cond_true,dif_pos ⟨by omega,q⟩,dif_pos q,dif_pos ⟨by omega,q⟩,dif_pos q,akL (L _ (List.getElem_mem q)),Yh q]
 ·rw[decide_eq_false C,cond_false,cond_false]
def akN{d:av}{R r:Int}{i:Nat}(E:i<d.array.bh.length)(L:i<d.array.aZ.length)(hl:d.array.aZ.length<1000000)(Y:0<r->1<=i)(O:r<R-1->i+1<d.array.aZ.length)(T:W6 (R-1)=R-1)(Z:∀ x∈d.array.aZ,0<=x/\x<=100000):Se d r (i:Int) R=some ((),(cO d ⟨d.array.cells,d.array.bh.set i 0,uH R r i d.array.aZ⟩,())):=by
 have C:=Ln Z (k:=i) (v:=0) ⟨by omega,by omega⟩;have hL:(d.array.aZ.set i 0).length=d.array.aZ.length:=by simp
 unfold Se uH zp;simp only[Int.toNat_natCast];rw[dif_pos ⟨by omega,E⟩,dif_pos E,dif_pos ⟨by omega,L⟩,dif_pos L];obtain⟨H,U⟩:∃H,d.array.aZ.set i 0=H:=⟨_,rfl⟩
 rw[U]at C hL;simp only[U];by_cases D:0<r
 ·have p1':=Y D;have w1:W6 ((i:Int)-1)=((i-1:Nat):Int):=by rw[aK];omega
  have q:i-1<H.length:=by omega
  simp only[w1,Int.toNat_natCast];rw[decide_eq_true D,cond_true,cond_true,dif_pos ⟨by omega,q⟩,dif_pos q,dif_pos ⟨by omega,q⟩,dif_pos q,akL (C _ (List.getElem_mem q)),<-Yh q];exact akM (by rw[Lo];omega) (λh=>by rw[Lo];have:=O h;omega) T (RD C) (by omega)
 ·rw[decide_eq_false D,cond_false,cond_false];exact akM (by omega) (λh=>by have:=O h;omega) T C (by omega)
def akO{g:aP}(E:cq g=true)(l:gR){B:Int}(c:av)(C:ef g B c.array){b r:Int}(L:0<=b)(O:b<aT g)(Z:0<=r)(h4:r<g.rows):IZ g l c b r=some ((),(cO c (s9 g l c.array b r),())):=by
 obtain⟨_,_,_,_,g5,g6,g7,g8⟩:=eK E;have b2:=oJ g;have er:aT g*g.rows=fD g:=by simp[fD,E]
 obtain⟨r0,r1,r2⟩:=uE L O Z h4;rw[er]at r2;have T:r<g.rows-1->b*g.rows+r+1<fD g:=λh=>by
  have:=(uE L O (show 0<=r+1 by omega) (show r+1<g.rows by omega)).2.2;omega
 have U:0<r->1<=b*g.rows+r:=λh=>by omega
 have a1:=C.bh;have a2:=C.aZ;have e1:W6 (b*g.rows)=b*g.rows:=aK;have e2:W6 (b*g.rows+r)=b*g.rows+r:=aK;have w3:W6 (g.rows-1)=g.rows-1:=aK;have Y:=aDx E c C.cells C.syms L O Z h4;unfold s9;generalize iZ ((b*g.rows+r)*g.aO).toNat g.aO.toNat c.array.cells=cs at Y;have hx:IZ g l c b r=(Eb g l c.array (W6 (W6 (b*g.rows)+r))).bind λy1=>bif y1 then (iter yR aQ (((),r,(),W6 (W6 (b*g.rows)+r),(0:Int),()),(c,(g.cg,g.ay,g.rows,g.aO,()),()))).bind (Sum.elim (λD=>Se D.2.1 D.1.2.1 D.1.2.2.2.1 D.2.2.1.2.2.1) (λz=>nomatch z))else Se c r (W6 (W6 (b*g.rows)+r)) g.rows:=rfl
 rw[hx,e1,e2];obtain⟨i,hi⟩:=Int.eq_ofNat_of_zero_le r1;rw[hi]at Y U T r2 ⊢;rw[Int.toNat_natCast,azM g l c.array i (by omega) (by omega),ak];cases wP l c.array i with
 |false=>exact akN (d:=c) (r:=r) (R:=g.rows) (i:=i) (by omega) (by omega) (by omega) (λh=>by have:=U h;omega) (λh=>by have:=T h;omega) w3 C.gM
 | true=>
  rw[cond_true,Y,ak];exact akN (d:=cO c ⟨cs,c.array.bh,c.array.aZ⟩) (r:=r) (R:=g.rows) (i:=i) (by show i<c.array.bh.length;omega) (by show i<c.array.aZ.length;omega) (by show c.array.aZ.length<_;omega) (λh=>by have:=U h;omega) (λh=>by show _<c.array.aZ.length;have:=T h;omega) w3 C.gM
def aDy{c:gp}{p:eE}(C:p.weights.length<1073741823)(h:nU c p=true):gN c.bQ=true:=by
 have⟨b,e,D⟩:=Yr c p C;have E:b=true:=by
  rw[R6 c p C]at e;simp_all
 have:=D E;simp[mN,Bool.and_eq_true]at this;simp_all
def iq(i:Nat):aD:=⟨(i:Int) % 9+1,if (i:Int) % 9+1<=5 then (i:Int) / 9 else 0,0,0⟩
def wV(n m:Int):Int:=if n > m then n else m
def Sf(g:aP)(t:cI)(l:aa Int)(c:aD)(m:Int)(i:Nat):Int:=match l[i]? with
 |some n=>bif decide (n<0)then m else wV (n+uK g t (iq i) c) m
 |none=>m
def ta(g:aP)(t:cI)(l:aa Int)(c:aD)(k:Nat):Int:=(List.range k).foldl (Sf g t l c) 0
def wW(g:aP)(t:cI)(r:cP)(c:aD):Int:=
 bif c.kind==1&&(r.bg.length:Int)==4 then wV (r.bg.getD 0 0+t.iI) (ta g t r.last c r.last.length)else ta g t r.last c r.last.length
def Zw(g:aP)(t:cI)(l:aa Int)(c:aD)(k:Nat):ta g t l c (k+1)=Sf g t l c (ta g t l c k) k:=by
 unfold ta;rw[List.range_succ,List.foldl_append];rfl
def Zx{g:aP}{t:cI}{l:aa Int}{c:aD}{m:Int}{i:Nat}(h:i<l.length):Sf g t l c m i=bif decide (l[i]<0)then m else wV (l[i]+uK g t (iq i) c) m:=by
 unfold Sf;rw[List.getElem?_eq_getElem h]
def aDz{a b C:Int}(D:a<=C)(E:0<=b/\b<=C):0<=wV a b/\wV a b<=C:=by
 unfold wV;split<;>omega
structure Fl (g:aP) (t:cI) (r:cP):Prop where
 qX:cq g=true
 Cz:gN t=true
 len:r.last.length<1000
 last:∀(i:Nat) (h:i<r.last.length),(-1<=r.last[i]/\r.last[i]<=1000000)/\(r.last[i] = -1\/mP g i=true)
 a4:r.bg.length<=4
 act:∀x∈r.bg,0<=x/\x<=1000000
def aDA{g:aP}{t:cI}{r:cP}(E:gN t=true)(h:jH g r=true):Fl g t r:=by
 have Y:=eM g;simp only[jH,Bool.and_eq_true,List.all_eq_true,List.mem_range]at h;have⟨L,C,D,O,T⟩:=h;have C:(r.last.length:Int)=9*(aT g+1):=by simpa using C
 have D:¬ (r.bg.length:Int) > 4:=by simpa using D
 refine⟨L,E,by omega,λi hi=>?_,by omega,λx U=>?_⟩
 ·have e:=O i hi;rw[Lw hi]at e;simp only[Bool.and_eq_true,Bool.or_eq_true]at e;refine⟨bA.1 e.1,?_⟩
  grind
 ·obtain⟨i,hi,rfl⟩:=List.mem_iff_getElem.1 U;have e:=T i hi;cases i with
  |zero=>rw[Lx hi]at e;exact bA.1 e
  |succ i=>rw[E8 hi]at e;simp at e;exact bA.1 e.1
def akP(i:Nat):1<=(iq i).kind/\(iq i).kind<=9:=by
 unfold iq;dsimp only;omega
def aDB{g:aP}{i:Nat}(C:mP g i=true):(iq i).kind <= 5 -> 0 <= (iq i).au/\(iq i).au<aT g:=by
 unfold mP at C;unfold iq
 grind
def aDC{g:aP}{i:Nat}(hi:i<1000)(C:mP g i=true):∃ b,BN g (i:Int)=some (iq i,b):=by
 have E:=C;unfold mP at C;unfold BN iq;rw[mJ,ak,Int.tdiv_eq_ediv_of_nonneg (by omega),Int.tmod_eq_emod_of_nonneg (by omega),aK,aK,Lv,ak];cases D:decide ((i:Int) / 9<aT g)with
 |true =>simp_all
 | false=>
  rw[D]at C;have L:¬ (i:Int) % 9+1 <= 5:=by
   simp_all
  simp[*]
def Sg{g:aP}{t:cI}{r:cP}(h:Fl g t r)(c:aD):∀ k,k <= r.last.length -> 0 <= ta g t r.last c k/\ta g t r.last c k <= 1000128
 |0,_=>⟨Int.le_refl _,by show 0 <= _;omega⟩
 | k+1,D=>by
  have C:=Sg h c k (by omega);rw[Zw,Zx (by omega)];have E:=YI h.Cz g (iq k) c;have L:=(h.last k (by omega)).1;cases decide (r.last[k]<0)with
  |true=>exact C
  |false=>exact aDz (by omega) C
def aDD{g:aP}{t:cI}{r:cP}{c:aD}(h:Fl g t r)(T:dc g c=true):OI g t r c=some (wW g t r c):=by
 have U:=λk E=>Sg h c k E
 have Z:1<=c.kind/\c.kind<=9:=by
  simp only[dc,Bool.and_eq_true]at T;exact bA.1 T.2.1
 have e:=cm (step:=Iw) r.last.length (λi=>(((),(),(),(),ta g t r.last c i,(i:Int),()),((g.cg,g.ay,g.rows,g.aO,()),t,(r.last,r.bg,()),(c.kind,c.au,c.row,c.bG,()),()))) (.inl (((),(),(),ta g t r.last c r.last.length,()),(t,(r.last,r.bg,()),(c.kind,c.au,c.row,c.bG,()),()))) aQ (λk E=>by
  have h1:=h.len;have h2:=(h.last k E).1;have h3:=U k (by omega);have D:=YI h.Cz g (iq k) c;unfold Iw aq xG xI;dsimp only;rw[decide_eq_true (by omega),cond_true,dif_pos ⟨by omega,by omega⟩,bq];simp only[Int.toNat_natCast];rw[Zw,Zx E];cases hd:decide (r.last[k]<0)with
  |true=>rfl
  | false=>
   have L:yN g t (iq k) c=some (uK g t (iq k) c):=aAA h.qX h.Cz (akP k) Z;have e1:W6 ((k:Int).tmod 9+1)=(k:Int) % 9+1:=by rw[Int.tmod_eq_emod_of_nonneg (by omega),aK]
   have e2:W6 ((k:Int).tdiv 9)=(k:Int) / 9:=by rw[Int.tdiv_eq_ediv_of_nonneg (by omega),aK]
   unfold iq at L;rw[cond_false,cond_false,e1,e2];by_cases C:(k:Int) % 9+1<=5
   ·rw[if_pos C]at L;rw[decide_eq_true C,cond_true,dif_pos ⟨by omega,E⟩,qU];show Option.bind (yN g t _ c) _=_;rw[L,ak,aK (n:=r.last[k]+_) (by unfold iq at D;rw[if_pos C]at D;omega) (by unfold iq at D;rw[if_pos C]at D;omega)];unfold iq wV;rw[if_pos C]
   ·rw[if_neg C]at L;rw[decide_eq_false C,cond_false,dif_pos ⟨by omega,E⟩,qU];show Option.bind (yN g t _ c) _=_;rw[L,ak,aK (n:=r.last[k]+_) (by unfold iq at D;rw[if_neg C]at D;omega) (by unfold iq at D;rw[if_neg C]at D;omega)];unfold iq wV;rw[if_neg C]) (by
  unfold Iw aq xG xI;dsimp only;rw[decide_eq_false (by omega),cond_false]) (bF (by have:=h.len;omega))
 rw[Int.natCast_zero]at e;unfold OI wW xI aW
 refine(congrArg (λo=>Option.bind o _) e).trans ?_
 rw[ak];simp only[Sum.elim_inl];have hL:=U r.last.length (Nat.le_refl _);have hf:=akb h.Cz;cases c.kind==(1:Int)with
 |false=>rfl
 | true=>
  cases Y:(r.bg.length:Int)==(4:Int)with
  |false=>rfl
  | true=>
   have Y:(r.bg.length:Int)=4:=by simpa using Y
   have O:0<r.bg.length:=by omega
   have ha:=h.act _ (List.getElem_mem O);rw[cond_true,cond_true,dif_pos ⟨by omega,O⟩];show some (if W6 (r.bg[0]+t.iI) > _ then W6 (r.bg[0]+t.iI)else _)=_;rw[aK,List.getD_eq_getElem?_getD,List.getElem?_eq_getElem O];rfl
def aDE{g:aP}{t:cI}{r:cP}(h:Fl g t r)(c:aD):0 <= wW g t r c:=by
 have C:=Sg h c _ (Nat.le_refl _);unfold wW wV
 grind
def aDF{g:aP}{t:cI}{r:cP}{c:aD}(h:Fl g t r)(hr:jH g r=true)(C:dc g c=true):Qm g t r c=some (bif decide (wW g t r c > 1000000)then -1 else wW g t r c):=by
 have T:=λk D=>Sg h c k D
 have U:(1<=c.kind/\c.kind<=9)/\(c.kind<=5->0<=c.au/\c.au<aT g):=by
  simp only[dc,Bool.and_eq_true]at C
  refine⟨bA.1 C.2.1,λh5=>?_⟩
  have E:=C.2.2.1;rw[LD (bA.1 C.2.1),decide_eq_true h5]at E;have:=bA.1 E;omega
 have e:=cm (step:=J3) r.last.length (λi=>(((),(),(),(),ta g t r.last c i,r.last,(r.last.length:Int),(i:Int),()),((g.cg,g.ay,g.rows,g.aO,()),t,(r.last,r.bg,()),(c.kind,c.au,c.row,c.bG,()),()))) (.inl (((),(),(),ta g t r.last c r.last.length,()),(t,(r.last,r.bg,()),(c.kind,c.au,c.row,c.bG,()),()))) aQ (λk D=>by
  have E:=h.len;have h2:=(h.last k D).1;have h3:=T k (by omega);have hg:=YI h.Cz g (iq k) c;unfold J3 aq xG xI;dsimp only;rw[decide_eq_true (by omega),cond_true,dif_pos ⟨by omega,by omega⟩,bq];simp only[Int.toNat_natCast];rw[Zw,Zx D];cases hd:decide (r.last[k]<0)with
  |true=>rfl
  | false=>
   have aGf:¬ r.last[k]<0:=by simpa using hd
   have Y:mP g k=true:=by
    rcases(h.last k D).2 with h9|h9
    ·omega
    ·exact h9
   obtain⟨b,eb⟩:=aDC (g:=g) (i:=k) (by omega) Y;rw[cond_false,cond_false,qU,eb,ak];show Option.bind (J2 g t (iq k) c) _=_;rw[aAz t h.qX (akP k) U.1 (aDB Y) U.2,ak,aK (n:=r.last[k]+_)];rfl) (by
  unfold J3 aq xG xI;dsimp only;rw[decide_eq_false (by omega),cond_false]) (bF (by have:=h.len;omega))
 rw[Int.natCast_zero]at e;unfold Qm wW xI aW;rw[Lq,ak,h.Cz,Bool.not_true,cond_false,Yw,ak,hr,Bool.not_true,cond_false,YB,ak,C,Bool.not_true,cond_false]
 refine(congrArg (λo=>Option.bind o _) e).trans ?_
 rw[ak];simp only[Sum.elim_inl];have hL:=T r.last.length (Nat.le_refl _);have hf:=akb h.Cz;have L:∀m:Int,(bif decide (m > 1000000)then some (-1:Int)else some m)=some (bif decide (m > 1000000)then -1 else m):=λm=>by cases decide (m > 1000000)<;>rfl
 cases c.kind==(1:Int)with
 |false=>exact L _
 | true=>
  cases Z:(r.bg.length:Int)==(4:Int)with
  |false=>exact L _
  | true=>
   have Z:(r.bg.length:Int)=4:=by simpa using Z
   have O:0<r.bg.length:=by omega
   have ha:=h.act _ (List.getElem_mem O);rw[cond_true,cond_true,dif_pos ⟨by omega,O⟩];show (bif decide ((if W6 (r.bg[0]+t.iI) > _ then W6 (r.bg[0]+t.iI)else _) > 1000000)then _ else some (if W6 (r.bg[0]+t.iI) > _ then W6 (r.bg[0]+t.iI)else _))=_;rw[aK,List.getD_eq_getElem?_getD,List.getElem?_eq_getElem O];exact L _
def cS(c:av)(x:aD):Bool:=nT c.aX x&&(decide (wW c.config.aB c.config.bQ c.ready x<=1000000)&&decide (wW c.config.aB c.config.bQ c.ready x<=c.now))
structure Pk (c:av):Prop where
 z:ei c
 ok:g9 c=true
 rk:ke c.config.aB c.aX=true
 rdy:jH c.config.aB c.ready=true
 R:Fl c.config.aB c.config.bQ c.ready
 bl:(c.aX.ay.length:Int)=aT c.config.aB
def Pk.of{c:av}(C:ei c)(h:g9 c=true):Pk c:=by
 have U:c.box.bz.weights.length <= 1048576:=C.1.1;have L:=h;simp[g9,Bool.and_eq_true]at h;have⟨O,Y,Z,D,E,h6,h7,h8,h9,Fa,zz,rT,sG,zB,zC,yC,Ct,Fm,Fo,LO,wA,LP⟩:=h;have T:c.aX.ay.length=aT c.config.aB:=by
  simp[ke,Bool.and_eq_true]at D;simp_all
 exact⟨C,L,D,E,aDA (aDy (by omega) O) E,T⟩
def aDG{g:aP}{x:aD}(C:dc g x=true):(1 <= x.kind/\x.kind <= 9)/\(x.kind <= 5 -> 0 <= x.au/\x.au<aT g):=by
 simp[dc,Bool.and_eq_true]at C
 refine⟨bA.1 C.2.1,λE=>?_⟩
 have D:=C.2.2.1;rw[LD (bA.1 C.2.1),decide_eq_true E]at D;have:=bA.1 D;omega
def Sh{c:av}(h:Pk c){x:aD}(C:dc c.config.aB x=true):Bz c x=some (cS c x):=by
 have⟨L,D⟩:=aDG C;have O:=eM c.config.aB;have T:=h.bl;unfold Bz cS;rw[aAv L (λE=>⟨(D E).1,by have:=D E;omega⟩) (by omega),ak,aDD h.R C,ak]
 grind
def wX{c:av}(h:Pk c){x:aD}(C:dc c.config.aB x=true):gL c x=some (cS c x):=by
 have D:=aDE h.R x;unfold gL cS;rw[YC,ak,h.rk,C,Bool.true_and,Bool.true_and,aDF h.R h.rdy C,ak]
 grind
def bY(i:Nat):aa Int->aa Int
 |[]=>[]
 |d::l=>bif decide (d >= 4)then (i:Int)::bY (i+1) l else bY (i+1) l
def aDH(i:Nat)(a b:aa Int):bY i (a++b)=bY i a++bY (i+a.length) b:=by
 induction a generalizing i with
 |nil=>rfl
 | cons d a C=>
  rw[List.cons_append,bY,bY,C,show i+1+a.length=i+(a.length+1) by omega]
  grind
def CA(i:Nat)(l:aa Int):(bY i l).length <= l.length:=by
 induction l generalizing i with
 |nil=>exact Nat.le_refl _
 | cons d l C=>
  have:=C (i+1);unfold bY
  grind
def Zy{l:aa Int}{i:Nat}(h:i<l.length):bY 0 (l.take (i+1))=bif decide (l[i] >= 4)then bY 0 (l.take i)++[(i:Int)]else bY 0 (l.take i):=by
 rw[pS h,aDH,List.length_take,Nat.min_eq_left (by omega),Nat.zero_add];show _++(bif decide _ then _::bY _ []else bY _ [])=_;cases decide (l[i] >= 4)with
 |true=>rfl
 |false=>exact List.append_nil _
def akQ{l:aa Int}{i:Nat}{b:Int}(h:b∈bY i l):∃ j:Nat,b=((i+j:Nat):Int)/\j<l.length/\l.getD j 0 >= 4:=by
 induction l generalizing i with
 |nil=>cases h
 | cons d l D=>
  unfold bY at h;have tl:b∈bY (i+1) l -> ∃ j:Nat,b=((i+j):Int)/\j<(d :: l).length/\(d :: l).getD j 0 >= 4:=λh=>by
   have⟨j,E,L,O⟩:=D h;exact⟨j+1,by rw[E];omega,by simpa using L,by simpa using O⟩
  cases C:decide (d >= 4)with
  | true=>
   rw[C]at h;rcases List.mem_cons.1 h with rfl|h
   ·exact⟨0,rfl,by simp,by simpa using C⟩
   ·exact tl h
  |false =>grind
def lT{r:cK}(h:eG r=true):r.aE.length<=8/\1<=r.aE.length:=by
 simp only[eG,Bool.and_eq_true]at h;have:=bA.1 h.2.1;omega
def Zz{r:cK}(C:eG r=true):EG r=some (bY 0 r.aE):=by
 have E:=lT C;unfold EG aW;rw[Lt _ (by omega),ak,C,Bool.not_true,cond_false];have e:=cm (step:=JR) r.aE.length (λi=>(((),r.aE,(r.aE.length:Int),(i:Int),()),(bY 0 (r.aE.take i),()))) (.inl (((),()),(bY 0 r.aE,()))) aQ (λi h=>by
  have D:=CA 0 (r.aE.take i);rw[List.length_take]at D;unfold JR aq xG xI;dsimp only;rw[decide_eq_true (by omega),cond_true,dif_pos ⟨by omega,by omega⟩,bq,Zy h];simp only[Int.toNat_natCast];cases decide (r.aE[i] >= 4)with
  |true=>rw[cond_true,cond_true,List.length_singleton,cM,cond_true]
  |false=>rfl) (by
  unfold JR aq xG xI;dsimp only;rw[decide_eq_false (by omega),cond_false,List.take_length]) (bF)
 rw[Int.natCast_zero]at e
 refine(congrArg (λo=>Option.bind o _) e).trans ?_
 rfl
def akR{r:cK}(C:eG r=true):Ik r=some (bY 0 r.aE):=by
 have E:=lT C;unfold Ik aW;have e:=cm (step:=Ij) r.aE.length (λi=>(((),(),(i:Int),()),((r.aE,r.wait,r.dj,()),bY 0 (r.aE.take i),()))) (.inl (((),()),(bY 0 r.aE,()))) aQ (λi h=>by
  have D:=CA 0 (r.aE.take i);rw[List.length_take]at D;unfold Ij aq xG xI;dsimp only;rw[decide_eq_true (by omega),cond_true,show (⟨r.aE,r.wait,r.dj⟩:cK)=r from rfl,RK _ (by omega),ak,C,cond_true,dif_pos ⟨by omega,by omega⟩,bq,Zy h];simp only[Int.toNat_natCast];cases decide (r.aE[i] >= 4)with
  |true=>rw[cond_true,cond_true,List.length_singleton,cM,cond_true]
  |false=>rfl) (by
  unfold Ij aq xG xI;dsimp only;rw[decide_eq_false (by omega),cond_false,List.take_length]) (bF)
 rw[Int.natCast_zero,List.take_zero]at e
 refine(congrArg (λo=>Option.bind o _) e).trans ?_
 rfl
def uU(c:av):Bool:=decide ((c.queue.length:Int) > 0) ||(decide ((c.pending.length:Int) > 0) ||decide (((bY 0 c.aL.aE).length:Int) > 0))
def akS{c:av}(C:eG c.aL=true):zc c=some (uU c):=by
 unfold zc uU;rw[Zz C]
 grind
def akT{c:av}(C:eG c.aL=true):Bp c=some (uU c):=by
 unfold Bp uU;rw[akR C]
 grind
def td(r:jw)(p:dL)(b:Bool):Int:=
 bif b then (bif p.state==1 then 7 else bif p.state==2 then 9 else 0)else bif p.state==0&&decide (p.idle >= r.sleep)then 8 else bif p.state==0&&decide (p.idle >= r.down)then 6 else bif p.state==1&&decide (p.idle >= r.sleep)then 7 else 0
def aDI(r:jw)(p:dL)(b:Bool)(C:zu r=true)(D:iY p=true):Qn r p b=some (td r p b):=by
 unfold Qn td;rw[ajG,ak,C,Bool.not_true,RM,ak,D,Bool.not_true]
 grind
def aDJ(r:jw)(p:dL)(b:Bool)(C:zu r=true)(D:iY p=true):OF r p b=some (td r p b):=by
 unfold OF td;simp[ajH,RN,C,D,cond_false]
 grind
def aDK(r:jw)(p:dL)(b:Bool):td r p b=0 \/ 6 <= td r p b/\td r p b <= 9:=by
 unfold td
 grind
def zH(D:Nat->Bool)(v:Nat->Int)(C:Int)(i:Nat):Int:=bif D i&&(decide (C<0) ||decide (v i > v C.toNat))then (i:Int)else C
def ju(C:Nat->Bool)(v:Nat->Int)(k:Nat):Int:=(List.range k).foldl (zH C v) (-1)
def Fp(C:Nat->Bool)(v:Nat->Int)(k:Nat):ju C v (k+1)=zH C v (ju C v k) k:=by
 unfold ju;rw[List.range_succ,List.foldl_append];rfl
def uV(C:Nat -> Bool)(v:Nat -> Int):∀ k,-1 <= ju C v k/\ju C v k<k
 |0=>⟨Int.le_refl _,by show (-1)<0;omega⟩
 | k+1=>by
  have D:=uV C v k;rw[Fp];unfold zH
  grind
def ZA(C:Nat -> Bool)(v:Nat -> Int):∀ k,ju C v k = -1 \/ C (ju C v k).toNat=true
 |0=>.inl rfl
 | k+1=>by
  have D:=ZA C v k;rw[Fp];unfold zH
  grind
def ZB{C:Nat -> Bool}(v:Nat -> Int){i:Nat}(h:C i=true):∀ k,i<k -> 0 <= ju C v k
 |0,D=>by omega
 | k+1,D=>by
  have E:=uV C v k;rw[Fp];unfold zH;by_cases L:i=k
  ·grind
  ·have O:=ZB v h k (by omega)
   grind
def tf(l:aa bM)(w:aa Bool):Int:=ju (λi=>w.getD i false) (λi=>(l.getD i ⟨0,0⟩).dU) (min l.length w.length)
def LQ(l:aa bM)(w:aa Bool)(U:l.length<1073741824):EN l w=some (tf l w):=by
 unfold EN tf aW;generalize Y:min l.length w.length=n;have e:=cm (step:=J6) n (λi=>((l,w,ju (λi=>w.getD i false) (λi=>(l.getD i ⟨0,0⟩).dU) i,(i:Int),()),())) (.inl ((ju (λi=>w.getD i false) (λi=>(l.getD i ⟨0,0⟩).dU) n,()),())) aQ (λi h=>by
  have C:i<l.length:=by omega
  have O:i<w.length:=by omega
  have T:=uV (λi=>w.getD i false) (λi=>(l.getD i ⟨0,0⟩).dU) i;rw[Fp];generalize ju (λi=>w.getD i false) (λi=>(l.getD i ⟨0,0⟩).dU) i=D at T;unfold J6 zH aq xG xI;dsimp only;rw[decide_eq_true (by omega),cond_true,decide_eq_true (by omega),cond_true,dif_pos ⟨by omega,by omega⟩,bq];simp only[Int.toNat_natCast,List.getD_eq_getElem?_getD,List.getElem?_eq_getElem O,List.getElem?_eq_getElem C,Option.getD_some];cases w[i]with
  |false=>rfl
  | true=>
   rw[cond_true,Bool.true_and];by_cases E:D<0
   ·rw[decide_eq_true E];rfl
   ·have L:D.toNat<l.length:=by omega
    rw[decide_eq_false E,dif_pos ⟨by omega,C⟩,dif_pos ⟨by omega,L⟩,List.getElem?_eq_getElem L,Option.getD_some];cases decide (l[i].dU > l[D.toNat].dU)<;>rfl) (by
  unfold J6 aq xG xI;dsimp only;by_cases C:n<l.length
  ·rw[decide_eq_true (by omega),cond_true,decide_eq_false (by omega),cond_false]
  ·rw[decide_eq_false (by omega),cond_false]) (bF)
 rw[Int.natCast_zero]at e
 refine(congrArg (λo=>Option.bind o _) e).trans ?_
 rfl
def aDL:OT=EN:=rfl
def qY(s:bM):bM:=⟨s.weight,s.weight⟩
def gP(l:aa bM):aa bM:=l.map qY
def ZC(l:aa bM)(w:aa Bool)(C:l.length<1073741824):iter EO aQ ((w,(),(l.length:Int),(0:Int),()),(l,()))=some (.inl ((w,(),()),(gP l,()))):=by
 have e:=cm (step:=EO) _ (λi=>((w,(),l.length,i,()),(upto qY l i,()))) (.inl ((w,(),()),(gP l,()))) aQ (λi h=>by
  have hlen:=zm qY l i;unfold EO aq xG xL;dsimp only;rw[decide_eq_true (by omega),cond_true,dif_pos ⟨by omega,by omega⟩,dif_pos (by omega),dif_pos ⟨by omega,by omega⟩,dif_pos (by omega),bq];simp only[Int.toNat_natCast];rw[E2 qY l i h,<- E3 qY l i h];rfl) (by
  unfold EO aq xG xL;dsimp only;rw[decide_eq_false (by omega),cond_false,E1];rfl) (bF C)
 exact e
def aDM(l:aa bM)(w:aa Bool)(C:l.length<1073741824):iter D9 aQ ((w,(),(0:Int),()),(l,()))=some (.inl ((w,(),()),(gP l,()))):=by
 have e:=cm (step:=D9) _ (λi=>((w,(),i,()),(upto qY l i,()))) (.inl ((w,(),()),(gP l,()))) aQ (λi h=>by
  have hlen:=zm qY l i;unfold D9 aq xG xL;dsimp only;rw[decide_eq_true (by omega),cond_true,dif_pos ⟨by omega,by omega⟩,dif_pos (by omega),dif_pos ⟨by omega,by omega⟩,dif_pos (by omega),bq];simp only[Int.toNat_natCast];rw[E2 qY l i h,<- E3 qY l i h];rfl) (by
  have hlen:=zm qY l l.length;unfold D9 aq xG xL;dsimp only;rw[decide_eq_false (by omega),cond_false,E1];rfl) (bF C)
 exact e
def akU(l:aa bM)(w:aa Bool)(C:l.length<1073741823):IK l w=oG l w:=by
 unfold IK oG xA xC aW xL xZ;rw[List.nil_append,aDL,LQ l w (by omega),Ls _ (by omega),Yo _ (by omega),ak];rw[ZC l w (by omega),aDM l w (by omega)];rfl
def ZD{l:aa bM}(w:aa Bool)(U:l.length<1073741823)(D:gO l=true)(Y:l.length=w.length):∃ y t,oG l w=some (y,t)/\y.length=l.length:=by
 unfold oG xA xC aW xL xZ;have Z:=uV (λi=>w.getD i false) (λi=>(l.getD i ⟨0,0⟩).dU) (min l.length w.length);have E:(gP l).length=l.length:=by simp[gP]
 have L:=uV (λi=>w.getD i false) (λi=>((gP l).getD i ⟨0,0⟩).dU) (min (gP l).length w.length);have O:=ZA (λi=>w.getD i false) (λi=>(l.getD i ⟨0,0⟩).dU) (min l.length w.length);rw[List.nil_append,LQ l w (by omega),ak,Ls _ (by omega),ak,D,Bool.not_true,cond_false,List.length_nil,Nat.zero_add,cM,cond_true];unfold tf;generalize hr:ju (λi=>w.getD i false) (λi=>(l.getD i ⟨0,0⟩).dU) (min l.length w.length)=b at *
 by_cases T:b<0
 ·simp_all
 ·have C:b.toNat<l.length:=by omega
  rw[decide_eq_false T,cond_false,dif_pos ⟨by omega,C⟩,dif_pos C];dsimp only;cases l[b.toNat].dU==0 with
  |false =>simp_all
  | true=>
   rw[cond_true,ZC l w (by omega),ak];simp only[Sum.elim_inl];rw[LQ _ w (by omega),ak];have hp:0 <= tf (gP l) w:=ZB _ (i:=b.toNat) (by rcases O with h|h;exact absurd h (by omega);exact h) _ (by rw[E];omega);have hq:tf (gP l) w<((min (gP l).length w.length:Nat):Int):=L.2;simp_all
def zI(m:iF)(n:Int)(a:aF):aF:=bif m.hash then ⟨(a.au+a.row) % n,a.row,a.bG⟩else a
def wY(g:aP)(m:iF)(l:Int):aF:=zI m (aT g)
 (bif m.order==0 then ⟨l / g.aO % aT g,l / g.aO / aT g,l % g.aO⟩else bif m.order==1 then ⟨l % aT g,l / aT g / g.aO,l / aT g % g.aO⟩else ⟨l / g.aO / g.rows,l / g.aO % g.rows,l % g.aO⟩)
def Fq{l a b:Int}(C:0<=l)(D:0<b)(h:l<a*b):0<=l / b/\l / b<a/\l / b<=l:=by
 refine⟨Int.ediv_nonneg C (by omega),Int.ediv_lt_of_lt_mul D h,?_⟩;exact Int.ediv_le_self _ C
def zJ{l b:Int}(C:0<b):0<=l % b/\l % b<b:=⟨Int.emod_nonneg _ (by omega),Int.emod_lt_of_pos _ C⟩
def ZE{m:iF}{n:Int}{a:aF}(C:0<n)(D:0 <= a.au/\a.au<n):0 <= (zI m n a).au/\(zI m n a).au<n/\(zI m n a).row=a.row/\(zI m n a).bG=a.bG:=by
 unfold zI;cases m.hash with
 |false=>simp_all
 |true=>exact⟨(zJ C).1,(zJ C).2,rfl,rfl⟩
def ZF{m:iF}{n b r c:Int}(C:0<n)(D:n<=8)(E:0<=b/\b<=100000)(L:0<=r/\r<=100000):(bif m.hash then if n=0 then none else some ((⟨(W6 (b+r)).tmod n,r,c⟩:aF),true)else some ((⟨b,r,c⟩:aF),true))=some (zI m n ⟨b,r,c⟩,true):=by
 unfold zI;cases m.hash with
 |false=>rfl
 |true=>rw[cond_true,if_neg (by omega),aK,Int.tmod_eq_emod_of_nonneg (by omega),cond_true]
def akV{g:aP}{m:iF}{l:Int}(T:cq g=true)(hm:aI m.order 0 2=true)(D:0<=l)(hl:l<eN g):∀ (f:ah (aF×Bool)),f=(bif (m.order==(0:Int))then if g.aO=0 then none else if g.aO=0 then none else if aT g=0 then none else if g.aO=0 then none else if aT g=0 then none else bif m.hash then if aT g=0 then none else some ((⟨((W6 (((W6 (l.tdiv g.aO)).tmod (aT g))+(W6 ((W6 (l.tdiv g.aO)).tdiv (aT g))))).tmod (aT g)),(W6 ((W6 (l.tdiv g.aO)).tdiv (aT g))),(l.tmod g.aO)⟩:aF),true)else some ((⟨((W6 (l.tdiv g.aO)).tmod (aT g)),(W6 ((W6 (l.tdiv g.aO)).tdiv (aT g))),(l.tmod g.aO)⟩:aF),true)else bif (m.order==(1:Int))then if aT g=0 then none else if aT g=0 then none else if g.aO=0 then none else if aT g=0 then none else if g.aO=0 then none else bif m.hash then if aT g=0 then none else some ((⟨((W6 ((l.tmod (aT g))+(W6 ((W6 (l.tdiv (aT g))).tdiv g.aO)))).tmod (aT g)),(W6 ((W6 (l.tdiv (aT g))).tdiv g.aO)),((W6 (l.tdiv (aT g))).tmod g.aO)⟩:aF),true)else some ((⟨(l.tmod (aT g)),(W6 ((W6 (l.tdiv (aT g))).tdiv g.aO)),((W6 (l.tdiv (aT g))).tmod g.aO)⟩:aF),true)else if g.aO=0 then none else if g.aO=0 then none else if g.rows=0 then none else if g.aO=0 then none else if g.rows=0 then none else bif m.hash then if aT g=0 then none else some ((⟨((W6 ((W6 ((W6 (l.tdiv g.aO)).tdiv g.rows))+((W6 (l.tdiv g.aO)).tmod g.rows))).tmod (aT g)),((W6 (l.tdiv g.aO)).tmod g.rows),(l.tmod g.aO)⟩:aF),true)else some ((⟨(W6 ((W6 (l.tdiv g.aO)).tdiv g.rows)),((W6 (l.tdiv g.aO)).tmod g.rows),(l.tmod g.aO)⟩:aF),true))->f=some (wY g m l,true)/\ey g (wY g m l)=true:=by
 have hb:=eM g;have hp:=ajg T;have hL:=mK g;have gb:=eK T;have eL:eN g=aT g*g.rows*g.aO:=by simp[eN,T]
 have vp:aI l 0 (W6 (eN g-1))=true:=by rw[aK];exact bA.2 ⟨D,by omega⟩
 have ho:=bA.1 hm;rw[eL]at hl;have Si:¬ aT g=0:=by omega
 have vL:¬ g.aO=0:=by omega
 have gA:¬ g.rows=0:=by omega
 rintro f rfl;simp only[if_neg Si,if_neg vL,if_neg gA];unfold wY;by_cases o0:m.order=0
 ·have C:=Fq (a:=aT g*g.rows) D (show 0<g.aO by omega) hl;have E:=Fq (l:=l / g.aO) (a:=g.rows) (b:=aT g) C.1 (by omega) (by rw[Int.mul_comm];exact C.2.1);have U:=zJ (l:=l / g.aO) (b:=aT g) (by omega);have a4:=zJ (l:=l) (b:=g.aO) (by omega);rw[o0,beq_self_eq_true,cond_true,cond_true,Int.tdiv_eq_ediv_of_nonneg D,Int.tmod_eq_emod_of_nonneg D,aK (n:=l / g.aO),Int.tdiv_eq_ediv_of_nonneg C.1,Int.tmod_eq_emod_of_nonneg C.1,aK (n:=l / g.aO / aT g)];obtain⟨Y,Z,L,O⟩:=ZE (m:=m) (n:=aT g) (a:=⟨l / g.aO % aT g,l / g.aO / aT g,l % g.aO⟩) (by omega) U;refine⟨?_,Cf T Y Z (by rw[L];exact E.1) (by rw[L];exact E.2.1) (by rw[O];exact a4.1) (by rw[O];exact a4.2)⟩;refine Eq.trans ?_ (ZF (by omega) (by omega) (by omega) (by omega));rw[if_neg Si]
 ·rw[jF o0,cond_false,cond_false];by_cases o1:m.order=1
  ·have C:=Fq (a:=g.rows*g.aO) D (show 0<aT g by omega) (by rw[Int.mul_comm,<-Int.mul_assoc];exact hl);have E:=Fq (l:=l / aT g) (a:=g.rows) (b:=g.aO) C.1 (by omega) C.2.1;have U:=zJ (l:=l) (b:=aT g) (by omega);have a4:=zJ (l:=l / aT g) (b:=g.aO) (by omega);rw[o1,beq_self_eq_true,cond_true,cond_true,Int.tdiv_eq_ediv_of_nonneg D,Int.tmod_eq_emod_of_nonneg D,aK (n:=l / aT g),Int.tdiv_eq_ediv_of_nonneg C.1,Int.tmod_eq_emod_of_nonneg C.1,aK (n:=l / aT g / g.aO)];obtain⟨Y,Z,L,O⟩:=ZE (m:=m) (n:=aT g) (a:=⟨l % aT g,l / aT g / g.aO,l / aT g % g.aO⟩) (by omega) U;refine⟨?_,Cf T Y Z (by rw[L];exact E.1) (by rw[L];exact E.2.1) (by rw[O];exact a4.1) (by rw[O];exact a4.2)⟩;refine Eq.trans ?_ (ZF (by omega) (by omega) (by omega) (by omega));rw[if_neg Si]
  ·have C:=Fq (a:=aT g*g.rows) D (show 0<g.aO by omega) hl;have E:=Fq (l:=l / g.aO) (a:=aT g) (b:=g.rows) C.1 (by omega) C.2.1;have U:=zJ (l:=l / g.aO) (b:=g.rows) (by omega);have a4:=zJ (l:=l) (b:=g.aO) (by omega);rw[jF o1,cond_false,cond_false,Int.tdiv_eq_ediv_of_nonneg D,Int.tmod_eq_emod_of_nonneg D,aK (n:=l / g.aO),Int.tdiv_eq_ediv_of_nonneg C.1,Int.tmod_eq_emod_of_nonneg C.1,aK (n:=l / g.aO / g.rows)];obtain⟨Y,Z,L,O⟩:=ZE (m:=m) (n:=aT g) (a:=⟨l / g.aO / g.rows,l / g.aO % g.rows,l % g.aO⟩) (by omega) ⟨E.1,E.2.1⟩;refine⟨?_,Cf T Y Z (by rw[L];exact U.1) (by rw[L];exact U.2) (by rw[O];exact a4.1) (by rw[O];exact a4.2)⟩;refine Eq.trans ?_ (ZF (by omega) (by omega) (by omega) (by omega));rw[if_neg Si]
def akW{g:aP}{m:iF}{l:Int}(C:cq g=true)(D:aI m.order 0 2=true)(E:0<=l)(L:l<eN g):Qp g m l=some (wY g m l,true)/\ey g (wY g m l)=true:=by
 have T:=mK g;have O:aI l 0 (W6 (eN g-1))=true:=by rw[aK];exact bA.2 ⟨E,by omega⟩
 refine akV C D E L _ ?_;unfold Qp;rw[wO,ak,C,Bool.not_true,cond_false,Yl,ak,D,Bool.not_true,cond_false,Le,ak,c9,ak,O,Bool.not_true,cond_false,mJ,ak]
def aDN{g:aP}{m:iF}{l:Int}(E:cq g=true)(C:aI m.order 0 2=true)(D:0<=l)(L:l<eN g):ON g m l=some (wY g m l,true):=by
 have T:=mK g;have O:aI l 0 (W6 (eN g-1))=true:=by rw[aK];exact bA.2 ⟨D,by omega⟩
 refine(akV E C D L _ ?_).1;unfold ON;rw[show DO m=some (aI m.order 0 2)from Yl m,ak,C,Bool.not_true,cond_false,Lg,ak,dP,ak,O,Bool.not_true,cond_false,qQ,ak]
def fL(c:av)(l:Int):aF:=
 let a:=wY (ij c.config.aB c.spare) c.config.mapping l
 ⟨a.au,c.spare.map.getD (a.au*(c.config.aB.rows-c.spare.bT)+a.row).toNat 0,a.bG⟩
def ZG{g:aP}{s:eg}(h:lP g s=true):ij g s=⟨g.cg,g.ay,g.rows-s.bT,g.aO⟩/\cq g=true/\cq (ij g s)=true/\aT (ij g s)=aT g/\0 <= s.bT/\s.bT <= 2/\2 <= g.rows-s.bT/\g.rows <= 16:=by
 have D:=h;simp[lP,Bool.and_eq_true]at h;have⟨C,E,L,O,T⟩:=RG h.1;have Y:=eK C;have e:ij g s=⟨g.cg,g.ay,g.rows-s.bT,g.aO⟩:=by
  unfold ij;rw[D,cond_true,aK]
 have U:cq (ij g s)=true:=by
  rw[e];unfold cq;simp[Bool.and_eq_true,bA];omega
 refine⟨e,C,U,?_,E,L,O,T⟩;unfold aT;simp_all
def akX{g:aP}{s:eg}(h:lP g s=true){b r:Int}(O:0 <= b/\b<aT g)(T:0 <= r/\r<g.rows-s.bT):(b*(g.rows-s.bT)+r).toNat<s.map.length/\0 <= s.map.getD (b*(g.rows-s.bT)+r).toNat 0/\s.map.getD (b*(g.rows-s.bT)+r).toNat 0<g.rows:=by
 have⟨_,hg,_,_,h1,h2,h3,h4⟩:=ZG h;have U:=eM g;simp only[lP,Bool.and_eq_true,beq_iff_eq,List.all_eq_true,List.mem_range]at h;have⟨_,C,Y⟩:=h;obtain⟨b,rfl⟩:=Int.eq_ofNat_of_zero_le O.1;obtain⟨r,rfl⟩:=Int.eq_ofNat_of_zero_le T.1;have⟨R,D⟩:=Int.eq_ofNat_of_zero_le (show 0 <= g.rows-s.bT by omega);have⟨E,Z⟩:=Int.eq_ofNat_of_zero_le U.1;rw[D,Z,Int.toNat_natCast,Int.toNat_natCast]at C;have C:s.map.length=E*R:=by exact_mod_cast C
 have CW:b<E:=by omega
 have L:r<R:=by omega
 have e:((b:Int)*(g.rows-s.bT)+(r:Int)).toNat=b*R+r:=by rw[D,<- Int.natCast_mul,<- Int.natCast_add,Int.toNat_natCast]
 have cU:=Cp (R:=R) CW (show r+1 <= R from L);have hi:b*R+r<s.map.length:=by omega
 have h5:=Y b (by omega) r (by omega);rw[e];refine⟨hi,?_⟩;rw[List.getD_eq_getElem?_getD,List.getElem?_eq_getElem hi,Option.getD_some];have xu:(iC s.map R b)[r]?=some s.map[b*R+r]:=by rw[Ly,List.getElem?_take_of_lt L,List.getElem?_drop,List.getElem?_eq_getElem hi]
 rw[D,Int.toNat_natCast]at h5;unfold pZ at h5;rw[xu]at h5;simp only[Bool.or_eq_true,Bool.and_eq_true,beq_iff_eq,bA]at h5;rcases h5 with h5|h5
 ·omega
 ·grind
def aDO{c:av}(h:Pk c)(E:lP c.config.aB c.spare=true)(he:c.spare.bT=c.config.bT)(hm:aI c.config.mapping.order 0 2=true){l:Int}(h0:0 <= l)(hl:l<eN (ij c.config.aB c.spare)):uD c l=some (fL c l,true)/\ey c.config.aB (fL c l)=true:=by
 have⟨e1,hg,xB,eb,s1,s2,s3,s4⟩:=ZG E;have⟨m1,m3⟩:=akW xB hm h0 hl;have⟨_,C,D,L,O,b5,b6⟩:=qR m3;rw[eb]at D;have gb:=eK hg;have U:=eM c.config.aB;have er:(ij c.config.aB c.spare).rows=c.config.aB.rows-c.spare.bT:=by rw[e1]
 have ec:(ij c.config.aB c.spare).aO=c.config.aB.aO:=by rw[e1]
 rw[er]at O;rw[ec]at b6;have⟨k1,k2,k3⟩:=akX E ⟨C,D⟩ ⟨L,O⟩;have hmul:=uE C D L O;have hM:=Rx (a:=aT c.config.aB) (b:=c.config.aB.rows-c.spare.bT) (A:=8) (B:=16) U.1 U.2 (by omega) (by omega);unfold fL;generalize hA:wY (ij c.config.aB c.spare) c.config.mapping l=A at *
 dsimp only;refine⟨?_,Cf hg C D k2 k3 b5 b6⟩;unfold uD;rw[Yy,ak,m1,ak];dsimp only;rw[Bool.not_true,cond_false];unfold XK xI;have hx:Qo (ij c.config.aB c.spare) A.au A.row=some true:=by
  unfold Qo;rw[X7,ak,Cf (a:=⟨A.au,A.row,0⟩) xB C (by rw[eb];exact D) L (by rw[er];exact O) (Int.le_refl 0) (by rw[ec];show 0<_;omega)]
 have⟨b,hbN⟩:=Int.eq_ofNat_of_zero_le C;have⟨r,hrN⟩:=Int.eq_ofNat_of_zero_le L;have⟨R,hR⟩:=Int.eq_ofNat_of_zero_le (show 0 <= c.config.aB.rows-c.spare.bT by omega);have⟨bn,hn⟩:=Int.eq_ofNat_of_zero_le U.1;have Y:c.spare.map.length=bn*R:=by
  simp only[lP,Bool.and_eq_true,beq_iff_eq]at E;have:=E.2.1
  grind
 have T:b<bn:=by omega
 have Z:r<R:=by omega
 have cU:=Cp (R:=R) T (show r+1 <= R from Z);have aDP:=Cp (R:=R) T (Nat.le_refl R);have hi:b*R+r<c.spare.map.length:=by omega
 rw[Yy,ak,hx,ak,Bool.not_true,cond_false,hbN,ajS hR (by omega) (by omega) T Y,ak];have ht:((c.spare.map.take ((b+1)*R)).drop (b*R))=iC c.spare.map R b:=rfl;have ku:(iC c.spare.map R b).length=R:=Yx (by rw[Y];exact Nat.mul_le_mul_right R T);have hgx:(iC c.spare.map R b)[r]?=some c.spare.map[b*R+r]:=by rw[Ly,List.getElem?_take_of_lt Z,List.getElem?_drop,List.getElem?_eq_getElem hi]
 have hgy:(iC c.spare.map R b)[r]'(by omega)=c.spare.map[b*R+r]:=by
  grind
 dsimp only;rw[Nat.ble_eq_true_of_le (by rw[Nat.succ_mul];omega),Nat.ble_eq_true_of_le (by rw[Nat.succ_mul,Y];omega),Bool.true_and,cond_true,hrN,dif_pos ⟨by omega,by rw[ht,ku,Int.toNat_natCast];exact Z⟩];simp only[Int.toNat_natCast,ht,hgy,ak];rw[hR,<- Int.natCast_mul,<- Int.natCast_add,Int.toNat_natCast,List.getD_eq_getElem?_getD,List.getElem?_eq_getElem hi,Option.getD_some]
def aDQ{c:av}(h:Pk c)(L:lP c.config.aB c.spare=true)(he:c.spare.bT=c.config.bT)(O:aI c.config.mapping.order 0 2=true){l:Int}(T:0<=l)(U:l<eN (ij c.config.aB c.spare)):wz c l=some (fL c l):=by
 obtain⟨C,hg,Y,eb,s1,s2,s3,s4⟩:=ZG L;obtain⟨m1,m3⟩:=akW Y O T U;have m2:=aDN Y O T U;obtain⟨_,Z,D,b3,E,b5,b6⟩:=qR m3;rw[eb]at D;have gb:=eK hg;have hb:=eM c.config.aB;have er:(ij c.config.aB c.spare).rows=c.config.aB.rows-c.spare.bT:=by rw[C]
 have ec:(ij c.config.aB c.spare).aO=c.config.aB.aO:=by rw[C]
 rw[er]at E;rw[ec]at b6;obtain⟨k1,k2,k3⟩:=akX L ⟨Z,D⟩ ⟨b3,E⟩;have hmul:=uE Z D b3 E;have hM:=Rx (a:=aT c.config.aB) (b:=c.config.aB.rows-c.spare.bT) (A:=8) (B:=16) hb.1 hb.2 (by omega) (by omega);unfold fL;generalize hA:wY (ij c.config.aB c.spare) c.config.mapping l=A at *
 dsimp only;unfold wz xI;have hw:W6 (c.config.aB.rows-c.config.bT)=c.config.aB.rows-c.spare.bT:=by rw[<-he];exact aK
 have hw1:W6 (A.au*(c.config.aB.rows-c.spare.bT))=A.au*(c.config.aB.rows-c.spare.bT):=aK;have hw2:W6 (A.au*(c.config.aB.rows-c.spare.bT)+A.row)=A.au*(c.config.aB.rows-c.spare.bT)+A.row:=aK;simp only[hw];rw[<-C,m2,ak];simp only[hw1,hw2];rw[dif_pos ⟨hmul.2.1,k1⟩,List.getD_eq_getElem?_getD,List.getElem?_eq_getElem k1,Option.getD_some]
def Fs{c:gp}{p:eE}(C:p.weights.length<1073741823)(h:nU c p=true):mN c=true/\uI p=true:=by
 have⟨b,e,E⟩:=Yr c p C;have L:b=true:=by
  rw[R6 c p C]at e;simp_all
 subst L;have D:=E rfl;refine⟨D,?_⟩;unfold uA at e;have⟨y,O⟩:=Yq p.eI;simp[Ym,Yp _ C,D]at e
 grind
structure Pq (c:av):Prop where
 p:Pk c
 sp:lP c.config.aB c.spare=true
 se:c.spare.bT=c.config.bT
 mo:aI c.config.mapping.order 0 2=true
 q:∀r∈c.queue,(0<=r.line/\r.line<eN (ij c.config.aB c.spare))/\(0<=r.de/\r.de<=3)/\(0<=r.at_/\r.at_<=1000000)
 ql:c.queue.length<=12
 pe:∀a∈c.pending,ey c.config.aB a=true
 pl:c.pending.length<=128
 rf:eG c.aL=true
 dl:(c.aL.aE.length:Int)=aT c.config.aB
 sh:gO c.shares=true
 shl:c.shares.length=4
 dr:nQ c.drain=true
 pw:iY c.aS=true
 ps:c.aS.state=c.aX.aS
 nw:0<=c.now/\c.now<=1000000
 cap:0<=c.box.bz.cap/\c.box.bz.cap<=100000
 dO:zu c.box.bz.dO=true
def Pq.of{c:av}(E:ei c)(h:g9 c=true):Pq c:=by
 have O:=Pk.of E h;have z1:c.box.bz.weights.length <= 1048576:=E.1.1;simp only[g9,Bool.and_eq_true]at h;have⟨T,h2,U,h4,h5,h6,Y,Z,D,L,zz,rT,sG,zB,zC,yC,Ct,Fm,Fo,LO,wA,LP⟩:=h;have⟨f1,f2⟩:=Fs (by omega) T;simp only[mN,Bool.and_eq_true]at f1;simp only[uI,Bool.and_eq_true]at f2;have⟨f3,f4,f5,f6,f7,f8,f9⟩:=f2;simp only[qV,Bool.and_eq_true,beq_iff_eq,Bool.not_eq_true',decide_eq_false_iff_not,List.all_eq_true,List.mem_range]at D;have⟨D,g1,g2,g3,g4,g5,g6⟩:=D;simp only[nS,Bool.and_eq_true,List.all_eq_true,List.mem_range,decide_eq_true_eq]at L;have⟨q1,q2⟩:=L;have lN:c.shares.length=4:=by
  grind
 refine⟨O,Y,by simpa using Z,f1.2.2.1,λr hr=>?_,by omega,λa ha=>?_,by omega,D,g1,zz,lN,sG,zB,by simpa using zC,bA.1 U,bA.1 f4,f9⟩
 ·obtain⟨i,hi,rfl⟩:=List.mem_iff_getElem.1 hr;have C:=q1 i hi;unfold pY at C;rw[List.getElem?_eq_getElem hi]at C;simp[nR,Bool.and_eq_true,decide_eq_true_eq]at C;have⟨⟨k1,k2,k3,k4,k5,k6,k7⟩,_⟩:=C;exact⟨⟨k3,k4⟩,bA.1 k2,bA.1 k7⟩
 ·obtain⟨i,hi,rfl⟩:=List.mem_iff_getElem.1 ha;have C:=g6 i hi;unfold sF at C;simp_all
def uW(r:bV)(a:aF):Bool:=(gY r a.au).open_&&((gY r a.au).row==a.row)
def CB(r:bV)(a:aF)(w:Bool):aD:=
 bif !(gY r a.au).open_ then ⟨1,a.au,a.row,0⟩else bif (gY r a.au).row != a.row then ⟨4,a.au,0,0⟩else bif w then ⟨3,a.au,0,a.bG⟩else ⟨2,a.au,0,a.bG⟩
def zK{r:bV}{b:Int}(h:b.toNat<r.ay.length):gY r b=r.ay[b.toNat]:=by
 unfold gY;rw[List.getD_eq_getElem?_getD,List.getElem?_eq_getElem h];rfl
def LR{b:Int}{n:Nat}(C:0<=b)(h:b.toNat<n)(D:n<=1048576):aI b 0 (W6 ((n:Int)-1))=true:=by
 rw[aK];exact bA.2 ⟨C,by omega⟩
def Sj{r:bV}{a:aF}(w:Bool)(C:0 <= a.au)(h:a.au.toNat<r.ay.length)(D:r.ay.length <= 1048576):wJ r a w=some (CB r a w):=by
 unfold wJ CB xI;rw[c9,ak,LR C h D,Bool.not_true,dif_pos ⟨C,h⟩,zK h]
 grind
def akY:yO=wJ:=rfl
def akZ{r:bV}{b:Int}(C:0 <= b)(h:b.toNat<r.ay.length)(D:r.ay.length <= 1048576):J5 r b=some (bif (gY r b).open_ then (gY r b).row else -1):=by
 unfold J5 xI;rw[c9,ak,LR C h D,Bool.not_true,dif_pos ⟨C,h⟩,zK h]
 grind
def aDR:OR=J5:=rfl
def aDS{r:bV}{a:aF}(E:0 <= a.row)(C:0 <= a.au)(h:a.au.toNat<r.ay.length)(D:r.ay.length <= 1048576):EM r a=some (uW r a):=by
 unfold EM uW;rw[eU (by omega:¬ a.row = -1),akZ C h D,ak];cases (gY r _).open_ with
 |false=>rw[cond_false,jF (by omega:¬ (-1)=a.row)];rfl
 |true=>rfl
def ak0{r:bV}{a:aF}(E:0 <= a.row)(C:0 <= a.au)(h:a.au.toNat<r.ay.length)(D:r.ay.length <= 1048576):IF r a=some (uW r a):=by
 unfold IF uW;rw[aDR,akZ C h D,ak,ak];cases (gY r _).open_ with
 |false=>simp_all
 | true=>
  rw[cond_true,Bool.true_and];by_cases e:(gY r a.au).row=a.row
  ·rw[e,beq_self_eq_true,cond_true,eU (by omega:¬ a.row = -1)]
  ·grind
def aDT{g:aP}{r:bV}{a:aF}(w:Bool)(h:ey g a=true):dc g (CB r a w)=true:=by
 have⟨D,E,Y,L,Z,O,b6⟩:=qR h;have T:aI _ 0 (aT g-1)=true:=bA.2 ⟨E,by omega⟩;have C:aI a.row 0 (g.rows-1)=true:=bA.2 ⟨L,by omega⟩;have U:aI a.bG 0 (g.aO-1)=true:=bA.2 ⟨O,by omega⟩;unfold CB dc qW;cases (gY r _).open_<;>cases (gY r _).row != a.row<;>cases w<;>simp[D,aI,C]<;>simp[aI,decide_eq_true_eq]at T C U<;>omega
def zL{g:aP}{k b:Int}(C:cq g=true)(D:k=4 \/ k=5)(E:0 <= b/\b<aT g):dc g ⟨k,b,0,0⟩=true:=by
 have L:aI b 0 (aT g-1)=true:=bA.2 ⟨E.1,by omega⟩;unfold dc qW;rcases D with rfl|rfl<;>simp[C,aI]<;>simp[aI,decide_eq_true_eq]at L<;>omega
def aDU{g:aP}{a:aF}(h:ey g a=true):dc g ⟨1,a.au,a.row,0⟩=true:=by
 have⟨C,D,E,L,O,T,U⟩:=qR h;unfold dc qW;simp[C,aI];omega
def Sk{g:aP}{k:Int}(C:cq g=true)(D:6<=k/\k<=9):dc g ⟨k,0,0,0⟩=true:=by
 obtain⟨n,rfl⟩:=Int.eq_ofNat_of_zero_le (show 0<=k by omega);have:n=6\/n=7\/n=8\/n=9:=by omega
 unfold dc;rw[C];rcases this with rfl|rfl|rfl|rfl<;>rfl
def ZH(l:aa aF)(b:Int)(E:l.length<=1048576):BX l b=some (l.any λa=>a.au==b):=by
 have L:=uP (λa:aF=>a.au==b) l;unfold BX XI XH;rw[R8];have e:=cm (step:=EK) (cR (λa:aF=>a.au==b) l) (λi=>((l,b,(l.length:Int),(i:Int),()),())) (if cR (λa:aF=>a.au==b) l<l.length then .inl ((((cR (λa:aF=>a.au==b) l:Nat):Int),()),())else .inr (.inl ((),()))) aQ (λk h=>by
  have D:=lS h (by omega);unfold EK aq aM xG xI;dsimp only;rw[decide_eq_true (by omega),cond_true,dif_pos ⟨by omega,by omega⟩];simp only[Int.toNat_natCast];rw[D,cond_false,bq]) (by
  by_cases C:cR (λa:aF=>a.au==b) l<l.length
  ·have D:=p7 C;unfold EK aq aM xG xI;dsimp only;rw[decide_eq_true (by omega),cond_true,dif_pos ⟨by omega,by omega⟩];simp only[Int.toNat_natCast];rw[D,cond_true,if_pos C]
  ·unfold EK aq aM xG xI;dsimp only;rw[decide_eq_false (by omega),cond_false,if_neg C]) (bF)
 rw[Int.natCast_zero]at e;rw[e];by_cases C:cR (λa:aF=>a.au==b) l<l.length
 ·rw[if_pos C,decide_eq_true C];simp
 ·rw[if_neg C,decide_eq_false C];rfl
def nX(t:bI)(row:Int):ah Nat:=match t.rows.findIdx? (λe=>e==row)with
 |some i=>some i
 |none=>t.counts.findIdx? (λe=>e==t.cE)
def ja(t:bI)(row:Int):bI:=match t.rows.findIdx? (λe=>e==row)with
 |some i=>⟨t.rows,t.counts.set i (t.counts.getD i 0+1),t.cE⟩
 | none=>match t.counts.findIdx? (λe=>e==t.cE)with
  |some i=>⟨t.rows.set i row,t.counts.set i (t.cE+1),t.cE⟩
  |none=>⟨t.rows,t.counts,t.cE+1⟩
def th(t:bI)(row cT:Int):bI×Bool:=bif jt t&&(aI row 0 15&&aI cT 2 1000)then (bif jt (ja t row)then (ja t row,match nX t row with
    |some i=>((ja t row).counts.getD i 0).tmod cT==0
    |none=>false)else (t,false))else (t,false)
structure Tk (t:bI):Prop where
 rl:t.rows.length<=16
 cl:t.counts.length=t.rows.length
 sp:0<=t.cE/\t.cE<=100000
 cs:∀i (h:i<t.counts.length),0<=t.counts[i]/\t.counts[i]<=100000
def Tk.of{t:bI}(h:jt t=true):Tk t:=by
 simp[jt,Bool.and_eq_true,beq_iff_eq,List.all_eq_true,List.mem_range]at h;have⟨D,O,C,L⟩:=h;have D:=bA.1 D;have C:=bA.1 C
 refine⟨by omega,by omega,C,λi hi=>?_⟩
 have E:=L i (by omega);rw[RR (by omega) hi,Bool.and_eq_true,Bool.and_eq_true]at E;have:=bA.1 E.2.1;omega
def LS{T:Type}{p:T -> Bool}{l:aa T}{i:Nat}(h:l.findIdx? p=some i):∃ hi:i<l.length,p l[i]=true:=by
 have⟨hi,C,_⟩:=List.findIdx?_eq_some_iff_getElem.1 h;simp_all
def aDV{t:bI}(h:Tk t)(row:Int):O5 t row=some ((match nX t row with | some i=>(i:Int) | none=>-1),(ja t row,())):=by
 have T:=h.rl;have U:=h.cl;have E:=uJ (step:=IW) t.rows (λe=>e==row) (λi=>(((),row,(i:Int),()),(((),(),t.cE,()),t.rows,t.counts,()))) (λi=>.inl (((i:Int),()),(((),(),t.cE,()),t.rows,t.counts.set i (t.counts.getD i 0+1),()))) (.inr (.inl (((),row,()),(((),(),t.cE,()),t.rows,t.counts,())))) aQ (λk D=>by
  have C:k<t.counts.length:=by omega
  have L:=h.cs k C;unfold IW aq aM xG xL;dsimp only;rw[decide_eq_true (by omega),cond_true,dif_pos ⟨by omega,by omega⟩,dif_pos (by omega)];simp only[Int.toNat_natCast];cases t.rows[k]==row with
  |false=>rw[cond_false,cond_false,bq]
  | true=>
   rw[ dif_pos ⟨by omega,C⟩,dif_pos C,dif_pos ⟨by omega,C⟩,dif_pos C,aK (n:=t.counts[k]+1),List.getD_eq_getElem?_getD,List.getElem?_eq_getElem C];rfl) (by
  unfold IW aq aM xG xL;dsimp only;rw[decide_eq_false (by omega),cond_false]) (bF)
 have O:=uJ (step:=IX) t.counts (λe=>e==t.cE) (λi=>(((),row,(i:Int),()),(((),(),t.cE,()),t.rows,t.counts,()))) (λi=>.inl (((i:Int),()),(((),(),t.cE,()),t.rows.set i row,t.counts.set i (t.cE+1),()))) (.inr (.inl (((),()),(((),(),t.cE,()),t.rows,t.counts,())))) aQ (λk D=>by
  have C:k<t.rows.length:=by omega
  have L:=h.sp;unfold IX aq aM xG xL;dsimp only;rw[decide_eq_true (by omega),cond_true,dif_pos ⟨by omega,by omega⟩,dif_pos (by omega)];simp only[Int.toNat_natCast];cases t.counts[k]==t.cE with
  |false=>rw[cond_false,cond_false,bq]
  |true=>rw[cond_true,cond_true,dif_pos ⟨by omega,C⟩,dif_pos C,dif_pos ⟨by omega,D⟩,dif_pos D,aK]) (by
  unfold IX aq aM xG xL;dsimp only;rw[decide_eq_false (by omega),cond_false]) (bF)
 have Y:=h.sp;unfold O5 nX ja br
 refine(congrArg (λo=>Option.bind o _) E).trans ?_
 rw[ak];cases Z:t.rows.findIdx? (λe=>e==row)with
 |some i=>rfl
 | none=>
  simp only[Sum.elim_inl,Sum.elim_inr]
  refine(congrArg (λo=>Option.bind o _) O).trans ?_
  rw[ak];cases h2:t.counts.findIdx? (λe=>e==t.cE)with
  |some i=>rfl
  | none=>
   simp;rw[aK]
def ZI{t:bI}(row:Int):(ja t row).rows.length=t.rows.length/\(ja t row).counts.length=t.counts.length:=by
 unfold ja
 grind
def ak1{t:bI}(h:Tk t){row:Int}{i:Nat}(hi:nX t row=some i):i<t.counts.length:=by
 have:=h.cl;unfold nX at hi;split at hi
 next j C=>cases hi;have⟨D,_⟩:=LS C;omega
 ·exact(LS hi).1
def ak2(t:bI)(D:gk t)(row cT:Int):IY t row cT=some (th t row cT):=by
 unfold IY th xL;rw[akD t D,ak,Yv,ak];cases E:jt t with
 |false=>rfl
 | true=>
  have C:=Tk.of E;rw[Bool.not_true,cond_false,dP,ak,Bool.true_and];cases T:aI row 0 15 with
  |false=>rfl
  | true=>
   rw[Bool.not_true,cond_false,dP,ak,Bool.true_and];cases L:aI cT 2 1000 with
   |false=>rfl
   | true=>
    have U:=bA.1 L;rw[Bool.not_true,cond_false,cond_true,aDV C,ak,Yv,ak];dsimp only;cases Y:jt (ja t row)with
    |false =>simp_all
    | true=>
     rw[Bool.not_true,cond_false,cond_true];cases O:nX t row with
     |none=>rfl
     | some i=>
      have hi:i<(ja t row).counts.length:=by rw[(ZI row).2];exact ak1 C O
      grind
def aDW(t:bI)(hz:gk t)(row cT:Int):QF t row cT=some (th t row cT):=by
 have sw:∀x:Int,(λe:Int=>x==e)=λe=>e==x:=λx=>funext λe=>by rw[Bool.eq_iff_iff,beq_iff_eq,beq_iff_eq];exact eq_comm
 unfold QF th xL;rw[Y9 t hz,ak,Yu,ak];dsimp only;cases ht:jt t with
 |false=>rfl
 | true=>
  have T:=Tk.of ht;have r1:=T.rl;have r2:=T.cl;have tH:=T.sp;rw[Bool.not_true,cond_false,c9,ak,Bool.true_and];cases h1:aI row 0 15 with
  |false=>rfl
  | true=>
   rw[Bool.not_true,cond_false,c9,ak,Bool.true_and];cases h2:aI cT 2 1000 with
   |false=>rfl
   | true=>
    have hl:=bA.1 h2;rw[Bool.not_true,cond_false,cond_true,RQ _ _ (by omega),ak,sw row];have ZJ:∀ (E:Int) (D:bI),D=ja t row->(E=match nX t row with | some i=>(i:Int) | none=>-1)->
      ((zb D).bind λiW=>bif (!iW)then ((some t).bind λpR=>some (pR,false))else (bif (decide (E >= (0:Int)))then if OU:0<=E/\E.toNat<D.counts.length then if h25:E.toNat<D.counts.length then (if cT=0 then none else some (D,(D.counts[E.toNat]'h25).tmod cT==(0:Int)))else none else none else some (D,false)))=some (bif jt (ja t row)then (ja t row,match nX t row with
        |some i=>((ja t row).counts.getD i 0).tmod cT==0
        |none=>false)else (t,false)):=by
     intro E D U e2;subst U;rw[Yu,ak];cases h3:jt (ja t row)with
     |false=>rfl
     | true=>
      rw[Bool.not_true,cond_false,cond_true,e2];cases h4:nX t row with
      |none=>rfl
      | some i=>
       have hi:i<(ja t row).counts.length:=by rw[(ZI row).2];exact ak1 T h4
       simp only[Int.toNat_natCast];rw[decide_eq_true (by omega),cond_true,dif_pos ⟨by omega,hi⟩,dif_pos hi,if_neg (by omega),List.getD_eq_getElem?_getD,List.getElem?_eq_getElem hi];rfl
    cases C:t.rows.findIdx? (λe=>e==row)with
    | some i=>
     obtain⟨hi,_⟩:=LS C;have O:i<t.counts.length:=by omega
     have hc:=T.cs i O;have Y:nX t row=some i:=by unfold nX;rw[C]
     have Z:ja t row=⟨t.rows,t.counts.set i (t.counts[i]+1),t.cE⟩:=by unfold ja;simp only[C];rw[List.getD_eq_getElem?_getD,List.getElem?_eq_getElem O];rfl
     have U:fF (λe=>e==row) t.rows=(i:Int):=by unfold fF;rw[C]
     rw[U,decide_eq_false (by omega),cond_false];simp only[Int.toNat_natCast];rw[decide_eq_true (by omega),cond_true,dif_pos ⟨by omega,O⟩,dif_pos O,dif_pos ⟨by omega,O⟩,dif_pos O];have hw:W6 (t.counts[i]+1)=t.counts[i]+1:=aK;simp only[hw];exact ZJ (i:Int) ⟨t.rows,t.counts.set i (t.counts[i]+1),t.cE⟩ Z.symm (by rw[Y])
    | none=>
     have U:fF (λe=>e==row) t.rows = -1:=by unfold fF;rw[C]
     rw[U,decide_eq_true (by omega),cond_true,RQ _ _ (by omega),ak,sw t.cE];cases L:t.counts.findIdx? (λe=>e==t.cE)with
     | some i=>
      obtain⟨hi,hp⟩:=LS L;have hir:i<t.rows.length:=by omega
      have hp:t.counts[i]=t.cE:=by simpa using hp
      have Y:nX t row=some i:=by unfold nX;rw[C];exact L
      have Z:ja t row=⟨t.rows.set i row,t.counts.set i (t.cE+1),t.cE⟩:=by unfold ja;rw[C];simp only[L]
      have e3:fF (λe=>e==t.cE) t.counts=(i:Int):=by unfold fF;rw[L]
      rw[e3];simp only[Int.toNat_natCast];rw[decide_eq_true (by omega),cond_true,dif_pos ⟨by omega,hir⟩,dif_pos hir,cond_true,dif_pos ⟨by omega,hi⟩,dif_pos hi,dif_pos ⟨by omega,hi⟩,dif_pos hi];have hw:W6 (t.cE+1)=t.cE+1:=aK;simp only[hp,hw];exact ZJ (i:Int) ⟨t.rows.set i row,t.counts.set i (t.cE+1),t.cE⟩ Z.symm (by rw[Y])
     | none=>
      have Y:nX t row=none:=by unfold nX;rw[C];exact L
      have Z:ja t row=⟨t.rows,t.counts,t.cE+1⟩:=by unfold ja;rw[C];simp only[L]
      have e3:fF (λe=>e==t.cE) t.counts = -1:=by unfold fF;rw[L]
      have hw:W6 (t.cE+1)=t.cE+1:=aK;rw[e3,decide_eq_false (by omega),cond_false,cond_false];simp only[hw];exact ZJ (-1) ⟨t.rows,t.counts,t.cE+1⟩ Z.symm (by rw[Y])
def wZ(k:Int):bI:=⟨List.replicate k.toNat (-1),List.replicate k.toNat 0,0⟩
def aDX{k:Int}(h:aI k 1 16=true):QK k=some (wZ k,true):=by
 have C:=bA.1 h;unfold QK;have e:Bb ([(-1:Int)]) k=some (List.replicate k.toNat (-1)):=by
  unfold Bb;simp_all
 rw[c9,ak,h,Bool.not_true,e,ak,if_pos ⟨by omega,Int.le_refl _,by omega⟩];rfl
def aDY{k:Int}(h:aI k 1 16=true):O8 k=some (wZ k,true):=by
 have C:=bA.1 h;obtain⟨n,rfl⟩:=Int.eq_ofNat_of_zero_le (show 0 <= k by omega);unfold O8;rw[dP,ak,h,Bool.not_true,aAK n (by omega),ak,if_pos ⟨by omega,Int.le_refl _,by omega⟩];rfl
def uX(r:cK)(b:Int):cK:=bif decide (r.aE.getD b.toNat 0 = -2)then r else ⟨r.aE.set b.toNat (r.aE.getD b.toNat 0-1),r.wait,r.dj⟩
def Ft{r:cK}(h:eG r=true):∀ x∈r.aE,-2 <= x/\x <= 5:=by
 simp[eG,Bool.and_eq_true,List.all_eq_true]at h;exact λx C=>bA.1 (h.1 x C)
def aDZ{α β:Type}{o:ah (α×β)}{a:α}(h:o.map Prod.fst=some a):∃b,o=some (a,b):=by simp_all
def aD0{r:cK}(h:eG r=true){b:Int}(D:0 <= b)(C:b.toNat<r.aE.length):∃ y,O9 r b=some (uX r b,y):=by
 have O:=lT h;have T:=Ft h _ (List.getElem_mem C);have E:r.aE.getD b.toNat 0=r.aE[b.toNat]:=by rw[List.getD_eq_getElem?_getD,List.getElem?_eq_getElem C];rfl
 unfold O9 HE uX xI xL xA xZ;rw[cM (by simp;omega),cond_true,ak,RK _ (by omega),ak,h,Bool.not_true,cond_false,dP,ak,LR D C (by omega),Bool.not_true,cond_false,dif_pos ⟨D,C⟩,E];dsimp only;by_cases L:r.aE[b.toNat] = -2
 ·simp_all
 ·rw[decide_eq_false (show ¬ r.aE[b.toNat] <= -2 by omega),decide_eq_false L,List.nil_append,dif_pos ⟨D,C⟩,dif_pos ⟨D,C⟩,dif_pos C,aK];simp_all
def aD1{r:cK}(h:eG r=true){b:Int}(D:0 <= b)(C:b.toNat<r.aE.length):∃ y,QL r b=some (uX r b,y):=by
 have O:=lT h;have T:=Ft h _ (List.getElem_mem C);have L:r.aE.getD b.toNat 0=r.aE[b.toNat]:=by rw[List.getD_eq_getElem?_getD,List.getElem?_eq_getElem C];rfl
 unfold QL BJ uX xI xL xA xZ;rw[cM (by simp;omega),cond_true,ak,Lt _ (by omega),ak,h,Bool.not_true,cond_false,c9,ak,LR D C (by omega),Bool.not_true,cond_false,dif_pos ⟨D,C⟩,L];dsimp only;by_cases E:r.aE[b.toNat] = -2
 ·simp_all
 ·rw[jF E,decide_eq_false E,List.nil_append,dif_pos ⟨D,C⟩,dif_pos C,dif_pos ⟨D,C⟩,dif_pos C,aK];simp_all
def w5(p:dL)(k now:Int):dL:=bif iY p&&aI now p.since 1000000 then
 (bif (k==6)&&(p.state==0)then ⟨1,now,p.idle⟩else bif (k==8)&&(p.state==0)then ⟨2,now,p.idle⟩else bif (k==7)&&(p.state==1)then ⟨0,now,p.idle⟩else bif (k==9)&&(p.state==2)then ⟨0,now,p.idle⟩else p)else p
def Sl(p:dL){k:Int}(C:6 <= k/\k <= 9)(now:Int):∃ y,QS p k now=some (w5 p k now,y):=by
 refine aDZ ?_;unfold QS w5;rw[RM,ak];cases iY p with
 |false=>rfl
 | true=>
  rw[Bool.not_true,cond_false,c9,ak];cases aI now p.since 1000000 with
  |false=>rfl
  | true=>
   have:k=6 \/ k=7 \/ k=8 \/ k=9:=by omega
   grind
def Sn(p:dL){k:Int}(C:6 <= k/\k <= 9)(now:Int):∃ y,Pd p k now=some (w5 p k now,y):=by
 unfold Pd w5;simp[RN,dP];have:k=6 \/ k=7 \/ k=8 \/ k=9:=by omega
 rcases this with rfl|rfl|rfl|rfl
 ·grind
 ·grind
 ·grind
 ·grind
def ak3{α β T:Type}{step:α -> ah (α⊕β)}(p:T -> Bool)(S:Nat -> Nat -> aa T -> α)(Z:Nat -> aa T -> β)
  (hs:∀i j s (E:j<s.length),i <= j -> j<1073741824 -> step (S i j s)=some (.inl (bif p s[j]then S i (j+1) s else S (i+1) (j+1) (s.set i s[j]))))
  (hz:∀i s,i <= s.length -> step (S i s.length s)=some (.inr (Z i s))):
  ∀(n i j fuel:Nat) (s:aa T),j+n=s.length -> i <= j -> s.length<1073741824 -> n<fuel -> ∃C D,iter step fuel (S i j s)=some (Z D C)/\C.length=s.length/\D <= s.length/\C.take D=s.take i++(s.drop j).filter (λx=>!p x):=by
 intro n
 induction n with
 | zero=>
  intro i j fuel s hn hi L hf;obtain⟨f,rfl⟩:∃f,fuel=f+1:=⟨fuel-1,by omega⟩
  have ej:j=s.length:=by omega
  subst ej;refine⟨s,i,?_,rfl,hi,by simp⟩;unfold iter;simp_all
 | succ n O=>
  intro i j fuel s hn hi L hf;obtain⟨f,rfl⟩:∃f,fuel=f+1:=⟨fuel-1,by omega⟩
  have E:j<s.length:=by omega
  unfold iter;rw[hs i j s E hi (by omega)];have hd:=List.drop_eq_getElem_cons E;cases hp:p s[j]with
  | true=>
   have⟨C,D,U,Y,h3,h4⟩:=O i (j+1) f s (by omega) (by omega) L (by omega)
   grind
  | false=>
   have⟨C,D,U,Y,h3,h4⟩:=O (i+1) (j+1) f (s.set i s[j]) (by simp;omega) (by omega) (by simp;omega) (by omega);refine⟨C,D,U,by simpa using Y,by simpa using h3,?_⟩;rw[h4,hd,List.filter_cons_of_pos (by simp[hp]),List.drop_set_of_lt (by omega),List.take_add_one,List.getElem?_set_self (by omega),List.take_set_of_le (by omega)];simp
def ZK{T:Type}{p:T -> Bool}{l:aa T}{k:Nat}(h:l.findIdx? p=some k):l.filter (λx=>!p x)=l.take k++(l.drop (k+1)).filter (λx=>!p x):=by
 have⟨D,E,L⟩:=List.findIdx?_eq_some_iff_getElem.1 h;have e:l=l.take k++l[k] :: l.drop (k+1):=by
  simp[*]
 have O:(l.take k).filter (λx=>!p x)=l.take k:=by
  rw[List.filter_eq_self];intro a C;obtain⟨i,hi,rfl⟩:=List.mem_iff_getElem.1 C
  grind
 grind
def ZL{T:Type}(s r:aa T)(i:Nat)(h:i <= s.length):(splice s i r).take i=s.take i:=by
 unfold splice;simp_all
def aD2(l:aa aF)(a:aF)(C:l.length<1073741824):QG l a=some (fF (fG a) l):=by
 unfold QG fF;have e:=uJ (step:=Kf) l (fG a) (λi=>((l,a,(l.length:Int),(i:Int),()),())) (λi=>.inl (((i:Int),()),())) (.inr (.inl ((),()))) aQ (λk h=>by
  unfold Kf fG aq aM xG xI;dsimp only;rw[decide_eq_true (by omega),cond_true,dif_pos ⟨by omega,by omega⟩];simp only[Int.toNat_natCast];rw[bq];cases (l[k].au==a.au&&(l[k].row==a.row&&(l[k].bG==a.bG&&true)))<;>rfl) (by
  unfold Kf aq aM xG xI;dsimp only;rw[decide_eq_false (by omega),cond_false]) (bF C)
 rw[Int.natCast_zero]at e;rw[e];cases l.findIdx? (fG a)<;>rfl
def aD3(l:aa aF)(x:aD)(C:l.length<1073741824):QT l x=some (fF (λa=>a.au==x.au) l):=by
 unfold QT fF;have e:=uJ (step:=Kl) l (λa=>a.au==x.au) (λi=>((l,x,(l.length:Int),(i:Int),()),())) (λi=>.inl (((i:Int),()),())) (.inr (.inl ((),()))) aQ (λk h=>by
  unfold Kl aq aM xG xI;dsimp only;rw[decide_eq_true (by omega),cond_true,dif_pos ⟨by omega,by omega⟩];simp only[Int.toNat_natCast];rw[bq];cases (l[k].au==x.au)<;>rfl) (by
  unfold Kl aq aM xG xI;dsimp only;rw[decide_eq_false (by omega),cond_false]) (bF C)
 rw[Int.natCast_zero]at e;rw[e];cases l.findIdx? (λa=>a.au==x.au)<;>rfl
def aD4(l:aa aF)(a:aF)(O:l.length<1000000):QH l a=some (l.filter (λx=>!fG a x),([],())):=by
 unfold QH;rw[aD2 l a (by omega),ak];unfold fF;cases C:l.findIdx? (fG a)with
 | none=>
  have e:l.filter (λx=>!fG a x)=l:=by
   rw[List.filter_eq_self];intro x D;have:=List.findIdx?_eq_none_iff.1 C x D;simp[this]
  rw[e];rfl
 | some k=>
  obtain⟨T,U,Y⟩:=List.findIdx?_eq_some_iff_getElem.1 C;rw[ZK C];simp only;rw[jF (show ¬ (k:Int) = -1 by omega),cond_false,bq];obtain⟨Z,i',E,h2,h3,L⟩:=ak3 (step:=Kg) (fG a) (λi j s=>(((),a,(i:Int),(j:Int),()),(s,()))) (λi s=>.inl (((),(i:Int),()),(s,()))) (λi j s hj hi hb=>by
   unfold Kg fG aq xG xL;dsimp only;rw[decide_eq_true (by omega),cond_true,dif_pos ⟨by omega,by omega⟩,dif_pos (by omega)];simp only[Int.toNat_natCast];rw[bq,bq,dif_pos ⟨by omega,by omega⟩,dif_pos (by omega)];cases (s[j].au==a.au&&(s[j].row==a.row&&(s[j].bG==a.bG&&true)))<;>rfl) (λi s hi=>by
   unfold Kg aq xG xL;dsimp only;rw[decide_eq_false (by omega),cond_false]) (l.length-(k+1)) k (k+1) aQ l (by omega) (by omega) (by omega) (by unfold aQ;omega)
  rw[E,ak,Sum.elim_inl];dsimp only;rw[if_pos ⟨by omega,by omega,by omega⟩,if_pos ⟨by omega,by omega⟩,if_pos ⟨by omega,by omega,by
   rw[rm _ _ _ (by simp;omega)];omega⟩]
  rw[ZL _ _ _ (by omega),Int.toNat_natCast,L]
def aD5(l:aa aF)(c:aD)(O:l.length<1000000):QU l c=some (l.filter (λx=>!(x.au==c.au)),([],())):=by
 unfold QU;rw[aD3 l c (by omega),ak];unfold fF;cases C:l.findIdx? (λa=>a.au==c.au)with
 | none=>
  have e:l.filter (λx=>!(x.au==c.au))=l:=by
   rw[List.filter_eq_self];intro x D;have:=List.findIdx?_eq_none_iff.1 C x D;simp[this]
  rw[e];rfl
 | some k=>
  obtain⟨T,U,Y⟩:=List.findIdx?_eq_some_iff_getElem.1 C;rw[ZK C];simp only;rw[jF (show ¬ (k:Int) = -1 by omega),cond_false,bq];obtain⟨Z,i',E,h2,h3,L⟩:=ak3 (step:=Km) (λx=>x.au==c.au) (λi j s=>(((),c,(i:Int),(j:Int),()),(s,()))) (λi s=>.inl (((),(i:Int),()),(s,()))) (λi j s hj hi hb=>by
   unfold Km aq xG xL;dsimp only;rw[decide_eq_true (by omega),cond_true,dif_pos ⟨by omega,by omega⟩,dif_pos (by omega)];simp only[Int.toNat_natCast];rw[bq,bq,dif_pos ⟨by omega,by omega⟩,dif_pos (by omega)];cases (s[j].au==c.au)<;>rfl) (λi s hi=>by
   unfold Km aq xG xL;dsimp only;rw[decide_eq_false (by omega),cond_false]) (l.length-(k+1)) k (k+1) aQ l (by omega) (by omega) (by omega) (by unfold aQ;omega)
  rw[E,ak,Sum.elim_inl];dsimp only;rw[if_pos ⟨by omega,by omega,by omega⟩,if_pos ⟨by omega,by omega⟩,if_pos ⟨by omega,by omega,by
   rw[rm _ _ _ (by simp;omega)];omega⟩]
  rw[ZL _ _ _ (by omega),Int.toNat_natCast,L]
def kO(b:Int)(pd:aa aF)(n:Int):aa aF:=bif pd.any (fG ⟨b,n,0⟩)then pd else pd++[⟨b,n,0⟩]
def oM(c:av)(t:aa bI)(C:aa Int)(pd:aa aF):av:=⟨c.config,c.box,c.now,c.aX,c.ready,c.array,c.spare,c.aL,t,C,pd,c.queue,c.shares,c.drain,c.aS,c.cu,c.errors,c.trace,c.cA⟩
def ak4{T:Type}(p:T -> Bool)(l:aa T):decide (fF p l<0) = !l.any p/\decide (fF p l >= 0)=l.any p:=by
 unfold fF
 grind
def So(b:Int):∀ (ns:aa Int) (pd:aa aF),(ns.foldl (kO b) pd).length <= pd.length+ns.length
 |[],pd=>Nat.le_refl _
 | n :: ns,pd=>by
  have:=So b ns (kO b pd n);have C:(kO b pd n).length <= pd.length+1:=by
   unfold kO
   grind
  grind
def ak5{T U:Type}(f:U->T->U)(l:aa T)(u:U){k:Nat}(h:k<l.length):(l.take (k+1)).foldl f u=f ((l.take k).foldl f u) l[k]:=by
 rw[List.take_add_one,List.getElem?_eq_getElem h,List.foldl_append];rfl
def aD6(c:av)(x:aD)(ns:aa Int)(D:ns.length <= 1000)(E:c.pending.length <= 1000):iter EW aQ (((),(),(),(ns.length:Int),(0:Int),()),(c,(x.kind,x.au,x.row,x.bG,()),ns,()))=some (.inl ((),(oM c c.bx c.guard (ns.foldl (kO x.au) c.pending),()))):=by
 have e:=cm (step:=EW) _ (λi=>(((),(),(),ns.length,i,()),(oM c c.bx c.guard ((ns.take i).foldl _ _),(x.kind,x.au,x.row,x.bG,()),ns,()))) _ aQ (λk h=>by
  have C:=So x.au (ns.take k) c.pending;rw[List.length_take]at C;rw[ak5 _ _ _ h];generalize (ns.take k).foldl (kO x.au) c.pending=pd at C;unfold EW kO oM XT aq xG xL;dsimp only;rw[decide_eq_true (by omega),cond_true,dif_pos ⟨by omega,by omega⟩,dif_pos (by omega)];simp only[Int.toNat_natCast];rw[ajV _ _ (by omega),ak,ak,(ak4 _ _).2,bq,cM (by simp;omega)];cases pd.any (fG ⟨x.au,ns[k],0⟩)<;>rfl) (by
  unfold EW oM aq xG xL;dsimp only;rw[decide_eq_false (by omega),cond_false]) (bF)
 rw[ List.take_length]at e;exact e
def aD7(c:av)(x:aD)(ns:aa Int)(D:ns.length <= 1000)(E:c.pending.length <= 1000):iter sA aQ (((),(),true,(),(0:Int),()),(c,(x.kind,x.au,x.row,x.bG,()),ns,()))=some (.inl ((),(oM c c.bx c.guard (ns.foldl (kO x.au) c.pending),()))):=by
 have e:=cm (step:=sA) _ (λi=>(((),(),true,(),i,()),(oM c c.bx c.guard ((ns.take i).foldl _ _),(x.kind,x.au,x.row,x.bG,()),ns,()))) _ aQ (λk h=>by
  have C:=So x.au (ns.take k) c.pending;rw[List.length_take]at C;rw[ak5 _ _ _ h];generalize (ns.take k).foldl (kO x.au) c.pending=pd at C;unfold sA kO oM aq xG xL;dsimp only;rw[decide_eq_true (by omega),cond_true,cond_true,dif_pos ⟨by omega,by omega⟩,dif_pos (by omega)];simp only[Int.toNat_natCast];rw[Yz _ _ (by omega),ak,(ak4 _ _).1,bq,cM (by simp;omega)];cases pd.any (fG ⟨x.au,ns[k],0⟩)<;>rfl) (by
  unfold sA oM aq xG xL;dsimp only;rw[decide_eq_false (by omega),cond_false]) (bF)
 rw[ List.take_length]at e;exact e
def aD8(c:av)(x:aD)(ns:aa Int):iter sA aQ (((),(),false,(),(0:Int),()),(c,(x.kind,x.au,x.row,x.bG,()),ns,()))=some (.inl ((),(c,()))):=by
 have e:=cm (step:=sA) 0 (λi=>(((),(),false,(),i,()),(c,(x.kind,x.au,x.row,x.bG,()),ns,()))) _ aQ (λk h=>by omega) (by
  unfold sA aq xG xL;cases decide ((0:Int)<ns.length)<;>rfl) (bF)
 simp_all
def zT:bI:=⟨[],[],0⟩
def qZ(c:av)(x:aD):bI×Bool:=th (c.bx.getD x.au.toNat zT) x.row (c.guard.getD x.au.toNat 0)
def mT(c:av)(x:aD):aa aF:=c.pending.filter (λa=>!fG ⟨x.au,x.row,0⟩ a)
def tj(c:av)(x:aD):av:=
 oM (cO c (s9 c.config.aB c.config.dg c.array x.au x.row)) (c.bx.set x.au.toNat (qZ c x).1) c.guard (bif (qZ c x).2 then (kf c.config.aB.rows x.row).foldl (kO x.au) (mT c x)else mT c x)
def lU{T:Type}{l:aa T}{i:Nat}(d:T)(h:i<l.length):l.getD i d=l[i]:=by
 rw[List.getD_eq_getElem?_getD,List.getElem?_eq_getElem h];rfl
def ZM(R r:Int):(kf R r).length <= 2:=by
 unfold kf
 grind
def ZN{T:Type}(p:T->Bool)(l:aa T):(l.filter p).length<=l.length:=List.length_filter_le p l
def aD9{B:Int}(c:av)(x:aD)(L:cq c.config.aB=true)(Y:ef c.config.aB B c.array)(hp:c.pending.length <= 200)(Z:∀ t∈c.bx,gk t)(D:0 <= x.au)(h2:x.au<aT c.config.aB)(O:0 <= x.row)(T:x.row<c.config.aB.rows)(C:x.au.toNat<c.bx.length)(E:x.au.toNat<c.guard.length):QI c x=some ((),(tj c x,())):=by
 have⟨_,_,_,_,g5,g6,g7,g8⟩:=eK L;have U:=akK L c.config.dg c Y D h2 O T;have e2:=aD4 c.pending ⟨x.au,x.row,0⟩ (by omega);have hf:(mT c x).length <= c.pending.length:=List.length_filter_le _ _;have o8:=ZM c.config.aB.rows x.row;simp only[cO]at U;unfold QI aW xL xM
 refine(congrArg (λo=>Option.bind o _) U).trans ?_
 rw[ak];dsimp only
 refine(congrArg (λo=>Option.bind o _) e2).trans ?_
 rw[ak];dsimp only;rw[dif_pos ⟨D,C⟩,dif_pos C,dif_pos ⟨D,E⟩,dif_pos E,dif_pos C,dif_pos C];rw[aDW _ (Z _ (List.getElem_mem C)),ak,dif_pos ⟨D,C⟩,dif_pos C];unfold tj qZ;rw[lU _ C,lU _ E];cases (th (c.bx[x.au.toNat]'C) x.row (c.guard[x.au.toNat]'E)).2 with
 |false=>rfl
 | true=>
  rw[Bool.not_true,cond_false,YM (by omega) (by omega) O T,ak]
  refine(congrArg (λo=>Option.bind o _) (aD6 (oM (cO c (s9 _ _ c.array x.au x.row)) _ c.guard (mT c x)) x _ (by omega) (by unfold oM;dsimp only;omega))).trans ?_
  rfl
def uY(l:aa aF):Prop:=∀i (h:i<l.length),(l.take i).any (fG l[i])=false
def LU{a b:aF}:fG a b=true ↔ a=b:=by
 have⟨C,D,E⟩:=a;have⟨L,O,T⟩:=b;simp[fG,Bool.and_eq_true,beq_iff_eq,and_true,aF.mk.injEq]
 grind
def uY.cut{l:aa aF}(h:uY l){a:aF}{k:Nat}(C:l.findIdx? (fG a)=some k):l.take k++l.drop (k+1)=l.filter (λx=>!fG a x):=by
 have⟨O,D,T⟩:=List.findIdx?_eq_some_iff_getElem.1 C;rw[ZK C];congr 1;symm;rw[List.filter_eq_self];intro x E;obtain⟨i,hi,rfl⟩:=List.mem_iff_getElem.1 E;rw[List.length_drop]at hi;rw[List.getElem_drop];cases L:fG a _ with
 |false=>rfl
 | true=>
  have U:=LU.1 L;have Y:=LU.1 D;have:=List.any_eq_false.1 (h (k+1+i) (by omega)) l[k] (List.mem_iff_getElem.2 ⟨k,by rw[List.length_take];omega,by rw[List.getElem_take]⟩);simp_all
def aEa{B:Int}(c:av)(x:aD)(L:cq c.config.aB=true)(ha:ef c.config.aB B c.array)(hp:c.pending.length <= 200)(hu:uY c.pending)(O:∀ t∈c.bx,gk t)(D:0 <= x.au)(h2:x.au<aT c.config.aB)(T:0 <= x.row)(U:x.row<c.config.aB.rows)(C:x.au.toNat<c.bx.length)(E:x.au.toNat<c.guard.length):O6 c x=some ((),(tj c x,())):=by
 have⟨_,_,_,_,g5,g6,g7,g8⟩:=eK L;have Y:=akO L c.config.dg c ha D h2 T U;have e2:=Yz c.pending ⟨x.au,x.row,0⟩ (by omega);have hf:(mT c x).length <= c.pending.length:=List.length_filter_le _ _;have o8:=ZM c.config.aB.rows x.row;have Z:Xd c.config.aB.rows x.row=some (kf c.config.aB.rows x.row):=YM (by omega) (by omega) T U;simp only[cO]at Y;unfold O6 xA aW xL xM xZ
 refine(congrArg (λo=>Option.bind o _) Y).trans ?_
 rw[ak];dsimp only
 refine(congrArg (λo=>Option.bind o _) e2).trans ?_
 rw[ak];have AF:∀ pd:aa aF,pd=mT c x -> ∀ t:bI×Bool,t=qZ c x -> (iter sA aQ (((),(),t.2,(),(0:Int),()),((⟨c.config,c.box,c.now,c.aX,c.ready,s9 c.config.aB c.config.dg c.array x.au x.row,c.spare,c.aL,(c.bx.set x.au.toNat t.1),c.guard,pd,c.queue,c.shares,c.drain,c.aS,c.cu,c.errors,c.trace,c.cA⟩:av),(x.kind,x.au,x.row,x.bG,()),kf c.config.aB.rows x.row,()))).bind (Sum.elim (λI0=>some ((),(I0.2.1,()))) (λz=>nomatch z))=some ((),(tj c x,())):=by
  rintro pd rfl ⟨t1,t2⟩ C;unfold tj;rw[<- C];cases t2 with
  | false=>
   refine(congrArg (λo=>Option.bind o _) (aD8 _ x _)).trans ?_
   rfl
  | true=>
   refine(congrArg (λo=>Option.bind o _) (aD7 _ x _ (by omega) (by dsimp only;omega))).trans ?_
   rfl
 have hT:qZ c x=th (c.bx[x.au.toNat]'C) x.row (c.guard[x.au.toNat]'E):=by
  unfold qZ;simp[*]
 unfold fF;cases hi:c.pending.findIdx? (fG ⟨x.au,x.row,0⟩)with
 | none=>
  have e:mT c x=c.pending:=by
   unfold mT;rw[List.filter_eq_self];simp_all
  dsimp only;rw[decide_eq_false (by omega),cond_false,dif_pos ⟨D,C⟩,dif_pos C,dif_pos ⟨D,E⟩,dif_pos E,dif_pos C,dif_pos C];rw[ak2 _ (O _ (List.getElem_mem C)),ak,dif_pos ⟨D,C⟩,dif_pos C,Z,ak];exact AF _ e.symm _ hT.symm
 | some k=>
  have⟨k1,NM,hq⟩:=List.findIdx?_eq_some_iff_getElem.1 hi;have e:=hu.cut hi;dsimp only;rw[decide_eq_true (by omega),cond_true,bq,if_pos ⟨by omega,by omega,by omega⟩,if_pos ⟨by omega,by omega,by omega⟩];simp only[Int.toNat_natCast,Int.toNat_zero,List.drop_zero,List.nil_append,List.take_length];rw[cM (by simp;omega),cond_true,cM (by simp;omega),cond_true,dif_pos ⟨D,C⟩,dif_pos C,dif_pos ⟨D,E⟩,dif_pos E,dif_pos C,dif_pos C];rw[ak2 _ (O _ (List.getElem_mem C)),ak,dif_pos ⟨D,C⟩,dif_pos C,Z,ak];exact AF _ e _ hT.symm
def w6{U:Type}(f:U->Nat->U)(u:U)(k:Nat):(List.range (k+1)).foldl f u=f ((List.range k).foldl f u) k:=by
 rw[List.range_succ,List.foldl_append];rfl
def oN(g:aP)(l:gR)(a:cF)(b:Int)(n:Nat):cF:=(List.range n).foldl (λa (r:Nat)=>s9 g l a b (r:Int)) a
def Fu{g:aP}(C:cq g=true)(l:gR){B:Int}(hB:0<=B){a:cF}(D:ef g B a){b:Int}(E:0<=b)(L:b<aT g):∀ n:Nat,(n:Int)<=g.rows->ef g B (oN g l a b n)
 |0,_=>D
 | n+1,h=>by
  unfold oN;rw[w6];exact Zt C l hB (Fu C l hB D E L n (by omega)) E L (by omega) (by omega)
def ak6{B:Int}(hB:0 <= B)(c:av)(C:cq c.config.aB=true)(O:ef c.config.aB B c.array){b:Int}(D:0 <= b)(E:b<aT c.config.aB):QJ c b=some ((),(cO c (oN c.config.aB c.config.dg c.array b c.config.aB.rows.toNat),())):=by
 have⟨_,_,_,_,T,U,Y,Z⟩:=eK C;have e:=cm (step:=Kh) c.config.aB.rows.toNat (λi=>(((),b,i,()),(cO c (oN _ _ _ b i),()))) _ aQ (λk h=>by
  have L:=akK C c.config.dg (cO c (oN c.config.aB c.config.dg c.array b k)) (Fu C c.config.dg hB O D E k (by omega)) D E (show 0 <= (k:Int) by omega) (by omega);simp only[cO]at L;unfold Kh cO aq xG;dsimp only;rw[decide_eq_true (by omega),cond_true,L,ak,bq];dsimp only;unfold oN;rw[w6]) (by
  unfold Kh cO aq xG;dsimp only;rw[decide_eq_false (by omega),cond_false]) (bF)
 refine(congrArg (λo=>Option.bind o _) e).trans ?_
 rfl
def aEb{B:Int}(hB:0 <= B)(c:av)(C:cq c.config.aB=true)(O:ef c.config.aB B c.array){b:Int}(D:0 <= b)(E:b<aT c.config.aB):Xg c.config.aB c.config.dg c b=some ((),(cO c (oN c.config.aB c.config.dg c.array b c.config.aB.rows.toNat),())):=by
 have⟨_,_,_,_,T,U,Y,Z⟩:=eK C;have e:=cm (step:=I2) c.config.aB.rows.toNat (λi=>(((),b,(),(),i,()),(cO c _,(c.config.aB.cg,c.config.aB.ay,c.config.aB.rows,c.config.aB.aO,()),(c.config.dg.bh,c.config.dg.aZ,()),()))) _ aQ (λk h=>by
  have L:=akO C c.config.dg (cO c (oN c.config.aB c.config.dg c.array b k)) (Fu C c.config.dg hB O D E k (by omega)) D E (show 0 <= (k:Int) by omega) (by omega);simp only[cO]at L;unfold I2 cO aq xG;dsimp only;rw[decide_eq_true (by omega),cond_true,L,ak,bq];dsimp only;unfold oN;rw[w6]) (by
  unfold I2 cO aq xG;dsimp only;rw[decide_eq_false (by omega),cond_false]) (bF)
 refine(congrArg (λo=>Option.bind o _) e).trans ?_
 rfl
def LV(c:av)(b:Int)(pd:aa aF):av:=
 oM (cO c (oN c.config.aB c.config.dg c.array b c.config.aB.rows.toNat)) (c.bx.set b.toNat (wZ c.config.gy)) (c.guard.set b.toNat c.box.bz.eI) pd
def ak7(c:av)(L:aI c.config.gy 1 16=true){b:Int}(C:0<=b)(D:b.toNat<c.bx.length)(E:b.toNat<c.guard.length):Ki c b=some ((),(oM c (c.bx.set b.toNat (wZ c.config.gy)) (c.guard.set b.toNat c.box.bz.eI) c.pending,())):=by
 unfold Ki xL;rw[aDX L,ak,dif_pos ⟨C,D⟩,dif_pos D,dif_pos ⟨C,E⟩,dif_pos E];rfl
def aEc(c:av)(b:Int)(L:c.pending.length <= 1000):iter Ed aQ (((),b,(),(0:Int),()),(c,([]:aa aF),()))=some (.inl (((),(),()),(c,c.pending.filter (λa=>!(a.au==b)),()))):=by
 have e:=cm (step:=Ed) c.pending.length (λi=>(((),b,(),(i:Int),()),(c,(c.pending.take i).filter (λa=>!(a.au==b)),()))) (.inl (((),(),()),(c,(c.pending.take c.pending.length).filter (λa=>!(a.au==b)),()))) aQ (λk h=>by
  have C:=ZN (λa:aF=>!(a.au==b)) (c.pending.take k);rw[List.length_take]at C;have E:c.pending.take (k+1)=c.pending.take k++[c.pending[k]]:=by rw[List.take_add_one,List.getElem?_eq_getElem h];rfl
  rw[E,List.filter_append];generalize (c.pending.take k).filter (λa=>!(a.au==b))=ls at C;unfold Ed aq xG xL;dsimp only;rw[decide_eq_true (by omega),cond_true,dif_pos ⟨by omega,by omega⟩,dif_pos (by omega)];simp only[Int.toNat_natCast];rw[bq,bne];cases D:c.pending[k].au==b with
  |true=>rw[List.filter_cons_of_neg (by simp[D])];simp
  | false=>
   rw[Bool.not_false,dif_pos ⟨by omega,by omega⟩,dif_pos (by omega),cM (by simp;omega),List.filter_cons_of_pos (by simp[D])];rfl) (by
  unfold Ed aq xG xL;dsimp only;rw[decide_eq_false (by omega),cond_false]) (bF)
 rw[Int.natCast_zero,List.take_length]at e;exact e
def ak8{B:Int}(hB:0 <= B)(c:av)(O:cq c.config.aB=true)(T:ef c.config.aB B c.array)(U:aI c.config.gy 1 16=true)(Z:c.pending.length <= 200){b:Int}(C:0 <= b)(Y:b<aT c.config.aB)(D:b.toNat<c.bx.length)(E:b.toNat<c.guard.length):I3 c b=some ((),(LV c b (c.pending.filter (λa=>!(a.au==b))),())):=by
 have L:=aEb hB c O T C Y;simp only[cO]at L;unfold I3 aW xL
 refine(congrArg (λo=>Option.bind o _) L).trans ?_
 rw[ak];rw[aDY U,ak,dif_pos ⟨C,D⟩,dif_pos D,dif_pos ⟨C,E⟩,dif_pos E]
 refine(congrArg (λo=>Option.bind o _) (aEc _ b (by dsimp only;omega))).trans ?_
 rfl
def fH(c:av)(k:Nat)(pd:aa aF):av:=
 ⟨c.config,c.box,c.now,c.aX,c.ready,(List.range k).foldl (λa (b:Nat)=>oN c.config.aB c.config.dg a (b:Int) c.config.aB.rows.toNat) c.array,c.spare,⟨(List.range k).foldl (λd b=>d.set b 0) c.aL.aE,c.aL.wait,c.aL.dj⟩,(List.range k).foldl (λd b=>d.set b (wZ c.config.gy)) c.bx,(List.range k).foldl (λd b=>d.set b c.box.bz.eI) c.guard,pd,c.queue,c.shares,c.drain,c.aS,c.cu,c.errors,c.trace,c.cA⟩
def w7{T:Type}(x:T)(l:aa T):∀ k:Nat,((List.range k).foldl (λd b=>d.set b x) l).length=l.length
 |0=>rfl
 |k+1=>by rw[w6,List.length_set,w7 x l k]
def Sp{g:aP}(C:cq g=true)(l:gR){B:Int}(hB:0 <= B){a:cF}(D:ef g B a):∀ k:Nat,(k:Int) <= aT g -> ef g B ((List.range k).foldl (λa (b:Nat)=>oN g l a (b:Int) g.rows.toNat) a)
 |0,_=>D
 | k+1,h=>by
  have⟨_,_,_,_,E,L,O,T⟩:=eK C;rw[w6];exact Fu C l hB (Sp C l hB D k (by omega)) (by omega) (by omega) _ (by omega)
structure tq (B:Int) (c:av):Prop where
 hB:0<=B
 g:cq c.config.aB=true
 a:ef c.config.aB B c.array
 k:aI c.config.gy 1 16=true
 p:c.pending.length<=200
 t:(c.bx.length:Int)=aT c.config.aB
 d:(c.guard.length:Int)=aT c.config.aB
 r:(c.aL.aE.length:Int)=aT c.config.aB
def tq.Sq{B:Int}{c:av}(h:tq B c)(k:Nat)(C:(k:Int)<=aT c.config.aB)(pd:aa aF)(D:pd.length<=200):tq B (fH c k pd):=
 ⟨h.hB,h.g,Sp h.g c.config.dg h.hB h.a k C,h.k,D,(congrArg (λn:Nat=>(n:Int)) (w7 _ _ k)).trans h.t,(congrArg (λn:Nat=>(n:Int)) (w7 _ _ k)).trans h.d,(congrArg (λn:Nat=>(n:Int)) (w7 _ _ k)).trans h.r⟩
def ak9(c:av)(k:Nat)(pd C:aa aF):fH c (k+1) C=⟨c.config,c.box,c.now,c.aX,c.ready,(LV (fH c k pd) (k:Int) C).array,c.spare,⟨(fH c k pd).aL.aE.set k 0,c.aL.wait,c.aL.dj⟩,(LV (fH c k pd) (k:Int) C).bx,(LV (fH c k pd) (k:Int) C).guard,C,c.queue,c.shares,c.drain,c.aS,c.cu,c.errors,c.trace,c.cA⟩:=by
 unfold fH;simp only[w6];rfl
def aEd{B:Int}{c:av}(h:tq B c):iter wL aQ (((),(c.bx.length:Int),(0:Int),()),(fH c 0 [],()))=some (.inl ((),(fH c c.bx.length [],()))):=by
 have U:=eM c.config.aB;have Y:=h.t;have e:=cm (step:=wL) c.bx.length (λi=>(((),c.bx.length,i,()),(fH c i [],()))) _ aQ (λk Z=>by
  have C:=h.Sq k (by omega) [] (by simp);have w1:=C.t;have E:=C.d;have L:=C.r;have D:aT (fH c k []).config.aB=aT c.config.aB:=rfl;rw[D]at w1 E L;have O:=ak6 C.hB _ C.g C.a (b:=(k:Int)) (by omega) (by rw[D];omega);have T:=ak7 (cO (fH c k []) (oN (fH c k []).config.aB (fH c k []).config.dg (fH c k []).array (k:Int) (fH c k []).config.aB.rows.toNat)) C.k (b:=(k:Int)) (by omega) (by show (k:Int).toNat<(fH c k []).bx.length;omega) (by show (k:Int).toNat<(fH c k []).guard.length;omega);rw[ak9 c k [] []];unfold wL aq xG xL;dsimp only;rw[decide_eq_true (by omega),cond_true,O,ak,T,ak,bq];have w4:k<(fH c k []).aL.aE.length:=by omega
  rw[dif_pos ⟨by omega,by show (k:Int).toNat<(fH c k []).aL.aE.length;omega⟩,dif_pos (by show (k:Int).toNat<(fH c k []).aL.aE.length;omega)];rfl) (by
  unfold wL aq xG xL;dsimp only;rw[decide_eq_false (by omega),cond_false]) (bF)
 simp_all
def oO(pd:aa aF):Nat->aa aF
 |0=>pd
 |k+1=>(oO pd k).filter (λa=>!(a.au==(k:Int)))
def ala(pd:aa aF):∀ k,(oO pd k).length<=pd.length
 |0=>Nat.le_refl _
 |k+1=>Nat.le_trans (ZN _ _) (ala pd k)
def alb(pd:aa aF){a:aF}:∀ k,a∈oO pd k -> a∈pd /\ ∀ b:Nat,b<k -> a.au≠(b:Int)
 |0,h=>⟨h,λb D=>by omega⟩
 | k+1,h=>by
  have⟨C,E⟩:=List.mem_filter.1 h;have⟨L,O⟩:=alb pd k C
  grind
def aEe{pd:aa aF}{k:Nat}(h:∀ a∈pd,0 <= a.au/\a.au<(k:Int)):oO pd k=[]:=by
 rw[List.eq_nil_iff_forall_not_mem];intro a C;have⟨D,E⟩:=alb pd k C;have:=h a D;exact E a.au.toNat (by omega) (by omega)
def aEf{B:Int}{c:av}(h:tq B c)(hr:c.aX.ay.length=c.bx.length)(E:∀ a∈c.pending,0<=a.au/\a.au<aT c.config.aB):iter BG aQ (((),(0:Int),()),(c,()))=some (.inl ((),(fH c c.bx.length [],()))):=by
 have b1:=eM c.config.aB;have htr:=h.t;have e:=cm (step:=BG) c.bx.length (λi=>(((),(i:Int),()),(fH c i (oO c.pending i),()))) (.inl ((),(fH c c.bx.length (oO c.pending c.bx.length),()))) aQ (λk hk=>by
  have C:=h.Sq k (by omega) (oO c.pending k) (Nat.le_trans (ala _ _) h.p);have w1:=C.t;have L:=C.d;have O:=C.r;have D:aT (fH c k (oO c.pending k)).config.aB=aT c.config.aB:=rfl;rw[D]at w1 L O;have T:=ak8 C.hB _ C.g C.a C.k C.p (b:=(k:Int)) (by omega) (by rw[D];omega) (by omega) (by omega);rw[ak9 c k (oO c.pending k) (oO c.pending (k+1))];unfold BG aq xG xL;dsimp only;rw[decide_eq_true (by show (k:Int)<((c.aX.ay.length:Nat):Int);omega),cond_true,T,ak,bq];rw[dif_pos ⟨by omega,by show (k:Int).toNat<(fH c k (oO c.pending k)).aL.aE.length;omega⟩,dif_pos (by show (k:Int).toNat<(fH c k (oO c.pending k)).aL.aE.length;omega)];rfl) (by
  unfold BG aq xG xL;dsimp only;rw[decide_eq_false (by show ¬ ((c.bx.length:Nat):Int)<((c.aX.ay.length:Nat):Int);omega),cond_false]) (bF)
 have U:oO c.pending c.bx.length=[]:=aEe (λa Y=>by have:=E a Y;omega);have Z:fH c 0 (oO c.pending 0)=c:=rfl;rw[Int.natCast_zero,U,Z]at e;exact e
def wv(l:aa Int):Nat->Int
 |0=>0
 |i+1=>bits .or .i64 (wv l i) (W6 (l.getD i 0*2 ^ (min (4*(i:Int)).toNat IntKind.i64.bits)))
def alc{l:aa Int}(h:l.length=8)(C:∀ s∈l,0 <= s/\s <= 15):pV l 8=true:=by
 simp[pV,Bool.and_eq_true,List.all_eq_true,uG,bA];simp_all
def aEg{l:aa Int}(h:l.length=8)(D:∀ s∈l,0<=s/\s<=15):Qc l=some (wv l 8,true):=by
 unfold Qc aW;rw[aju _ _ (by omega),alc h D,ak];have e:=cm (step:=JW) 8 (λi=>((wv l i,l,(l.length:Int),(i:Int),()),())) (.inl ((wv l 8,()),())) aQ (λi hi=>by
  have C:i<l.length:=by omega
  have E:W6 (4*(i:Int))=4*(i:Int):=aK;have L:¬ 4*(i:Int)<0:=by omega
  have O:l.getD i 0=l[i]:=by rw[List.getD_eq_getElem?_getD,List.getElem?_eq_getElem C];rfl
  have T:wv l (i+1)=bits .or .i64 (wv l i) (W6 (l.getD i 0*2 ^ (min (4*(i:Int)).toNat IntKind.i64.bits))):=rfl;unfold JW aq xG xI;rw[T,O];simp (disch:=omega) [C,E,L,bq]) (by unfold JW aq xG xI;simp[h]) (bF)
 rw[Int.natCast_zero]at e;simp only[Bool.not_true,cond_false];have U:wv l 0=0:=rfl;rw[U]at e;rw[e];rfl
def aEh{l:aa Int}(h:l.length=8)(D:∀ s∈l,0<=s/\s<=15):OA l=some (wv l 8,true):=by
 unfold OA aW;rw[Lk _ _ (by omega),alc h D,ak];have e:=cm (step:=Ip) 8 (λi=>((l,wv l i,(i:Int),()),())) (.inl ((wv l 8,()),())) aQ (λi hi=>by
  have C:i<l.length:=by omega
  have E:W6 (4*(i:Int))=4*(i:Int):=aK;have L:IntKind.u64.wrap (4*(i:Int))=4*(i:Int):=akm (by omega) (by omega);have O:¬ 4*(i:Int)<0:=by omega
  have T:l.getD i 0=l[i]:=by rw[List.getD_eq_getElem?_getD,List.getElem?_eq_getElem C];rfl
  have U:wv l (i+1)=bits .or .i64 (wv l i) (W6 (l.getD i 0*2 ^ (min (4*(i:Int)).toNat IntKind.i64.bits))):=rfl;unfold Ip aq xG xI;rw[U,T];simp (disch:=omega) [C,E,L,O,bq]) (by unfold Ip aq xG xI;simp[h]) (bF)
 rw[Int.natCast_zero]at e;simp only[Bool.not_true,cond_false];have Y:wv l 0=0:=rfl;rw[Y]at e;rw[e];rfl
def aEi{w:aa Nat}(E:c8 w)(C:w.length=11):OB (bf w)=some (bf (w.drop 3)):=by
 have L:=(Ll E C).ok;have hlen:(bf w).length=11:=by rw[fY,C]
 have D:(bf w).drop 3=bf (w.drop 3):=by simp
 unfold OB xA xZ;rw[Lk _ _ (by rw[fY];omega),L];generalize bf w=W at hlen D ⊢;rw[<- D];have O:W.take 11=W:=by rw[<- hlen,List.take_length]
 simp[hlen,bD,O]
def ald{w:aa Nat}(D:c8 w)(E:w.length=11):(bf (w.drop 3)).length=8 /\ ∀ s∈bf (w.drop 3),0 <= s/\s <= 15:=by
 refine⟨by rw[fY];simp[E],λs C=>?_⟩
 simp only[ List.mem_map]at C;obtain⟨x,L,rfl⟩:=C;have:=D x (List.mem_of_mem_drop L);omega
def zM(w:aa Nat):Int:=bif (fm w).2.1==2 then 0 else wv (bf ((fm w).1.drop 3)) 8
def aEj{w:aa Nat}(C:c8 w)(D:w.length=11):Qe (bf w)=some (zM w,(fm w).2.1,(fm w).2.2):=by
 have⟨E,L,_⟩:=Cw C D;have⟨d1,d2⟩:=ald L E;unfold Qe zM;rw[akp C D,ak];cases h:(fm w).2.1==2 with
 |true=>simp
 | false=>
  rw[ aBh L E,ak,aEg d1 d2];rfl
def aEk{w:aa Nat}(C:c8 w)(D:w.length=11):OC (bf w)=some (zM w,(fm w).2.1,(fm w).2.2):=by
 have⟨E,L,_⟩:=Cw C D;have⟨d1,d2⟩:=ald L E;unfold OC zM;rw[aBa C D,ak];cases h:(fm w).2.1==2 with
 |true=>simp
 | false=>
  rw[ aEi L E,ak,aEh d1 d2];rfl
def nw(c:bC):aa Nat:=c.symbols.map Int.toNat
def Sr{c:bC}(h:Sy c.symbols):bf (nw c)=c.symbols/\c8 (nw c)/\(nw c).length=11:=by
 have⟨C,D⟩:=Yg _ h.2;exact⟨C,D,by simp[nw,h.1]⟩
def jb(c:bC):Int:=bif c.gx then 2 else (fm (nw c)).2.1
def nY(c:bC):bC:=bif c.gx then c else bif (fm (nw c)).2.1==1 then ⟨bf (fm (nw c)).1,c.gx⟩else bif (fm (nw c)).2.1==2 then ⟨c.symbols,true⟩else c
def aEl{l:aa bC}{j:Nat}(h:j<l.length):l.set j l[j]=l:=List.set_getElem_self h
def ZO{c:bC}(h:Sy c.symbols):Sy (nY c).symbols:=by
 have⟨O,C,D⟩:=Sr h;have⟨E,L,_⟩:=Cw C D;unfold nY;cases c.gx with
 |true=>exact h
 | false=>
  cases (fm _).2.1==1 with
  |true=>exact Ll L E
  |false=>grind
def Fv(x:Int)(k:Nat):Int:=bits .and .i64 (x.fdiv (2 ^ (min (4*(k:Int)).toNat IntKind.i64.bits))) 15
def jc(x:Int):Nat->aa Int
 |0=>[]
 |k+1=>jc x k++[Fv x k]
def LW(x:Int):∀ k,(jc x k).length=k
 |0=>rfl
 |k+1=>by simp[jc,LW x k]
def ZP(x:Int):∀ k,∀ s∈jc x k,0<=s/\s<=15
 |0,s,h=>by cases h
 | k+1,s,h=>by
  rcases List.mem_append.1 h with h|h
  ·exact ZP x k s h
  ·rw[List.mem_singleton.1 h];exact aA2 _
def aEm{x:Int}(Y:0<=x)(Z:x<=4294967295):OD x=some (jc x 8):=by
 have C:aI x 0 4294967295=true:=by rw[bA];omega
 unfold OD aW;have e:=cm (step:=Ir) 8 (λk=>((x,(),(k:Int),()),(jc x k,()))) (.inl (((),()),(jc x 8,()))) aQ (λk hk=>by
  have D:(k:Int)<8:=by omega
  have E:bD ((jc x k).length+1)=true:=cM (by rw[LW];omega);have L:W6 (4*(k:Int))=4*(k:Int):=aK;have O:IntKind.u64.wrap (4*(k:Int))=4*(k:Int):=akm (by omega) (by omega);have T:¬ 4*(k:Int)<0:=by omega
  unfold Ir HZ aq xG;simp (disch:=omega) [D,dP,C,L,O,T,E,bq,jc,Fv]) (by
  unfold Ir aq xG;simp) (bF)
 rw[Int.natCast_zero]at e;have U:jc x 0=[]:=rfl;rw[U]at e;rw[e];rfl
def aEn{x:Int}(U:0<=x)(Y:x<=4294967295):QM x=some (jc x 8):=by
 have C:aI x 0 4294967295=true:=by rw[bA];omega
 unfold QM BR aW;rw[c9,ak,ak,C,Bool.not_true,cond_false];have e:=cm (step:=Kk) 8 (λk=>((x,(),(k:Int),()),(jc x k,()))) (.inl (((),()),(jc x 8,()))) aQ (λk Z=>by
  have D:(k:Int)<8:=by omega
  have E:bD ((jc x k).length+1)=true:=cM (by rw[LW];omega);have L:W6 (4*(k:Int))=4*(k:Int):=aK;have O:¬ 4*(k:Int)<0:=by omega
  unfold Kk aq xG;simp (disch:=omega) [D,L,O,E,bq,jc,Fv]) (by
  unfold Kk aq xG;simp) (bF)
 rw[Int.natCast_zero]at e;have T:jc x 0=[]:=rfl;rw[T]at e;rw[e];rfl
def ale:(gX λx=>gX λy=>gX λz=>(λC D E=>Nat.beq (gm (gm 2 (C ^^^ D) ^^^ gm 5 (C ^^^ E)) 13) y&&(Nat.beq (gm (gm 3 (C ^^^ E) ^^^ gm 5 (C ^^^ D)) 13) z&&Nat.beq (C ^^^ (y ^^^ z)) x)) (gm x (pw 0) ^^^ (gm y (pw 0) ^^^ gm z (pw 0))) (gm x (pw 0) ^^^ (gm y (pw 1) ^^^ gm z (pw 2))) (gm x (pw 0) ^^^ (gm y (pw 2) ^^^ gm z (pw 4))))=true:=by kernel_rfl
def aEo{x y z:Nat}{d:aa Nat}(j:Nat):bL (x :: y :: z :: d) j 11=(gm x (pw (0*j)) ^^^ (gm y (pw (1*j)) ^^^ gm z (pw (2*j)))) ^^^ bL (0 :: 0 :: 0 :: d) j 11:=by
 simp[bL,List.getD_cons_zero,List.getD_cons_succ,Nat.xor_assoc,Nat.zero_xor,RB (sC _)]
def Fw{a b:Nat}(h:a ^^^ b=0):a=b:=by
 have C:(a ^^^ b) ^^^ b=0 ^^^ b:=by rw[h]
 grind
def alf{w v:aa Nat}(L:c8 w)(O:c8 v)(lw:w.length=11)(lv:v.length=11)(T:w.drop 3=v.drop 3)(zw:lQ w=true)(zv:lQ v=true):w=v:=by
 obtain⟨x,y,z,d,rfl⟩:∃ x y z d,w=x :: y :: z :: d:=by
  match w,lw with
  |x::y::z::d,_=>simp_all
 obtain⟨C,D,E,d',rfl⟩:∃ x y z d,v=x :: y :: z :: d:=by
  match v,lv with
  |x::y::z::d,_=>simp_all
 have T:d=d':=T;subst T;simp only[lQ,Bool.and_eq_true]at zw zv;have⟨w0,w1,U⟩:=zw;have⟨Y,Z,v2⟩:=zv;rw[aEo]at w0 w1 U Y Z v2;have w0:gm x (pw 0) ^^^ (gm y (pw 0) ^^^ gm z (pw 0))=bL (0::0::0::d) 0 11:=Fw (Nat.eq_of_beq_eq_true w0);have w1:gm x (pw 0) ^^^ (gm y (pw 1) ^^^ gm z (pw 2))=bL (0::0::0::d) 1 11:=Fw (Nat.eq_of_beq_eq_true w1);have U:gm x (pw 0) ^^^ (gm y (pw 2) ^^^ gm z (pw 4))=bL (0::0::0::d) 2 11:=Fw (Nat.eq_of_beq_eq_true U);have Y:gm C (pw 0) ^^^ (gm D (pw 0) ^^^ gm E (pw 0))=bL (0::0::0::d) 0 11:=Fw (Nat.eq_of_beq_eq_true Y);have Z:gm C (pw 0) ^^^ (gm D (pw 1) ^^^ gm E (pw 2))=bL (0::0::0::d) 1 11:=Fw (Nat.eq_of_beq_eq_true Z);have v2:gm C (pw 0) ^^^ (gm D (pw 2) ^^^ gm E (pw 4))=bL (0::0::0::d) 2 11:=Fw (Nat.eq_of_beq_eq_true v2);have m:∀{l:aa Nat} {n:Nat},c8 l -> n∈l -> n<16:=λh hn=>h _ hn
 have k1:=fE (fE (fE ale (m L (n:=x) (by simp))) (m L (n:=y) (by simp))) (m L (n:=z) (by simp));have k2:=fE (fE (fE ale (m O (n:=C) (by simp))) (m O (n:=D) (by simp))) (m O (n:=E) (by simp));simp_all
def alg(w r:aa Nat):∀ k,k<=3->(oL w r k).drop 3=w.drop 3
 |0,_=>rfl
 | k+1,h=>by
  show (List.set _ _ _).drop 3=_;rw[List.drop_set_of_lt (by omega),alg w r k (by omega)]
def ZQ{a b:aa Nat}(h:bf a=bf b):a=b:=(List.map_inj_right (λx y h=>by
 omega)).1 h
def aEp{d:aa Nat}(E:c8 d)(D:d.length=8):∃ w,yK (bf d)=some (bf w)/\w.length=11/\c8 w/\w.drop 3=d/\lQ w=true:=by
 have L:c8 (0 :: 0 :: 0 :: d):=by
  intro x hx;simp only[List.mem_cons]at hx;rcases hx with rfl|rfl|rfl|hx
  ·decide
  ·decide
  ·decide
  ·exact E x hx
 have C:(0::0::0::d).length=11:=by simp[D]
 obtain⟨w,e,O,T,U,Y,Z⟩:=azI E D;refine⟨w,e,O,T,?_,by simp[lQ,U,Y,Z]⟩;have e1:yK (bf d)=some (bf (oL (0 :: 0 :: 0 :: d) (out (0 :: 0 :: 0 :: d) 8) 3)):=by
  unfold yK xA aW xZ;have c0:((d.length:Int)==(8:Int))=true:=by rw[D];rfl
  have c1:bD ((List.replicate (3:Int).toNat (0:Int)).length+(bf d).length)=true:=by
   rw[fY,D];rfl
  have c2:bD (([]:aa Int).length+(bf (0 :: 0 :: 0 :: d)).length)=true:=by
   rw[fY,C];rfl
  have c3:W6 (((bf (0 :: 0 :: 0 :: d)).length:Int)-(1:Int))=10:=by
   rw[fY,C];rfl
  have eW:List.replicate (3:Int).toNat (0:Int)++bf d=bf (0::0::0::d):=rfl;rw[ajm E (by omega),ak,c0,show (!true)=false from rfl,cond_false,if_pos (by decide),c1,cond_true,eW,ajl,ak,Sum.elim_inl];dsimp only;rw[List.nil_append,c2,cond_true,c3,ajn L C,ak,Sum.elim_inl];dsimp only;rw[ajt C (by rw[Ch,C]),ak,Sum.elim_inl]
 rw[e1]at e;injection e with e;rw[<-ZQ e,alg _ _ 3 (Nat.le_refl _)];rfl
def CC(x:Int):aa Int:=(EX x).getD []
def LX{x:Int}(E:0 <= x)(L:x <= 4294967295):EX x=some (CC x)/\Sy (CC x) /\ ∃ w,CC x=bf w/\w.length=11/\c8 w/\bf (w.drop 3)=jc x 8/\lQ w=true:=by
 have O:aI x 0 4294967295=true:=by rw[bA];omega
 have⟨t1,t2⟩:=Yg _ (ZP x 8);have tl:((jc x 8).map Int.toNat).length=8:=by rw[List.length_map,LW]
 have⟨w,C,l1,d1,T,U,Y,Z⟩:=azy t2 tl;have z1:lQ w=true:=by simp[lQ,U,Y,Z]
 rw[t1]at C;have D:EX x=some (bf w):=by
  unfold EX BR;rw[c9,ak,ak,O,Bool.not_true,cond_false,aEn E L,ak,C,ak]
 have ee:CC x=bf w:=by unfold CC;rw[D];rfl
 rw[ee];exact⟨D,Ll d1 l1,w,rfl,l1,d1,by rw[T,t1],z1⟩
def alh{x:Int}(C:0 <= x)(D:x <= 4294967295):D1 x=some (CC x):=by
 have⟨t1,t2⟩:=Yg _ (ZP x 8);have tl:((jc x 8).map Int.toNat).length=8:=by rw[List.length_map,LW]
 have⟨_,_,w,L,l1,d1,O,T⟩:=LX C D;have⟨v,E,l2,d2,U,Y⟩:=aEp t2 tl;have Z:=alf d1 d2 l1 l2 (by rw[U];exact ZQ (by rw[O,t1])) T Y;subst Z;rw[t1]at E;unfold D1;rw[aEm C D,ak,E,ak,L]
def aEq{a b:Nat}(E:a<9223372036854775808)(L:b<9223372036854775808):bits .or .i64 (a:Int) (b:Int)=((a ||| b:Nat):Int):=by
 have e:bits .or .i64 (a:Int) (b:Int)=W6 ((BitVec.ofInt 64 (a:Int) |||BitVec.ofInt 64 (b:Int)).toNat:Int):=rfl;have h:a |||b<2 ^ 63:=Nat.or_lt_two_pow (by omega) (by omega);have C:BitVec.ofInt 64 (a:Int)=BitVec.ofNat 64 a:=BitVec.ofInt_natCast 64 a;have D:BitVec.ofInt 64 (b:Int)=BitVec.ofNat 64 b:=BitVec.ofInt_natCast 64 b;rw[e,C,D,BitVec.toNat_or,BitVec.toNat_ofNat,BitVec.toNat_ofNat,Nat.mod_eq_of_lt (by omega),Nat.mod_eq_of_lt (by omega),aK]
def aEr(a:Nat)(L:a<9223372036854775808):bits .and .i64 (a:Int) 15=((a % 16:Nat):Int):=by
 have e:bits .and .i64 (a:Int) 15=W6 ((BitVec.ofInt 64 (a:Int) &&& BitVec.ofInt 64 15).toNat:Int):=rfl;have C:BitVec.ofInt 64 (a:Int)=BitVec.ofNat 64 a:=BitVec.ofInt_natCast 64 a;have D:(BitVec.ofInt 64 15).toNat=15:=rfl;have E:a &&& 15=a % 16:=Nat.and_two_pow_sub_one_eq_mod a 4;rw[e,C,BitVec.toNat_and,BitVec.toNat_ofNat,Nat.mod_eq_of_lt (by omega),D,E,aK]
def nv(d:aa Nat):Nat->Nat
 |0=>0
 |k+1=>nv d k+d.getD k 0*16 ^ k
def LY{d:aa Nat}(C:c8 d):∀ k,nv d k<16 ^ k
 |0=>Nat.one_pos
 | k+1=>by
  have D:=LY C k;have E:=C.get k;have L:d.getD k 0*16 ^ k <= 15*16 ^ k:=Nat.mul_le_mul_right _ (by omega);show nv d k+d.getD k 0*16 ^ k<16 ^ (k+1)
  grind
def ali(k:Nat)(C:k<8):(min (4*(k:Int)).toNat IntKind.i64.bits)=4*k:=by
 have:IntKind.i64.bits=64:=rfl;rw[this];omega
def ZR{d:aa Nat}(C:c8 d)(E:d.length=8):∀ k,k<=8->wv (bf d) k=(nv d k:Int)
 |0,_=>rfl
 | k+1,h=>by
  have L:=LY C k;have U:=C.get k;have Y:(16:Nat) ^ k<=16 ^ 7:=Nat.pow_le_pow_right (by decide) (by omega);have D:(2:Nat) ^ (4*k)=16 ^ k:=by rw[Nat.pow_mul]
  have Z:d.getD k 0*16 ^ k<=15*16 ^ k:=Nat.mul_le_mul_right _ (by omega);have O:(bf d).getD k 0=((d.getD k 0:Nat):Int):=by
   rw[List.getD_eq_getElem?_getD,List.getElem?_eq_getElem (by rw[fY];omega)];exact sD (by rw[fY];omega)
  have T:((d.getD k 0:Nat):Int)*2 ^ (4*k)=((d.getD k 0*16 ^ k:Nat):Int):=by
   rw[<-D]
   push_cast
   rfl
  show bits .or .i64 (wv (bf d) k) (W6 ((bf d).getD k 0*2 ^ (min (4*(k:Int)).toNat IntKind.i64.bits)))=((nv d k+d.getD k 0*16 ^ k:Nat):Int)
  rw[ZR C E k (by omega),ali k (by omega),O,T,aK,aEq (by omega) (by omega)];congr 1;have:=Nat.two_pow_add_eq_or_of_lt (i:=4*k) (b:=nv d k) (by rw[D];exact L) (d.getD k 0);rw[D,Nat.mul_comm]at this;rw[Nat.or_comm,<-this];omega
def alj{d:aa Nat}(C:c8 d):∀ n k,k<n -> nv d n / 16 ^ k % 16=d.getD k 0
 |0,k,h=>by omega
 | n+1,k,h=>by
  have D:=LY C n;have L:=C.get n;show (nv d n+d.getD n 0*16 ^ n) / 16 ^ k % 16=_;by_cases e:k=n
  ·subst e;rw[Nat.add_mul_div_right _ _ (Nat.pow_pos (by decide)),Nat.div_eq_of_lt D,Nat.zero_add];omega
  ·have O:n=(n-k-1)+1+k:=by omega
   have E:d.getD n 0*16 ^ n=(d.getD n 0*16 ^ (n-k-1)*16)*16 ^ k:=by
    grind
   rw[E,Nat.add_mul_div_right _ _ (Nat.pow_pos (by decide)),Nat.add_mul_mod_self_right,alj C n k (by omega)]
def aEs{d:aa Nat}(C:c8 d)(D:d.length=8):jc (wv (bf d) 8) 8=bf d:=by
 have T:nv d 8<16 ^ 8:=LY C 8;rw[ZR C D 8 (Nat.le_refl _)];have key:∀ k,k <= 8 -> jc (nv d 8:Int) k=bf (d.take k):=by
  intro k
  induction k with
  |zero=>intro _;rfl
  | succ k E=>
   intro U;have Y:(2:Nat) ^ (4*k)=16 ^ k:=by rw[Nat.pow_mul]
   have L:(nv d 8:Int).fdiv (2 ^ (4*k))=((nv d 8 / 16 ^ k:Nat):Int):=by
    grind
   have O:Fv (nv d 8:Int) k=((d.getD k 0:Nat):Int):=by
    unfold Fv;rw[ali k (by omega),L,aEr _ (Nat.lt_of_le_of_lt (Nat.div_le_self _ _) (by omega)),alj C 8 k (by omega)]
   show jc (nv d 8:Int) k++[Fv (nv d 8:Int) k]=_;rw[E (by omega),O,List.take_add_one,List.getElem?_eq_getElem (by omega),List.getD_eq_getElem?_getD,List.getElem?_eq_getElem (by omega)];exact(List.map_append (f:=λn:Nat=>(n:Int)) (l₁:=d.take k) (l₂:=[d[k]])).symm
 rw[key 8 (Nat.le_refl _),<- D,List.take_length]
def aEt{d:aa Nat}(C:c8 d)(D:d.length=8):0 <= wv (bf d) 8/\wv (bf d) 8 <= 4294967295:=by
 have E:=LY C 8;rw[ZR C D 8 (Nat.le_refl _)];omega
def aEu{w:aa Nat}(C:c8 w)(D:w.length=11)(h:(fm w).2.1=1):D1 (zM w)=some (bf (fm w).1):=by
 have⟨E,L,_⟩:=Cw C D;have hz:=aBg C D (by omega);have O:c8 ((fm w).1.drop 3):=λx hx=>L x (List.mem_of_mem_drop hx)
 have T:((fm w).1.drop 3).length=8:=by rw[List.length_drop,E]
 have he:zM w=wv (bf ((fm w).1.drop 3)) 8:=by
  unfold zM;simp_all
 have⟨U,Y⟩:=aEt O T;have e2:=alh U Y;have⟨_,_,v,ev,vl,v16,Z,vz⟩:=LX U Y;rw[aEs O T]at Z;have:=alf v16 L vl E (ZQ Z) vz hz;simp_all
def LZ(d:bC):Int:=bif d.gx then 0 else zM (nw d)
def p9(c:av)(j:Nat)(d:bC):av:=cO c ⟨c.array.cells.set j d,c.array.bh,c.array.aZ⟩
def alk{c:av}{j:Nat}(h:j<c.array.cells.length):p9 c j c.array.cells[j]=c:=by
 unfold p9 cO;rw[aEl h]
def alm{c:av}{j:Nat}(C:j<c.array.cells.length)(T:Sy c.array.cells[j].symbols):wK c (j:Int)=some ((LZ c.array.cells[j],jb c.array.cells[j]),(p9 c j (nY c.array.cells[j]),())):=by
 have⟨U,D,E⟩:=Sr T;have L:=akp D E;have O:=aEj D E;rw[U]at L O;have Z:=alk C;unfold wK jb nY LZ xL xM;rw[dif_pos ⟨by omega,by omega⟩,dif_pos (by omega)];simp only[Int.toNat_natCast];cases Y:c.array.cells[j].gx with
 |true =>simp_all
 | false=>
  rw[cond_false,cond_false,cond_false,cond_false,dif_pos C,dif_pos C,L,ak,dif_pos C,dif_pos C,O,ak];dsimp only;rcases(Cw D E).2.2 with q|q|q
  ·grind
  ·rw[q,beq_self_eq_true,dif_pos C,Y];rfl
  ·rw[q,jF (by omega),cond_false,beq_self_eq_true,dif_pos C];rfl
def aln{c:av}{j:Nat}(C:j<c.array.cells.length)(O:Sy c.array.cells[j].symbols):BF c (j:Int)=some ((LZ c.array.cells[j],jb c.array.cells[j]),(p9 c j (nY c.array.cells[j]),())):=by
 have⟨T,D,E⟩:=Sr O;have L:=aEk D E;rw[T]at L;have Y:=alk C;unfold BF jb nY LZ xL xM;rw[dif_pos ⟨by omega,by omega⟩,dif_pos (by omega)];simp only[Int.toNat_natCast];cases U:c.array.cells[j].gx with
 |true =>simp_all
 | false=>
  rw[cond_false,cond_false,cond_false,cond_false,dif_pos C,L,ak];dsimp only;rcases(Cw D E).2.2 with q|q|q
  ·grind
  ·rw[q,beq_self_eq_true,aEu D E q,ak,dif_pos ⟨by omega,C⟩,dif_pos C,jF (by omega),cond_false,U];rfl
  ·rw[q,jF (by omega),beq_self_eq_true,cond_false,dif_pos ⟨by omega,C⟩,dif_pos C];rfl
def tu(q:aa bk)(i:Nat):Bool:=match q[i]? with
 |some r=>(q.take i).any λx=>x.line==r.line
 |none=>false
def alo{q:aa bk}{i:Nat}(h:i<q.length):tu q i=(q.take i).any λx=>x.line==q[i].line:=by
 unfold tu;rw[List.getElem?_eq_getElem h]
def aEv{α:Type}(p:α -> Bool)(q:aa α)(i:Nat)(hi:i <= q.length):cR p (q.take i)=min (cR p q) i:=by
 have O:=uP p q;have D:=uP p (q.take i);rw[List.length_take,Nat.min_eq_left hi]at D;rcases Nat.lt_or_ge (cR p (q.take i)) i with h|h
 ·have E:cR p (q.take i)<(q.take i).length:=by rw[List.length_take,Nat.min_eq_left hi];exact h
  have L:=p7 E;rw[List.getElem_take]at L;rcases Nat.lt_or_ge (cR p q) (cR p (q.take i))with h5|h5
  ·have h6:=p7 (p:=p) (q:=q) (by omega);have C:=lS h5 (by rw[List.length_take];omega);simp_all
  ·rcases Nat.lt_or_ge (cR p (q.take i)) (cR p q)with h6 | h6
   ·have C:=lS h6 (by omega);simp_all
   ·omega
 ·have e:cR p (q.take i)=i:=by omega
  rw[e];rcases Nat.lt_or_ge (cR p q) i with h5|h5
  ·have h6:=p7 (p:=p) (q:=q) (by omega);have C:=lS (p:=p) (q:=q.take i) (i:=cR p q) (by omega) (by rw[List.length_take];omega);simp_all
  ·omega
def aEw{q:aa bk}{i:Nat}(h:i<q.length)(L:q.length <= 1000):Qr q (i:Int)=some (tu q i):=by
 have O:=uP (λx:bk=>x.line==q[i].line) (q.take i);have hlen:(q.take i).length=i:=by rw[List.length_take];omega
 unfold Qr br;rw[c9,ak,LR (by omega) (by omega) (by omega),Bool.not_true,cond_false,if_pos ⟨by omega,by omega,by omega⟩,alo h,R8];simp only[Int.toNat_natCast,Int.toNat_zero,List.drop_zero];generalize T:q.take i=t at *
 have e:=cm (step:=EL) (cR (λx:bk=>x.line==q[i].line) t) (λj=>((q,(i:Int),t,(t.length:Int),(j:Int),()),())) (if cR (λx:bk=>x.line==q[i].line) t<t.length then .inl ((true,()),())else .inr (.inl ((),()))) aQ (λk E=>by
  have D:=lS E (by omega);unfold EL aq aM xG xI;dsimp only;rw[decide_eq_true (by omega),cond_true,dif_pos ⟨by omega,by omega⟩,dif_pos ⟨by omega,by omega⟩];simp only[Int.toNat_natCast];rw[D,cond_false,bq]) (by
  by_cases C:cR (λx:bk=>x.line==q[i].line) t<t.length
  ·have D:=p7 C;unfold EL aq aM xG xI;dsimp only;rw[decide_eq_true (by omega),cond_true,dif_pos ⟨by omega,by omega⟩,dif_pos ⟨by omega,by omega⟩]
   grind
  ·unfold EL aq aM xG xI;dsimp only;rw[decide_eq_false (by omega),cond_false,if_neg C]) (bF)
 rw[Int.natCast_zero]at e
 refine(congrArg (λo=>Option.bind o _) e).trans ?_
 by_cases C:cR (λx:bk=>x.line==q[i].line) t<t.length
 ·rw[if_pos C,decide_eq_true C];rfl
 ·rw[if_neg C,decide_eq_false C];rfl
def alp{q:aa bk}{i:Nat}(h:i<q.length)(E:q.length <= 1000):IC q (i:Int)=some (tu q i):=by
 have L:=aEv (λx:bk=>x.line==q[i].line) q i (by omega);have O:=uP (λx:bk=>x.line==q[i].line) (q.take i);have hlen:(q.take i).length=i:=by rw[List.length_take];omega
 unfold IC br;rw[alo h,R8,hlen];generalize T:cR (λx:bk=>x.line==q[i].line) (q.take i)=n at *
 have e:=cm (step:=D7) n (λj=>((q,(i:Int),(j:Int),()),())) (if n<i then .inl ((true,()),())else .inr (.inl ((),()))) aQ (λk U=>by
  have D:=lS (p:=λx:bk=>x.line==q[i].line) (q:=q) (i:=k) (by omega) (by omega);unfold D7 aq aM xG xI;dsimp only;rw[decide_eq_true (by omega),cond_true,decide_eq_true (by omega),cond_true,dif_pos ⟨by omega,by omega⟩,dif_pos ⟨by omega,by omega⟩];simp only[Int.toNat_natCast];rw[D,cond_false,bq]) (by
  by_cases C:n<i
  ·have D:((q[n]'(by omega)).line==q[i].line)=true:=by
    have Y:cR (λx:bk=>x.line==q[i].line) q=n:=by omega
    have:=p7 (p:=λx:bk=>x.line==q[i].line) (q:=q) (by omega)
    grind
   unfold D7 aq aM xG xI;dsimp only;rw[decide_eq_true (by omega),cond_true,decide_eq_true (by omega),cond_true,dif_pos ⟨by omega,by omega⟩,dif_pos ⟨by omega,by omega⟩]
   grind
  ·unfold D7 aq aM xG xI;dsimp only;rw[decide_eq_false (by omega),cond_false,if_neg C]) (bF)
 rw[Int.natCast_zero]at e
 refine(congrArg (λo=>Option.bind o _) e).trans ?_
 by_cases C:n<i
 ·rw[if_pos C,decide_eq_true C];rfl
 ·rw[if_neg C,decide_eq_false C];rfl
def zN(d:fI)(n:Int)(w:Bool):Bool:=bif w then d.on ||decide (n<1)else !d.on
def aEx{d:fI}(n:Int)(w:Bool)(h:nQ d=true):Qs d n w=some (zN d n w):=by
 unfold Qs zN;rw[RI,h]
 grind
def aEy{d:fI}(n:Int)(w:Bool)(h:nQ d=true):OP d n w=some (zN d n w):=by
 unfold OP zN;rw[RJ,h]
 grind
def zO(p:Nat->Bool)(k:Nat):Int:=((List.range k).countP p:Nat)
def Ss(p:Nat -> Bool)(k:Nat):zO p (k+1)=zO p k+(bif p k then 1 else 0):=by
 unfold zO;rw[List.range_succ,List.countP_append,List.countP_singleton]
 grind
def Su(p:Nat -> Bool)(k:Nat):0 <= zO p k/\zO p k <= k:=by
 unfold zO;have:=List.countP_le_length (p:=p) (l:=List.range k);simp_all
def qa(f:Nat->Bool)(n k:Nat):aa Bool:=(List.range k).map f++List.replicate (n-k) false
def Sv{f:Nat->Bool}{n k:Nat}(h:k<=n):(qa f n k).length=n:=by unfold qa;simp;omega
def Sw{f:Nat -> Bool}{n k:Nat}(h:k<n):(qa f n k).set k (f k)=qa f n (k+1):=by
 unfold qa;rw[List.set_append_right _ _ (by simp),List.length_map,List.length_range,Nat.sub_self,show n-k=(n-(k+1))+1 by omega,List.replicate_succ,List.range_succ,List.map_append,List.append_assoc];rfl
def ZS(f:Nat->Bool)(n:Nat):qa f n 0=List.replicate n false:=rfl
def Sx(f:Nat->Bool)(n:Nat):qa f n n=(List.range n).map f:=by unfold qa;simp
def w8{f:Nat->Bool}{n k:Nat}(h:k<n)(C:k<((List.range n).map f).length):((List.range n).map f)[k]=f k:=by simp
def oP(q:aa bk)(i:Nat):Bool:=match q[i]? with
 |some r=>r.write
 |none=>false
def CD{q:aa bk}{i:Nat}(h:i<q.length):oP q i=q[i].write:=by
 unfold oP;rw[List.getElem?_eq_getElem h]
def jd(q:aa bk)(i:Nat):Bool:=!tu q i
def oQ(q:aa bk)(k:Nat):Int:=zO (λi=>jd q i && !oP q i) k
def qb(q:aa bk)(k:Nat):Int:=zO (λi=>jd q i&&oP q i) k
def fZ(c:av)(i:Nat):Bool:=jd c.queue i&&(zN c.drain (oQ c.queue c.queue.length) (oP c.queue i) ||(!oP c.queue i&&qb c.queue c.queue.length==0))
def aEz{c:av}(h:Pq c):OQ c=some ((List.range c.queue.length).map (fZ c)):=by
 have O:=h.ql;have e:=cm (step:=ID) c.queue.length (λi=>((c,oQ c.queue i,qb c.queue i,(i:Int),()),())) (.inl ((c,oQ c.queue c.queue.length,qb c.queue c.queue.length,()),())) aQ (λk C=>by
  have T:=Su (λi=>jd c.queue i && !oP c.queue i) k;have U:=Su (λi=>jd c.queue i&&oP c.queue i) k;unfold ID aq xG xI;dsimp only;rw[decide_eq_true (by omega),cond_true,alp C (by omega),ak,bq];unfold oQ qb at *
  have E:jd c.queue k = !tu c.queue k:=rfl;rw[Ss,Ss];simp only[E,CD C];cases tu c.queue k with
  |true=>simp
  | false=>
   rw[cond_false,dif_pos ⟨by omega,by omega⟩];simp only[Int.toNat_natCast];cases c.queue[k].write with
   |true=>rw[cond_true,aK];simp[jd]
   |false=>rw[cond_false,aK];simp[jd]) (by
  unfold ID aq xG xI;dsimp only;rw[decide_eq_false (by omega),cond_false]) (bF)
 have D:=cm (step:=IE) c.queue.length (λi=>((c,oQ c.queue c.queue.length,qb c.queue c.queue.length,(),(i:Int),()),((List.range i).map (fZ c),()))) (.inl (((),()),((List.range c.queue.length).map (fZ c),()))) aQ (λk C=>by
  have L:((List.range k).map (fZ c)).length=k:=by simp
  unfold IE aq xG xI;dsimp only;rw[decide_eq_true (by omega),cond_true,dif_pos ⟨by omega,by omega⟩,alp C (by omega),ak,bq,List.range_succ,List.map_append,L,List.map_singleton];simp only[Int.toNat_natCast,List.length_singleton,cM (show k+1<1073741824 by omega),cond_true,aEy _ _ h.dr,ak];unfold fZ jd;rw[CD C];cases tu c.queue k<;>cases c.queue[k].write<;>cases zN c.drain (oQ c.queue c.queue.length) _<;>first|rfl|simp) (by
  unfold IE aq xG xI;dsimp only;rw[decide_eq_false (by omega),cond_false]) (bF)
 rw[Int.natCast_zero]at e D;unfold OQ aW
 refine(congrArg (λo=>Option.bind o _) e).trans ?_
 rw[ak]
 refine(congrArg (λo=>Option.bind o _) D).trans ?_
 rfl
def eD(c:av):aa aF:=c.queue.map λr=>fL c r.line
def tv(c:av):(eD c).length=c.queue.length:=by unfold eD;rw[List.length_map]
def aEA{c:av}{i:Nat}(h:i<c.queue.length)(C:i<(eD c).length):(eD c)[i]=fL c c.queue[i].line:=by simp only[eD,List.getElem_map]
def SA{c:av}(h:Pq c){r:bk}(C:r∈c.queue):uD c r.line=some (fL c r.line,true)/\ey c.config.aB (fL c r.line)=true:=
 aDO h.p h.sp h.se h.mo (h.q r C).1.1 (h.q r C).1.2
def ZT{c:av}(h:Pq c){r:bk}(C:r∈c.queue):wz c r.line=some (fL c r.line):=
 aDQ h.p h.sp h.se h.mo (h.q r C).1.1 (h.q r C).1.2
def aEB{c:av}(h:Pq c):Qq c=some (eD c):=by
 have E:=h.ql;have e:=cm (step:=J4) c.queue.length (λi=>(((),(),c.queue,c.queue.length,i,()),(c,(c.queue.take i).map _,()))) (.inl (((),()),(eD c,()))) aQ (λk C=>by
  have D:((c.queue.take k).map (λr=>fL c r.line)).length=k:=by simp;omega
  unfold J4 aq xG xI;dsimp only;rw[decide_eq_true (by omega),cond_true,dif_pos ⟨by omega,by omega⟩];simp only[Int.toNat_natCast];rw[(SA h (List.getElem_mem C)).1,ak,bq,D,List.length_singleton,cM,cond_true,pS C,List.map_append];rfl) (by
  unfold J4 aq xG xI;dsimp only;rw[decide_eq_false (by omega),cond_false,List.take_length];rfl) (bF)
 unfold Qq aW;simp_all
def alq{c:av}(h:Pq c):IB c=some (eD c):=by
 have E:=h.ql;have e:=cm (step:=IA) c.queue.length (λi=>((c,(),i,()),((c.queue.take i).map _,()))) (.inl (((),()),(eD c,()))) aQ (λk C=>by
  have D:((c.queue.take k).map (λr=>fL c r.line)).length=k:=by simp;omega
  unfold IA aq xG xI;dsimp only;rw[decide_eq_true (by omega),cond_true,dif_pos ⟨by omega,by omega⟩];simp only[Int.toNat_natCast];rw[ZT h (List.getElem_mem C),ak,bq,D,List.length_singleton,cM,cond_true,pS C,List.map_append];rfl) (by
  unfold IA aq xG xI;dsimp only;rw[decide_eq_false (by omega),cond_false,List.take_length];rfl) (bF)
 unfold IB aW;simp_all
def zA:aF:=⟨0,0,0⟩
def zQ:bk:=⟨0,0,0,false,0,0⟩
def eH(c:av)(i:Nat):aF:=(eD c).getD i zA
def jI(c:av)(i:Nat):bk:=c.queue.getD i zQ
def CE{c:av}{i:Nat}(h:i<(eD c).length):(eD c)[i]=eH c i:=by
 unfold eH;rw[List.getD_eq_getElem?_getD,List.getElem?_eq_getElem h];rfl
def nZ{c:av}{i:Nat}(h:i<c.queue.length):c.queue[i]=jI c i:=by
 unfold jI;rw[List.getD_eq_getElem?_getD,List.getElem?_eq_getElem h];rfl
def CF{c:av}(h:Pq c){i:Nat}(hi:i<c.queue.length):ey c.config.aB (eH c i)=true/\0 <= (eH c i).au/\(eH c i).au.toNat<c.aX.ay.length/\(eH c i).au.toNat<c.aL.aE.length/\(eH c i).au<aT c.config.aB/\0 <= (eH c i).row:=by
 have e:=aEA hi (by rw[tv];exact hi);rw[CE]at e;have C:=(SA h (List.getElem_mem hi)).2;rw[<- e]at C;have⟨_,D,E,L,O,T,U⟩:=qR C;have:=h.p.bl;have:=h.dl;simp_all
def uZ{c:av}(h:Pq c):c.aX.ay.length<=1048576:=by
 have:=h.p.bl;have:=eM c.config.aB;omega
def dy(c:av)(i:Nat):Bool:=uW c.aX (eH c i)
def aEC{c:av}(h:Pq c)(C:aa Int)(D:aa aF)(Z:Int×Int×Int×Int×af)(P:Int×Int×Int×Int×Int×(aa Int)×Int×Int×af):iter EP aQ ((C,D,(),(),(),(),(0:Int),(0:Int),c.queue,(c.queue.length:Int),(0:Int),()),(c,Z,P,List.replicate c.queue.length false,()))=some (.inl ((C,D,(),(),(),(),oQ c.queue c.queue.length,qb c.queue c.queue.length,()),(c,Z,P,(List.range c.queue.length).map (jd c.queue),()))):=by
 have T:=h.ql;have e:=cm (step:=EP) c.queue.length (λi=>((C,D,(),(),(),(),oQ c.queue i,qb c.queue i,c.queue,(c.queue.length:Int),(i:Int),()),(c,Z,P,qa (jd c.queue) c.queue.length i,()))) (.inl ((C,D,(),(),(),(),oQ c.queue c.queue.length,qb c.queue c.queue.length,()),(c,Z,P,(List.range c.queue.length).map (jd c.queue),()))) aQ (λk E=>by
  have U:=Su (λi=>jd c.queue i && !oP c.queue i) k;have Y:=Su (λi=>jd c.queue i&&oP c.queue i) k;have L:jd c.queue k = !tu c.queue k:=rfl;have O:=Sv (f:=jd c.queue) (n:=c.queue.length) (k:=k) (by omega);have ji:((qa (jd c.queue) c.queue.length k).set k (!tu c.queue k)).length=c.queue.length:=by rw[List.length_set,O]
  rw[<- Sw E];unfold EP aq xG xI xL;dsimp only;rw[decide_eq_true (by omega),cond_true,dif_pos ⟨by omega,by omega⟩,aEw E (by omega),ak,dif_pos ⟨by omega,by omega⟩,dif_pos (by omega),dif_pos ⟨by omega,by simp only[Int.toNat_natCast];omega⟩,dif_pos (by simp only[Int.toNat_natCast];omega),bq];simp only[Int.toNat_natCast,List.getElem_set_self];unfold oQ qb at *
  rw[Ss,Ss];simp only[L,CD E];cases tu c.queue k with
  | true=>
   simp[*]
  | false=>
   rw[Bool.not_false,cond_true];cases c.queue[k].write with
   |true=>rw[ aK];simp
   | false=>
    rw[cond_false,dif_pos ⟨by omega,by rw[List.length_set];omega⟩,dif_pos (by rw[List.length_set];omega),aK];simp) (by
  unfold EP aq xG xI xL;dsimp only;rw[decide_eq_false (by omega),cond_false,Sx]) (bF)
 rw[Int.natCast_zero,ZS]at e;exact e
def q5(c:av):Nat->aa (Int×Bool)
 |0=>[]
 |k+1=>bif fZ c k&&dy c k then lG (q5 c k) (eH c k).au true else q5 c k
def xb(c:av)(k:Nat)(b:Int):Bool:=(List.range k).any λi=>fZ c i&&dy c i&&b==(eH c i).au
def alr(c:av)(b:Int):∀ k,kC (q5 c k) b=xb c k b
 |0=>rfl
 | k+1=>by
  have C:=alr c b k;have e:xb c (k+1) b=(xb c k b || (fZ c k&&dy c k&&b==(eH c k).au)):=by
   unfold xb
   grind
  rw[e,<- C];show kC (bif fZ c k&&dy c k then lG _ (eH c k).au true else q5 c k) b=_;cases fZ c k&&dy c k with
  |false=>simp
  |true=>rw[cond_true,aAW,Bool.true_and,Bool.or_comm]
def aED{c:av}(h:Pq c)(D:aa Int)(Z:Int×Int×Int×Int×af)(P:Int×Int×Int×Int×Int×(aa Int)×Int×Int×af):iter ER aQ ((D,eD c,(),(),(),(),oQ c.queue c.queue.length,qb c.queue c.queue.length,(),(),(),c.queue,(c.queue.length:Int),(0:Int),()),(c,Z,P,(List.range c.queue.length).map (jd c.queue),List.replicate c.queue.length false,List.replicate c.queue.length false,([]:aa (Int×Bool)),()))=some (.inl ((D,eD c,(),(),(),(),(),(),()),(c,Z,P,(List.range c.queue.length).map (fZ c),(List.range c.queue.length).map (dy c),q5 c c.queue.length,()))):=by
 have hq:=h.ql;have E:=uZ h;have e:=cm (step:=ER) c.queue.length (λi=>((D,eD c,(),(),(),(),oQ c.queue c.queue.length,qb c.queue c.queue.length,(),(),(),c.queue,(c.queue.length:Int),(i:Int),()),(c,Z,P,(List.range c.queue.length).map (jd c.queue),qa (fZ c) c.queue.length i,qa (dy c) c.queue.length i,q5 c i,()))) (.inl ((D,eD c,(),(),(),(),(),(),()),(c,Z,P,(List.range c.queue.length).map (fZ c),(List.range c.queue.length).map (dy c),q5 c c.queue.length,()))) aQ (λk C=>by
  have L:=Sv (f:=fZ c) (n:=c.queue.length) (k:=k) (by omega);have O:=Sv (f:=dy c) (n:=c.queue.length) (k:=k) (by omega);have T:=tv c;have hl4:((List.range c.queue.length).map (jd c.queue)).length=c.queue.length:=by simp
  obtain⟨ho,U,Y,o3,o4,o5⟩:=CF h C;have hh:=aDS (r:=c.aX) (a:=eH c k) o5 U Y E;have hd:fZ c k=(jd c.queue k&&(zN c.drain (oQ c.queue c.queue.length) c.queue[k].write ||(!c.queue[k].write&&qb c.queue c.queue.length==0))):=by unfold fZ;rw[CD C]
  have hhb:q5 c (k+1)=bif fZ c k&&dy c k then lG (q5 c k) (eH c k).au true else q5 c k:=rfl;have gM:dy c k=uW c.aX (eH c k):=rfl;rw[<-Sw C,<-Sw C,hhb];unfold ER aq xG xI xL;dsimp only;rw[decide_eq_true (by omega),cond_true,dif_pos ⟨by omega,by omega⟩,dif_pos ⟨by omega,by omega⟩,dif_pos (by omega)];simp only[Int.toNat_natCast,w8 C,aEx _ _ h.dr,ak,CE,hh,bq (show k<4611686018427387904 by omega),List.getElem_set_self,List.length_set,L,O,T];rw[hd,gM];cases jd c.queue k<;>cases zN c.drain (oQ c.queue c.queue.length) c.queue[k].write<;>cases c.queue[k].write<;>cases uW c.aX (eH c k)<;>cases qb c.queue c.queue.length==0<;>simp[C]) (by
  unfold ER aq xG xI xL;dsimp only;rw[decide_eq_false (by omega),cond_false,Sx,Sx]) (bF)
 rw[Int.natCast_zero,ZS,ZS]at e;exact e
def SB(e:bK):bK:=⟨e.line,e.code,(if (999:Int)<(W6 (e.times+(1:Int)))then (999:Int)else (W6 (e.times+(1:Int))))⟩
def zEE:bK:=⟨0,0,0⟩
def qc(l:aa bK)(line code:Int):aa bK:=match l.findIdx? (jG ⟨line,code,1⟩)with
 |some i=>l.set i (SB (l.getD i zEE))
 |none=>bif ((l.length:Int)==(6:Int))then l.drop 1++[⟨line,code,1⟩]else l++[⟨line,code,1⟩]
def aEE{l:aa bK}(h:js l=true){line code:Int}(D:0<=line/\line<=1023)(E:code=1\/code=2):Qf l line code=some (qc l line code,true):=by
 have U:l.length<=6:=by
  simp only[js,Bool.and_eq_true,decide_eq_true_eq]at h;omega
 have L:aI line 0 1023=true:=bA.2 D;unfold Qf JX qc br xA xZ;rw[cM (by simp;omega),cond_true,ak,ajN _ (by omega),ak,h,Bool.not_true,cond_false,c9,ak,L,Bool.not_true,cond_false,List.nil_append];have e:=uJ (step:=JY) l (jG ⟨line,code,1⟩) (λk=>((line,code,(),(),(l.length:Int),(k:Int),()),(l,()))) (λi=>.inl (((),true,()),(l.set i (SB (l.getD i zEE)),()))) (.inr (.inl ((line,code,(),()),(l,())))) aQ (λk O=>by
  unfold JY jG aq aM xG xL;dsimp only;rw[decide_eq_true (by omega),cond_true,dif_pos ⟨by omega,by omega⟩,dif_pos (by omega)];simp only[Int.toNat_natCast];rw[dif_pos ⟨by omega,by omega⟩,dif_pos (by omega),bq,lU _ O];cases l[k].line==line<;>cases l[k].code==code<;>rfl) (by
  unfold JY aq aM xG xL;dsimp only;rw[decide_eq_false (by omega),cond_false]) (bF)
 rw[Int.natCast_zero]at e;have T:iter XC aQ ((line,code,(),(),(l.length:Int),(0:Int),()),(l,()))=_:=e;rcases E with rfl|rfl
 ·rw[bne_self_eq_false,cond_false,T];cases l.findIdx? (jG ⟨line,1,1⟩)with
  |some i=>rfl
  | none=>
   rw[ak,Sum.elim_inr,Sum.elim_inl];dsimp only;cases C:(l.length:Int)==(6:Int)with
   |false=>rw[cond_false,cond_false,cM (by simp;omega)];rfl
   | true=>
    have C:=eq_of_beq C;rw[cond_true,cond_true,if_pos ⟨by omega,by omega,by omega⟩,cM (by simp;omega),cond_true,ak,cM (by simp;omega),cond_true];simp
 ·rw[eU (by omega),cond_true,bne_self_eq_false,cond_false,e];cases l.findIdx? (jG ⟨line,2,1⟩)with
  |some i=>rfl
  | none=>
   rw[ak,Sum.elim_inr,Sum.elim_inl];dsimp only;cases C:(l.length:Int)==(6:Int)with
   |false=>rw[cond_false,cond_false,cM (by simp;omega)];rfl
   | true=>
    have C:=eq_of_beq C;rw[cond_true,cond_true,if_pos ⟨by omega,by omega,by omega⟩,cM (by simp;omega),cond_true,ak,cM (by simp;omega),cond_true];simp
def aEF{l:aa bK}(h:js l=true){line code:Int}(D:0 <= line/\line <= 1023)(Y:code=1 \/ code=2):OE l line code=some (qc l line code,true):=by
 have Z:l.length <= 6:=by
  simp only[js,Bool.and_eq_true,decide_eq_true_eq]at h;omega
 have E:aI line 0 1023=true:=bA.2 D;have L:aI 1 1 999=true:=rfl;have O:DU ⟨line,code,1⟩=some true:=by
  unfold DU;rw[dP,ak,E,dP,L]
  grind
 unfold OE qc xA xC xZ;rw[cM (by simp;omega),cond_true,ajM,ak,h,Bool.not_true,cond_false,O,ak,Bool.not_true,cond_false];have C:=ajL l ⟨line,code,1⟩ (by omega);dsimp only at C;rw[C,ak,List.nil_append];unfold fF;cases hi:l.findIdx? (jG ⟨line,code,1⟩)with
 | some i=>
  have⟨T,hp,hq⟩:=List.findIdx?_eq_some_iff_getElem.1 hi;dsimp only;rw[decide_eq_true (by omega),cond_true,dif_pos ⟨by omega,by omega⟩,dif_pos (by omega),dif_pos ⟨by omega,by omega⟩,dif_pos (by omega)];rw[lU _ T];rfl
 | none=>
  dsimp only;rw[decide_eq_false (by omega),cond_false];by_cases U:l.length=6
  ·rw[decide_eq_true (by omega),show ((l.length:Int)==6)=true by rw[U];rfl,if_pos ⟨by omega,by omega,by omega⟩,cM (by simp;omega),cM (by simp;omega)];simp
  ·rw[decide_eq_false (by omega),cond_false,jF (by omega),cond_false,cM (by simp;omega),cond_true]
def L0(c:av)(l:aa bK):av:=⟨c.config,c.box,c.now,c.aX,c.ready,c.array,c.spare,c.aL,c.bx,c.guard,c.pending,c.queue,c.shares,c.drain,c.aS,c.cu,l,c.trace,c.cA⟩
def CG(c:av)(n code:Int):av:=bif code != 0 then L0 c (qc c.errors n code)else c
def als{c:av}(h:js c.errors=true){n code:Int}(C:0<=n/\n<=1023)(h2:code=0\/code=1\/code=2):wI c n code=some ((),(CG c n code,())):=by
 unfold wI CG;rcases h2 with rfl|h2
 ·rfl
 ·rw[aEE h C h2,eU (by omega)];rfl
def alu{c:av}(h:js c.errors=true){n code:Int}(C:0<=n/\n<=1023)(h2:code=0\/code=1\/code=2):Bu c n code=some ((),(CG c n code,())):=by
 unfold Bu CG;rcases h2 with rfl|h2
 ·rfl
 ·rw[aEF h C h2,eU (by omega)];rfl
def alv(q:aa bk):Prop:=∀i (h:i<q.length),(q.take i).any (λx=>x.id==q[i].id)=false
def aEG{q:aa bk}{i:Nat}(h:i<q.length)(E:q.length<=12):QN q (i:Int) (W6 ((i:Int)+1))=some (q.take i++q.drop (i+1),([],())):=by
 have C:(splice q i ((q.take ((q.length:Int).toNat)).drop (i+1))).length=q.length:=by
  rw[rm _ _ _ (by simp;omega)]
 have L:((q.take ((q.length:Int).toNat)).drop (i+1))=q.drop (i+1):=by rw[Int.toNat_natCast,List.take_length]
 unfold QN;rw[bq,if_pos ⟨by omega,by omega,by omega,by omega⟩,jF (by omega),cond_false,if_pos ⟨by omega,by omega,by omega⟩,if_pos ⟨by omega,by omega,by omega⟩];simp only[Int.toNat_natCast]at C ⊢;rw[if_pos ⟨by omega,by omega,by omega,by omega⟩,if_pos ⟨by omega,by omega,by omega⟩,if_pos ⟨by omega,by omega⟩];have D:i+(q.length-(i+1))-0=i+(q.length-(i+1)):=by omega
 rw[D,ZL _ _ _ (by omega)];unfold splice;rw[List.take_length,List.take_append_of_le_length (by simp;omega),List.take_of_length_le (by simp;omega)]
def aEH{q:aa bk}(C:alv q){i:Nat}(h:i<q.length)(E:q.length <= 12):Pb q q[i].id=some (q.take i++q.drop (i+1),true):=by
 have D:q.findIdx? (λr=>r.id==q[i].id)=some i:=by
  rw[List.findIdx?_eq_some_iff_getElem]
  refine⟨h,by simp,λj L=>?_⟩
  have:=List.any_eq_false.1 (C i h) q[j] (List.mem_iff_getElem.2 ⟨j,by rw[List.length_take];omega,by rw[List.getElem_take]⟩);simp_all
 unfold Pb xA xZ;rw[Ys _ _ (by omega),ak];unfold fF;rw[D];dsimp only;rw[decide_eq_false (by omega),cond_false,if_pos ⟨by omega,by omega,by omega⟩,cM (by simp;omega),cond_true,bq,if_pos ⟨by omega,by omega,by omega⟩,cM (by simp;omega),cond_true];simp_all
def xd:bk:=⟨0,0,0,false,0,0⟩
def zP(s:aa bM)(t:Int):aa bM:=match oG s ((List.replicate 4 false).set t.toNat true)with
 |some (l,_)=>l
 |none=>[]
def n5(c:av)(i:Nat)(a:cF)(e:aa bK)(x:cG):av:=
 ⟨c.config,c.box,c.now,c.aX,c.ready,a,c.spare,c.aL,c.bx,c.guard,c.pending,c.queue.take i++c.queue.drop (i+1),zP c.shares (c.queue.getD i xd).de,c.drain,c.aS,c.cu,e,c.trace,c.cA++[x]⟩
def xe(c:av)(i:Nat):av:=
 let r:=c.queue.getD i xd
 let n:=p6 c.config.aB (fL c r.line)
 bif r.write then n5 c i ⟨c.array.cells.set n ⟨CC r.data,false⟩,c.array.bh,c.array.aZ⟩ c.errors ⟨r.id,c.now,0,0⟩
 else n5 c i ⟨c.array.cells.set n (nY (c.array.cells.getD n uT)),c.array.bh,c.array.aZ⟩ (bif jb (c.array.cells.getD n uT) != 0 then qc c.errors (n:Int) (jb (c.array.cells.getD n uT))else c.errors) ⟨r.id,c.now,LZ (c.array.cells.getD n uT),jb (c.array.cells.getD n uT)⟩
def SC{d:bC}(h:Sy d.symbols):jb d=0 \/ jb d=1 \/ jb d=2:=by
 have⟨E,C,D⟩:=Sr h;unfold jb;cases d.gx with
 |true=>simp_all
 |false=>exact(Cw C D).2.2
structure mU (c:av) (i:Nat) (B:Int):Prop where
 ad:∀r∈c.queue,uD c r.line=some (fL c r.line,true)/\ey c.config.aB (fL c r.line)=true
 tn:∀r∈c.queue,0<=r.de/\r.de<=3
 ql:c.queue.length<=12
 sh:gO c.shares=true
 shl:c.shares.length=4
 u:alv c.queue
 i:i<c.queue.length
 d:∀r∈c.queue,0<=r.data/\r.data<=4294967295
 a:ef c.config.aB B c.array
 e:js c.errors=true
 r:c.cA.length<=1000
def mU.facts{c:av}{i:Nat}{B:Int}(h:mU c i B){r:bk}(C:r∈c.queue):uD c r.line=some (fL c r.line,true)/\oK c.config.aB (fL c r.line)=(p6 c.config.aB (fL c r.line):Int)/\p6 c.config.aB (fL c r.line)<c.array.cells.length/\(p6 c.config.aB (fL c r.line):Int) <= 1023/\oG c.shares ((List.replicate 4 false).set r.de.toNat true)=some (zP c.shares r.de,(oG c.shares ((List.replicate 4 false).set r.de.toNat true)).get!.2)/\0 <= r.de/\r.de.toNat<4:=by
 obtain⟨D,E⟩:=h.ad _ C;have L:=h.tn _ C;obtain⟨O,T⟩:=aAY E;have U:=h.a.cells;have Y:=mK c.config.aB;obtain⟨y,t,e,_⟩:=ZD ((List.replicate 4 false).set _ true) (by have:=h.shl;omega) h.sh (by simp[h.shl]);refine⟨D,O,by omega,by omega,?_,L.1,by omega⟩;unfold zP;rw[e];rfl
def alw{c:av}{i:Nat}{B:Int}(h:mU c i B):QO c (i:Int)=some ((),(xe c i,())):=by
 have hi:=h.i;have⟨f1,f3,f4,f5,f6,f7,f8⟩:=h.facts (List.getElem_mem hi);have C:=h.d _ (List.getElem_mem hi);have D:=h.a.syms _ (List.getElem_mem f4);have E:c.queue.getD i xd=c.queue[i]:=lU _ hi;have O:=h.r;unfold QO xL;rw[dif_pos ⟨by omega,by omega⟩,dif_pos (by omega)];simp only[Int.toNat_natCast];rw[f1,ak,aEG hi h.ql,ak,if_pos (by decide)];have L:(4:Int).toNat=4:=rfl;rw[L,dif_pos ⟨f7,by simpa using f8⟩,dif_pos (by simpa using f8)];dsimp only;rw[f6,ak];dsimp only;unfold xe;rw[E];dsimp only;cases hw:c.queue[i].write with
 | true=>
  rw[ Ya,ak,(LX C.1 C.2).1,ak,dif_pos ⟨by omega,by omega⟩,dif_pos (by omega),cM (by simp;omega)];unfold n5;simp_all
 | false=>
  rw[cond_false,cond_false,Ya,ak,f3,lU _ f4]
  refine(congrArg (λo=>Option.bind o _) (alm (c:=⟨c.config,c.box,c.now,c.aX,c.ready,c.array,c.spare,c.aL,c.bx,c.guard,c.pending,c.queue.take i++c.queue.drop (i+1),zP c.shares c.queue[i].de,c.drain,c.aS,c.cu,c.errors,c.trace,c.cA⟩) f4 D)).trans ?_
  rw[ak];unfold p9 cO;dsimp only;rw[cM (by simp;omega),cond_true,ak]
  refine(congrArg (λo=>Option.bind o _) (als (by exact h.e) ⟨by omega,f5⟩ (SC D))).trans ?_
  rw[ak];unfold CG n5 L0;rw[E];dsimp only;cases jb c.array.cells[p6 c.config.aB (fL c c.queue[i].line)] != 0<;>rfl
def alx{c:av}{i:Nat}{B:Int}(h:mU c i B)(L:∀ r∈c.queue,wz c r.line=some (fL c r.line)):Pc c (i:Int)=some ((),(xe c i,())):=by
 have hi:=h.i;have⟨f1,f3,f4,f5,f6,f7,f8⟩:=h.facts (List.getElem_mem hi);have f2:=L _ (List.getElem_mem hi);have C:=h.d _ (List.getElem_mem hi);have D:=h.a.syms _ (List.getElem_mem f4);have E:c.queue.getD i xd=c.queue[i]:=lU _ hi;have T:=h.r;unfold Pc xL;rw[dif_pos ⟨by omega,by omega⟩,dif_pos (by omega)];simp only[Int.toNat_natCast];rw[f2,ak,azk,ak,f3,aEH h.u hi h.ql,ak,if_pos (by decide)];have O:(4:Int).toNat=4:=rfl;rw[O,dif_pos ⟨f7,by simpa using f8⟩,dif_pos (by simpa using f8)];dsimp only;rw[akU _ _ (by have:=h.shl;omega),f6,ak];dsimp only;unfold xe;rw[E];dsimp only;cases hw:c.queue[i].write with
 | true=>
  rw[ alh C.1 C.2,ak,dif_pos ⟨by omega,by omega⟩,dif_pos (by omega),cM (by simp;omega)];unfold n5;simp_all
 | false=>
  rw[cond_false,cond_false,lU _ f4]
  refine(congrArg (λo=>Option.bind o _) (aln (c:=⟨c.config,c.box,c.now,c.aX,c.ready,c.array,c.spare,c.aL,c.bx,c.guard,c.pending,c.queue.take i++c.queue.drop (i+1),zP c.shares c.queue[i].de,c.drain,c.aS,c.cu,c.errors,c.trace,c.cA⟩) f4 D)).trans ?_
  rw[ak];dsimp only
  refine(congrArg (λo=>Option.bind o _) (alu (by exact h.e) ⟨by omega,f5⟩ (SC D))).trans ?_
  rw[ak];unfold CG n5 L0 p9 cO;rw[E];dsimp only;cases jb c.array.cells[p6 c.config.aB (fL c c.queue[i].line)] != 0 with
  | true=>
   rw[cond_true];rw[cM (by simp;omega)];rfl
  | false=>
   rw[cond_false];rw[cM (by simp;omega)];rfl
def dn(c:av)(x:aD):av:=⟨c.config,c.box,c.now,ff c.aX x,sH c.config.aB c.ready ⟨c.now,x⟩,c.array,c.spare,c.aL,c.bx,c.guard,c.pending,c.queue,c.shares,c.drain,c.aS,c.cu,c.errors,c.trace++[⟨c.now,x⟩],c.cA⟩
def aly(c:av)(p:dL):av:=⟨c.config,c.box,c.now,c.aX,c.ready,c.array,c.spare,c.aL,c.bx,c.guard,c.pending,c.queue,c.shares,c.drain,p,c.cu,c.errors,c.trace,c.cA⟩
def q6(c:av)(r:cK):av:=⟨c.config,c.box,c.now,c.aX,c.ready,c.array,c.spare,r,c.bx,c.guard,c.pending,c.queue,c.shares,c.drain,c.aS,c.cu,c.errors,c.trace,c.cA⟩
def alz(c:av)(r:bV):av:=⟨c.config,c.box,c.now,r,c.ready,c.array,c.spare,c.aL,c.bx,c.guard,c.pending,c.queue,c.shares,c.drain,c.aS,c.cu,c.errors,c.trace,c.cA⟩
def CH(c:av)(k:Int):av:=aly c (w5 c.aS k c.now)
def SD(c:av)(b:Int):av:=q6 (LV c b (c.pending.filter (λa=>!(a.au==b)))) (uX c.aL b)
def xg(c:av)(x:aD)(i:Int):av:=
 bif x.kind==1 then tj (dn c x) x else
 bif x.kind==5 then SD (dn c x) x.au else
 bif x.kind==2 ||x.kind==3 then xe (dn c x) i.toNat else
 bif x.kind==4 then dn c x else
 bif x.kind==9 then fH (CH (dn c x) 9) c.bx.length []else CH (dn c x) x.kind
structure Bs (c:av):Prop where
 w:tq 100000 c
 u:uY c.pending
 pk:∀a∈c.pending,0<=a.au/\a.au<aT c.config.aB
 zt:∀t∈c.bx,gk t
 rf:eG c.aL=true
 bl:(c.aX.ay.length:Int)=aT c.config.aB
 l1:c.ready.last.length<1073741824
 l2:c.ready.bg.length<1073741824
 tl:c.trace.length<10000
def Bs.dn{c:av}(h:Bs c)(x:aD):tq 100000 (dn c x):=⟨h.w.hB,h.w.g,h.w.a,h.w.k,h.w.p,h.w.t,h.w.d,h.w.r⟩
def mU.dn{c:av}{n:Nat}{B:Int}(h:mU c n B)(x:aD):mU (dn c x) n B:=⟨h.ad,h.tn,h.ql,h.sh,h.shl,h.u,h.i,h.d,h.a,h.e,h.r⟩
def aEI{c:av}(h:tq 100000 c):iter wL aQ (((),(c.bx.length:Int),(0:Int),()),((⟨c.config,c.box,c.now,c.aX,c.ready,c.array,c.spare,c.aL,c.bx,c.guard,([]:aa aF),c.queue,c.shares,c.drain,c.aS,c.cu,c.errors,c.trace,c.cA⟩:av),()))=some (.inl ((),(fH c c.bx.length [],()))):=aEd h
def aEJ{c:av}{x:aD}(D:1 <= x.kind/\x.kind <= 9)(C:x.kind <= 5 -> 0 <= x.au/\x.au.toNat<c.aX.ay.length):Pe c x=some ((),(alz c (ff c.aX x),())):=by
 unfold Pe ff alz xL;rcases kinds D with h|h|h|h|h|h|h|h|h<;>(try (have C:=C _))<;>simp[h,C]
def SE{g:aP}{x:aD}(h:dc g x=true)(C:x.kind=1):0 <= x.row/\x.row<g.rows:=by
 simp[dc,Bool.and_eq_true]at h;have D:=h.2.2.2.1;rw[qW,C,show ((1:Int)==1)=true from rfl,cond_true,bA]at D;omega
def aEK{c:av}(h:Bs c){x:aD}(E:kM c.config.aB c.aX x=true){i:Int}(L:x.kind=2 \/ x.kind=3 -> mU c i.toNat 100000/\0 <= i):Kn c x i=some ((),(xg c x i,())):=by
 have⟨hg,hlen,T,O⟩:=LB E;have U:dc c.config.aB x=true:=by
  simp only[kM,Bool.and_eq_true]at E
  grind
 have b1:=eM c.config.aB;have w:=h.dn x;have ht:=h.w.t;have hd:=h.w.d;have hr:=h.w.r;have SF:=h.tl;have er:Kc c.config.aB c.aX x=some (ff c.aX x,true):=by
  rw[aAx _ _ _ (by omega)];unfold YD;simp_all
 unfold Kn xg aW;rw[cM (by simp;omega),cond_true,aAE _ _ _ h.l1 h.l2,ak,er,ak];rcases kinds T with q|q|q|q|q|q|q|q|q<;>rw[q]<;>simp only[Int.reduceBEq,Int.reduceBNe,cond_true,cond_false,Bool.or_true,Bool.or_false,Bool.true_or,Bool.false_or,Bool.or_self]
 ·have⟨C,Y⟩:=O (by omega);have⟨Z,r1⟩:=SE U q
  refine(congrArg (λo=>Option.bind o _) (aD9 (c:=dn c x) x w.g w.a w.p h.zt C (by show x.au<aT c.config.aB;omega) Z r1 (by show x.au.toNat<c.bx.length;omega) (by show x.au.toNat<c.guard.length;omega))).trans ?_
  rfl
 ·have⟨s,D⟩:=L (.inl q);have e:=alw (s.dn x);rw[Int.toNat_of_nonneg D]at e
  refine(congrArg (λo=>Option.bind o _) e).trans ?_
  rfl
 ·have⟨s,D⟩:=L (.inr q);have e:=alw (s.dn x);rw[Int.toNat_of_nonneg D]at e
  refine(congrArg (λo=>Option.bind o _) e).trans ?_
  rfl
 ·rfl
 ·have⟨C,Y⟩:=O (by omega);have⟨y,e4⟩:=aD1 h.rf (b:=x.au) C (by omega)
  refine(congrArg (λo=>Option.bind o _) (ak6 w.hB (dn c x) w.g w.a C (by show x.au<aT c.config.aB;omega))).trans ?_
  rw[ak];unfold cO;dsimp only;rw[aD5 _ _ (by show c.pending.length<1000000;have:=h.w.p;omega),ak];dsimp only
  refine(congrArg (λo=>Option.bind o _) (ak7 _ (by exact w.k) C (by show x.au.toNat<c.bx.length;omega) (by show x.au.toNat<c.guard.length;omega))).trans ?_
  rw[ak];unfold oM;dsimp only
  refine(congrArg (λo=>Option.bind o _) e4).trans ?_
  rfl
 ·have⟨y,e⟩:=Sl c.aS (k:=6) (by omega) c.now;rw[e,ak];rfl
 ·have⟨y,e⟩:=Sl c.aS (k:=7) (by omega) c.now;rw[e,ak];rfl
 ·have⟨y,e⟩:=Sl c.aS (k:=8) (by omega) c.now;rw[e,ak];rfl
 ·have⟨y,e⟩:=Sl c.aS (k:=9) (by omega) c.now;rw[e,ak]
  refine(congrArg (λo=>Option.bind o _) (aEI (c:=CH (dn c x) 9) ⟨w.hB,w.g,w.a,w.k,w.p,w.t,w.d,w.r⟩)).trans ?_
  rfl
def aEL{c:av}(h:Bs c){x:aD}(L:kM c.config.aB c.aX x=true){i:Int}(O:x.kind=2 \/ x.kind=3 -> mU c i.toNat 100000/\0 <= i)(T:∀ r∈c.queue,wz c r.line=some (fL c r.line)):yT c x i=some ((),(xg c x i,())):=by
 have⟨hg,hlen,U,D⟩:=LB L;have Y:dc c.config.aB x=true:=by
  simp[kM,Bool.and_eq_true]at L;simp_all
 have b1:=eM c.config.aB;have w:=h.dn x;have ht:=h.w.t;have hd:=h.w.d;have hr:=h.w.r;have SF:=h.tl;unfold yT xg aW;rw[cM (by simp;omega),cond_true,aAF _ _ _ h.l1 h.l2,ak]
 refine(congrArg (λo=>Option.bind o _) (aEJ U (λZ=>by have:=D Z;exact⟨this.1,this.2⟩))).trans ?_
 rw[ak];rcases kinds U with q|q|q|q|q|q|q|q|q<;>rw[q]<;>simp only[Int.reduceBEq,Int.reduceBNe,cond_true,cond_false,Bool.or_true,Bool.or_false,Bool.true_or,Bool.false_or,Bool.or_self]
 ·have⟨C,nB⟩:=D (by omega);have⟨r0,r1⟩:=SE Y q
  refine(congrArg (λo=>Option.bind o _) (aEa (c:=dn c x) x w.g w.a w.p h.u h.zt C (by show x.au<aT c.config.aB;omega) r0 r1 (by show x.au.toNat<c.bx.length;omega) (by show x.au.toNat<c.guard.length;omega))).trans ?_
  rfl
 ·have⟨s,E⟩:=O (.inl q);have e:=alx (s.dn x) T;rw[Int.toNat_of_nonneg E]at e
  refine(congrArg (λo=>Option.bind o _) e).trans ?_
  rfl
 ·have⟨s,E⟩:=O (.inr q);have e:=alx (s.dn x) T;rw[Int.toNat_of_nonneg E]at e
  refine(congrArg (λo=>Option.bind o _) e).trans ?_
  rfl
 ·rfl
 ·have⟨C,nB⟩:=D (by omega);have⟨y,e4⟩:=aD0 h.rf (b:=x.au) C (by omega)
  refine(congrArg (λo=>Option.bind o _) (ak8 w.hB (dn c x) w.g w.a w.k w.p C (by show x.au<aT c.config.aB;omega) (by show x.au.toNat<c.bx.length;omega) (by show x.au.toNat<c.guard.length;omega))).trans ?_
  rw[ak]
  refine(congrArg (λo=>Option.bind o _) e4).trans ?_
  rfl
 ·have⟨y,e⟩:=Sn c.aS (k:=6) (by omega) c.now
  refine(congrArg (λo=>Option.bind o _) e).trans ?_
  rfl
 ·have⟨y,e⟩:=Sn c.aS (k:=7) (by omega) c.now
  refine(congrArg (λo=>Option.bind o _) e).trans ?_
  rfl
 ·have⟨y,e⟩:=Sn c.aS (k:=8) (by omega) c.now
  refine(congrArg (λo=>Option.bind o _) e).trans ?_
  rfl
 ·have⟨y,e⟩:=Sn c.aS (k:=9) (by omega) c.now
  refine(congrArg (λo=>Option.bind o _) e).trans ?_
  rw[ak]
  refine(congrArg (λo=>Option.bind o _) (aEf (c:=CH (dn c x) 9) ⟨w.hB,w.g,w.a,w.k,w.p,w.t,w.d,w.r⟩ (by show (ff c.aX x).ay.length=c.bx.length;rw[aj4];omega) h.pk)).trans ?_
  rfl
def aEM{l m:aa Int}(h:l.length=m.length)(D:(l.zip m).all qT=true):(∀ x∈l,0 <= x/\x <= 100000) /\ ∀ x∈m,0 <= x/\x <= 100000:=by
 rw[List.all_eq_true]at D;have key:∀ i _ (E:i<m.length),(0 <= l[i]/\l[i] <= 100000)/\(0 <= m[i]/\m[i] <= 100000):=λi O E=>by
  have L:i<(l.zip m).length:=by rw[List.length_zip];omega
  have:=D _ (List.getElem_mem L);rw[List.getElem_zip]at this;simp[qT,Bool.and_eq_true,bA]at this;exact this
 constructor
 ·intro x C;obtain⟨i,hi,rfl⟩:=List.mem_iff_getElem.1 C
  grind
 ·intro x C;obtain⟨i,hi,rfl⟩:=List.mem_iff_getElem.1 C;simp_all
def ef.va{g:aP}{a:cF}(h:kK g a=true):ef g 100000 a:=by
 simp only[kK,Bool.and_eq_true,decide_eq_true_eq]at h;have⟨Z,C,D,E,L,O⟩:=h;have⟨T,U⟩:=aEM (by omega) O
 refine⟨C,λc Y=>?_,D,E,T,U⟩
 exact Sy.of (List.all_eq_true.1 L c Y)
def Bs.of{c:av}(D:ei c)(h:g9 c=true)(L:c.trace.length<10000):Bs c:=by
 have E:=Pq.of D h;have z1:c.box.bz.weights.length <= 1048576:=D.1.1;have h0:=h;simp only[g9,Bool.and_eq_true]at h;have⟨O,h2,h3,h4,T,U,h7,h8,C,Fa,zz,rT,sG,zB,zC,yC,Ct,Fm,Fo,LO,wA,LP⟩:=h;have⟨f1,f2⟩:=Fs (by omega) O;simp only[mN,Bool.and_eq_true]at f1;simp only[qV,Bool.and_eq_true,beq_iff_eq,Bool.not_eq_true',decide_eq_false_iff_not,List.all_eq_true,List.mem_range]at C;have⟨C,Y,Z,g3,g4,g5,g6⟩:=C;have qk:=E.pl;have⟨hg,rl,ra⟩:=RU T;have b1:=eM c.config.aB
 refine⟨⟨by decide,hg,ef.va U,f1.2.2.2.2.2.1,by omega,Z,g3,Y⟩,λi hi=>?_,λa ha=>?_,D.2.2.2.2.2.2.1.2,C,E.p.bl,by omega,by omega,L⟩
 ·have hb:=g6 i hi;unfold sF at hb
  grind
 ·have⟨_,k1,k2,_⟩:=qR (E.pe a ha);simp_all
def mU.of{c:av}(T:ei c)(h:g9 c=true){n:Nat}(U:n<c.queue.length)(C:c.cA.length <= 1000):mU c n 100000:=by
 have D:=Pq.of T h;simp[g9,Bool.and_eq_true]at h;have⟨h1,h2,h3,h4,h5,Y,h7,h8,h9,L,zz,rT,sG,zB,zC,yC,Ct,Fm,Fo,Z,wA,LP⟩:=h;simp[nS,Bool.and_eq_true,List.all_eq_true,List.mem_range]at L;have⟨O,q2⟩:=L
 refine⟨λr C=>SA D C,λr C=>(D.q r C).2.1,D.ql,D.sh,D.shl,λi hi=>?_,U,λr C=>?_,ef.va Y,Z,C⟩
 ·cases i with
  |zero=>simp
  | succ i=>
   have E:=O _ hi;rw[Lu hi]at E;simp_all
 ·obtain⟨i,hi,rfl⟩:=List.mem_iff_getElem.1 C;have E:=O i hi;unfold pY at E;rw[List.getElem?_eq_getElem hi]at E;simp[nR,RL,Bool.and_eq_true,bA]at E;simp_all
def zR{g:aP}{B:Int}{a:cF}(h:ef g B a):Cx a:=by
 have D:=h.cells;have E:=h.bh;have L:=h.aZ;have O:=mK g;have T:=oJ g;exact⟨⟨by omega,λc C=>by unfold sU;rw[(h.syms c C).1];omega⟩,by omega,by omega⟩
def ZU{l:aa bI}(h:l.length <= 1048576 /\ ∀y∈l,gk y){t:bI}(C:gk t)(i:Nat):(l.set i t).length <= 1048576 /\ ∀y∈l.set i t,gk y:=by grind
def alA{k:Int}(h:aI k 1 16=true):gk (wZ k):=by
 have:=bA.1 h;unfold wZ gk
 grind
def aEN{t:bI}(h:gk t)(row cT:Int):gk (th t row cT).1:=by
 have C:=ZI (t:=t) row;unfold gk at h ⊢;unfold th
 grind
def aEO{c:av}(E:ei c)(L:c.ready.bg.length <= 4)(ht:c.trace.length <= 10000)(x:aD):ei (dn c x):=by
 have⟨O,C,⟨T,z4⟩,U,Y,Z,z8,z9,gW,kg,kN,mS,lR,nW⟩:=E;have D:=aAL c.config.aB c.ready ⟨c.now,x⟩;refine⟨O,by unfold LI at C ⊢;show (ff _ x).ay.length <= _;rw[aj4];exact C,⟨by show (sH _ _ _).last.length <= _;rw[D.1];exact T,Nat.le_trans (D.2 L) (by decide)⟩,U,Y,Z,z8,z9,gW,kg,kN,mS,by simp[dn];omega,nW⟩
def SG{c:av}(D:ei c){a:cF}(E:Cx a){r:cK}(L:uO r){t:aa bI}(O:t.length <= 1048576 /\ ∀ y∈t,gk y){C:aa Int}(T:C.length <= 1048576){pd:aa aF}(U:pd.length <= 1048576)(pw:dL):ei ⟨c.config,c.box,c.now,c.aX,c.ready,a,c.spare,r,t,C,pd,c.queue,c.shares,c.drain,pw,c.cu,c.errors,c.trace,c.cA⟩:=by
 have⟨Y,Z,z3,z5,z6,z7,z8,z9,gW,kg,kN,mS,lR,nW⟩:=D;exact⟨Y,Z,z3,E,z6,L,O,T,U,kg,kN,mS,lR,nW⟩
def aEP{c:av}(C:ei c)(h:tq 100000 c)(x:aD)(D:0 <= x.au)(E:x.au<aT c.config.aB)(L:0 <= x.row)(O:x.row<c.config.aB.rows):ei (tj c x):=by
 have zt:=C.2.2.2.2.2.2.1;have T:x.au.toNat<c.bx.length:=by have:=h.t;omega
 have U:=h.p;refine SG C (zR (Zt h.g _ h.hB h.a D E L O)) C.2.2.2.2.2.1 (ZU zt ?_ _) C.2.2.2.2.2.2.2.1 ?_ _
 ·unfold qZ;rw[lU];exact aEN (zt.2 _ (List.getElem_mem T)) _ _
 ·have Y:(mT c x).length <= c.pending.length:=List.length_filter_le _ _;have Z:=ZM c.config.aB.rows x.row;have ha:=So x.au (kf c.config.aB.rows x.row) (mT c x)
  grind
def alB(r:cK)(b:Int):(uX r b).aE.length=r.aE.length:=by
 unfold uX;cases decide (r.aE.getD b.toNat 0 = -2)<;>simp
def aEQ{c:av}(C:ei c)(h:tq 100000 c){b:Int}(D:0 <= b)(E:b<aT c.config.aB):ei (SD c b):=by
 have⟨_,_,_,_,L,O,T,U⟩:=eK h.g;have zt:=C.2.2.2.2.2.2.1;have Y:=h.p;have Z:=ZN (λa:aF=>!(a.au==b)) c.pending;exact SG C (zR (Fu h.g _ h.hB h.a D E _ (by omega))) (by unfold uO;rw[alB];exact C.2.2.2.2.2.1) (ZU zt (alA h.k) _) (by show (c.guard.set _ _).length <= _;rw[List.length_set];exact C.2.2.2.2.2.2.2.1) (by show (c.pending.filter _).length <= _;omega) _
def alC{l:aa bI}(h:l.length<=1048576/\∀ y∈l,gk y){t:bI}(C:gk t):∀ k:Nat,((List.range k).foldl (λd b=>d.set b t) l).length<=1048576/\∀ y∈(List.range k).foldl (λd b=>d.set b t) l,gk y
 |0=>h
 |k+1=>by rw[w6];exact ZU (alC h C k) C k
def aER{c:av}(C:ei c)(h:tq 100000 c)(k:Nat)(D:(k:Int)<=aT c.config.aB):ei (fH c k []):=
 SG C (zR (Sp h.g c.config.dg h.hB h.a k D)) (by unfold uO;rw[w7];exact C.2.2.2.2.2.1) (alC C.2.2.2.2.2.2.1 (alA h.k) k) (by rw[w7];exact C.2.2.2.2.2.2.2.1) (by simp) c.aS
def alD{l:aa bK}(n code:Int):(qc l n code).length <= l.length+1:=by
 unfold qc
 grind
def alE{c:av}(L:ei c){i:Nat}(h:mU c i 100000):ei (xe c i):=by
 have⟨O,T,U,z5,Y,Z,z8,z9,gW,kg,kN,mS,lR,nW⟩:=L;have hi:=h.i;have hql:=h.ql;have hr:=h.r;have⟨f1,f3,f4,f5,f6,f7,f8⟩:=h.facts (List.getElem_mem hi);have C:c.queue.getD i xd=c.queue[i]:=lU _ hi;have D:=h.d _ (List.getElem_mem hi);have V3:(zP c.shares c.queue[i].de).length <= 1048576:=by
  have⟨y,t,e,hl⟩:=ZD ((List.replicate 4 false).set c.queue[i].de.toNat true) (by have:=h.shl;omega) h.sh (by simp[h.shl])
  grind
 have gz:c.errors.length <= 6:=by
  have E:=h.e;simp only[js,Bool.and_eq_true,decide_eq_true_eq]at E;omega
 have key:∀ (a:cF) (e:aa bK) (x:cG),Cx a -> e.length <= 100 -> ei (n5 c i a e x):=λa e x ha E=>
  ⟨O,T,U,ha,Y,Z,z8,z9,gW,by simp[n5];omega,by unfold n5;rw[C];exact V3,by show e.length <= _;omega,lR,by simp[n5];omega⟩
 unfold xe;rw[C];dsimp only;cases c.queue[i].write with
 |true=>exact key _ _ _ (zR (h.a.LF _ (c:=⟨_,false⟩) (LX D.1 D.2).2.1)) (by omega)
 | false=>
  rw[cond_false,lU _ f4];refine key _ _ _ (zR (h.a.LF _ (ZO (h.a.syms _ (List.getElem_mem f4))))) ?_;have:=alD (l:=c.errors) (p6 c.config.aB (fL c c.queue[i].line):Int) (jb c.array.cells[p6 c.config.aB (fL c c.queue[i].line)]);cases jb c.array.cells[p6 c.config.aB (fL c c.queue[i].line)] != 0 with
  |true=>grind
  |false=>grind
def aES{c:av}(T:ei c)(h:Bs c)(U:c.ready.bg.length <= 4){x:aD}(E:kM c.config.aB c.aX x=true){i:Int}(L:x.kind=2 \/ x.kind=3 -> mU c i.toNat 100000/\0 <= i):ei (xg c x i):=by
 have⟨hg,hlen,Y,O⟩:=LB E;have Z:dc c.config.aB x=true:=by
  simp[kM,Bool.and_eq_true]at E;simp_all
 have w:=h.dn x;have ht:=h.w.t;have SF:=h.tl;have z:=aEO T U (by omega) x;have C:∀k,ei (CH (dn c x) k):=λk=>SG z z.2.2.2.1 z.2.2.2.2.2.1 z.2.2.2.2.2.2.1 z.2.2.2.2.2.2.2.1 z.2.2.2.2.2.2.2.2.1 _
 unfold xg;rcases kinds Y with q|q|q|q|q|q|q|q|q<;>rw[q]<;>simp
 ·have⟨D,nB⟩:=O (by omega);have⟨r0,r1⟩:=SE Z q;exact aEP z w x D (by show _<aT c.config.aB;omega) r0 r1
 ·exact alE z ((L (.inl q)).1.dn x)
 ·exact alE z ((L (.inr q)).1.dn x)
 ·exact z
 ·have⟨D,nB⟩:=O (by omega);exact aEQ z w D (by show x.au<aT c.config.aB;omega)
 ·exact C 6
 ·exact C 7
 ·exact C 8
 ·exact aER (C 9) ⟨w.hB,w.g,w.a,w.k,w.p,w.t,w.d,w.r⟩ _ (by show (c.bx.length:Int) <= aT c.config.aB;omega)
def lV(c:av)(b:Int):Bool:=decide (c.aL.aE.getD b.toNat 0 >= 4)
def L1(c:av)(b:Int):Bool:=c.pending.any λa=>a.au==b
def kP(c:av)(i:Nat):aD:=CB c.aX (eH c i) (oP c.queue i)
def SH(c:av)(i:Nat):Bool:=decide (c.now-(jI c i).at_<c.box.bz.cap)
def jv(c:av)(i:Nat):Bool:=
 fZ c i&&(!lV c (eH c i).au&&(cS c (kP c i)&&(!(((kP c i).kind==1 ||(kP c i).kind==4)&&L1 c (eH c i).au) && !((kP c i).kind==4&&(xb c c.queue.length (eH c i).au&&SH c i)))))
def aET{l:aa Int}{b:Int}(C:0 <= b)(h:b.toNat<l.length):∀ i:Nat,(((i:Int)+b)∈bY i l) ↔ l.getD b.toNat 0 >= 4:=by
 obtain⟨n,rfl⟩:=Int.eq_ofNat_of_zero_le C;rw[Int.toNat_natCast]at *
 clear C
 induction l generalizing n with
 |nil=>simp at h
 | cons d l E=>
  intro i;have L:∀ x∈bY (i+1) l,(i:Int)+1 <= x:=λx D=>by
   have⟨j,O,_,_⟩:=akQ D;omega
  have e:bY i (d::l)=bif decide (d >= 4)then (i:Int)::bY (i+1) l else bY (i+1) l:=rfl
  grind
def ZV{c:av}{b:Int}(E:c.aL.aE.length <= 8)(C:0 <= b)(h:b.toNat<c.aL.aE.length):uC (bY 0 c.aL.aE) b=some (lV c b):=by
 have L:=CA 0 c.aL.aE;have D:=aET C h 0;rw[Int.natCast_zero,Int.zero_add]at D;unfold uC;rw[RQ _ _ (by omega),ak];congr 1;unfold lV fF
 grind
def SI{c:av}{b:Int}(C:c.aL.aE.length <= 8)(D:0 <= b)(h:b.toNat<c.aL.aE.length):BB c b=some (lV c b):=by
 unfold BB lV xI;simp_all
def alF{c:av}(h:Pq c){i:Nat}(hi:i<c.queue.length):dc c.config.aB (kP c i)=true:=aDT _ (CF h hi).1
def qd(c:av):Nat->aa Bool
 |0=>List.replicate 4 false
 |k+1=>bif jv c k then (qd c k).set (jI c k).de.toNat true else qd c k
def SJ(c:av):∀ k,(qd c k).length=4
 |0=>rfl
 | k+1=>by
  have C:=SJ c k;show (bif jv c k then _ else _:aa Bool).length=4
  grind
def aEU{c:av}{Y:aa Int}{U:aa aF}{Z:Int×Int×Int×Int×af}{P:Int×Int×Int×Int×Int×(aa Int)×Int×Int×af}{L gM ZW wait:aa Bool}{T:aa (Int×Bool)}{ZX:aa aD}{k:Nat}{r:bk}{a:aF}{nd:aD}{ct rd ib:Bool}(hq:c.queue.length<=12)(hk:k<c.queue.length)(hr:c.queue[k]=r)(h2:k<U.length)(ha:U[k]=a)(h3:k<L.length)(C:k<ZW.length)(h5:ZX.length=k)(D:0<=r.de)(E:r.de.toNat<wait.length)(e1:wJ c.aX a r.write=some nd)(e2:uC Y a.au=some ct)(e3:gL c nd=some rd)(e4:BX c.pending a.au=some ib)(b1:0<=r.at_/\r.at_<=1000000)(b2:0<=c.now/\c.now<=1000000):
  BZ ((Y,U,(),(),(),(),(),(),(),(),(),c.queue,(c.queue.length:Int),(k:Int),()),(c,Z,P,L,gM,T,ZX,ZW,wait,()))=some (.inl ((Y,U,(),(),(),(),(),(),(),(),(),c.queue,(c.queue.length:Int),((k+1:Nat):Int),()),(c,Z,P,L,gM,T,ZX++[nd],ZW.set k (L[k]&&(!ct&&(rd&&(!((nd.kind==1 ||nd.kind==4)&&ib) && !(nd.kind==4&&(kC T a.au&&decide (c.now-r.at_<P.2.1))))))),(bif (L[k]&&(!ct&&(rd&&(!((nd.kind==1 ||nd.kind==4)&&ib) && !(nd.kind==4&&(kC T a.au&&decide (c.now-r.at_<P.2.1)))))))then wait.set r.de.toNat true else wait),()))):=by
 have hw:W6 (c.now-r.at_)=c.now-r.at_:=aK;unfold BZ aq xG xI xL;dsimp only;rw[decide_eq_true (by omega),cond_true,dif_pos ⟨by omega,by omega⟩,dif_pos ⟨by omega,by omega⟩,dif_pos ⟨by omega,by omega⟩];simp only[Int.toNat_natCast,hr,ha,e1,ak,h5,List.length_singleton,cM (show k+1<1073741824 by omega),cond_true,e2,e3,e4,hw,bq (show k<4611686018427387904 by omega)];by_cases O:nd.kind=1
 ·have k4:(nd.kind==(4:Int))=false:=by rw[O];rfl
  have O:(nd.kind==(1:Int))=true:=by rw[O];rfl
  simp only[O,k4,cond_true,cond_false,Bool.true_or,Bool.true_and,Bool.false_and,Bool.not_false,Bool.and_true];rw[dif_pos ⟨by omega,by omega⟩,dif_pos (by omega)];cases L[k]<;>cases ct<;>cases rd<;>cases ib<;>simp[C,D,E]
 ·have O:(nd.kind==(1:Int))=false:=by simpa using O
  simp only[O,cond_false,Bool.false_or];rw[dif_pos ⟨by omega,by omega⟩,dif_pos (by omega)];cases nd.kind==(4:Int)with
  |false=>cases L[k]<;>cases ct<;>cases rd<;>cases ib<;>simp[C,D,E]
  | true=>
   cases L[k]with
   |false=>simp[C,D,E]
   | true=>
    cases ct with
    |true=>simp[C,D,E]
    | false=>
     cases rd with
     |false=>simp[C,D,E]
     | true=>
      cases ib with
      |true=>simp[C,D,E]
      | false=>
       cases kC T a.au with
       |false=>simp[C,D,E]
       | true=>
        by_cases hc:c.now-r.at_<P.2.1
        ·simp[C,D,E,hc]
        ·simp[C,D,E,hc]
def ZY(y x:aD):Bool:=(y.kind==x.kind)&&((y.au==x.au)&&((y.row==x.row)&&((y.bG==x.bG)&&true)))
def L2(c:av)(x:aD)(i:Int):Bool:=aI i 0 ((c.queue.length:Int)-1)&&(decide ((c.cA.length:Int)<400)&&ZY (CB c.aX (fL c (c.queue.getD i.toNat xd).line) (c.queue.getD i.toNat xd).write) x)
def vb(c:av)(x:aD)(i:Int):Bool:=dc c.config.aB x&&(cS c x&&(!decide ((c.trace.length:Int) >= 2000)&&bif x.kind==2 ||x.kind==3 then L2 c x i else i == -1 ||aI i 0 ((c.queue.length:Int)-1)))
def ZZ{c:av}(h:Pq c){i:Int}(hi:aI i 0 ((c.queue.length:Int)-1)=true):∃ C:i.toNat<c.queue.length,0 <= i/\c.queue.getD i.toNat xd=c.queue[i.toNat]/\uD c c.queue[i.toNat].line=some (fL c c.queue[i.toNat].line,true)/\wJ c.aX (fL c c.queue[i.toNat].line) c.queue[i.toNat].write=some (CB c.aX (fL c c.queue[i.toNat].line) c.queue[i.toNat].write):=by
 have D:=bA.1 hi;have C:i.toNat<c.queue.length:=by omega
 have⟨E,L⟩:=SA h (List.getElem_mem C);have⟨_,O,T,_⟩:=qR L;have U:=h.p.bl;have Y:=eM c.config.aB;exact⟨C,D.1,lU _ C,E,Sj _ O (by omega) (by omega)⟩
def aEV{c:av}(h:Pq c)(x:aD)(i:Int):yQ c x i=some (vb c x i):=by
 have U:=h.ql;unfold yQ vb;rw[aj0,ak];cases O:dc c.config.aB x with
 |false=>rfl
 |true=>
 rw[Bool.not_true,cond_false,Sh h.p O,ak];cases cS c x with
 |false=>rfl
 |true=>
 rw[Bool.not_true,cond_false];cases decide ((c.trace.length:Int) >= 2000)with
 |true=>rfl
 |false=>
 rw[cond_false,Bool.true_and,Bool.true_and,Bool.not_false,Bool.true_and,dP,aK (n:=(c.queue.length:Int)-1),ak];unfold L2;have nd:yO=wJ:=rfl;cases hi:aI i 0 ((c.queue.length:Int)-1)with
 | true=>
  have⟨D,E,T,f1,f3⟩:=ZZ h hi;have f2:=ZT h (List.getElem_mem D);rw[eU (show ¬ i = -1 by omega),cond_true,Bool.not_true,cond_false,decide_eq_true (show i >= 0 from E),Bool.true_and,Bool.or_true,T];by_cases C:x.kind=2
  ·rw[show (x.kind != 2)=false by rw[C];rfl,show (x.kind==2)=true by rw[C];rfl,cond_false,cond_true,Bool.true_or,cond_true];cases decide ((c.cA.length:Int)<400)with
   |false=>rfl
   | true=>
    rw[ dif_pos ⟨E,D⟩,dif_pos ⟨E,D⟩];rw[f2,ak,nd,f3];rfl
  ·rw[eU C,jF C,cond_true,Bool.false_or];by_cases L:x.kind=3
   ·rw[show (x.kind != 3)=false by rw[L];rfl,show (x.kind==3)=true by rw[L];rfl,cond_false,cond_true,cond_true];cases decide ((c.cA.length:Int)<400)with
    |false=>rfl
    | true=>
     rw[ dif_pos ⟨E,D⟩,dif_pos ⟨E,D⟩];rw[f2,ak,nd,f3];rfl
   ·grind
 | false=>
  rw[Bool.false_and,Bool.not_false,cond_true,Bool.or_false];by_cases e:i = -1
  ·subst e;rw[bne_self_eq_false,cond_false,beq_self_eq_true,show decide ((-1:Int) >= 0)=false from rfl,cond_false];by_cases C:x.kind=2
   ·simp_all
   ·rw[eU C,jF C,cond_true,Bool.false_or];by_cases L:x.kind=3
    ·simp_all
    ·grind
  ·grind
def aEW{c:av}(T:ei c)(h:Pq c)(x:aD)(i:Int):qP c x i=bif vb c x i then (Kn c x i).bind (λy=>some (y.2.1,true))else some (c,false):=by
 have Z:=h.ql;unfold qP vb xI;rw[Zc c T,ak,R7 c T,ak,h.p.ok,Bool.not_true,cond_false];cases U:dc c.config.aB x with
 | false=>
  have e:gL c x=some false:=by
   unfold gL;rw[YC,U,Bool.false_and,Bool.and_false];rfl
  rw[e];rfl
 |true=>
 rw[wX h.p U,ak];cases cS c x with
 |false=>rfl
 |true=>
 rw[Bool.not_true,cond_false];cases decide ((c.trace.length:Int) >= 2000)with
 |true=>rfl
 |false=>
 rw[cond_false,Bool.true_and,Bool.true_and,Bool.not_false,Bool.true_and,c9,aK (n:=(c.queue.length:Int)-1),ak];unfold L2;cases hi:aI i 0 ((c.queue.length:Int)-1)with
 | true=>
  have⟨C,D,Y,f1,f3⟩:=ZZ h hi;rw[eU (show ¬ i = -1 by omega),Bool.not_true,cond_false,cond_true,cond_false,Bool.true_and,Bool.or_true,Y];by_cases E:x.kind=2
  ·rw[show (x.kind==2)=true by rw[E];rfl,cond_true,Bool.true_or,cond_true];by_cases L:(c.cA.length:Int)<400
   ·rw[decide_eq_true L,decide_eq_false (show ¬ (c.cA.length:Int) >= 400 by omega),cond_false,dif_pos ⟨D,C⟩];dsimp only;rw[f1,ak,dif_pos ⟨D,C⟩,f3,ak];unfold ZY
    grind
   ·grind
  ·rw[jF E,cond_false,Bool.false_or];by_cases O:x.kind=3
   ·rw[show (x.kind==3)=true by rw[O];rfl,cond_true,cond_true];by_cases L:(c.cA.length:Int)<400
    ·rw[decide_eq_true L,decide_eq_false (show ¬ (c.cA.length:Int) >= 400 by omega),cond_false,dif_pos ⟨D,C⟩];dsimp only;rw[f1,ak,dif_pos ⟨D,C⟩,f3,ak];unfold ZY
     grind
    ·grind
   ·grind
 | false=>
  rw[Bool.false_and,Bool.not_false,cond_true,Bool.or_false];by_cases E:x.kind=2
  ·simp_all
  ·rw[jF E,cond_false,Bool.false_or];by_cases O:x.kind=3
   ·simp_all
   ·rw[jF O,cond_false,cond_false];by_cases e:i = -1
    ·simp_all
    ·grind
def alG{c:av}(D:ei c)(h:Pq c){x:aD}{i:Int}(E:vb c x i=true):Bs c/\kM c.config.aB c.aX x=true/\(x.kind=2 \/ x.kind=3 -> mU c i.toNat 100000/\0 <= i)/\c.ready.bg.length <= 4:=by
 simp only[vb,Bool.and_eq_true,Bool.not_eq_true',decide_eq_false_iff_not]at E;have⟨O,L,Z,C⟩:=E;simp[cS,Bool.and_eq_true]at L
 refine⟨Bs.of D h.p.ok (by omega),?_,λT=>?_,(RU h.p.rdy).2.2⟩
 ·unfold kM;rw[h.p.rk,O,L.1];rfl
 ·have e:(x.kind==2 || x.kind==3)=true:=by rcases T with q | q <;>rw[q] <;>rfl
  rw[e,cond_true]at C;simp[L2,Bool.and_eq_true,decide_eq_true_eq]at C;have⟨U,Y,_⟩:=ZZ h C.1;exact⟨mU.of D h.p.ok U (by omega),Y⟩
structure Ck (c:av):Prop where
 f1:nU c.config c.box.bz=true
 f2:nU c.config c.box.next=true
 nw:aI c.now 0 1000000=true
 rk:ke c.config.aB c.aX=true
 rd:jH c.config.aB c.ready=true
 ar:kK c.config.aB c.array=true
 sp:lP c.config.aB c.spare=true
 se:c.spare.bT=c.config.bT
 rf:eG c.aL=true
 pa:qV c=true
 qu:nS (eN (ij c.config.aB c.spare)) c.queue=true
 sh:gO c.shares=true
 sl:(c.shares.length:Int)=4
 dr:nQ c.drain=true
 pw:iY c.aS=true
 ps:c.aS.state=c.aX.aS
 si:c.aS.since<=c.now
 s1:aI c.cu.every 1 100000=true
 s2:aI c.cu.wait 1 c.cu.every=true
 s3:aI c.cu.next 0 (W6 (eN c.config.aB-1))=true
 er:js c.errors=true
 tr:c.trace.length<=2000
 rp:c.cA.length<=400
def Ck.of{c:av}(h:g9 c=true):Ck c:=by
 simp[g9,Bool.and_eq_true,beq_iff_eq,decide_eq_true_eq,Bool.not_eq_true',decide_eq_false_iff_not]at h;have⟨C,D,E,L,O,T,U,Y,⟨Z,h9'⟩,Fa,zz,rT,sG,zB,zC,yC,Ct,Fm,Fo,LO,wA,LP⟩:=h;exact⟨C,D,E,L,O,T,U,Y,Z,h9',Fa,zz,rT,sG,zB,zC,by omega,Ct,Fm,Fo,LO,by omega,by omega⟩
def Ck.ok{c:av}(h:Ck c):g9 c=true:=by
 have⟨C,D,E,L,O,T,U,Y,Z,h9',Fa,zz,rT,sG,zB,zC,yC,Ct,Fm,Fo,LO,wA,LP⟩:=h;simp[g9,Bool.and_eq_true,beq_iff_eq,decide_eq_true_eq,Bool.not_eq_true',decide_eq_false_iff_not]
 grind
def alH:∀ (l:aa Nat) (a:Nat),l.Pairwise (λx y=>x≠y) -> l.length <= (l.filter (λx=>decide (x≠a))).length+1
 |[],a,_=>by simp
 | x :: l,a,h=>by
  have⟨C,D⟩:=List.pairwise_cons.1 h;by_cases e:x=a
  ·subst e;have:(x :: l).filter (λy=>decide (y≠x))=l:=by
    rw[List.filter_cons_of_neg (by simp)];exact List.filter_eq_self.2 λy E=>by simpa using (C y E).symm
   grind
  ·rw[List.filter_cons_of_pos (by simpa using e)];have:=alH l a D;simp only[List.length_cons];omega
def pig:∀ (n:Nat) (l:aa Nat),(∀ x∈l,x<n)->l.Pairwise (λx y=>x≠y)->l.length<=n
 | 0,l,h,_=>by
  cases l with
  |nil=>simp
  |cons x l=>exact absurd (h x (.head _)) (by omega)
 | n+1,l,h,C=>by
  have E:=alH l n C;have L:=pig n (l.filter (λx=>decide (x≠n))) (λx D=>by
   have:=List.mem_filter.1 D;have O:=h x this.1;have T:x≠n:=by simpa using this.2
   omega) (C.filter _)
  omega
def uY.pw{l:aa aF}(h:uY l):l.Pairwise (λx y=>x≠y):=by
 rw[List.pairwise_iff_getElem];intro i j hi D L e;have C:=h j D;rw[List.any_eq_false]at C;have E:l[i]∈l.take j:=by
  rw[List.mem_take_iff_getElem]
  grind
 exact C _ E (LU.2 e.symm)
def uY.mk{l:aa aF}(h:l.Pairwise (λx y=>x≠y)):uY l:=by
 rw[List.pairwise_iff_getElem]at h;intro j C;rw[List.any_eq_false];intro x D e;obtain⟨i,hi,rfl⟩:=List.mem_take_iff_getElem.1 D;exact h i j _ C (by omega) (LU.1 e).symm
structure gQ (c:av):Prop where
 dl:(c.aL.aE.length:Int)=aT c.config.aB
 tl:(c.bx.length:Int)=aT c.config.aB
 gl:(c.guard.length:Int)=aT c.config.aB
 t:∀x∈c.bx,jt x=true
 g:∀x∈c.guard,3<=x/\x<=1000
 pd:∀a∈c.pending,ey c.config.aB a=true/\a.bG=0
 u:c.pending.Pairwise (λx y=>x≠y)
def gQ.of{c:av}(h:qV c=true):gQ c:=by
 simp[qV,Bool.and_eq_true,beq_iff_eq,List.all_eq_true,List.mem_range]at h;have⟨E,L,O,g4,T,U⟩:=h;have key:=λi C Y=>by
  have:=T i C;unfold partAt at this;rw[List.getElem?_eq_getElem C,List.getElem?_eq_getElem Y,Bool.and_eq_true,bA]at this;exact this
 have Z:∀ i _,ey _ c.pending[i]=true/\c.pending[i].bG=0/\(c.pending.take i).any _=false:=λi C=>by
  have:=U i C;unfold sF at this;rw[List.getElem?_eq_getElem C]at this
  simpa [Bool.and_eq_true]using this
 refine⟨E,L,O,λx D=>?_,λx D=>?_,λa ha=>?_,uY.pw λi hi=>(Z i hi).2.2⟩
 ·obtain⟨i,hi,rfl⟩:=List.mem_iff_getElem.1 D
  grind
 ·obtain⟨i,hi,rfl⟩:=List.mem_iff_getElem.1 D
  grind
 ·obtain⟨i,hi,rfl⟩:=List.mem_iff_getElem.1 ha;simp[*]
def aEX{g:aP}{l:aa aF}(D:∀ a∈l,ey g a=true/\a.bG=0)(T:l.Pairwise (λx y=>x≠y)):l.length <= 128:=by
 have E:∀ a∈l,0 <= a.au/\a.au<8/\0 <= a.row/\a.row<16:=λa C=>by
  have⟨L,Z,h3,h4,h5,_⟩:=qR (D a C).1;have b1:=eM g;have b2:=eK L;omega
 have L:=pig 128 (l.map λa=>(a.au*16+a.row).toNat) (λx U=>by
  obtain⟨a,C,rfl⟩:=List.mem_map.1 U;have:=E a C;omega) (by
  rw[List.pairwise_map]
  refine T.imp_of_mem λ{a b} C O Y e=>Y ?_
  have r1:=E a C;have r2:=E b O;have c1:=(D a C).2;have c2:=(D b O).2;cases a;cases b;simp only at *
  congr 1<;>omega)
 simp_all
def gQ.ok{c:av}(h:gQ c):qV c=true:=by
 have⟨E,L,O,Y,Z,C,D⟩:=h;have hl:=aEX C D;have T:=uY.mk D;simp[qV,Bool.and_eq_true,beq_iff_eq,Bool.not_eq_true',decide_eq_false_iff_not,List.all_eq_true,List.mem_range]
 refine⟨E,L,O,by omega,λi hi=>?_,λi hi=>?_⟩
 ·have U:i<c.guard.length:=by omega
  unfold partAt;rw[List.getElem?_eq_getElem hi,List.getElem?_eq_getElem U,Bool.and_eq_true,bA];simp_all
 ·unfold sF;rw[List.getElem?_eq_getElem hi];simp only[Bool.and_eq_true,beq_iff_eq,Bool.not_eq_true'];exact⟨(C _ (List.getElem_mem hi)).1,(C _ (List.getElem_mem hi)).2,T i hi⟩
def aEY{g:aP}{b n:Int}{l:aa aF}(L:ey g ⟨b,n,0⟩=true)(O:∀ a∈l,ey g a=true/\a.bG=0)(C:l.Pairwise (λx y=>x≠y)):(∀ a∈kO b l n,ey g a=true/\a.bG=0)/\(kO b l n).Pairwise (λx y=>x≠y):=by
 unfold kO;cases h:l.any _ with
 |true=>simp_all
 | false=>
  rw[cond_false];rw[List.any_eq_false]at h
  refine⟨λa T=>?_,?_⟩
  ·grind
  ·rw[List.pairwise_append]
   refine⟨C,List.pairwise_singleton _ _,λx D y E e=>?_⟩
   rw[List.mem_singleton.1 E]at e;exact h x D (LU.2 e.symm)
def alI{g:aP}{b:Int}:∀ (ns:aa Int) {l:aa aF},(∀ n∈ns,ey g ⟨b,n,0⟩=true) -> (∀ a∈l,ey g a=true/\a.bG=0) -> l.Pairwise (λx y=>x≠y) -> (∀ a∈ns.foldl (kO b) l,ey g a=true/\a.bG=0)/\(ns.foldl (kO b) l).Pairwise (λx y=>x≠y)
 |[],l,_,C,D=>⟨C,D⟩
 | n :: ns,l,E,C,D=>by
  have⟨L,O⟩:=aEY (E n (.head _)) C D;exact alI ns (λm T=>E m (.tail _ T)) L O
def Fx{T:Type}{p:T -> Prop}{l:aa T}{i:Nat}{x:T}(h:∀y∈l,p y)(C:p x):∀y∈l.set i x,p y:=by grind
def aEZ{t:bI}(h:jt t=true)(row cT:Int):jt (th t row cT).1=true:=by
 unfold th
 grind
def alJ{k:Int}(h:aI k 1 16=true):jt (wZ k)=true:=by
 have C:=bA.1 h;simp only[jt,wZ,Bool.and_eq_true,beq_iff_eq,List.all_eq_true,List.length_replicate,bA]
 refine⟨by omega,trivial,by omega,λi hi=>?_⟩
 rw[RR (by simpa using hi) (by simpa using hi)];simp[aI]
def alK{c:gp}{p:eE}(C:p.weights.length<1073741823)(h:nU c p=true):3 <= p.eI/\p.eI <= 1000:=by
 have⟨_,f2⟩:=Fs C h;simp[uI,Bool.and_eq_true,bA]at f2;simp_all
def CI{g:aP}{a:cF}(C:cq g=true)(h:ef g 100000 a):kK g a=true:=by
 simp only[kK,Bool.and_eq_true,decide_eq_true_eq,List.all_eq_true]
 refine⟨C,h.cells,h.bh,h.aZ,λc D=>Sy.ok (h.syms c D),λp E=>?_⟩
 have⟨x,y⟩:=p;have⟨L,O⟩:=List.of_mem_zip E;simp[qT,Bool.and_eq_true,bA];exact⟨h.Cj x L,h.gM y O⟩
def aE0{g:aP}{c:aD}(h:dc g c=true):mP g (gZ g c).toNat=true:=by
 have⟨E,D,L,_⟩:=Cq h;have⟨O,T⟩:=YH h;unfold mP;unfold gZ at *
 cases C:aI _ 1 5 with
 | true=>
  have C:=bA.1 C
  grind
 | false=>
  have U:¬ c.kind <= 5:=λh=>by rw[bA.2 ⟨D.1,h⟩]at C;cases C
  grind
def alL{l:aa Int}(h:∀ i,i<l.length -> mQ l i=true){i:Nat}(hi:i<l.length):aI l[i] 0 1000000=true:=by
 have:=h i hi;cases i with
 |zero=>rw[Lx]at this;exact this
 |succ i=>rw[E8,Bool.and_eq_true]at this;exact this.1
def alM{l:aa Int}(h:∀ i,i<l.length -> mQ l i=true){i:Nat}(hi:i+1<l.length):l[i]<l[i+1]:=by
 have:=h _ hi;rw[E8 hi,Bool.and_eq_true,Bool.not_eq_true',decide_eq_false_iff_not]at this;omega
def alN{l:aa Int}(C:∀ i (hi:i<l.length),aI l[i] 0 1000000=true)(D:∀ i (hi:i+1<l.length),l[i]<l[i+1]):∀ i,i<l.length -> mQ l i=true:=λi hi=>by
 cases i with
 |zero=>rw[Lx];exact C 0 hi
 | succ i=>
  have:=D i hi;rw[E8 hi,Bool.and_eq_true,Bool.not_eq_true',decide_eq_false_iff_not];simp_all
def aE1{l:aa Int}(h:∀ i,i<l.length -> mQ l i=true){x:Int}(O:aI x 0 1000000=true)(D:Cu ⟨[],l⟩ x=false):∀ i,i<(l++[x]).length -> mQ (l++[x]) i=true:=by
 refine alN (λi hi=>?_) λi hi=>?_
 ·by_cases C:i<l.length
  ·rw[List.getElem_append_left];exact alL h C
  ·grind
 ·have E:i<l.length:=by simp at hi;omega
  by_cases C:i+1<l.length
  ·rw[List.getElem_append_left C,List.getElem_append_left];exact alM h C
  ·have e:i+1=l.length:=by omega
   have L:(l++[x])[i+1]=x:=by simp[e]
   rw[L,List.getElem_append_left E];unfold Cu at D
   grind
def aE2{l:aa Int}(h:∀ i,i<l.length -> mQ l i=true)(k:Nat):∀ i,i<(l.drop k).length -> mQ (l.drop k) i=true:=by
 refine alN (λi hi=>?_) λi hi=>?_
 ·rw[List.getElem_drop];exact alL h _
 ·rw[List.getElem_drop,List.getElem_drop];rw[List.length_drop]at hi;exact alM h _
def alO{g:aP}{r:cP}(e:cz)(h:jH g r=true):jH g (sH g r e)=true:=by
 unfold sH;cases C:jH g r&&(dc g e.cmd&&(aI e.at_ 0 1000000 && !(e.cmd.kind==1&&Cu r e.at_)))with
 |false=>exact h
 | true=>
  rw[cond_true];simp only[Bool.and_eq_true,Bool.not_eq_true']at C;have⟨_,O,D,E⟩:=C;simp only[jH,Bool.and_eq_true,beq_iff_eq,Bool.not_eq_true',decide_eq_false_iff_not,List.all_eq_true,List.mem_range]at h ⊢;have⟨T,U,Y,Z,L⟩:=h
  refine⟨T,by rw[List.length_set];exact U,?_,λi hi=>?_,?_⟩
  ·cases e.cmd.kind==1 with
   |false=>exact Y
   | true=>
    rw[cond_true];unfold Cv
    grind
  ·rw[List.length_set]at hi;have hb:=Z i hi;rw[Lw hi]at hb;rw[Lw (by rw[List.length_set];exact hi)];by_cases e':(gZ g e.cmd).toNat=i
   ·subst e';rw[List.getElem_set_self,aE0 O];have:=bA.1 D;rw[bA.2 ⟨by omega,by omega⟩];rfl
   ·simp_all
  ·cases hk:e.cmd.kind==1 with
   |false=>exact L
   | true=>
    rw[hk]at E;exact aE2 (aE1 L D E) _
structure Qk (n:Int) (q:List bk):Prop where
 r:∀x∈q,nR n x=true
 b:q.Pairwise λx y=>pX x y=true
 i:q.Pairwise λx y=>x.id≠y.id
 l:q.length<=12
def aE3{x y z:bk}(C:pX x y=true)(D:pX y z=true):pX x z=true:=by
 simp only[pX,Bool.or_eq_true,Bool.and_eq_true,decide_eq_true_eq,beq_iff_eq]at *
 omega
def Qk.of{n:Int}{q:aa bk}(h:nS n q=true):Qk n q:=by
 have L:=h;simp only[nS,Bool.and_eq_true,List.all_eq_true,List.mem_range,decide_eq_true_eq]at h;have⟨E,Y⟩:=h;have O:∀ x∈q,nR n x=true:=λx T=>by
  obtain⟨i,hi,rfl⟩:=List.mem_iff_getElem.1 T;have:=E i hi;unfold pY at this;simp_all
 have Z:∀ j i (D:i<j) (C:j<q.length),pX q[i] q[j]=true:=by
  intro j
  induction j with
  |zero=>simp_all
  | succ j U=>
   intro i D C;have:=E (j+1) C;rw[Lu C,Bool.and_eq_true,Bool.and_eq_true]at this;by_cases e:i=j
   ·simp_all
   ·exact aE3 (U i (by omega) _) this.2.1
 refine⟨O,?_,?_,by omega⟩
 ·rw[List.pairwise_iff_getElem]
  grind
 ·rw[List.pairwise_iff_getElem];intro i j hi C D e;have:=aCW L D C;simp_all
def Qk.ok{n:Int}{q:aa bk}(h:Qk n q):nS n q=true:=by
 have⟨C,D,E,O⟩:=h;rw[List.pairwise_iff_getElem]at D E;simp[nS,Bool.and_eq_true,List.all_eq_true,List.mem_range,decide_eq_true_eq]
 refine⟨λi hi=>?_,by omega⟩
 cases i with
 |zero=>rw[Yt hi];exact C _ (List.getElem_mem hi)
 | succ i=>
  rw[Lu hi,Bool.and_eq_true,Bool.and_eq_true,Bool.not_eq_true'];refine⟨C _ (List.getElem_mem hi),D i (i+1) (by omega) hi (by omega),?_⟩;rw[List.any_eq_false];intro x L e;obtain⟨k,T,rfl⟩:=List.mem_take_iff_getElem.1 L
  grind
def Qk.sub{n:Int}{q s:aa bk}(h:Qk n q)(C:s.Sublist q):Qk n s:=
 ⟨λx D=>h.r x (C.subset D),h.b.sublist C,h.i.sublist C,Nat.le_trans C.length_le h.l⟩
def aE4{T:Type}(l:aa T)(i:Nat):(l.take i++l.drop (i+1)).Sublist l:=by
 rw[<-List.eraseIdx_eq_take_drop_succ];exact List.eraseIdx_sublist l i
def aE5(e x:bK):Prop:=¬ (e.line=x.line/\e.code=x.code)
structure Ek (l:List bK):Prop where
 e:∀x∈l,wR x=true
 k:l.Pairwise aE5
 l:l.length<=6
def Z0{e x:bK}:jG e x=true ↔ x.line=e.line/\x.code=e.code:=by
 simp only[jG,Bool.and_eq_true,beq_iff_eq]
def Ek.of{l:aa bK}(h:js l=true):Ek l:=by
 simp[js,Bool.and_eq_true,List.all_eq_true,List.mem_range,decide_eq_true_eq]at h;have⟨D,O⟩:=h;have key:=λi hi=>by
  have:=D i hi
  rwa [RO hi,Bool.and_eq_true,Bool.not_eq_true']at this
 refine⟨λx E=>?_,?_,by omega⟩
 ·obtain⟨i,hi,rfl⟩:=List.mem_iff_getElem.1 E
  grind
 ·rw[List.pairwise_iff_getElem];intro i j hi L T e;have C:=(key j L).2;rw[List.any_eq_false]at C;exact C l[i] (List.mem_take_iff_getElem.2 ⟨i,by omega,rfl⟩) (Z0.2 e)
def Ek.ok{l:aa bK}(h:Ek l):js l=true:=by
 have⟨D,C,L⟩:=h;rw[List.pairwise_iff_getElem]at C;simp only[js,Bool.and_eq_true,List.all_eq_true,List.mem_range,decide_eq_true_eq]
 refine⟨λi hi=>?_,by omega⟩
 rw[RO hi,Bool.and_eq_true,Bool.not_eq_true'];refine⟨D _ (List.getElem_mem hi),?_⟩;rw[List.any_eq_false];intro x E e;obtain⟨k,O,rfl⟩:=List.mem_take_iff_getElem.1 E;exact C k i (by omega) hi (by omega) (Z0.1 e)
def alP{l:aa bK}(h:js l=true){n code:Int}(h1:0 <= n/\n <= 1023)(h2:code=1 \/ code=2):js (qc l n code)=true:=by
 have C:=Ek.of h;have Y:=C.l;have rB:wR ⟨n,code,1⟩=true:=by
  simp[wR,Bool.and_eq_true,Bool.or_eq_true,beq_iff_eq,bA];omega
 refine Ek.ok ?_;unfold qc;cases D:l.findIdx? (jG ⟨n,code,1⟩)with
 | some i=>
  have⟨hi,hp⟩:=LS D;dsimp only;rw[lU _ hi];have Z:=C.e _ (List.getElem_mem hi);have hu:wR (SB l[i])=true:=by
   simp only[wR,Bool.and_eq_true,bA]at Z ⊢;unfold SB;dsimp only;rw[aK]
   grind
  refine⟨Fx C.e hu,?_,by rw[List.length_set];exact Y⟩;have E:=C.k;rw[List.pairwise_iff_getElem]at E ⊢;intro a b L O hab;rw[List.length_set]at L O;have:=E a b L O hab;rw[List.getElem_set,List.getElem_set];by_cases T:i=a
  ·subst T
   rwa [if_pos rfl,if_neg (by omega)]
  ·rw[if_neg T];by_cases e2:i=b
   ·subst e2
    rwa [if_pos rfl]
   ·simp[*]
 | none=>
  have hn:∀ x∈l,¬ (x.line=n/\x.code=code):=λx hx e=>by
   have:=List.findIdx?_eq_none_iff.1 D x hx;rw[Z0.2 e]at this;cases this
  have app:∀ m:aa bK,m.Sublist l -> m.length <= 5 -> Ek (m++[⟨n,code,1⟩]):=λm U hml=>by
   refine⟨λx hx=>?_,?_,by rw[List.length_append,List.length_singleton];omega⟩
   ·rcases List.mem_append.1 hx with hx | hx
    ·exact C.e x (U.subset hx)
    ·rwa [List.mem_singleton.1 hx]
   ·rw[List.pairwise_append]
    refine⟨C.k.sublist U,List.pairwise_singleton _ _,λx hx y hy e=>?_⟩
    rw[List.mem_singleton.1 hy]at e
    grind
  dsimp only;by_cases e6:l.length=6
  ·grind
  ·rw[jF (show ¬ (l.length:Int)=6 by omega),cond_false]
   grind
def alQ{l:aa bM}(h:∀ s∈l,lO s=true){k:Nat}(C:k<l.length)(E:1<=l[k].dU):∀ s∈l.set k ⟨l[k].weight,W6 (l[k].dU-1)⟩,lO s=true:=by
 have D:=h _ (List.getElem_mem C);simp only[lO,Bool.and_eq_true,bA]at D;rw[aK (n:=l[k].dU-1)];refine Fx h ?_;simp only[lO,Bool.and_eq_true,bA];omega
def aE6{l:aa bM}(w:aa Bool)(hl:l.length<1073741823)(D:gO l=true)(hw:l.length=w.length):∃ y t,oG l w=some (y,t)/\y.length=l.length/\gO y=true:=by
 have mk:∀ y:aa bM,y.length=l.length -> (∀ s∈y,lO s=true) -> y.length=l.length/\gO y=true:=λy C h2=>by
  refine⟨C,?_⟩;simp[gO,Bool.and_eq_true,List.all_eq_true]at D ⊢;exact⟨h2,by rw[C];exact D.2⟩
 have E:∀ s∈l,lO s=true:=by
  simp only[gO,Bool.and_eq_true,List.all_eq_true]at D;exact D.1
 unfold oG xA xC aW xL xZ;have hb:=uV (λi=>w.getD i false) (λi=>(l.getD i ⟨0,0⟩).dU) (min l.length w.length);have T:(gP l).length=l.length:=by simp[gP]
 have fQ:=uV (λi=>w.getD i false) (λi=>((gP l).getD i ⟨0,0⟩).dU) (min (gP l).length w.length);have hm:=ZA (λi=>w.getD i false) (λi=>(l.getD i ⟨0,0⟩).dU) (min l.length w.length);rw[List.nil_append,LQ l w (by omega),ak,Ls _ (by omega),ak,D,Bool.not_true,cond_false,List.length_nil,Nat.zero_add,cM,cond_true];unfold tf;generalize hr:ju (λi=>w.getD i false) (λi=>(l.getD i ⟨0,0⟩).dU) (min l.length w.length)=b at *
 by_cases U:b<0
 ·rw[decide_eq_true U];exact⟨_,_,rfl,mk _ rfl E⟩
 ·have C:b.toNat<l.length:=by omega
  rw[decide_eq_false U,cond_false,dif_pos ⟨by omega,C⟩,dif_pos C];dsimp only;have hsb:=E _ (List.getElem_mem C);simp only[lO,Bool.and_eq_true,bA]at hsb;cases Y:l[b.toNat].dU==0 with
  | false=>
   have Y:¬ l[b.toNat].dU=0:=by simpa using Y
   rw[ dif_pos ⟨by omega,C⟩,dif_pos C,dif_pos ⟨by omega,C⟩,dif_pos C];exact⟨_,_,rfl,mk _ (by simp) (alQ E C (by omega))⟩
  | true=>
   have aE7:∀ s∈gP l,lO s=true:=λs D=>by
    obtain⟨x,O,rfl⟩:=List.mem_map.1 D;have:=E x O;simp[lO,Bool.and_eq_true,bA,qY]at this ⊢;omega
   rw[cond_true,ZC l w (by omega),ak];simp only[Sum.elim_inl];rw[LQ _ w (by omega),ak];have Z:0 <= tf (gP l) w:=ZB _ (i:=b.toNat) (by rcases hm with h|h;exact absurd h (by omega);exact h) _ (by rw[T];omega);have hq:tf (gP l) w<((min (gP l).length w.length:Nat):Int):=fQ.2;have L:(tf (gP l) w).toNat<(gP l).length:=by omega
   have h4:1 <= (gP l)[(tf (gP l) w).toNat].dU:=by
    have cU:(tf (gP l) w).toNat<l.length:=by omega
    have O:=E _ (List.getElem_mem cU);simp only[lO,Bool.and_eq_true,bA]at O;simp only[gP,List.getElem_map,qY];simp only[gP]at O;omega
   rw[dif_pos ⟨Z,L⟩,dif_pos L,dif_pos ⟨Z,L⟩,dif_pos L];exact⟨_,_,rfl,mk _ (by simp[T]) (alQ aE7 L h4)⟩
def alR{r:cK}(h:eG r=true)(k:Nat){d:Int}(C:-2 <= d/\d <= 5):eG ⟨r.aE.set k d,r.wait,r.dj⟩=true:=by
 simp only[eG,Bool.and_eq_true]at h ⊢;refine⟨YJ h.1 ?_,by rw[List.length_set];exact h.2.1,h.2.2⟩;exact bA.2 C
def aE8{r:cK}(h:eG r=true){b:Int}(C:b.toNat<r.aE.length):eG (uX r b)=true:=by
 have D:=Ft h _ (List.getElem_mem C);unfold uX;rw[lU _ C];by_cases e:r.aE[b.toNat] = -2
 ·simp_all
 ·rw[decide_eq_false e];exact alR h _ (by omega)
def aE9{r:bV}{p:dL}{x:aD}{now:Int}(E:iY p=true)(C:p.state=r.aS)(L:p.since <= now)(O:now <= 1000000)(U:6 <= x.kind/\x.kind <= 9)(D:nT r x=true):iY (w5 p x.kind now)=true/\(w5 p x.kind now).state=(ff r x).aS/\(w5 p x.kind now).since <= now:=by
 have Y:0 <= p.since:=by
  simp[iY,Bool.and_eq_true,bA]at E;omega
 have hi:0 <= p.idle/\p.idle <= 1000000:=by
  simp[iY,Bool.and_eq_true,bA]at E;omega
 have T:=bA.2 ⟨L,O⟩;unfold w5;rw[E,T,Bool.and_self];have mk:∀ s:Int,0 <= s/\s <= 2 -> iY ⟨s,now,p.idle⟩=true:=λs C=>by
  simp[iY,Bool.and_eq_true,bA];omega
 have:x.kind=6 \/ x.kind=7 \/ x.kind=8 \/ x.kind=9:=by omega
 rcases this with h|h|h|h
 ·have e:r.aS=0:=by simpa [nT,h]using D
  simp[ff,h,C,e,mk]
 ·have e:r.aS=1:=by simpa [nT,h]using D
  simp[ff,h,C,e,mk]
 ·have e:r.aS=0:=by have:=D;simp[nT,h]at this;exact this.1
  simp[ff,h,C,e,mk]
 ·have e:r.aS=2:=by simpa [nT,h]using D
  simp[ff,h,C,e,mk]
def aFa{c:av}(h:Pq c)(Z:Int×Int×Int×Int×af)(P:Int×Int×Int×Int×Int×(aa Int)×Int×Int×af)(L:P.2.1=c.box.bz.cap):iter BZ aQ ((bY 0 c.aL.aE,eD c,(),(),(),(),(),(),(),(),(),c.queue,(c.queue.length:Int),(0:Int),()),(c,Z,P,(List.range c.queue.length).map (fZ c),(List.range c.queue.length).map (dy c),q5 c c.queue.length,([]:aa aD),List.replicate c.queue.length false,List.replicate 4 false,()))=some (.inl (((),(),(),(),(),(),(),()),(c,Z,P,(List.range c.queue.length).map (dy c),(List.range c.queue.length).map (kP c),(List.range c.queue.length).map (jv c),qd c c.queue.length,()))):=by
 have O:=h.ql;have qk:=h.pl;have T:=lT h.rf;have U:=uZ h;have e:=cm (step:=BZ) c.queue.length (λi=>((bY 0 _,eD c,(),(),(),(),(),(),(),(),(),c.queue,c.queue.length,i,()),(c,Z,P,(List.range _).map (fZ c),(List.range c.queue.length).map (dy c),q5 c _,(List.range i).map (kP c),qa (jv c) c.queue.length i,qd c i,()))) _ aQ (λk C=>by
  have hl:=Sv (f:=jv c) (n:=c.queue.length) (k:=k) (by omega);have SK:=tv c;have hwl:=SJ c k;have⟨ho,D,Y,o3,o4,o5⟩:=CF h C;have⟨q1,q2,E⟩:=h.q _ (List.getElem_mem C);rw[nZ C]at q1 q2 E;have Ba:(jI c k).write=oP c.queue k:=by rw[CD C,nZ C]
  refine(aEU (r:=jI c k) (a:=eH c k) (nd:=kP c k) (ct:=lV c (eH c k).au) (rd:=cS c (kP c k)) (ib:=L1 c (eH c k).au) O C (nZ C) (by omega) (CE _) (by simp;exact C) (by omega) (by simp) (by omega) (by omega) (by rw[Ba];exact Sj _ D Y U) (ZV T.1 D o3) (wX h.p (alF h C)) (ZH _ _ (by omega)) E h.nw).trans ?_;rw[w8 C,alr,L,<- Sw C,List.range_succ,List.map_append];rfl) (by
  unfold BZ aq xG xI xL;dsimp only;rw[decide_eq_false (by omega),cond_false,Sx]) (bF)
 exact e
def q7(f g:Nat->Bool)(n k:Nat):aa Bool:=(List.range n).map λi=>bif Nat.blt i k then f i else g i
def alS(f g:Nat->Bool)(n:Nat):q7 f g n 0=(List.range n).map g:=rfl
def alT(f g:Nat -> Bool)(n:Nat):q7 f g n n=(List.range n).map f:=by
 refine List.map_congr_left λi hi=>?_
 have hi:=List.mem_range.1 hi;rw[show Nat.blt i n=true from Nat.ble_eq_true_of_le hi];rfl
def SL(f g:Nat->Bool)(n k:Nat):(q7 f g n k).length=n:=by unfold q7;simp
def aFb(k:Nat):Nat.blt k k=false:=by
 cases h:Nat.blt k k with
 |false=>rfl
 |true=>simp_all
def alU{f g:Nat->Bool}{n k:Nat}(C:k<(q7 f g n k).length):(q7 f g n k)[k]=g k:=by
 simp only[q7,List.getElem_map,List.getElem_range,aFb,cond_false]
def alV{f g:Nat -> Bool}{n k:Nat}(h:k<n):(q7 f g n k).set k (f k)=q7 f g n (k+1):=by
 apply List.ext_getElem
 ·rw[List.length_set,SL,SL]
 ·intro i L O;rw[List.getElem_set];simp only[q7,List.getElem_map,List.getElem_range];by_cases e:k=i
  ·subst e;rw[if_pos rfl,show Nat.blt k _=true from Nat.ble_eq_true_of_le (Nat.le_refl _)];rfl
  ·rw[if_neg e];rcases Nat.lt_or_gt_of_ne e with h3 | h3
   ·have D:Nat.blt i k=false:=by
     cases C:Nat.blt i k with
     |false=>rfl
     |true=>have:=Nat.le_of_ble_eq_true C;omega
    have E:Nat.blt i (k+1)=false:=by
     cases C:Nat.blt i (k+1)with
     |false=>rfl
     |true=>have:=Nat.le_of_ble_eq_true C;omega
    rw[D,E]
   ·rw[show Nat.blt i k=true from Nat.ble_eq_true_of_le h3,show Nat.blt i _=true from Nat.ble_eq_true_of_le (by omega)]
def qe(c:av)(t:Int)(i:Nat):Bool:=jv c i&&(jI c i).de==t
def aFc{c:av}(L:c.queue.length <= 12)(t:Int)(Z:Int×Int×Int×Int×af)(P:Int×Int×Int×Int×Int×(aa Int)×Int×Int×af)(gM:aa Bool)(C:aa aD):iter ET aQ (((),(),(),(),(),(),t,c.queue,(c.queue.length:Int),(0:Int),()),(c,Z,P,gM,C,(List.range c.queue.length).map (jv c),()))=some (.inl (((),(),(),(),(),(),()),(c,Z,P,gM,C,(List.range c.queue.length).map (qe c t),()))):=by
 have e:=cm (step:=ET) c.queue.length (λi=>(((),(),(),(),(),(),t,c.queue,(c.queue.length:Int),(i:Int),()),(c,Z,P,gM,C,q7 (qe c t) (jv c) c.queue.length i,()))) _ aQ (λk D=>by
  have O:=SL (qe c t) (jv c) c.queue.length k;rw[<- alV D];unfold ET aq xG xI xL;dsimp only;rw[decide_eq_true (by omega),cond_true,dif_pos ⟨by omega,by omega⟩,dif_pos ⟨by omega,by omega⟩,dif_pos (by omega),bq];simp only[Int.toNat_natCast,alU,nZ];have E:qe c t k=(jv c k&&(jI c k).de==t):=rfl;rw[E];cases jv c k with
  |false=>rw[cond_false,dif_pos ⟨by omega,by omega⟩,dif_pos (by omega)];rfl
  |true=>rw[ dif_pos ⟨by omega,by omega⟩,dif_pos (by omega)];rfl) (by
  unfold ET aq xG xI xL;dsimp only;rw[decide_eq_false (by omega),cond_false,alT]) (bF)
 rw[Int.natCast_zero,alS]at e;exact e
def eO(p:Nat->Bool):Nat->Int
 |0=>-1
 |k+1=>bif decide (eO p k<0)&&p k then (k:Int)else eO p k
def CJ(p:Nat->Bool)(k:Nat):eO p (k+1)=bif decide (eO p k<0)&&p k then (k:Int)else eO p k:=rfl
def tw(p:Nat -> Bool):∀ n,(eO p n = -1 /\ ∀ k,k<n -> p k=false) \/ ∃ j:Nat,j<n/\eO p n=(j:Int)/\p j=true /\ ∀ k,k<j -> p k=false
 |0=>.inl ⟨rfl,λk C=>absurd C (Nat.not_lt_zero k)⟩
 | n+1=>by
  rw[CJ];rcases tw p n with ⟨D,E⟩|⟨j,D,E,L,O⟩
  ·grind
  ·grind
def tA(D gM C:Nat->Bool)(n:Nat):Int:=
 bif decide (eO (λi=>C i&&D i) n<0)then (bif decide (eO (λi=>C i&&gM i) n<0)then eO C n else eO (λi=>C i&&gM i) n)else eO (λi=>C i&&D i) n
def lW(c:av)(i:Nat):Bool:=decide ((jI c i).at_<=c.now-c.box.bz.cap)
def aFd{c:av}(h:Pq c)(C:Nat->Bool):Qt c.queue ((List.range c.queue.length).map C) ((List.range c.queue.length).map (dy c)) c.box.bz.cap c.now=some (tA (lW c) (dy c) C c.queue.length):=by
 have hq:=h.ql;have Z1:=h.nw;have hcp:=h.cap;have Y:W6 (c.now-c.box.bz.cap)=c.now-c.box.bz.cap:=aK;have ki:∀ (k:Nat),k<c.queue.length->(C k&&lW c k)=false->zf (((List.range c.queue.length).map C,(List.range c.queue.length).map (dy c),c.box.bz.cap,c.now,eO C k,eO (λi=>C i&&dy c i) k,c.queue,(c.queue.length:Int),(k:Int),()),())=some (.inl (((List.range c.queue.length).map C,(List.range c.queue.length).map (dy c),c.box.bz.cap,c.now,eO C (k+1),eO (λi=>C i&&dy c i) (k+1),c.queue,(c.queue.length:Int),((k+1:Nat):Int),()),())):=by
  intro k D E;rw[CJ,CJ];unfold zf aq aM xG xI;dsimp only;rw[decide_eq_true (by omega),cond_true,dif_pos ⟨by omega,by omega⟩];simp only[List.length_map,List.length_range];rw[decide_eq_false (by omega),cond_false,dif_pos ⟨by omega,by omega⟩];simp only[Int.toNat_natCast,w8 D,Y,nZ];rw[bq];cases L:C k with
  |false=>simp[L]
  | true=>
   rw[L,Bool.true_and]at E;unfold lW at E;rw[E,decide_eq_true (by omega:(k:Int)<(c.queue.length:Int)),dif_pos ⟨by omega,by omega⟩];simp only[Bool.not_true,cond_false,cond_true,L,Bool.true_and];cases dy c k<;>cases decide (eO C k<0)<;>cases decide (eO (λi=>C i&&dy c i) k<0)<;>simp
 unfold Qt tA br;rw[c9,ak,bA.2 ⟨hcp.1,by omega⟩,Bool.not_true,cond_false,c9,ak,bA.2 Z1,Bool.not_true,cond_false];rcases tw (λi=>C i&&lW c i) c.queue.length with ⟨O,T⟩|⟨j,O,T,U,h4⟩
 ·have e:=cm (step:=zf) c.queue.length (λk=>(((List.range c.queue.length).map C,(List.range c.queue.length).map (dy c),c.box.bz.cap,c.now,eO C k,eO (λi=>C i&&dy c i) k,c.queue,(c.queue.length:Int),(k:Int),()),())) (.inr (.inl ((eO C c.queue.length,eO (λi=>C i&&dy c i) c.queue.length,()),()))) aQ (λk D=>ki k D (T k D)) (by
   unfold zf aq aM xG xI;dsimp only;rw[decide_eq_false (by omega),cond_false]) (bF)
  rw[Int.natCast_zero]at e
  refine(congrArg (λo=>Option.bind o _) e).trans ?_
  rw[ak,O];simp only[Sum.elim_inr,Sum.elim_inl];by_cases Z:eO (λi=>C i&&dy c i) c.queue.length<0
  ·rw[decide_eq_false (by omega:¬ eO (λi=>C i&&dy c i) c.queue.length >= 0),decide_eq_true Z];rfl
  ·rw[decide_eq_true (by omega:eO (λi=>C i&&dy c i) c.queue.length >= 0),decide_eq_false Z];rfl
 ·have e:=cm (step:=zf) j (λk=>(((List.range c.queue.length).map C,(List.range c.queue.length).map (dy c),c.box.bz.cap,c.now,eO C k,eO (λi=>C i&&dy c i) k,c.queue,(c.queue.length:Int),(k:Int),()),())) (.inl (((j:Int),()),())) aQ (λk D=>ki k (by omega) (h4 k D)) (by
   rw[Bool.and_eq_true]at U;have h5:=U.2;unfold lW at h5;unfold zf aq aM xG xI;dsimp only;rw[decide_eq_true (by omega),cond_true,dif_pos ⟨by omega,by omega⟩];simp only[List.length_map,List.length_range];rw[decide_eq_false (by omega),cond_false,dif_pos ⟨by omega,by omega⟩];simp only[Int.toNat_natCast,w8 O,Y,nZ,U.1,h5,Bool.not_true,cond_false,cond_true]) (bF)
  rw[Int.natCast_zero]at e
  refine(congrArg (λo=>Option.bind o _) e).trans ?_
  rw[ak,T,decide_eq_false (by omega)];rfl
def rkN(D gM C:Nat->Bool)(n:Nat):Int:=
 bif decide (eO (λi=>C i&&D i) n<0)then (bif decide (eO (λi=>C i&&gM i) n<0)then (bif decide (eO C n<0)then 0 else 1)else 2)else 3
def aFe{c:av}(h:Pq c)(C:Nat->Bool):OV c.queue ((List.range c.queue.length).map C) ((List.range c.queue.length).map (dy c)) c.box.bz.cap c.now=some (tA (lW c) (dy c) C c.queue.length):=by
 have U:=h.ql;have E:=h.nw;have L:=h.cap;have O:W6 (c.now-c.box.bz.cap)=c.now-c.box.bz.cap:=aK;unfold OV aW;rw[dP,ak,bA.2 ⟨L.1,by omega⟩,Bool.not_true,cond_false,dP,ak,bA.2 E,Bool.not_true,cond_false];have e:=cm (step:=IM) c.queue.length (λk=>((c.queue,(List.range c.queue.length).map C,(List.range c.queue.length).map (dy c),c.box.bz.cap,c.now,tA (lW c) (dy c) C k,rkN (lW c) (dy c) C k,(k:Int),()),())) (.inl ((tA (lW c) (dy c) C c.queue.length,()),())) aQ (λk D=>by
  have Y:=tw C k;have Z:=tw (λi=>C i&&dy c i) k;have ho:=tw (λi=>C i&&lW c i) k;unfold IM aq xG xI;dsimp only;simp only[List.length_map,List.length_range];rw[decide_eq_true (by omega),cond_true,cond_true,dif_pos ⟨by omega,by omega⟩];simp only[Int.toNat_natCast,w8 D,O,nZ];rw[bq];unfold tA rkN;rw[CJ,CJ,CJ];have hold:decide ((jI c k).at_<=c.now-c.box.bz.cap)=lW c k:=rfl;rw[hold];cases T:C k with
  |false=>simp[T]
  | true=>
   simp only[Bool.not_true,cond_false,Bool.true_and];rw[dif_pos ⟨by omega,by omega⟩,dif_pos ⟨by omega,by omega⟩];generalize eO (λi=>C i&&lW c i) k=o at *
   generalize eO (λi=>C i&&dy c i) k=u at *
   generalize eO C k=a at *
   have ao:a<0\/0<=a:=by omega
   have uo:u<0\/0<=u:=by omega
   have oo:o<0\/0<=o:=by omega
   have kn:¬ (k:Int)<0:=by omega
   rcases ao with ao|ao<;>rcases uo with uo|uo<;>rcases oo with oo|oo<;>cases dy c k<;>cases lW c k<;>simp[D,ao,uo,oo,kn,Int.not_lt.2 ao,Int.not_lt.2 uo,Int.not_lt.2 oo]) (by
  unfold IM aq xG xI;dsimp only;rw[decide_eq_false (by omega),cond_false]) (bF)
 rw[Int.natCast_zero]at e
 refine(congrArg (λo=>Option.bind o _) e).trans ?_
 rfl
def qf:aD:=⟨0,0,0,0⟩
def qg(c:av):Int:=match oG c.shares (qd c c.queue.length)with
 |some y=>y.2
 |none=>0
def mV(c:av):Int:=tA (lW c) (dy c) (qe c (qg c)) c.queue.length
def zS(c:av):aD×Int:=bif decide (mV c<0)then (qf,-1)else (kP c (mV c).toNat,mV c)
def alW{c:av}(h:Pq c):∃ l,oG c.shares (qd c c.queue.length)=some (l,qg c):=by
 have⟨y,t,e,_⟩:=ZD (qd c c.queue.length) (by have:=h.shl;omega) h.sh (by rw[SJ,h.shl]);refine⟨y,?_⟩;unfold qg;rw[e]
def alX(c:av):-1 <= mV c/\mV c<c.queue.length:=by
 unfold mV tA;rcases tw _ _ with ⟨C,_⟩|⟨j,C,L,_⟩
 ·rw[C,decide_eq_true (by omega),cond_true];rcases tw _ _ with ⟨D,_⟩ | ⟨j,D,O,_⟩
  ·rw[D,decide_eq_true (by omega),cond_true];rcases tw (qe c (qg c)) c.queue.length with ⟨E,_⟩|⟨j,E,T,_⟩<;>omega
  ·grind
 ·grind
def aFf{c:av}(h:Pq c):QA c (bY 0 c.aL.aE) (eD c)=some (zS c):=by
 have E:=h.ql;have⟨l,L⟩:=alW h;have T:=alX c;unfold QA aW xL;rw[if_pos ⟨by omega,by omega,by omega⟩,Int.toNat_natCast,aEC h,ak];simp only[Sum.elim_inl];rw[if_pos ⟨by omega,by omega,by omega⟩,if_pos ⟨by omega,by omega,by omega⟩,Int.toNat_natCast,aED h,ak];simp only[Sum.elim_inl];rw[if_pos ⟨by omega,by omega,by omega⟩,if_pos (by decide),Int.toNat_natCast,show (4:Int).toNat=4 from rfl,aFa h _ _ rfl,ak];simp only[Sum.elim_inl];rw[L,ak];dsimp only;rw[aFc E,ak];simp only[Sum.elim_inl];rw[aFd h,ak];show (bif decide (mV c<0)then _ else _)=_;unfold zS;by_cases C:mV c<0
 ·rw[decide_eq_true C];rfl
 ·have O:(mV c).toNat<c.queue.length:=by omega
  rw[decide_eq_false C,cond_false,cond_false];have U:¬ tA (lW c) (dy c) (qe c (qg c)) c.queue.length<0:=C;have D:=O;rw[dif_pos ⟨by omega,by simp only[List.length_map,List.length_range];exact D⟩,dif_pos (by simp only[List.length_map,List.length_range];exact D)];simp only[List.getElem_map,List.getElem_range];rfl
def Z2(l:aa aF)(b:Int)(E:l.length <= 1048576):D6 l b=some (l.any λa=>a.au==b):=by
 have L:=uP (λa:aF=>a.au==b) l;unfold D6 br;rw[R8];have e:=cm (step:=D5) (cR (λa:aF=>a.au==b) l) (λi=>((l,b,(i:Int),()),())) (if cR (λa:aF=>a.au==b) l<l.length then .inl ((true,()),())else .inr (.inl ((),()))) aQ (λk h=>by
  have D:=lS h (by omega);unfold D5 aq aM xG xI;dsimp only;rw[decide_eq_true (by omega),cond_true,dif_pos ⟨by omega,by omega⟩];simp only[Int.toNat_natCast];rw[D,cond_false,bq]) (by
  by_cases C:cR (λa:aF=>a.au==b) l<l.length
  ·have D:=p7 C;unfold D5 aq aM xG xI;dsimp only;simp[*]
  ·unfold D5 aq aM xG xI;dsimp only;rw[decide_eq_false (by omega),cond_false,if_neg C]) (bF)
 rw[Int.natCast_zero]at e
 refine(congrArg (λo=>Option.bind o _) e).trans ?_
 by_cases C:cR (λa:aF=>a.au==b) l<l.length
 ·rw[if_pos C,decide_eq_true C];rfl
 ·rw[if_neg C,decide_eq_false C];rfl
def alY{c:av}(h:Pq c)(a:aF):(iter D8 aQ ((c,eD c,(List.range c.queue.length).map (fZ c),(),(0:Int),()),((a.au,a.row,a.bG,()),()))).bind (Sum.elim (λD=>some D.1.1) (Sum.elim (λz28=>some true) (λz=>nomatch z)))=some (!xb c c.queue.length a.au):=by
 have hq:=h.ql;have E:=uZ h;have e:=fe (step:=D8) (List.range c.queue.length) (λi=>!(fZ c i&&dy c i&&a.au==(eH c i).au)) (λi=>((c,eD c,(List.range c.queue.length).map (fZ c),(),(i:Int),()),((a.au,a.row,a.bG,()),()))) (.inl ((false,()),())) (.inr (.inl ((),()))) aQ (λk C=>by
  rw[List.length_range]at C;have L:=tv c;have hl4:((List.range c.queue.length).map (fZ c)).length=c.queue.length:=by simp
  have⟨ho,O,T,o3,o4,U⟩:=CF h C;have Y:=ak0 (r:=c.aX) (a:=eH c k) U O T E;rw[List.getElem_range];unfold D8 aq aM xG xI;dsimp only;rw[decide_eq_true (by omega),cond_true,dif_pos ⟨by omega,by omega⟩];simp only[Int.toNat_natCast,w8 C];rw[bq];cases fZ c k with
  |false=>rfl
  | true=>
   rw[cond_true,dif_pos ⟨by omega,by omega⟩];simp only[CE];rw[dif_pos ⟨by omega,by omega⟩,Y,ak,Bool.beq_comm];have gM:dy c k=uW c.aX (eH c k):=rfl;rw[gM];cases a.au==(eH c k).au<;>cases uW c.aX (eH c k)<;>rfl) (by
  rw[List.length_range];have L:=tv c;unfold D8 aq aM xG xI;dsimp only;rw[decide_eq_false (by omega),cond_false]) (by rw[List.length_range];exact bF)
 rw[Int.natCast_zero]at e;rw[e,ak];have Z:(List.range c.queue.length).all (λi=>!(fZ c i&&dy c i&&a.au==(eH c i).au)) = !xb c c.queue.length a.au:=by
  unfold xb;rw[List.any_eq_not_all_not,Bool.not_not]
 rw[Z];cases xb c c.queue.length a.au<;>rfl
def aFg{c:av}(h:Pq c){k:Nat}(C:k<c.queue.length):OS c (eD c) ((List.range c.queue.length).map (fZ c)) (k:Int)=some (jv c k):=by
 have hq:=h.ql;have qk:=h.pl;have O:=lT h.rf;have T:=uZ h;have SK:=tv c;have hl4:((List.range c.queue.length).map (fZ c)).length=c.queue.length:=by simp
 obtain⟨ho,E,U,Y,o4,o5⟩:=CF h C;obtain⟨q1,q2,Z⟩:=h.q _ (List.getElem_mem C);rw[nZ C]at Z;have Z1:=h.nw;have Ba:(jI c k).write=oP c.queue k:=by rw[CD C,nZ C]
 have hnd:yO c.aX (eH c k) (jI c k).write=some (kP c k):=by rw[Ba,akY];exact Sj _ E U T
 have hw:W6 (c.now-(jI c k).at_)=c.now-(jI c k).at_:=aK;unfold OS xI br;rw[dif_pos ⟨by omega,by omega⟩];simp only[Int.toNat_natCast,CE];rw[dif_pos ⟨by omega,by omega⟩];simp only[w8 C,(SI O.1 E Y),ak,nZ];unfold jv;cases fZ c k with
 |false=>rfl
 | true=>
  simp only[Bool.not_true,cond_false,Bool.true_and];cases lV c (eH c k).au with
  |true=>rfl
  | false=>
   rw[cond_false,dif_pos ⟨by omega,by omega⟩,hnd,ak,Sh h.p (alF h C),ak];cases cS c (kP c k)with
   |false=>rfl
   | true=>
    simp only[Bool.not_true,Bool.not_false,cond_false,Bool.true_and,Z2 _ _ (show c.pending.length<=1048576 by omega),ak,alY h,hw];have AX:(c.pending.any λa=>a.au==(eH c k).au)=L1 c (eH c k).au:=rfl;have hyg:decide (c.now-(jI c k).at_ >= c.box.bz.cap) = !SH c k:=by
     unfold SH;by_cases L:c.now-(jI c k).at_<c.box.bz.cap
     ·rw[decide_eq_true L,decide_eq_false (by omega)];rfl
     ·rw[decide_eq_false L,decide_eq_true (by omega)];rfl
    rw[AX,hyg];by_cases D:(kP c k).kind=1
    ·have k4:((kP c k).kind==(4:Int))=false:=by rw[D];rfl
     have k4':((kP c k).kind != (4:Int))=true:=by rw[D];rfl
     have D:((kP c k).kind==(1:Int))=true:=by rw[D];rfl
     rw[D,k4,k4'];cases L1 c (eH c k).au<;>rfl
    ·have D:((kP c k).kind==(1:Int))=false:=by simpa using D
     rw[D,bne];cases (kP c k).kind==(4:Int)with
     |false=>rfl
     | true=>
      cases L1 c (eH c k).au with
      |true=>rfl
      | false=>
       simp only[Bool.false_or,Bool.not_true,cond_true,cond_false,Bool.true_and,Bool.not_false];refine(dif_pos (⟨by omega,C⟩:0<=(k:Int)/\k<c.queue.length)).trans ?_;cases SH c k with
       |false=>rw[Bool.and_false];rfl
       |true=>rw[Bool.and_true];exact alY h _
def aFh{c:av}(h:Pq c):OW c=some (zS c):=by
 have hq:=h.ql;have U:=uZ h;have SK:=tv c;have⟨l,Z⟩:=alW h;have hb:=alX c;have e:=cm (step:=IN) c.queue.length (λi=>((c,(),(),(),(),(),(),(i:Int),()),(((0:Int),(0:Int),(0:Int),(0:Int),()),eD c,(List.range c.queue.length).map (fZ c),(List.range i).map (jv c),(List.range i).map (dy c),qd c i,()))) (.inl ((c,(),(),(),(),(),()),(((0:Int),(0:Int),(0:Int),(0:Int),()),eD c,(List.range c.queue.length).map (jv c),(List.range c.queue.length).map (dy c),qd c c.queue.length,()))) aQ (λk C=>by
  have⟨ho,E,L,o3,o4,Y⟩:=CF h C;have⟨q1,q2,q3⟩:=h.q _ (List.getElem_mem C);rw[nZ C]at q2;have hwl:=SJ c k;have hh:=ak0 (r:=c.aX) (a:=eH c k) Y E L U;have gM:dy c k=uW c.aX (eH c k):=rfl;have hwt:qd c (k+1)=bif jv c k then (qd c k).set (jI c k).de.toNat true else qd c k:=rfl;unfold IN aq xG xI xL;dsimp only;simp only[List.length_map,List.length_range,List.length_singleton];rw[decide_eq_true (by omega),cond_true,aFg h C,ak,cM,cond_true,dif_pos ⟨by omega,by omega⟩,dif_pos (by omega)];simp only[Int.toNat_natCast,CE];rw[hh,ak,cond_true,bq,List.range_succ,List.map_append,List.map_append,List.map_singleton,List.map_singleton,gM,hwt];cases jv c k with
  |false=>rfl
  | true=>
   rw[ dif_pos ⟨by omega,by omega⟩];simp only[nZ];rw[dif_pos ⟨by omega,by omega⟩,dif_pos (by omega)];rfl) (by
  unfold IN aq xG xI xL;dsimp only;rw[decide_eq_false (by omega),cond_false]) (bF)
 have O:=cm (step:=IP) c.queue.length (λi=>((c,(),(),(),(),qg c,(i:Int),()),(((0:Int),(0:Int),(0:Int),(0:Int),()),eD c,q7 (qe c (qg c)) (jv c) c.queue.length i,(List.range c.queue.length).map (dy c),()))) (.inl ((c,(),(),(),(),()),(((0:Int),(0:Int),(0:Int),(0:Int),()),eD c,(List.range c.queue.length).map (qe c (qg c)),(List.range c.queue.length).map (dy c),()))) aQ (λk C=>by
  have D:=SL (qe c (qg c)) (jv c) c.queue.length k;have ht:qe c (qg c) k=(jv c k&&(jI c k).de==qg c):=rfl;rw[<- alV C,ht];unfold IP aq xG xI xL;dsimp only;rw[decide_eq_true (by omega),cond_true,dif_pos ⟨by omega,by omega⟩,dif_pos (by omega),bq];simp only[Int.toNat_natCast,alU];cases jv c k with
  |false=>rw[cond_false,dif_pos ⟨by omega,by omega⟩,dif_pos (by omega)];rfl
  | true=>
   rw[ dif_pos ⟨by omega,by omega⟩];simp only[nZ];rw[dif_pos ⟨by omega,by omega⟩,dif_pos (by omega)];rfl) (by
  unfold IP aq xG xI xL;dsimp only;rw[decide_eq_false (by omega),cond_false,alT]) (bF)
 rw[Int.natCast_zero]at e O;rw[alS]at O;unfold OW xI aW xL;rw[alq h,ak,aEz h,ak,if_pos (by decide)]
 refine(congrArg (λo=>Option.bind o _) e).trans ?_
 rw[ak];simp only[Sum.elim_inl];rw[akU _ _ (by have:=h.shl;omega),Z,ak]
 refine(congrArg (λo=>Option.bind o _) O).trans ?_
 rw[ak];simp only[Sum.elim_inl];rw[aFe h,ak];show (bif decide (mV c<0)then _ else _)=_;unfold zS;by_cases T:mV c<0
 ·rw[decide_eq_true T];rfl
 ·have D:(mV c).toNat<c.queue.length:=by omega
  have⟨ho,E,L,o3,o4,Y⟩:=CF h D;rw[decide_eq_false T,cond_false,cond_false];have n7:¬ tA (lW c) (dy c) (qe c (qg c)) c.queue.length<0:=T;have aDP:(tA (lW c) (dy c) (qe c (qg c)) c.queue.length).toNat<c.queue.length:=D;rw[dif_pos ⟨by omega,by omega⟩,dif_pos (by omega)];simp only[CE];rw[dif_pos ⟨by omega,by omega⟩];simp only[nZ];have Ba:(jI c (mV c).toNat).write=oP c.queue (mV c).toNat:=by rw[CD D,nZ D]
  show (yO c.aX (eH c (mV c).toNat) (jI c (mV c).toNat).write).bind _=_;rw[Ba,akY,Sj _ E L U,ak];rfl
def SM{α:Type}(p:α -> Bool)(l:aa α):(cR p l=l.length/\l.find? p=none) \/ ∃ h:cR p l<l.length,l.find? p=some l[cR p l]:=by
 have E:=uP p l;rcases Nat.lt_or_ge _ _ with h|h
 ·refine .inr ⟨h,?_⟩;rw[List.find?_eq_some_iff_getElem]
  refine⟨p7 h,_,h,rfl,λj C=>?_⟩
  rw[lS C];rfl
 ·refine .inl ⟨by omega,?_⟩;rw[List.find?_eq_none];intro x D;obtain⟨j,C,rfl⟩:=List.mem_iff_getElem.1 D;rw[lS (p:=p) (by omega) C];simp
def L3(c:av)(l:aa aD):aD×Bool:=match l.find? (cS c)with
 |some x=>(x,true)
 |none=>(qf,false)
def alZ{c:av}(h:Pq c){l:aa aD}(O:l.length <= 1000)(L:∀ x∈l,dc c.config.aB x=true):Ix c l=some (L3 c l):=by
 have hi:=uP (cS c) l;have ki:∀ (k:Nat) (C:k<l.length),BA ((c,l,(),(k:Int),()),(((0:Int),(0:Int),(0:Int),(0:Int),()),()))=some (bif cS c l[k]then .inr (.inl (((),true,()),((l[k].kind,l[k].au,l[k].row,l[k].bG,()),())))else .inl ((c,l,(),((k+1:Nat):Int),()),(((0:Int),(0:Int),(0:Int),(0:Int),()),()))):=by
  intro k C;unfold BA aq aM xG xI;dsimp only;rw[decide_eq_true (by omega),cond_true,dif_pos ⟨by omega,by omega⟩];simp only[Int.toNat_natCast];rw[Sh h.p (L _ (List.getElem_mem C)),ak];cases cS c l[k]with
  |false=>rw[cond_false,bq];rfl
  |true=>simp_all
 unfold Ix L3 br;rcases SM (cS c) l with ⟨D,E⟩|⟨D,E⟩
 ·have e:=cm (step:=BA) l.length _ _ aQ (λk C=>by
   rw[ki k C,lS (p:=cS c) (i:=k) (by omega) C];rfl) (by
   unfold BA aq aM xG xI;dsimp only;rw[decide_eq_false (by omega),cond_false]) (bF)
  rw[Int.natCast_zero]at e
  refine(congrArg (λo=>Option.bind o _) e).trans ?_
  rw[E];rfl
 ·have e:=cm (step:=BA) (cR (cS c) l) (λk=>((c,l,(),(k:Int),()),(((0:Int),(0:Int),(0:Int),(0:Int),()),()))) (.inl (((),true,()),((l[cR (cS c) l].kind,l[cR (cS c) l].au,l[cR (cS c) l].row,l[cR (cS c) l].bG,()),()))) aQ (λk C=>by
   rw[ki k (by omega),lS (p:=cS c) (i:=k) C (by omega)];rfl) (by
   rw[ki _ D,p7 D];rfl) (bF)
  rw[Int.natCast_zero]at e
  refine(congrArg (λo=>Option.bind o _) e).trans ?_
  rw[E];rfl
def zU(c:av)(b:Int)(x:aD):aD:=bif (gY c.aX b).open_ then ⟨4,b,0,0⟩else x
def Z3{c:av}{b:Int}(x:aD)(C:0 <= b)(h:b.toNat<c.aX.ay.length):ze c b x=some (zU c b x):=by
 unfold ze zU xI;rw[dif_pos ⟨C,h⟩,zK h]
 grind
def Z4{c:av}(x:aD)(C:0 <= x.au)(h:x.au.toNat<c.aX.ay.length):D4 c x=some (zU c x.au x):=by
 unfold D4 zU xI;rw[dif_pos ⟨C,h⟩,zK h]
 grind
def SN{c:av}{b:Int}{x:aD}(h:Pq c)(C:0 <= b/\b<aT c.config.aB)(D:dc c.config.aB x=true):dc c.config.aB (zU c b x)=true:=by
 unfold zU;cases (gY _ b).open_ with
 |false=>exact D
 |true=>exact zL h.p.R.qX (.inl rfl) C
def ga(c:av)(b:Int):aD:=zU c b ⟨5,b,0,0⟩
def kQ(c:av)(i:Nat):aF:=c.pending.getD i zA
def Z5{c:av}{i:Nat}(h:i<c.pending.length):c.pending[i]=kQ c i:=by
 unfold kQ;rw[List.getD_eq_getElem?_getD,List.getElem?_eq_getElem h];rfl
def oR(c:av)(i:Nat):Bool:=!lV c (kQ c i).au && !((c.pending.take i).any λa=>a.au==(kQ c i).au)
def iD(c:av)(i:Nat):aD:=zU c (kQ c i).au ⟨1,(kQ c i).au,(kQ c i).row,0⟩
def oS(c:av):aa aD:=(bY 0 c.aL.aE).map (ga c)
def qh(c:av)(k:Nat):aa aD:=((List.range k).filter (oR c)).map (iD c)
def Z6{c:av}(h:Pq c){i:Nat}(hi:i<c.pending.length):ey c.config.aB (kQ c i)=true/\0 <= (kQ c i).au/\(kQ c i).au.toNat<c.aX.ay.length/\(kQ c i).au.toNat<c.aL.aE.length/\(kQ c i).au<aT c.config.aB:=by
 have C:=h.pe _ (List.getElem_mem hi);rw[Z5]at C;have⟨_,D,E,L,O,T,U⟩:=qR C;have:=h.p.bl;have:=h.dl;simp_all
def al0{c:av}(h:Pq c){b:Int}(C:b∈bY 0 c.aL.aE):(0 <= b/\b<aT c.config.aB)/\dc c.config.aB (ga c b)=true:=by
 obtain⟨j,rfl,D,_⟩:=akQ C;have:=h.dl;have C:0 <= ((0+j):Int)/\((0+j):Int)<aT c.config.aB:=by omega
 exact⟨C,SN h C (zL h.p.R.qX (.inr rfl) C)⟩
def al1{c:av}(h:Pq c){i:Nat}(hi:i<c.pending.length):dc c.config.aB (iD c i)=true:=by
 have⟨C,D,L,O,E⟩:=Z6 h hi;exact SN h ⟨D,E⟩ (aDU C)
def al2(c:av)(k:Nat):(qh c k).length <= k:=by
 unfold qh
 grind
def aFi{c:av}(h:Pq c):OM c=some (oS c++qh c c.pending.length):=by
 have E:=lT h.rf;have qk:=h.pl;have Z7:=h.dl;have Yj:=h.p.bl;have ul:=CA 0 c.aL.aE;have e:=cm (step:=Iy) c.aL.aE.length (λi=>((c,(),(i:Int),()),((bY 0 (c.aL.aE.take i)).map (ga c),()))) (.inl ((c,(),()),(oS c,()))) aQ (λk C=>by
  have O:=CA 0 (c.aL.aE.take k);rw[List.length_take]at O;have T:=(SI (c:=c) (b:=(k:Int)) E.1 (by omega) (by omega))
  have U:lV c (k:Int)=decide (c.aL.aE[k] >= 4):=by
   unfold lV;rw[Int.toNat_natCast,List.getD_eq_getElem?_getD,List.getElem?_eq_getElem C];rfl
  unfold Iy aq xG;dsimp only;rw[decide_eq_true (by omega),cond_true,T,ak,bq,Zy C,U];cases decide (c.aL.aE[k] >= 4)with
  |false=>rfl
  | true=>
   rw[cond_true,cond_true,Z4 _ (by show 0 <= (k:Int);omega) (by show (k:Int).toNat<_;omega),ak,List.length_map,List.length_singleton,cM,List.map_append];rfl) (by
  unfold Iy aq xG;dsimp only;rw[decide_eq_false (by omega),cond_false,List.take_length];rfl) (bF)
 have D:=cm (step:=Iz) c.pending.length (λi=>((c,(),(i:Int),()),(oS c++qh c i,()))) (.inl (((),()),(oS c++qh c c.pending.length,()))) aQ (λk C=>by
  have⟨ho,L,Y,Z,o4⟩:=Z6 h C;have hpk:=al2 c k;have hul:(oS c).length <= 8:=by unfold oS;rw[List.length_map];omega
  have e3:qh c (k+1)=qh c k++(bif oR c k then [iD c k]else []):=by
   unfold qh;rw[List.range_succ,List.filter_append];cases hp:oR c k<;>simp[hp]
  rw[e3];unfold Iz aq xG xI;dsimp only;rw[decide_eq_true (by omega),cond_true,dif_pos ⟨by omega,by omega⟩,bq];simp only[Int.toNat_natCast,Z5,(SI E.1 L Z),ak,Int.toNat_zero,List.drop_zero];unfold oR;cases lV c (kQ c k).au with
  |true=>rw[Bool.not_true,cond_false,Bool.false_and,cond_false,List.append_nil]
  | false=>
   rw[Bool.not_false,cond_true,if_pos ⟨by omega,by omega,by omega⟩,Z2 _ _ (by rw[List.length_take];omega),ak,Bool.true_and];cases (c.pending.take k).any λa=>a.au==(kQ c k).au with
   |true=>rw[Bool.not_true,cond_false,cond_false,List.append_nil]
   | false=>
    rw[Bool.not_false,Z4 _ L Y,ak,List.length_append,List.length_singleton,cM,List.append_assoc];rfl) (by
  unfold Iz aq xG xI;dsimp only;rw[decide_eq_false (by omega),cond_false]) (bF)
 rw[Int.natCast_zero]at e D;unfold OM aW
 refine(congrArg (λo=>Option.bind o _) e).trans ?_
 rw[ak];have e0:oS c++qh c 0=oS c:=List.append_nil _;rw[e0]at D
 refine(congrArg (λo=>Option.bind o _) D).trans ?_
 rfl
def tC(u:Bool)(l:aa Int)(idle:Nat->Bool)(i:Nat):Bool:=bif u then decide (l.getD i 0 >= 4)else decide (l.getD i 0 > 0)&&idle i
def zV(r:cK)(idle:Nat->Bool):Int:=ju (tC (decide (((bY 0 r.aE).length:Int) > 0)) r.aE idle) (λi=>r.aE.getD i 0) r.aE.length
def Z8(r:cK)(idle:Nat->Bool):-1<=zV r idle/\zV r idle<r.aE.length:=uV _ _ _
def aFj{r:cK}(D:eG r=true)(idle:Nat -> Bool):J8 r ((List.range r.aE.length).map idle)=some (zV r idle):=by
 have hl:=lT D;unfold J8 aW;rw[Lt _ (by omega),ak,D,Bool.not_true,cond_false,Zz D,ak];generalize T:decide (((bY 0 r.aE).length:Int) > 0)=u;have e:=cm (step:=J7) r.aE.length (λi=>(((List.range r.aE.length).map idle,(),u,ju (tC u r.aE idle) (λi=>r.aE.getD i 0) i,r.aE,(r.aE.length:Int),(i:Int),()),((r.aE,r.wait,r.dj,()),()))) (.inl ((ju (tC u r.aE idle) (λi=>r.aE.getD i 0) r.aE.length,()),())) aQ (λk E=>by
  have U:=uV (tC u r.aE idle) (λi=>r.aE.getD i 0) k;rw[Fp];generalize ju (tC u r.aE idle) (λi=>r.aE.getD i 0) k=C at U;have Y:r.aE.getD k 0=r.aE[k]:=by rw[List.getD_eq_getElem?_getD,List.getElem?_eq_getElem E];rfl
  unfold J7 zH tC aq xG xI;dsimp only;rw[decide_eq_true (by omega),cond_true,dif_pos ⟨by omega,by omega⟩];simp only[Int.toNat_natCast,Y,List.length_map,List.length_range];rw[bq,decide_eq_true (by omega:(k:Int)<(r.aE.length:Int)),cond_true,dif_pos ⟨by omega,by omega⟩];simp only[w8 E];by_cases L:C<0
  ·rw[decide_eq_true L,Bool.true_or];cases u<;>cases decide (r.aE[k] > 0)<;>cases decide (r.aE[k] >= 4)<;>cases idle k<;>rfl
  ·have O:C.toNat<r.aE.length:=by omega
   have Z:r.aE.getD C.toNat 0=r.aE[C.toNat]:=by rw[List.getD_eq_getElem?_getD,List.getElem?_eq_getElem O];rfl
   have h4:0 <= C/\C.toNat<r.aE.length:=⟨by omega,O⟩
   rw[decide_eq_false L,Z];simp only[dif_pos h4,cond_false];cases u<;>cases decide (r.aE[k] > 0)<;>cases decide (r.aE[k] >= 4)<;>cases idle k<;>cases decide (r.aE[k] > r.aE[C.toNat])<;>rfl) (by
  unfold J7 aq xG xI;dsimp only;rw[decide_eq_false (by omega),cond_false]) (bF)
 rw[Int.natCast_zero]at e
 refine(congrArg (λo=>Option.bind o _) e).trans ?_
 unfold zV;rw[T];rfl
def aFk{r:cK}(D:eG r=true)(idle:Nat -> Bool):OX r ((List.range r.aE.length).map idle)=some (zV r idle):=by
 have hl:=lT D;unfold OX aW;rw[RK _ (by omega),ak,D,Bool.not_true,cond_false,akR D,ak];generalize T:decide (((bY 0 r.aE).length:Int) > 0)=u;have e:=cm (step:=IQ) r.aE.length (λi=>(((List.range r.aE.length).map idle,(),u,ju (tC u r.aE idle) (λi=>r.aE.getD i 0) i,(i:Int),()),((r.aE,r.wait,r.dj,()),()))) (.inl ((ju (tC u r.aE idle) (λi=>r.aE.getD i 0) r.aE.length,()),())) aQ (λk E=>by
  have U:=uV (tC u r.aE idle) (λi=>r.aE.getD i 0) k;rw[Fp];generalize ju (tC u r.aE idle) (λi=>r.aE.getD i 0) k=C at U;have Y:r.aE.getD k 0=r.aE[k]:=by rw[List.getD_eq_getElem?_getD,List.getElem?_eq_getElem E];rfl
  have Z:0 <= (k:Int)/\k<r.aE.length:=⟨by omega,E⟩
  unfold IQ zH tC aq xG xI;dsimp only;rw[decide_eq_true (by omega),cond_true,dif_pos ⟨by omega,by omega⟩];simp only[Int.toNat_natCast,Y,List.length_map,List.length_range,dif_pos Z];rw[bq,decide_eq_true (by omega:(k:Int)<(r.aE.length:Int)),cond_true];simp only[w8 E];by_cases L:C<0
  ·rw[decide_eq_true L,Bool.true_or];cases u<;>cases decide (r.aE[k] > 0)<;>cases decide (r.aE[k] >= 4)<;>cases idle k<;>rfl
  ·have O:C.toNat<r.aE.length:=by omega
   have xB:r.aE.getD C.toNat 0=r.aE[C.toNat]:=by rw[List.getD_eq_getElem?_getD,List.getElem?_eq_getElem O];rfl
   have h4:0 <= C/\C.toNat<r.aE.length:=⟨by omega,O⟩
   rw[decide_eq_false L,xB];simp only[dif_pos h4,cond_false];cases u<;>cases decide (r.aE[k] > 0)<;>cases decide (r.aE[k] >= 4)<;>cases idle k<;>cases decide (r.aE[k] > r.aE[C.toNat])<;>rfl) (by
  unfold IQ aq xG xI;dsimp only;rw[decide_eq_false (by omega),cond_false]) (bF)
 rw[Int.natCast_zero]at e
 refine(congrArg (λo=>Option.bind o _) e).trans ?_
 unfold zV;rw[T];rfl
def lX(w:aa aF)(r:bV)(b:Nat):Bool:=w.any λa=>a.au==(b:Int)&&a.row==(gY r (b:Int)).row
def q8(w:aa aF)(r:bV)(b:Nat):Bool:=(gY r (b:Int)).open_ && !lX w r b
def xh(r:bV)(dR:Int)(w:aa aF):Int:=bif dR != 1 then -1 else eO (q8 w r) r.ay.length
def Z9(r:bV)(dR:Int)(w:aa aF):-1 <= xh r dR w/\xh r dR w<r.ay.length:=by
 unfold xh;cases dR != 1 with
 |true=>grind
 | false=>
  rw[cond_false];rcases tw (q8 w r) r.ay.length with ⟨C,_⟩|⟨j,C,D,_⟩<;>omega
def aFl{w:aa aF}{r:bV}{L:aa Int}{b:Nat}{i n:Int}(C:b<r.ay.length)(E:r.ay.length<=1048576)(O:w.length<=1000):iter EU aQ ((w,(),(b:Int),false,(),n,i,w,(w.length:Int),(0:Int),()),((r.ay,r.aS,()),L,()))=some (.inl ((w,(),(b:Int),lX w r b,(),n,i,()),((r.ay,r.aS,()),L,()))):=by
 have e:=cm (step:=EU) w.length (λk=>((w,(),(b:Int),((w.take k).any λa=>a.au==(b:Int)&&a.row==(gY r (b:Int)).row),(),n,i,w,(w.length:Int),(k:Int),()),((r.ay,r.aS,()),L,()))) (.inl ((w,(),(b:Int),lX w r b,(),n,i,()),((r.ay,r.aS,()),L,()))) aQ (λk D=>by
  rw[pS D,List.any_append,List.any_cons,List.any_nil,Bool.or_false,zK (by rw[Int.toNat_natCast];exact C)];unfold EU aq xG xI;dsimp only;rw[decide_eq_true (by omega),cond_true,dif_pos ⟨by omega,by omega⟩,bq];simp only[Int.toNat_natCast];cases (w.take k).any λa=>a.au==(b:Int)&&a.row==r.ay[b].row with
  |true=>rfl
  | false=>
   rw[cond_false,Bool.false_or];cases w[k].au==(b:Int)with
   |false=>rfl
   |true=>rw[cond_true,dif_pos ⟨by omega,C⟩,Bool.true_and]) (by
  unfold EU aq xG xI;dsimp only;rw[decide_eq_false (by omega),cond_false,List.take_length];rfl) (bF)
 rw[Int.natCast_zero]at e;exact e
def aFm{w:aa aF}{r:bV}{b:Nat}(C:b<r.ay.length)(E:r.ay.length <= 1048576)(L:w.length <= 1000)(o:Bool):iter Ea aQ ((w,(),(b:Int),o,(0:Int),()),((r.ay,r.aS,()),()))=some (.inl ((w,(),(b:Int),o || lX w r b,()),((r.ay,r.aS,()),()))):=by
 have e:=cm (step:=Ea) w.length (λk=>((w,(),(b:Int),o || ((w.take k).any λa=>a.au==(b:Int)&&a.row==(gY r (b:Int)).row),(k:Int),()),((r.ay,r.aS,()),()))) (.inl ((w,(),(b:Int),o || lX w r b,()),((r.ay,r.aS,()),()))) aQ (λk D=>by
  rw[pS D,List.any_append,List.any_cons,List.any_nil,Bool.or_false,zK (by rw[Int.toNat_natCast];exact C)];unfold Ea aq xG xI;dsimp only;rw[decide_eq_true (by omega),cond_true,dif_pos ⟨by omega,by omega⟩,bq];simp only[Int.toNat_natCast];cases w[k].au==(b:Int)with
  |false=>rw[cond_false,Bool.false_and,Bool.or_false]
  | true=>
   rw[cond_true,dif_pos ⟨by omega,D⟩,dif_pos ⟨by omega,C⟩,Bool.true_and];cases w[k].row==r.ay[b].row with
   |false=>simp[*]
   |true=>rw[cond_true,Bool.or_true,Bool.or_true]) (by
  unfold Ea aq xG xI;dsimp only;rw[decide_eq_false (by omega),cond_false,List.take_length];rfl) (bF)
 rw[Int.natCast_zero,List.take_zero,List.any_nil,Bool.or_false]at e;exact e
def al3(w:aa aF)(r:bV):∀ k,k <= r.ay.length -> (opens 0 (r.ay.take k)).find? (λb=>!lX w r b.toNat)=bif decide (eO (q8 w r) k<0)then none else some (eO (q8 w r) k)
 |0,_=>rfl
 | k+1,L=>by
  have C:=al3 w r k (by omega);have D:(gY r (k:Int)).open_=r.ay[k].open_:=by rw[zK (by rw[Int.toNat_natCast];omega)];simp only[Int.toNat_natCast]
  have E:q8 w r k=(r.ay[k].open_ && !lX w r k):=by unfold q8;rw[D]
  rw[pS (show k<r.ay.length by omega),Yb,List.length_take,Nat.min_eq_left (by omega),Nat.zero_add,List.find?_append,C,CJ,E];have O:opens k [r.ay[k]]=bif r.ay[k].open_ then [(k:Int)]else []:=rfl
  grind
def al4(i:Nat)(l:aa cC)(x:Int)(h:x∈opens i l):∃ j:Nat,j<l.length/\x=((i+j:Nat):Int):=by
 induction l generalizing i with
 |nil=>cases h
 | cons d l C=>
  have e:opens i (d :: l)=bif d.open_ then (i:Int) :: opens (i+1) l else opens (i+1) l:=rfl;rw[e]at h;have tl:x∈opens (i+1) l -> ∃ j:Nat,j<(d :: l).length/\x=((i+j:Nat):Int):=λh=>by
   have⟨j,D,E⟩:=C _ h;exact⟨j+1,by simpa using D,by rw[E];omega⟩
  cases L:d.open_ with
  |false=>grind
  | true=>
   rw[L,cond_true]at h;rcases List.mem_cons.1 h with rfl|h
   ·exact⟨0,by simp,rfl⟩
   ·exact tl h
def aFn{r:bV}(dR:Int){w:aa aF}(T:r.ay.length <= 1048576)(U:w.length <= 1000):J9 r dR w=some (xh r dR w):=by
 unfold J9 xh br;cases dR != 1 with
 |true=>rfl
 | false=>
  rw[cond_false,cond_false,Rz r (by omega),ak];have O:=al3 w r r.ay.length (Nat.le_refl _);rw[List.take_length]at O;have hol:=Ry 0 r.ay;have Y:=al4 0 r.ay;generalize hL:opens 0 r.ay=L at *
  have hi:=uP (λb:Int=>!lX w r b.toNat) L;have ki:∀ (k:Nat) (C:k<L.length),B1 ((w,(),(),(L.length:Int),(k:Int),()),((r.ay,r.aS,()),L,()))=some (bif !lX w r L[k].toNat then .inr (.inl ((L[k],()),()))else .inl ((w,(),(),(L.length:Int),((k+1:Nat):Int),()),((r.ay,r.aS,()),L,()))):=by
   intro k C;have⟨j,E,D⟩:=Y _ (List.getElem_mem C);rw[Nat.zero_add]at D;unfold B1 aq aM xG aW xL;dsimp only;rw[decide_eq_true (by omega),cond_true,dif_pos ⟨by omega,by omega⟩,dif_pos (by omega)];simp only[Int.toNat_natCast,D];rw[aFl E T U,ak];simp only[Sum.elim_inl];rw[bq];cases lX w r j<;>rfl
  rcases SM (λb:Int=>!lX w r b.toNat) L with ⟨E,D⟩|⟨E,D⟩
  ·have e:=cm (step:=B1) L.length (λk=>((w,(),(),(L.length:Int),(k:Int),()),((r.ay,r.aS,()),L,()))) (.inr (.inl ((),()))) aQ (λk C=>by
    have:=lS (p:=λb:Int=>!lX w r b.toNat) (q:=L) (i:=k) (by omega) C;rw[ki k C,this];rfl) (by
    unfold B1 aq aM xG aW xL;dsimp only;rw[decide_eq_false (by omega),cond_false]) (bF)
   rw[Int.natCast_zero]at e
   refine(congrArg (λo=>Option.bind o _) e).trans ?_
   rw[D]at O;by_cases Z:eO (q8 w r) r.ay.length<0
   ·rcases tw (q8 w r) r.ay.length with ⟨k1,_⟩ | ⟨j,_,k2,_⟩
    ·rw[k1];rfl
    ·omega
   ·grind
  ·have e:=cm (step:=B1) (cR (λb:Int=>!lX w r b.toNat) L) (λk=>((w,(),(),(L.length:Int),(k:Int),()),((r.ay,r.aS,()),L,()))) (.inl ((L[cR (λb:Int=>!lX w r b.toNat) L],()),())) aQ (λk C=>by
    have:=lS (p:=λb:Int=>!lX w r b.toNat) (q:=L) (i:=k) C (by omega);rw[ki k (by omega),this];rfl) (by
    have:=p7 (p:=λb:Int=>!lX w r b.toNat) (q:=L) E;rw[ki _ E,this];rfl) (bF)
   rw[Int.natCast_zero]at e
   refine(congrArg (λo=>Option.bind o _) e).trans ?_
   rw[D]at O;by_cases Z:eO (q8 w r) r.ay.length<0
   ·grind
   ·simp[*]
def aFo{r:bV}(dR:Int){w:aa aF}(L:r.ay.length <= 1048576)(O:w.length <= 1000):OY r dR w=some (xh r dR w):=by
 unfold OY xh br;cases dR != 1 with
 |true=>rfl
 | false=>
  have ki:∀ k (C:k<r.ay.length),BE ((w,(),k,()),((r.ay,r.aS,()),()))=some (bif q8 w r k then .inr (.inl ((k,()),()))else .inl ((w,(),((k+1):Int),()),((r.ay,r.aS,()),()))):=by
   intro k C;have T:(gY r (k:Int)).open_=r.ay[k].open_:=by rw[zK (by rw[Int.toNat_natCast];omega)];simp only[Int.toNat_natCast]
   unfold BE q8 aq aM xG xI aW;dsimp only;rw[decide_eq_true (by omega),cond_true,dif_pos ⟨by omega,by omega⟩,T];simp only[Int.toNat_natCast];rw[aFm C L O,ak];simp only[Sum.elim_inl];rw[bq];cases r.ay[k].open_<;>cases lX w r k<;>rfl
  rcases tw (q8 w r) _ with ⟨D,E⟩|⟨j,D,E,U,Y⟩
  ·have e:=cm (step:=BE) r.ay.length (λk=>((w,(),(k:Int),()),((r.ay,r.aS,()),()))) (.inr (.inl ((),()))) aQ (λk C=>by
    rw[ki k C,E k C];rfl) (by
    unfold BE aq aM xG xI aW;dsimp only;rw[decide_eq_false (by omega),cond_false]) (bF)
   rw[Int.natCast_zero]at e
   refine(congrArg (λo=>Option.bind o _) e).trans ?_
   rw[D];rfl
  ·have e:=cm (step:=BE) j (λk=>((w,(),(k:Int),()),((r.ay,r.aS,()),()))) (.inl (((j:Int),()),())) aQ (λk C=>by
    rw[ki k (by omega),Y k C];rfl) (by
    rw[ki j D,U];rfl) (bF)
   rw[Int.natCast_zero]at e
   refine(congrArg (λo=>Option.bind o _) e).trans ?_
   rw[E];rfl
def bZ(c:av):Int:=td c.box.bz.dO c.aS (uU c)
def Fy(c:av)(i:Nat):Bool:=!((eD c).any λa=>a.au==(i:Int))
def fM(c:av):Int:=zV c.aL (Fy c)
def gn(c:av):Int:=xh c.aX c.box.bz.dR (eD c)
def xj(c:av):aa aD:=bif decide (fM c >= 0) && !lV c (fM c)then [ga c (fM c)]else []
def q9(c:av):aa aD:=bif decide (gn c >= 0)then [⟨4,gn c,0,0⟩]else []
def mW(c:av):aa aD:=bif bZ c==8&&decide (((opens 0 c.aX.ay).length:Int) > 0)then [⟨4,(opens 0 c.aX.ay).headD 0,0,0⟩]else bif bZ c != 0 then [⟨bZ c,0,0,0⟩]else []
def ri(c:av)(l:aa aD):aD:=(l.find? (cS c)).getD qf
def fnd_nil(c:av):ri c []=qf:=rfl
def fnd_cons(c:av)(x:aD)(l:aa aD):ri c (x :: l)=bif cS c x then x else ri c l:=by
 unfold ri;rw[List.find?_cons];cases cS c x<;>rfl
def SO(c:av)(w:Int):ah aD:=
 let D:Int->Int->Int->Int->ah (aD):=λE L O T=>(let U:Bool->ah (aD):=λY=>bif Y then some (⟨E,L,O,T⟩:aD)else some (⟨(0:Int),(0:Int),(0:Int),(0:Int)⟩:aD);bif (E != (0:Int))then (gL c (⟨E,L,O,T⟩:aD)).bind λZ=>(U Z)else (U false));bif (w==(8:Int))then (yY c.aX).bind λC=>bif (decide ((C.length:Int) > (0:Int)))then if rT:0<=(0:Int)/\(0:Int).toNat<C.length then if sG:(0:Int).toNat<C.length then (let nN:=C[(0:Int).toNat]'sG;(D (4:Int) nN (0:Int) (0:Int)))else none else none else (D w 0 0 0)else (D w 0 0 0)
def CK(c:av)(D:aa aF)(w:Int):ah aD:=
 (J9 c.aX c.box.bz.dR D).bind λC=>bif (C != (-1:Int))then (gL c (⟨(4:Int),C,(0:Int),(0:Int)⟩:aD)).bind λE=>bif E then some (⟨(4:Int),C,(0:Int),(0:Int)⟩:aD)else SO c w else SO c w
def al5(c:av)(O:aa Int)(D:aa aF)(w:Int)(idle:aa Bool):ah aD:=
 (J8 c.aL idle).bind λC=>(let E:Bool->ah (aD):=λT=>bif T then (ze c C (⟨(5:Int),C,(0:Int),(0:Int)⟩:aD)).bind λL=>(gL c L).bind λU=>bif U then some L else CK c D w else CK c D w;bif (C != (-1:Int))then (uC O C).bind λY=>(E (!Y))else (E false))
def SP(c:av):bZ c=0\/6<=bZ c/\bZ c<=9:=aDK _ _ _
def aFp(l:aa Int)(h:0<l.length):l.headD 0=l[0]:=by
 cases l with
 |nil=>cases h
 |cons x l=>rfl
def aaa(c:av)(h:Pq c)(C:0<(opens 0 c.aX.ay).length):(0 <= (opens 0 c.aX.ay)[0]/\(opens 0 c.aX.ay)[0]<aT c.config.aB)/\(opens 0 c.aX.ay).headD 0=(opens 0 c.aX.ay)[0]:=by
 have⟨j,D,E⟩:=al4 0 _ _ (List.getElem_mem C);have:=h.p.bl;exact⟨by omega,aFp _ C⟩
def aFq{c:av}(h:Pq c):SO c (bZ c)=some (ri c (mW c)):=by
 have ku:=uZ h;have hw:=SP c;have D:=h.p.R.qX;have O:bZ c≠0 -> gL c ⟨bZ c,0,0,0⟩=some (cS c ⟨bZ c,0,0,0⟩):=λhn=>wX h.p (Sk D (by omega))
 have T:(bif (bZ c != (0:Int))then (gL c (⟨bZ c,0,0,0⟩:aD)).bind λU=>(bif U then some (⟨bZ c,0,0,0⟩:aD)else some qf)else some qf)=some (ri c (bif bZ c != 0 then [⟨bZ c,0,0,0⟩]else [])):=by
  by_cases C:bZ c=0
  ·rw[C];rfl
  ·rw[eU C,cond_true,cond_true,O C,fnd_cons,fnd_nil]
   grind
 unfold SO mW;dsimp only;by_cases E:bZ c=8
 ·have Y:(bZ c==8)=true:=by rw[E];rfl
  rw[Y,cond_true,Rz _ (by omega),ak,Bool.true_and];by_cases L:0<(opens 0 c.aX.ay).length
  ·have⟨Z,k2⟩:=aaa c h L;rw[decide_eq_true (by omega),cond_true,cond_true,dif_pos ⟨by omega,L⟩,dif_pos,k2];show (bif ((4:Int) != 0)then (gL c ⟨4,(opens 0 c.aX.ay)[0],0,0⟩).bind _ else _)=_;rw[wX h.p (zL D (.inl rfl) Z),fnd_cons,fnd_nil];cases cS c ⟨4,(opens 0 c.aX.ay)[0],0,0⟩<;>rfl
  ·rw[decide_eq_false (by omega),cond_false];exact T
 ·rwa [jF E,cond_false,Bool.false_and,cond_false]
def aFr{c:av}(h:Pq c):CK c (eD c) (bZ c)=some (ri c (q9 c++mW c)):=by
 have C:=uZ h;have E:=h.ql;have L:=h.p.bl;have O:-1 <= gn c/\gn c<c.aX.ay.length:=Z9 _ _ _;unfold CK q9;rw[aFn _ C (by rw[tv];omega),ak];show (bif gn c != -1 then (gL c ⟨4,gn c,0,0⟩).bind _ else _)=_;rw[aFq h];by_cases D:gn c >= 0
 ·rw[eU (by omega:¬ gn c = -1),cond_true,decide_eq_true D,cond_true,wX h.p (zL h.p.R.qX (.inl rfl) (by omega)),ak,List.singleton_append,fnd_cons];cases cS c ⟨4,gn c,0,0⟩<;>rfl
 ·grind
def aFs{c:av}(h:Pq c):al5 c (bY 0 c.aL.aE) (eD c) (bZ c) ((List.range c.aL.aE.length).map (Fy c))=some (ri c (xj c++(q9 c++mW c))):=by
 have Y:=uZ h;have L:=lT h.rf;have Z:=h.p.bl;have Z7:=h.dl;have hb:-1 <= fM c/\fM c<c.aL.aE.length:=Z8 _ _;unfold al5 xj;rw[aFj h.rf,ak];show (bif fM c != -1 then (uC (bY 0 c.aL.aE) (fM c)).bind λO=>(bif !O then (ze c (fM c) ⟨5,fM c,0,0⟩).bind λD=>(gL c D).bind λC=>bif C then some D else CK c (eD c) (bZ c)else CK c (eD c) (bZ c))else CK c (eD c) (bZ c))=_;rw[aFr h];by_cases T:fM c >= 0
 ·have E:0 <= fM c/\fM c<aT c.config.aB:=by omega
  rw[eU (by omega:¬ fM c = -1),cond_true,decide_eq_true T,Bool.true_and,(ZV L.1 (by omega) (by omega)),ak];cases lV c (fM c)with
  |true=>rfl
  | false=>
   have U:dc c.config.aB (ga c (fM c))=true:=SN h E (zL h.p.R.qX (.inr rfl) E);rw[Bool.not_false,cond_true,cond_true,Z3 _ (by omega) (by omega),ak];show ((gL c (ga c (fM c))).bind λC=>bif C then some (ga c (fM c))else _)=_;rw[wX h.p U,ak,List.singleton_append,fnd_cons]
   grind
 ·grind
def aFt{c:av}(h:Pq c):Kb c (bY 0 c.aL.aE) (eD c) ⟨bZ c,0,0,0⟩=some (ri c (xj c++(q9 c++mW c))):=by
 have D:=uZ h;have E:=h.ql;have L:=h.p.bl;have O:=h.dl;have T:=lT h.rf;have C:c.aX.ay.length=c.aL.aE.length:=by omega
 have e:=cm (step:=Ka) c.aX.ay.length (λi=>((bY 0 c.aL.aE,eD c,(),(),(),(),(c.aX.ay.length:Int),(i:Int),()),(c,(bZ c,(0:Int),(0:Int),(0:Int),()),((0:Int),(0:Int),(0:Int),(0:Int),()),(List.range i).map (Fy c),()))) _ aQ (λk U=>by
  unfold Ka aq xG;dsimp only;rw[decide_eq_true (by omega),cond_true,ZH _ _ (by rw[tv];omega),ak,List.length_map,List.length_range,List.length_singleton,cM,cond_true,bq,List.range_succ,List.map_append];rfl) (by
  unfold Ka aq xG;dsimp only;rw[decide_eq_false (by omega),cond_false]) (bF)
 rw[Int.natCast_zero]at e;unfold Kb aW xL
 refine(congrArg (λo=>Option.bind o _) e).trans ?_
 rw[ak,C];exact aFs h
def aFu{c:av}(h:Pq c):(mW c).length <= 1 /\ ∀ x∈mW c,dc c.config.aB x=true:=by
 have Y:=SP c;have D:=h.p.R.qX;have E:(bif bZ c != 0 then [(⟨bZ c,0,0,0⟩:aD)]else []).length <= 1 /\ ∀ x∈(bif bZ c != 0 then [⟨bZ c,0,0,0⟩]else []),dc c.config.aB x=true:=by
  by_cases L:bZ c=0
  ·simp_all
  ·rw[eU L];exact⟨Nat.le_refl _,λx C=>by rw[List.mem_singleton.1 C];exact Sk D (by omega)⟩
 unfold mW;cases bZ c==8 with
 |false=>exact E
 | true=>
  by_cases O:0<(opens 0 c.aX.ay).length
  ·have⟨T,U⟩:=aaa c h O;rw[decide_eq_true (by omega),U];exact⟨Nat.le_refl _,λx C=>by rw[List.mem_singleton.1 C];exact zL D (.inl rfl) T⟩
  ·simp_all
def aFv{c:av}(h:Pq c):(q9 c).length <= 1 /\ ∀ x∈q9 c,dc c.config.aB x=true:=by
 have E:=h.p.bl;have L:-1 <= gn c/\gn c<c.aX.ay.length:=Z9 _ _ _;unfold q9;by_cases C:gn c >= 0
 ·rw[decide_eq_true C];exact⟨Nat.le_refl _,λx D=>by rw[List.mem_singleton.1 D];exact zL h.p.R.qX (.inl rfl) (by omega)⟩
 ·grind
def aFw{c:av}(h:Pq c):(xj c).length <= 1 /\ ∀ x∈xj c,dc c.config.aB x=true:=by
 have L:=h.dl;have O:-1 <= fM c/\fM c<c.aL.aE.length:=Z8 _ _;unfold xj;by_cases D:fM c >= 0
 ·have C:0 <= fM c/\fM c<aT c.config.aB:=by omega
  rw[decide_eq_true D];cases lV c _ with
  |true=>simp_all
  |false=>exact⟨Nat.le_refl _,λx E=>by rw[List.mem_singleton.1 E];exact SN h C (zL h.p.R.qX (.inr rfl) C)⟩
 ·grind
def aFx{c:av}(h:Pq c):OZ c (bZ c)=some (xj c++(q9 c++mW c)):=by
 have Z:=uZ h;have hq:=h.ql;have Yj:=h.p.bl;have Z7:=h.dl;have E9:=lT h.rf;have C5:c.aX.ay.length=c.aL.aE.length:=by omega
 have nB:-1 <= fM c/\fM c<c.aL.aE.length:=Z8 _ _;have fQ:-1 <= gn c/\gn c<c.aX.ay.length:=Z9 _ _ _;have hol:=Ry 0 c.aX.ay;have e:=cm (step:=IS) c.aX.ay.length (λi=>((c,bZ c,(),(),(),(i:Int),()),(([]:aa aD),eD c,(List.range i).map (Fy c),()))) (.inl ((c,bZ c,(),(),(),()),(([]:aa aD),eD c,(List.range c.aX.ay.length).map (Fy c),()))) aQ (λk hk=>by
  unfold IS aq xG;dsimp only;rw[decide_eq_true (by omega),cond_true,Z2 _ _ (by rw[tv];omega),ak,List.length_map,List.length_range,List.length_singleton,cM,cond_true,bq,List.range_succ,List.map_append];rfl) (by
  unfold IS aq xG;dsimp only;rw[decide_eq_false (by omega),cond_false]) (bF)
 rw[Int.natCast_zero]at e;have E:∀l:aa aD,l.length <= 5 -> bD (l.length+1)=true:=λl D=>cM
 -- the end
 have tl:∀ l:aa aD,l.length <= 5 -> (bif (bZ c==(8:Int))then (bif (decide (((opens 0 c.aX.ay).length:Int) > (0:Int)))then (if O:0 <= (0:Int)/\(0:Int).toNat<(opens 0 c.aX.ay).length then if C:(0:Int).toNat<(opens 0 c.aX.ay).length then (bif bD (l.length+([(⟨(4:Int),(opens 0 c.aX.ay)[(0:Int).toNat]'C,(0:Int),(0:Int)⟩:aD)]:aa aD).length)then some (l++([(⟨(4:Int),(opens 0 c.aX.ay)[(0:Int).toNat]'C,(0:Int),(0:Int)⟩:aD)]:aa aD))else none)else none else none)else (bif (bZ c != (0:Int))then bif bD (l.length+([(⟨bZ c,(0:Int),(0:Int),(0:Int)⟩:aD)]:aa aD).length)then some (l++([(⟨bZ c,(0:Int),(0:Int),(0:Int)⟩:aD)]:aa aD))else none else some l))else (bif (bZ c != (0:Int))then bif bD (l.length+([(⟨bZ c,(0:Int),(0:Int),(0:Int)⟩:aD)]:aa aD).length)then some (l++([(⟨bZ c,(0:Int),(0:Int),(0:Int)⟩:aD)]:aa aD))else none else some l))=some (l++mW c):=by
  intro l D;have z:(bif (bZ c != (0:Int))then bif bD (l.length+([(⟨bZ c,(0:Int),(0:Int),(0:Int)⟩:aD)]:aa aD).length)then some (l++([(⟨bZ c,(0:Int),(0:Int),(0:Int)⟩:aD)]:aa aD))else none else some l)=some (l++(bif bZ c != 0 then [(⟨bZ c,0,0,0⟩:aD)]else [])):=by
   rw[List.length_singleton,E l D];cases bZ c != 0 with
   |true=>rfl
   |false=>rw[cond_false,cond_false,List.append_nil]
  unfold mW;cases bZ c==8 with
  |false=>exact z
  | true=>
   rw[cond_true,Bool.true_and];by_cases L:0<(opens 0 c.aX.ay).length
   ·have⟨k1,k2⟩:=aaa c h L;rw[decide_eq_true (by omega:((opens 0 c.aX.ay).length:Int) > 0),cond_true,cond_true,dif_pos ⟨by omega,L⟩,dif_pos (show Int.toNat 0<(opens 0 c.aX.ay).length from L),List.length_singleton,E l D,cond_true,k2];rfl
   ·rw[decide_eq_false (by omega:¬ ((opens 0 c.aX.ay).length:Int) > 0),cond_false,cond_false];exact z
 unfold OZ aW xL;rw[alq h,ak]
 refine(congrArg (λo=>Option.bind o _) e).trans ?_
 rw[ak,C5];simp only[Sum.elim_inl,aFk h.rf,ak,aFo _ Z (show (eD c).length <= 1000 by rw[tv];omega),aj3 _ (show c.aX.ay.length<1073741823 by omega)];have er:zV c.aL (Fy c)=fM c:=rfl;have ec:xh c.aX c.box.bz.dR (eD c)=gn c:=rfl;rw[er,ec];have h1:∀ l:aa aD,l.length <= 4 -> (bif decide (gn c >= 0)then bif bD (l.length+([(⟨4,gn c,0,0⟩:aD)]:aa aD).length)then some ((l++([(⟨4,gn c,0,0⟩:aD)]:aa aD))++mW c)else none else some (l++mW c))=some (l++(q9 c++mW c)):=by
  intro l D;unfold q9;rw[List.length_singleton,E l (by omega)];cases decide (gn c >= 0)with
  |true=>rw[cond_true,cond_true,List.append_assoc];rfl
  |false=>rfl
 have T:∀ l:aa aD,l.length <= 1 -> (bif decide (gn c >= 0)then bif bD (l.length+([(⟨4,gn c,0,0⟩:aD)]:aa aD).length)then (bif (bZ c==(8:Int))then (bif (decide (((opens 0 c.aX.ay).length:Int) > (0:Int)))then (if O:0 <= (0:Int)/\(0:Int).toNat<(opens 0 c.aX.ay).length then if C:(0:Int).toNat<(opens 0 c.aX.ay).length then (bif bD ((l++([(⟨4,gn c,0,0⟩:aD)]:aa aD)).length+([(⟨(4:Int),(opens 0 c.aX.ay)[(0:Int).toNat]'C,(0:Int),(0:Int)⟩:aD)]:aa aD).length)then some ((l++([(⟨4,gn c,0,0⟩:aD)]:aa aD))++([(⟨(4:Int),(opens 0 c.aX.ay)[(0:Int).toNat]'C,(0:Int),(0:Int)⟩:aD)]:aa aD))else none)else none else none)else (bif (bZ c != (0:Int))then bif bD ((l++([(⟨4,gn c,0,0⟩:aD)]:aa aD)).length+([(⟨bZ c,(0:Int),(0:Int),(0:Int)⟩:aD)]:aa aD).length)then some ((l++([(⟨4,gn c,0,0⟩:aD)]:aa aD))++([(⟨bZ c,(0:Int),(0:Int),(0:Int)⟩:aD)]:aa aD))else none else some (l++([(⟨4,gn c,0,0⟩:aD)]:aa aD))))else (bif (bZ c != (0:Int))then bif bD ((l++([(⟨4,gn c,0,0⟩:aD)]:aa aD)).length+([(⟨bZ c,(0:Int),(0:Int),(0:Int)⟩:aD)]:aa aD).length)then some ((l++([(⟨4,gn c,0,0⟩:aD)]:aa aD))++([(⟨bZ c,(0:Int),(0:Int),(0:Int)⟩:aD)]:aa aD))else none else some (l++([(⟨4,gn c,0,0⟩:aD)]:aa aD))))else none else (bif (bZ c==(8:Int))then (bif (decide (((opens 0 c.aX.ay).length:Int) > (0:Int)))then (if O:0 <= (0:Int)/\(0:Int).toNat<(opens 0 c.aX.ay).length then if C:(0:Int).toNat<(opens 0 c.aX.ay).length then (bif bD (l.length+([(⟨(4:Int),(opens 0 c.aX.ay)[(0:Int).toNat]'C,(0:Int),(0:Int)⟩:aD)]:aa aD).length)then some (l++([(⟨(4:Int),(opens 0 c.aX.ay)[(0:Int).toNat]'C,(0:Int),(0:Int)⟩:aD)]:aa aD))else none)else none else none)else (bif (bZ c != (0:Int))then bif bD (l.length+([(⟨bZ c,(0:Int),(0:Int),(0:Int)⟩:aD)]:aa aD).length)then some (l++([(⟨bZ c,(0:Int),(0:Int),(0:Int)⟩:aD)]:aa aD))else none else some l))else (bif (bZ c != (0:Int))then bif bD (l.length+([(⟨bZ c,(0:Int),(0:Int),(0:Int)⟩:aD)]:aa aD).length)then some (l++([(⟨bZ c,(0:Int),(0:Int),(0:Int)⟩:aD)]:aa aD))else none else some l)))=some (l++(q9 c++mW c)):=by
  intro l D;rw[tl _ (by rw[List.length_append,List.length_singleton];omega),tl _ (by omega)];exact h1 l (by omega)
 have U:=T [] (by simp);unfold xj;by_cases Y:fM c >= 0
 ·have hv:0 <= fM c/\fM c<aT c.config.aB:=by omega
  rw[decide_eq_true Y,cond_true,Bool.true_and,(SI E9.1 (by omega) (by omega)),ak];cases lV c (fM c)with
  |true=>exact U
  | false=>
   rw[Bool.not_false,cond_true,cond_true,Z4 _ (by show 0 <= fM c;omega) (by show (fM c).toNat<_;omega),ak,List.length_nil,List.length_singleton,cM,cond_true];exact T [ga c (fM c)] (Nat.le_refl _)
 ·rw[decide_eq_false Y,cond_false,Bool.false_and,cond_false];exact U
def aab(c:av):ah aD:=(oS c++qh c c.pending.length).find? (cS c)
def zW(c:av):aD×Int:=
 bif c.aS.state != 0 then (bif bZ c != 0 then (bif cS c ⟨bZ c,0,0,0⟩then (⟨bZ c,0,0,0⟩,-1)else (qf,-1))else (qf,-1))else
 match aab c with
 |some x=>(x,-1)
 |none=>bif decide ((zS c).2 >= 0)then zS c else (ri c (xj c++(q9 c++mW c)),-1)
def aFy(c:av)(l:aa aD):L3 c l=(ri c l,(l.find? (cS c)).isSome):=by
 unfold L3 ri;cases l.find? (cS c)<;>rfl
def aFz{c:av}(h:Pq c):yP c=some (bif decide ((c.trace.length:Int) >= 2000)then (qf,-1)else zW c):=by
 have D:=h.p.R.qX;have Y:=SP c;have Z:=h.pl;have E9:=lT h.rf;have ul:=CA 0 c.aL.aE;have E:=aFw h;have L:=aFv h;have O:=aFu h;unfold yP;cases decide ((c.trace.length:Int) >= 2000)with
 |true=>rfl
 | false=>
  rw[cond_false,cond_false,akT h.rf,ak,aDJ _ _ _ h.dO h.pw,ak];have T:td c.box.bz.dO c.aS (uU c)=bZ c:=rfl;rw[T];unfold zW;cases c.aS.state != 0 with
  | true=>
   rw[cond_true,cond_true];by_cases C:bZ c=0
   ·rw[C];rfl
   ·rw[jF C,eU C,Sh h.p (Sk D (by omega))];cases cS c ⟨bZ c,0,0,0⟩<;>rfl
  | false=>
   rw[cond_false,cond_false,aFi h,ak,alZ h (by
    rw[List.length_append];have:=al2 c c.pending.length;have:(oS c).length=(bY 0 c.aL.aE).length:=by unfold oS;rw[List.length_map]
    omega) (λx hx=>by
    rcases List.mem_append.1 hx with hx|hx
    ·obtain⟨b,U,rfl⟩:=List.mem_map.1 hx;exact(al0 h U).2
    ·obtain⟨i,hi,rfl⟩:=List.mem_map.1 hx;exact al1 h (List.mem_range.1 (List.mem_filter.1 hi).1)),ak]
   unfold L3 aab;cases (oS c++qh c c.pending.length).find? (cS c)with
   |some x=>rfl
   | none=>
    dsimp only;rw[cond_false,aFh h,ak];cases decide ((zS c).2 >= 0)with
    |true=>rfl
    | false=>
     rw[cond_false,cond_false,aFx h,ak,alZ h (by rw[List.length_append,List.length_append];omega) (λx hx=>by
      rcases List.mem_append.1 hx with hx|hx
      ·exact E.2 x hx
      ·rcases List.mem_append.1 hx with hx | hx
       ·exact L.2 x hx
       ·exact O.2 x hx),ak,aFy]
def aFA(p:Nat -> Bool)(n:Nat):cR p (List.range n) <= n/\(∀ k,k<cR p (List.range n) -> p k=false)/\(cR p (List.range n)<n -> p (cR p (List.range n))=true):=by
 have C:=uP p (List.range n);rw[List.length_range]at C
 refine⟨C,λk D=>?_,λE=>?_⟩
 ·have:=lS D (by rw[List.length_range];omega);simp_all
 ·have:=p7 (p:=p) (q:=List.range n) (by rw[List.length_range];exact E)
  rwa [List.getElem_range]at this
def aFB(c:av)(n:Nat):(qh c n).find? (cS c)=if cR (λi=>oR c i&&cS c (iD c i)) (List.range n)<n then some (iD c (cR (λi=>oR c i&&cS c (iD c i)) (List.range n)))else none:=by
 unfold qh;rw[List.find?_map,List.find?_filter];have e:(List.range n).find? (λa=>decide (oR c a=true/\(cS c ∘ iD c) a=true))=(List.range n).find? (λi=>oR c i&&cS c (iD c i)):=by
  simp_all
 rw[e];rcases SM (λi=>oR c i&&cS c (iD c i)) (List.range n)with ⟨C,D⟩|⟨C,D⟩
 ·simp_all
 ·grind
def aFC{c:av}(h:Pq c):QB c=some (zW c):=by
 have Z:=h.p.R.qX;have hw:=SP c;have qk:=h.pl;have E9:=lT h.rf;have ul:=CA 0 c.aL.aE;have Yj:=h.p.bl;have Z7:=h.dl;unfold QB br;rw[Zz h.rf,ak,akS h.rf,ak,aDI _ _ _ h.dO h.pw,ak];have ew:td c.box.bz.dO c.aS (uU c)=bZ c:=rfl;rw[ew];unfold zW;cases c.aS.state != 0 with
 | true=>
  rw[cond_true,cond_true];by_cases T:bZ c=0
  ·rw[T];rfl
  ·rw[eU T,cond_true,cond_true,wX h.p (Sk Z (by omega)),ak];cases cS c ⟨bZ c,0,0,0⟩<;>rfl
 | false=>
  rw[cond_false,cond_false];have ki:∀ (k:Nat) (C:k<(bY 0 c.aL.aE).length),B2 (((),(),(),(),(),((bY 0 c.aL.aE).length:Int),(k:Int),()),(c,((0:Int),(0:Int),(0:Int),(0:Int),()),bY 0 c.aL.aE,(bZ c,(0:Int),(0:Int),(0:Int),()),()))=some (bif cS c (ga c (bY 0 c.aL.aE)[k])then .inr (.inl (((),(-1:Int),()),(((ga c (bY 0 c.aL.aE)[k]).kind,(ga c (bY 0 c.aL.aE)[k]).au,(ga c (bY 0 c.aL.aE)[k]).row,(ga c (bY 0 c.aL.aE)[k]).bG,()),())))else .inl (((),(),(),(),(),((bY 0 c.aL.aE).length:Int),((k+1:Nat):Int),()),(c,((0:Int),(0:Int),(0:Int),(0:Int),()),bY 0 c.aL.aE,(bZ c,(0:Int),(0:Int),(0:Int),()),()))):=by
   intro k C;have⟨k1,k2⟩:=al0 h (List.getElem_mem C);unfold B2 aq aM xG xL;dsimp only;rw[decide_eq_true (by omega),cond_true,dif_pos ⟨by omega,by omega⟩,dif_pos (by omega)];simp only[Int.toNat_natCast];rw[Z3 _ (by omega) (by omega),ak];show ((gL c (ga c (bY 0 c.aL.aE)[k])).bind _)=_;rw[wX h.p k2,ak,bq];cases cS c (ga c (bY 0 c.aL.aE)[k])<;>rfl
  have hfu:(oS c).find? (cS c)=((bY 0 c.aL.aE).find? (λb=>cS c (ga c b))).map (ga c):=by
   unfold oS;rw[List.find?_map];rfl
  unfold aab;rw[List.find?_append,hfu,aFB];rcases SM (λb=>cS c (ga c b)) (bY 0 c.aL.aE)with ⟨L,U⟩|⟨L,U⟩
  ·have e:=cm (step:=B2) (bY 0 c.aL.aE).length (λk=>(((),(),(),(),(),((bY 0 c.aL.aE).length:Int),(k:Int),()),(c,((0:Int),(0:Int),(0:Int),(0:Int),()),bY 0 c.aL.aE,(bZ c,(0:Int),(0:Int),(0:Int),()),()))) (.inr (.inl (((),(),(),(),()),(c,((0:Int),(0:Int),(0:Int),(0:Int),()),bY 0 c.aL.aE,(bZ c,(0:Int),(0:Int),(0:Int),()),())))) aQ (λk C=>by
    have:=lS (p:=λb=>cS c (ga c b)) (q:=bY 0 c.aL.aE) (i:=k) (by omega) C;rw[ki k C,this];rfl) (by
    unfold B2 aq aM xG xL;dsimp only;rw[decide_eq_false (by omega),cond_false]) (bF)
   rw[Int.natCast_zero]at e
   refine(congrArg (λo=>Option.bind o _) e).trans ?_
   rw[ak,U];simp only[Sum.elim_inr,Sum.elim_inl,Option.map_none,Option.none_or];have⟨i1,i2,i3⟩:=aFA (λi=>oR c i&&cS c (iD c i)) c.pending.length;have O:∀ (k:Nat) (C:k<c.pending.length),B3 (((),(),(),(),c.pending,(c.pending.length:Int),(k:Int),()),(c,((0:Int),(0:Int),(0:Int),(0:Int),()),bY 0 c.aL.aE,(bZ c,(0:Int),(0:Int),(0:Int),()),()))=some (bif oR c k&&cS c (iD c k)then .inr (.inl (((),(-1:Int),()),(((iD c k).kind,(iD c k).au,(iD c k).row,(iD c k).bG,()),())))else .inl (((),(),(),(),c.pending,(c.pending.length:Int),((k+1:Nat):Int),()),(c,((0:Int),(0:Int),(0:Int),(0:Int),()),bY 0 c.aL.aE,(bZ c,(0:Int),(0:Int),(0:Int),()),()))):=by
    intro k C;have⟨ho,Y,o2,o3,o4⟩:=Z6 h C;unfold B3 aq aM xG xI;dsimp only;rw[decide_eq_true (by omega),cond_true,dif_pos ⟨by omega,by omega⟩,bq];simp only[Int.toNat_natCast,Z5,(ZV E9.1 Y o3),ak,Int.toNat_zero,List.drop_zero];have ek:oR c k=(!lV c (kQ c k).au && !((c.pending.take k).any λa=>a.au==(kQ c k).au)):=rfl;rw[ek];cases lV c (kQ c k).au with
    |true=>rfl
    | false=>
     rw[cond_false,if_pos ⟨by omega,by omega,by omega⟩,ZH _ _ (by rw[List.length_take];omega),ak];cases (c.pending.take k).any λa=>a.au==(kQ c k).au with
     |true=>rfl
     | false=>
      rw[cond_false,Z3 _ Y o2,ak];show ((gL c (iD c k)).bind _)=_;rw[wX h.p (al1 h C)];cases cS c (iD c k)<;>rfl
   by_cases E:cR (λi=>oR c i&&cS c (iD c i)) (List.range c.pending.length)<c.pending.length
   ·rw[if_pos E];generalize hN:cR (λi=>oR c i&&cS c (iD c i)) (List.range c.pending.length)=N at *
    have D:=cm (step:=B3) N (λk=>(((),(),(),(),c.pending,(c.pending.length:Int),(k:Int),()),(c,((0:Int),(0:Int),(0:Int),(0:Int),()),bY 0 c.aL.aE,(bZ c,(0:Int),(0:Int),(0:Int),()),()))) (.inl (((),(-1:Int),()),(((iD c N).kind,(iD c N).au,(iD c N).row,(iD c N).bG,()),()))) aQ (λk C=>by
     rw[O k (by omega),i2 k C];rfl) (by
     rw[O N E,i3 E];rfl) (bF)
    rw[Int.natCast_zero]at D
    refine(congrArg (λo=>Option.bind o _) D).trans ?_
    rfl
   ·rw[if_neg E];have D:=cm (step:=B3) c.pending.length (λk=>(((),(),(),(),c.pending,(c.pending.length:Int),(k:Int),()),(c,((0:Int),(0:Int),(0:Int),(0:Int),()),bY 0 c.aL.aE,(bZ c,(0:Int),(0:Int),(0:Int),()),()))) (.inr (.inl (((),(),(),(),()),(c,((0:Int),(0:Int),(0:Int),(0:Int),()),bY 0 c.aL.aE,(bZ c,(0:Int),(0:Int),(0:Int),()),())))) aQ (λk C=>by
     rw[O k C,i2 k (by omega)];rfl) (by
     unfold B3 aq aM xG xI;dsimp only;rw[decide_eq_false (by omega),cond_false]) (bF)
    rw[Int.natCast_zero]at D
    refine(congrArg (λo=>Option.bind o _) D).trans ?_
    rw[ak];simp only[Sum.elim_inr,Sum.elim_inl];rw[aEB h,ak,aFf h,ak];cases decide ((zS c).2 >= 0)with
    |true=>rfl
    | false=>
     rw[cond_false,cond_false];show ((Kb c (bY 0 c.aL.aE) (eD c) ⟨bZ c,0,0,0⟩).bind _)=_;rw[aFt h,ak]
  ·have e:=cm (step:=B2) (cR (λb=>cS c (ga c b)) (bY 0 c.aL.aE)) (λk=>(((),(),(),(),(),((bY 0 c.aL.aE).length:Int),(k:Int),()),(c,((0:Int),(0:Int),(0:Int),(0:Int),()),bY 0 c.aL.aE,(bZ c,(0:Int),(0:Int),(0:Int),()),()))) (.inl (((),(-1:Int),()),(((ga c (bY 0 c.aL.aE)[cR (λb=>cS c (ga c b)) (bY 0 c.aL.aE)]).kind,(ga c (bY 0 c.aL.aE)[cR (λb=>cS c (ga c b)) (bY 0 c.aL.aE)]).au,(ga c (bY 0 c.aL.aE)[cR (λb=>cS c (ga c b)) (bY 0 c.aL.aE)]).row,(ga c (bY 0 c.aL.aE)[cR (λb=>cS c (ga c b)) (bY 0 c.aL.aE)]).bG,()),()))) aQ (λk C=>by
    have:=lS (p:=λb=>cS c (ga c b)) (q:=bY 0 c.aL.aE) (i:=k) C (by omega);rw[ki k (by omega),this];rfl) (by
    have:=p7 (p:=λb=>cS c (ga c b)) (q:=bY 0 c.aL.aE) L;rw[ki _ L,this];rfl) (bF)
   simp_all
def aFD{r:bV}{x:aD}(C:x.kind <= 5):(ff r x).aS=r.aS:=by
 unfold ff
 grind
def gQ.dn{c:av}(p:gQ c)(x:aD):gQ (dn c x):=⟨p.dl,p.tl,p.gl,p.t,p.g,p.pd,p.u⟩
def Ck.dn{c:av}(h:Ck c){x:aD}(C:kM c.config.aB c.aX x=true)(D:x.kind<=5)(E:c.trace.length<2000):Ck (dn c x):=by
 simp only[kM,Bool.and_eq_true]at C;exact⟨h.f1,h.f2,h.nw,akc C.1 C.2.1 C.2.2,alO _ h.rd,h.ar,h.sp,h.se,h.rf,((gQ.of h.pa).dn x).ok,h.qu,h.sh,h.sl,h.dr,h.pw,h.ps.trans (aFD D).symm,h.si,h.s1,h.s2,h.s3,h.er,by simp[Proofs.YtnilicojgkhpnaaGreat.dn];omega,h.rp⟩
def Ck.opn{c:av}(h:Ck c){x:aD}(E:0 <= x.au)(L:x.au<aT c.config.aB)(O:0 <= x.row)(T:x.row<c.config.aB.rows):Ck (tj c x):=by
 have C:=(Fb h.rk).1;have gb:=eK C;have p:=gQ.of h.pa;have SF:=p.tl;have hgl:=p.gl;have U:x.au.toNat<c.bx.length:=by omega
 have D:ef c.config.aB 100000 (s9 c.config.aB c.config.dg c.array x.au x.row):=Zt C c.config.dg (by decide) (ef.va h.ar) E L O T;have Y:∀a∈mT c x,ey c.config.aB a=true/\a.bG=0:=λa D=>p.pd a (List.mem_filter.1 D).1
 have Z:(mT c x).Pairwise (λx y=>x≠y):=p.u.filter _;have q:(∀ a∈(tj c x).pending,ey c.config.aB a=true/\a.bG=0)/\(tj c x).pending.Pairwise (λx y=>x≠y):=by
  show (∀a∈(bif (qZ c x).2 then (kf c.config.aB.rows x.row).foldl (kO x.au) (mT c x)else mT c x),ey c.config.aB a=true/\a.bG=0)/\(bif (qZ c x).2 then (kf c.config.aB.rows x.row).foldl (kO x.au) (mT c x)else mT c x).Pairwise (λx y=>x≠y);cases (qZ c x).2 with
  |false=>simp_all
  | true=>
   refine alI _ (λn hn=>?_) Y Z
   have:=akj O T n hn;exact Cf C E L this.1 this.2 (Int.le_refl 0) (by show 0<_;omega)
 have hp:gQ (tj c x):=⟨p.dl,by show ((c.bx.set x.au.toNat (qZ c x).1).length:Int)=_;rw[List.length_set];exact p.tl,p.gl,Fx p.t (by unfold qZ;rw[lU _ U];exact aEZ (p.t _ (List.getElem_mem U)) _ _),p.g,q.1,q.2⟩
 exact⟨h.f1,h.f2,h.nw,h.rk,h.rd,CI C D,h.sp,h.se,h.rf,hp.ok,h.qu,h.sh,h.sl,h.dr,h.pw,h.ps,h.si,h.s1,h.s2,h.s3,h.er,h.tr,h.rp⟩
def Ck.ref{c:av}(h:Ck c)(E:c.box.bz.weights.length<1073741823)(L:aI c.config.gy 1 16=true){b:Int}(O:0 <= b)(T:b<aT c.config.aB):Ck (SD c b):=by
 have C:=(Fb h.rk).1;have Y:=eK C;have p:=gQ.of h.pa;have Z:=p.dl;have D:ef _ 100000 (oN _ c.config.dg c.array b c.config.aB.rows.toNat):=Fu C _ (by decide) (ef.va h.ar) O T _ (by omega);have U:gQ (SD c b):=⟨by show ((uX c.aL b).aE.length:Int)=_;rw[alB];exact p.dl,by show ((c.bx.set b.toNat _).length:Int)=_;rw[List.length_set];exact p.tl,by show ((c.guard.set b.toNat _).length:Int)=_;rw[List.length_set];exact p.gl,Fx p.t (alJ L),Fx p.g (alK E h.f1),λa D=>p.pd a (List.mem_filter.1 D).1,p.u.filter _⟩
 exact⟨h.f1,h.f2,h.nw,h.rk,h.rd,CI C D,h.sp,h.se,aE8 h.rf (by omega),U.ok,h.qu,h.sh,h.sl,h.dr,h.pw,h.ps,h.si,h.s1,h.s2,h.s3,h.er,h.tr,h.rp⟩
def aac{T:Type}{p:T->Prop}{l:aa T}{x:T}(h:∀ y∈l,p y)(C:p x):∀ k:Nat,∀ y∈(List.range k).foldl (λd b=>d.set b x) l,p y
 |0=>h
 | k+1=>by
  rw[w6];exact Fx (aac h C k) C
def al6{r:cK}(h:eG r=true):∀ k:Nat,eG ⟨(List.range k).foldl (λd b=>d.set b 0) r.aE,r.wait,r.dj⟩=true
 |0=>h
 | k+1=>by
  rw[w6];exact alR (al6 h k) k (by omega)
def Ck.Sq{c:av}(h:Ck c)(E:c.box.bz.weights.length<1073741823)(L:aI c.config.gy 1 16=true)(n:Nat)(O:(n:Int) <= aT c.config.aB):Ck (fH c n []):=by
 have D:=(Fb h.rk).1;have p:=gQ.of h.pa;have C:=Sp D c.config.dg (by decide) (ef.va h.ar) n O;have T:gQ (fH c n []):=⟨by show (((List.range n).foldl _ c.aL.aE).length:Int)=_;rw[w7];exact p.dl,by show (((List.range n).foldl _ c.bx).length:Int)=_;rw[w7];exact p.tl,by show (((List.range n).foldl _ c.guard).length:Int)=_;rw[w7];exact p.gl,aac p.t (alJ L) n,aac p.g (alK E h.f1) n,λa C=>(by cases C),List.Pairwise.nil⟩
 exact⟨h.f1,h.f2,h.nw,h.rk,h.rd,CI D C,h.sp,h.se,al6 h.rf n,T.ok,h.qu,h.sh,h.sl,h.dr,h.pw,h.ps,h.si,h.s1,h.s2,h.s3,h.er,h.tr,h.rp⟩
def Ck.acc{c:av}(h:Ck c){i:Nat}(C:mU c i 100000)(hr:c.cA.length<400):Ck (xe c i):=by
 have T:=(Fb h.rk).1;have p:=gQ.of h.pa;have hi:=C.i;have⟨f1,f3,f4,f5,f6,f7,f8⟩:=C.facts (List.getElem_mem hi);have D:c.queue.getD i xd=c.queue[i]:=lU _ hi;have E:=C.d _ (List.getElem_mem hi);have U:=C.shl;have L:gO (zP c.shares c.queue[i].de)=true/\((zP c.shares c.queue[i].de).length:Int)=4:=by
  have⟨y,t,e,hl,ho⟩:=aE6 ((List.replicate 4 false).set c.queue[i].de.toNat true) (by omega) h.sh (by simp[U])
  grind
 have Y:nS (eN (ij c.config.aB c.spare)) (c.queue.take i++c.queue.drop (i+1))=true:=((Qk.of h.qu).sub (aE4 _ _)).ok;have key:∀ (a:cF) (e:aa bK) (x:cG),ef c.config.aB 100000 a -> js e=true -> Ck (n5 c i a e x):=λa e x Z he=>
  ⟨h.f1,h.f2,h.nw,h.rk,h.rd,CI T Z,h.sp,h.se,h.rf,(show gQ (n5 c i a e x)from ⟨p.dl,p.tl,p.gl,p.t,p.g,p.pd,p.u⟩).ok,Y,by unfold n5;rw[D];exact L.1,by unfold n5;rw[D];exact L.2,h.dr,h.pw,h.ps,h.si,h.s1,h.s2,h.s3,he,h.tr,by simp[n5];omega⟩
 unfold xe;rw[D];dsimp only;cases c.queue[i].write with
 |true=>exact key _ _ _ (C.a.LF _ (c:=⟨_,false⟩) (LX E.1 E.2).2.1) h.er
 | false=>
  have O:=C.a.syms _ (List.getElem_mem f4);rw[cond_false,lU _ f4];refine key _ _ _ (C.a.LF _ (ZO O)) ?_;have hec:=SC O;by_cases e:jb c.array.cells[p6 c.config.aB (fL c c.queue[i].line)]=0
  ·rw[e];exact h.er
  ·rw[eU e,cond_true];exact alP h.er ⟨by omega,f5⟩ (by omega)
def Ck.SQ{c:av}(h:Ck c){x:aD}(C:kM c.config.aB c.aX x=true)(D:6 <= x.kind/\x.kind <= 9)(U:c.trace.length<2000):Ck (CH (Proofs.YtnilicojgkhpnaaGreat.dn c x) x.kind):=by
 simp[kM,Bool.and_eq_true]at C;have E:=bA.1 h.nw;have⟨L,O,T⟩:=aE9 h.pw h.ps h.si E.2 D C.2.2;have p:=gQ.of h.pa;exact⟨h.f1,h.f2,h.nw,akc C.1 C.2.1 C.2.2,alO _ h.rd,h.ar,h.sp,h.se,h.rf,(show gQ _ from ⟨p.dl,p.tl,p.gl,p.t,p.g,p.pd,p.u⟩).ok,h.qu,h.sh,h.sl,h.dr,L,O,T,h.s1,h.s2,h.s3,h.er,by simp[CH,aly,Proofs.YtnilicojgkhpnaaGreat.dn];omega,h.rp⟩
def Ck.iss{c:av}(L:ei c)(h:Ck c){x:aD}{i:Int}(E:vb c x i=true):Ck (xg c x i):=by
 have Y:=Pq.of L h.ok;have O:c.box.bz.weights.length<1073741823:=by
  have:=L.1.1;unfold zE at this;omega
 have Z:aI c.config.gy 1 16=true:=by
  have:=(Fs O h.f1).1;simp[mN,Bool.and_eq_true]at this;exact this.2.2.2.2.2.1
 have⟨hb,C,hs,hr⟩:=alG L Y E;have D:c.trace.length<2000:=by
  simp only[vb,Bool.and_eq_true,Bool.not_eq_true',decide_eq_false_iff_not]at E;omega
 have hrp:x.kind=2 \/ x.kind=3 -> c.cA.length<400:=λT=>by
  simp only[vb,Bool.and_eq_true]at E;have e:(x.kind==2 ||x.kind==3)=true:=by rcases T with q|q<;>rw[q]<;>rfl
  rw[e,cond_true]at E;simp[L2,Bool.and_eq_true,decide_eq_true_eq]at E;omega
 have⟨hg,hlen,T,hbk⟩:=LB C;have hc:dc c.config.aB x=true:=by
  simp only[kM,Bool.and_eq_true]at C
  grind
 have SF:=(gQ.of h.pa).tl;have ku:=Y.p.bl;unfold xg;rcases kinds T with q|q|q|q|q|q|q|q|q<;>rw[q]<;>simp only[Int.reduceBEq,Int.reduceBNe,cond_true,cond_false,Bool.or_true,Bool.or_false,Bool.true_or,Bool.false_or,Bool.or_self]
 ·have⟨U,nB⟩:=hbk (by omega);have⟨r0,r1⟩:=SE hc q;exact(h.dn C (by omega) D).opn U (by show x.au<aT c.config.aB;omega) r0 r1
 ·exact(h.dn C (by omega) D).acc ((hs (.inl q)).1.dn x) (hrp (.inl q))
 ·exact(h.dn C (by omega) D).acc ((hs (.inr q)).1.dn x) (hrp (.inr q))
 ·exact h.dn C (by omega) D
 ·have⟨U,nB⟩:=hbk (by omega);exact(h.dn C (by omega) D).ref O Z U (by show x.au<aT c.config.aB;omega)
 ·have:=h.SQ C (by omega) D;rw[q]at this;exact this
 ·have:=h.SQ C (by omega) D;rw[q]at this;exact this
 ·have:=h.SQ C (by omega) D;rw[q]at this;exact this
 ·have:=h.SQ C (by omega) D;rw[q]at this;exact this.Sq O Z _ (by show (c.bx.length:Int) <= aT c.config.aB;omega)
def rj(d:Int):Int:=if (5:Int)<W6 (d+1)then 5 else W6 (d+1)
def SR(x:av):ah av:=(sB x).bind λC=>bif (C.1.kind != (0:Int))then (qP x C.1 C.2).bind λD=>some D.1 else some x
def SS(x:av)(n:Int):ah av:=bif (decide (n >= (0:Int)))then (wK x n).bind λC=>(wI C.2.1 n C.1.2).bind λD=>SR D.2.1 else SR x
abbrev L4:=ah (af×(av×af))
def mX(j:av)(b:fP)(s:aa bM)(d:fI)(p:dL)(u:jJ):av:=⟨j.config,b,j.now,j.aX,j.ready,j.array,j.spare,j.aL,j.bx,j.guard,j.pending,j.queue,s,d,p,u,j.errors,j.trace,j.cA⟩
def SU(x:av):L4:=(yP x).bind λC=>(let D:Bool -> L4:=λE=>bif E then (yT x C.1 C.2).bind λL=>some ((),(L.2.1,()))else some ((),(x,()));bif (C.1.kind != (0:Int))then (yQ x C.1 C.2).bind λO=>(D O)else (D false))
def SV(x:av)(n:Int):L4:=bif (decide (n >= (0:Int)))then (BF x n).bind λC=>(Bu C.2.1 n C.1.2).bind λD=>SU D.2.1 else SU x
def SW(j:av):L4:=(Ih j.queue true).bind λT=>(Ie j.drain T).bind λD=>(Bp (mX j j.box j.shares D j.aS j.cu)).bind λU=>(Ii j.aS U).bind λE=>(Il j.box ((j.queue.length:Int)==(0:Int))).bind λC=>bif C.2 then (Bj C.1.bz.weights).bind λY=>(sq j.config.aB).bind λZ=>(Bq j.cu Z).bind λL=>SV (mX j C.1 Y.1 ⟨false,C.1.bz.low,C.1.bz.high⟩ E L.1) L.2 else (sq j.config.aB).bind λoE=>(Bq j.cu oE).bind λO=>SV (mX j C.1 j.shares D E O.1) O.2
def tD(c:av)(n:Int):av:=⟨c.config,c.box,n,c.aX,c.ready,c.array,c.spare,c.aL,c.bx,c.guard,c.pending,c.queue,c.shares,c.drain,c.aS,c.cu,c.errors,c.trace,c.cA⟩
def ki(c:av):av:=(zi c).getD c
def zX(r:cK)(n:Int):cK:=if 0<r.wait-1 then ⟨r.aE,r.wait-1,r.dj⟩else ⟨r.aE.map rj,bif r.dj then n / 2 else n,r.dj⟩
def aFE{t:cI}(h:gN t=true):2<=Cl t:=by
 have q:=Yk t;unfold wF at q;rw[Lq,ak,h,Bool.not_true,cond_false]at q;simp only[gN,Bool.and_eq_true,List.all_eq_true]at h;have k:∀ x∈mM t,0<=x/\x<=1000:=λx C=>by
  have:=h.1 x C;simp only[wQ,bA]at this;omega
 simp only[mM,List.forall_mem_cons]at k;injection q with q;rw[<-q];simp (disch:=omega) only [aK];omega
def aFF{c:gp}{p:eE}(C:p.weights.length<1073741823)(h:nU c p=true):2<=c.interval/\c.interval<=10000:=by
 have q:=(Fs C h).1;have t:=aFE (Yn q).2.1;simp only[mN,Bool.and_eq_true,bA]at q;omega
def aFG{r:cK}(h:eG r=true){n:Int}(E:2<=n/\n<=10000):eG (zX r n)=true/\(zX r n).aE.length=r.aE.length:=by
 have L:=lT h;have C:=Ft h;simp only[eG,Bool.and_eq_true,bA]at h;unfold zX;split
 ·refine⟨?_,rfl⟩;simp only[eG,Bool.and_eq_true,bA];exact⟨h.1,by omega⟩
 ·refine⟨?_,List.length_map _⟩;simp only[eG,Bool.and_eq_true,List.all_eq_true,zx,bA,List.length_map,List.mem_map,forall_exists_index,and_imp,forall_apply_eq_imp_iff₂]
  refine⟨λd D=>?_,by omega,?_⟩
  ·have:=C d D;unfold rj;rw[aK (n:=d+1)];split<;>omega
  ·cases r.dj<;>simp<;>omega
def aFH{r:cK}(h:eG r=true){n:Int}(D:2<=n/\n<=10000):JO r n=some (zX r n):=by
 have L:=lT h;have O:=Ft h;have T:1<=r.wait/\r.wait<=10000:=by
  simp only[eG,Bool.and_eq_true,bA]at h;exact h.2.2
 have E:W6 (n.tdiv 2)=n / 2:=by rw[Int.tdiv_eq_ediv_of_nonneg (by omega)];exact aK
 unfold JO BJ zX aW xA xZ;rw[cM (by simp;omega),cond_true,List.nil_append,ak,Lt _ (by omega),ak,h,Bool.not_true,cond_false,c9,ak,bA.2 D,Bool.not_true,cond_false];dsimp only;rw[aK (n:=r.wait-1)];by_cases C:r.wait-1 > 0
 ·rw[decide_eq_true C,cond_true,if_pos C]
 ·rw[decide_eq_false C,cond_false,if_neg C];have e:=cm (step:=JN) r.aE.length (λi=>((n,(),(),(),(r.aE.length:Int),(i:Int),()),((r.aE,r.wait,r.dj,()),((),(0:Int),false,()),((),r.wait-1,r.dj,()),([]:aa Int),upto rj r.aE i,()))) (.inl ((n,(),(),(),()),((r.aE,r.wait,r.dj,()),((),(0:Int),false,()),((),r.wait-1,r.dj,()),([]:aa Int),r.aE.map rj,()))) aQ (λi hi=>by
   have hlen:=zm rj r.aE i;unfold JN aq xG xL;dsimp only;rw[decide_eq_true (by omega),cond_true,dif_pos ⟨by omega,by omega⟩,dif_pos (by omega),dif_pos ⟨by omega,by omega⟩,dif_pos (by omega),bq];simp only[Int.toNat_natCast];rw[E2 rj r.aE i hi,<-E3 rj r.aE i hi];rfl) (by
   unfold JN aq xG xL;dsimp only;rw[decide_eq_false (by omega),cond_false,E1]) (bF)
  rw[Int.natCast_zero,Rw]at e
  refine(congrArg (λo=>Option.bind o _) e).trans ?_
  rw[ak];simp only[Sum.elim_inl];rw[E];cases r.dj<;>rfl
def aFI{c:av}(h:eG c.aL=true){n:Int}(L:2<=n/\n<=10000):I6 c n=some ((),(q6 c (zX c.aL n),())):=by
 have O:=lT h;have T:=Ft h;have U:1<=c.aL.wait/\c.aL.wait<=10000:=by
  simp only[eG,Bool.and_eq_true,bA]at h;exact h.2.2
 have D:W6 (c.aL.wait-1)=c.aL.wait-1:=aK;have E:W6 (n.tdiv 2)=n / 2:=by rw[Int.tdiv_eq_ediv_of_nonneg (by omega)];exact aK
 unfold I6 zX aW;by_cases C:c.aL.wait-1 > 0
 ·rw[D,decide_eq_true C,cond_true,if_pos C];rfl
 ·rw[if_neg C];have e:=cm (step:=I5) c.aL.aE.length (λi=>(((),n,(i:Int),()),(q6 c ⟨upto rj c.aL.aE i,c.aL.wait-1,c.aL.dj⟩,()))) (.inl (((),n,()),(q6 c ⟨c.aL.aE.map rj,c.aL.wait-1,c.aL.dj⟩,()))) aQ (λi hi=>by
   have hlen:=zm rj c.aL.aE i;unfold I5 q6 aq xG xL;dsimp only;rw[decide_eq_true (by omega),cond_true,dif_pos ⟨by omega,by omega⟩,dif_pos (by omega),dif_pos ⟨by omega,by omega⟩,dif_pos (by omega),bq];simp only[Int.toNat_natCast];rw[E2 rj c.aL.aE i hi,<-E3 rj c.aL.aE i hi];rfl) (by
   unfold I5 q6 aq xG xL;dsimp only;rw[E1,decide_eq_false (by rw[List.length_map];omega),cond_false]) (bF)
  rw[Int.natCast_zero,Rw]at e;rw[D,decide_eq_false C,cond_false]
  refine(congrArg (λo=>Option.bind o _) e).trans ?_
  rw[ak];simp only[Sum.elim_inl,q6];rw[E];cases c.aL.dj<;>rfl
def aad(a:cF):cF:=⟨a.cells,a.bh.map (kL 1),a.aZ⟩
def aFJ{g:aP}{a:cF}(h:kK g a=true):kK g (aad a)=true:=by
 have C:=ef.va h
 refine CI (Y8 h).1 ⟨C.cells,C.syms,(congrArg (λn:Nat=>(n:Int)) (List.length_map _)).trans C.bh,C.aZ,λx D=>?_,C.gM⟩
 obtain⟨y,E,rfl⟩:=List.mem_map.1 D;exact ajy (C.Cj y E) (by decide)
def aFK{g:aP}{a:cF}(h:kK g a=true):EC g a 1=some (aad a):=aA1 (Y8 h).1 (ef.va h) (by decide) (by decide) (by decide)
def aFL{c:av}(h:kK c.config.aB c.array=true):I8 c 1=some ((),(cO c (aad c.array),())):=by
 have D:cq c.config.aB=true:=(Y8 h).1;have C:=ef.va h;have E:=oJ c.config.aB;have L:=C.bh;have e:=cm (step:=I7) c.array.bh.length (λi=>(((),(1:Int),(i:Int),()),(cO c ⟨c.array.cells,upto (kL 1) c.array.bh i,c.array.aZ⟩,()))) (.inl ((),(cO c ⟨c.array.cells,c.array.bh.map (kL 1),c.array.aZ⟩,()))) aQ (λi hi=>by
  have hlen:=zm (kL 1) c.array.bh i;have O:=C.Cj _ (List.getElem_mem hi);unfold I7 cO aq xG xL;dsimp only;rw[decide_eq_true (by omega),cond_true,dif_pos ⟨by omega,by omega⟩,dif_pos (by omega),dif_pos ⟨by omega,by omega⟩,dif_pos (by omega),bq];simp only[Int.toNat_natCast];rw[E2 (kL 1) c.array.bh i hi,aK (n:=c.array.bh[i]+1),<-E3 (kL 1) c.array.bh i hi];rfl) (by
  unfold I7 cO aq xG xL;dsimp only;rw[E1,decide_eq_false (by rw[List.length_map];omega),cond_false]) (bF)
 rw[Int.natCast_zero,Rw]at e;unfold I8 aW;exact(congrArg (λo=>Option.bind o _) e).trans rfl
def aFM(q:aa bk)(w:Bool)(L:q.length<1073741824):∃ n,EE q w=some n/\Ih q w=some n:=by
 unfold EE Ih aW;have e:=cm (step:=JQ) q.length (λi=>((w,(((q.take i).countP λr=>r.write==w:Nat):Int),q,(q.length:Int),(i:Int),()),())) (.inl (((((q.take q.length).countP λr=>r.write==w:Nat):Int),()),())) aQ (λk C=>by
  have D:=List.countP_le_length (p:=λr:bk=>r.write==w) (l:=q.take k);rw[List.length_take]at D;unfold JQ aq xG xI;dsimp only;rw[decide_eq_true (by omega),cond_true,dif_pos ⟨by omega,by omega⟩,bq];simp only[Int.toNat_natCast];rw[pS C,List.countP_append,List.countP_singleton];cases q[k].write==w with
  |true=>rw[cond_true,bq];rfl
  |false=>rw[cond_false,bq];rfl) (by
  unfold JQ aq xG xI;dsimp only;rw[decide_eq_false (by omega),cond_false]) (bF)
 have E:=cm (step:=Ig) q.length (λi=>((q,w,(((q.take i).countP λr=>r.write==w:Nat):Int),(i:Int),()),())) (.inl (((((q.take q.length).countP λr=>r.write==w:Nat):Int),()),())) aQ (λk C=>by
  have D:=List.countP_le_length (p:=λr:bk=>r.write==w) (l:=q.take k);rw[List.length_take]at D;unfold Ig aq xG xI;dsimp only;rw[decide_eq_true (by omega),cond_true,dif_pos ⟨by omega,by omega⟩,bq];simp only[Int.toNat_natCast];rw[pS C,List.countP_append,List.countP_singleton];cases q[k].write==w with
  |true=>rw[cond_true,bq];rfl
  |false=>rw[cond_false,bq];rfl) (by
  unfold Ig aq xG xI;dsimp only;rw[decide_eq_false (by omega),cond_false]) (bF)
 rw[Int.natCast_zero]at e E;exact⟨_,(congrArg (λo=>Option.bind o _) e).trans rfl,(congrArg (λo=>Option.bind o _) E).trans rfl⟩
def aFN{d:fI}(h:nQ d=true)(n:Int):∃ y,ED d n=some y/\Ie d n=some y/\nQ y=true:=by
 have D:=h;simp only[nQ,Bool.and_eq_true,decide_eq_true_eq]at D;unfold ED Ie;rw[RI,RJ,ak,ak,h,Bool.not_true,cond_false,cond_false];by_cases C:n >= d.high
 ·rw[decide_eq_true C,decide_eq_false (show ¬ n<=d.low by omega)];exact⟨_,rfl,rfl,h⟩
 ·rw[decide_eq_false C];cases decide (n<=d.low)<;>exact⟨_,rfl,rfl,h⟩
def aFO{p:dL}(h:iY p=true)(w:Bool):∃ y,EF p w=some y/\Ii p w=some y/\iY y=true/\y.state=p.state/\y.since=p.since:=by
 unfold EF Ii;rw[RM,RN,ak,h,Bool.not_true,cond_false];simp only[iY,Bool.and_eq_true,bA]at h;cases w with
 |true=>exact⟨_,rfl,rfl,by simp only[iY,Bool.and_eq_true,bA];omega,rfl,rfl⟩
 | false=>
  refine⟨_,rfl,rfl,?_,rfl,rfl⟩;rw[aK (n:=p.idle+1)];simp only[iY,Bool.and_eq_true,bA];split<;>omega
def aFP(b:fP)(h:zF b)(x:Bool):∃ t,JS b x=some (bif t then ⟨b.next,b.next,false⟩else b,t)/\Il b x=some (bif t then ⟨b.next,b.next,false⟩else b,t):=by
 have C:b.next.weights.length<=1048576:=h.2
 refine⟨x&&b.waits,?_⟩;unfold JS Il Ef HC xA xZ;rw[Za b h,akF b h,ak,gw _];cases x<;>cases b.waits<;>exact⟨rfl,rfl⟩
def aFQ{c:gp}{p:eE}(C:p.weights.length<1073741823)(h:nU c p=true):∃ l t,yX p.weights=some (l,t)/\Bj p.weights=some (l,t)/\gO l=true/\(l.length:Int)=4/\nQ ⟨false,p.low,p.high⟩=true:=by
 obtain⟨_,f2⟩:=Fs C h;simp only[uI,Bool.and_eq_true,beq_iff_eq]at f2;obtain⟨O,T,U,E,L,D,Y⟩:=f2;rw[ajD _ C,ajE _ C];unfold Cm;rw[D];exact⟨_,_,rfl,rfl,D,by rw[List.length_map];exact L,E⟩
def aFR{s:jJ}{n:Int}(C:aI s.every 1 100000=true)(E:aI s.wait 1 s.every=true)(D:aI s.next 0 (W6 (n-1))=true)(Z:1<=n/\n<=1000000):∃ y m,wH s n=some (y,m)/\Bq s n=some (y,m)/\aI y.every 1 100000=true/\aI y.wait 1 y.every=true/\aI y.next 0 (W6 (n-1))=true/\m<n:=by
 have T:=bA.1 C;have b2:=bA.1 E;have L:W6 (n-1)=n-1:=aK;have U:=bA.1 D;rw[L]at U;unfold wH Bq;rw[c9,dP,ak,ak,C,Bool.not_true,cond_false,cond_false,c9,dP,ak,ak,E,Bool.not_true,cond_false,cond_false,decide_eq_false (show ¬ n<1 by omega),cond_false,cond_false,c9,ak,D,Bool.not_true,cond_false,decide_eq_false (show ¬ s.next<0 by omega),cond_false,decide_eq_false (show ¬ s.next >= n by omega),cond_false,aK (n:=s.wait-1)];by_cases O:s.wait-1 > 0
 ·rw[decide_eq_true O,cond_true];exact⟨_,_,rfl,rfl,C,bA.2 ⟨by dsimp only;omega,by dsimp only;omega⟩,D,by omega⟩
 ·rw[decide_eq_false O,cond_false,if_neg (by omega),aK (n:=s.next+1)];refine⟨_,_,rfl,rfl,C,bA.2 ⟨T.1,Int.le_refl _⟩,?_,by omega⟩;rw[L,Int.tmod_eq_emod_of_nonneg (by omega)];have Y:=Int.emod_nonneg (s.next+1) (show n≠0 by omega);have e2:=Int.emod_lt_of_pos (s.next+1) (show 0<n by omega);exact bA.2 ⟨Y,by dsimp only;omega⟩
def Jn(o:ah av)(q:L4):Prop:=∃y,o=some y/\q=some ((),(y,()))/\ei y/\g9 y=true
def SX(j:av):ah av:=(EE j.queue true).bind λT=>(ED j.drain T).bind λL=>(zc (mX j j.box j.shares L j.aS j.cu)).bind λU=>(EF j.aS U).bind λO=>(JS j.box ((j.queue.length:Int)==(0:Int))).bind λC=>bif C.2 then (yX C.1.bz.weights).bind λY=>(uz j.config.aB).bind λE=>(wH j.cu E).bind λD=>SS (mX j C.1 Y.1 ⟨false,C.1.bz.low,C.1.bz.high⟩ O D.1) D.2 else (uz j.config.aB).bind λE=>(wH j.cu E).bind λD=>SS (mX j C.1 j.shares L O D.1) D.2
def aae{x:av}(C:ei x)(D:g9 x=true):Jn (SR x) (SU x):=by
 have h:=Pq.of C D;have same:Jn (some x) (some ((),(x,()))):=⟨x,rfl,rfl,C,D⟩
 unfold SR SU sB;rw[aFz h,ak,R7 x C,ak,D,Bool.not_true,cond_false,aFC h];show Jn ((bif decide ((x.trace.length:Int) >= 2000)then some (qf,-1)else some (zW x)).bind _) _;rw[show (bif decide ((x.trace.length:Int) >= 2000)then some (qf,-1)else some (zW x))=some (bif decide ((x.trace.length:Int) >= 2000)then (qf,-1)else zW x) by cases decide ((x.trace.length:Int) >= 2000)<;>rfl,ak];dsimp only;generalize (bif decide ((x.trace.length:Int) >= 2000)then (qf,-1)else zW x:aD×Int)=p;obtain⟨cmd,i⟩:=p;dsimp only;cases cmd.kind != (0:Int)with
 |false=>exact same
 | true=>
  rw[cond_true,cond_true,aEV h,ak,aEW C h];cases hm:vb x cmd i with
  |false=>exact same
  | true=>
   obtain⟨E,L,O,T⟩:=alG C h hm;rw[cond_true,cond_true,aEL E L O (λr T=>ZT h T),aEK E L O];exact⟨xg x cmd i,rfl,rfl,aES C E T L O,(Ck.iss C (Ck.of D) hm).ok⟩
def al7{x:av}(U:ei x)(h:g9 x=true){n:Int}(hn:n<eN x.config.aB):Jn (SS x n) (SV x n):=by
 unfold SS SV;by_cases L:n >= 0
 ·have C:=Ck.of h;have O:=ef.va C.ar;have Y:=(Fb C.rk).1;have hl:=O.cells;have hb:=mK x.config.aB;obtain⟨j,rfl⟩:=Int.eq_ofNat_of_zero_le L;have T:j<x.array.cells.length:=by omega
  have D:=O.syms _ (List.getElem_mem T);have Z:=SC D;have E:ef x.config.aB 100000 ⟨x.array.cells.set j (nY x.array.cells[j]),x.array.bh,x.array.aZ⟩:=O.LF _ (ZO D);have p:=gQ.of C.pa;have gz:=(Ek.of C.er).l;rw[decide_eq_true L,cond_true,cond_true,aln T D,ak,alm T D,ak];dsimp only;rw[alu (c:=p9 x j (nY x.array.cells[j])) C.er ⟨by omega,by omega⟩ Z,ak,als (c:=p9 x j (nY x.array.cells[j])) C.er ⟨by omega,by omega⟩ Z,ak];dsimp only;obtain⟨z1,z2,z3,z5,z6,z7,z8,z9,gW,kg,kN,mS,lR,nW⟩:=U;have Hg:ei (p9 x j (nY x.array.cells[j])):=⟨z1,z2,z3,zR E,z6,z7,z8,z9,gW,kg,kN,mS,lR,nW⟩
  have hc1:Ck (p9 x j (nY x.array.cells[j])):=⟨C.f1,C.f2,C.nw,C.rk,C.rd,CI Y E,C.sp,C.se,C.rf,(show gQ (p9 x j (nY x.array.cells[j]))from ⟨p.dl,p.tl,p.gl,p.t,p.g,p.pd,p.u⟩).ok,C.qu,C.sh,C.sl,C.dr,C.pw,C.ps,C.si,C.s1,C.s2,C.s3,C.er,C.tr,C.rp⟩
  unfold CG;by_cases e:jb x.array.cells[j]=0
  ·rw[e];exact aae Hg hc1.ok
  ·rw[eU e,cond_true];have he:=alP (l:=x.errors) C.er (n:=(j:Int)) ⟨by omega,by omega⟩ (code:=jb x.array.cells[j]) (by omega);have hle:=alD (l:=x.errors) (j:Int) (jb x.array.cells[j]);exact aae (x:=L0 (p9 x j (nY x.array.cells[j])) (qc x.errors (j:Int) (jb x.array.cells[j]))) ⟨z1,z2,z3,zR E,z6,z7,z8,z9,gW,kg,kN,by show (qc x.errors (j:Int) (jb x.array.cells[j])).length<=_;omega,lR,nW⟩ (Ck.ok ⟨C.f1,C.f2,C.nw,C.rk,C.rd,CI Y E,C.sp,C.se,C.rf,(show gQ (L0 (p9 x j (nY x.array.cells[j])) (qc x.errors (j:Int) (jb x.array.cells[j])))from ⟨p.dl,p.tl,p.gl,p.t,p.g,p.pd,p.u⟩).ok,C.qu,C.sh,C.sl,C.dr,C.pw,C.ps,C.si,C.s1,C.s2,C.s3,he,C.tr,C.rp⟩)
 ·rw[decide_eq_false L,cond_false,cond_false];exact aae U h
def al8{c:av}(Y:ei c)(Z:g9 c=true):Jn (SX c) (SW c):=by
 have h:=Ck.of Z;obtain⟨C,z2,z3,z5,z6,z7,z8,z9,gW,kg,kN,mS,lR,nW⟩:=Y;have p:=gQ.of h.pa;have hb:=mK c.config.aB;have hLp:1<=eN c.config.aB:=by
  have:=bA.1 h.s3;rw[aK (n:=eN c.config.aB-1)]at this;omega
 have w2:c.box.next.weights.length<=1048576:=C.2
 obtain⟨n,d1,e1⟩:=aFM c.queue true (by omega);obtain⟨d,d2,e2,D⟩:=aFN h.dr n;have e3:Bp (mX c c.box c.shares d c.aS c.cu)=some (uU (mX c c.box c.shares d c.aS c.cu)):=akT (c:=mX c c.box c.shares d c.aS c.cu) h.rf;have d3:zc (mX c c.box c.shares d c.aS c.cu)=some (uU (mX c c.box c.shares d c.aS c.cu)):=akS (c:=mX c c.box c.shares d c.aS c.cu) h.rf;obtain⟨pw,d4,e4,NM,AT,hp3⟩:=aFO h.pw (uU (mX c c.box c.shares d c.aS c.cu));obtain⟨t,d5,e5⟩:=aFP c.box C ((c.queue.length:Int)==(0:Int));obtain⟨u,m,O,T,TO,o9,hu3,U⟩:=aFR h.s1 h.s2 h.s3 ⟨hLp,by omega⟩;have key:∀ (b:fP) (s:aa bM) (d:fI),zF b->nU c.config b.bz=true->nU c.config b.next=true->gO s=true->(s.length:Int)=4->nQ d=true->ei (mX c b s d pw u)/\g9 (mX c b s d pw u)=true:=λb s d nB fQ hb3 TI hs2 D=>
  ⟨⟨nB,z2,z3,z5,z6,z7,z8,z9,gW,kg,by show s.length<=_;omega,mS,lR,nW⟩,Ck.ok ⟨fQ,hb3,h.nw,h.rk,h.rd,h.ar,h.sp,h.se,h.rf,(show gQ (mX c b s d pw u)from ⟨p.dl,p.tl,p.gl,p.t,p.g,p.pd,p.u⟩).ok,h.qu,TI,hs2,D,NM,AT.trans h.ps,by show pw.since<=c.now;rw[hp3];exact h.si,TO,o9,hu3,h.er,h.tr,h.rp⟩⟩
 unfold SX SW;rw[d1,ak,d2,ak,d3,ak,d4,ak,d5,ak,e1,ak,e2,ak,e3,ak,e4,ak,e5,ak];dsimp only;cases t with
 | false=>
  rw[cond_false,cond_false,cond_false,Lg,ak,T,ak,Le,ak,O,ak];obtain⟨E,L⟩:=key c.box c.shares d C h.f1 h.f2 h.sh h.sl D;exact al7 E L U
 | true=>
  obtain⟨l,t2,d7,e7,o6,ji,SK⟩:=aFQ (p:=c.box.next) (by omega) h.f2;rw[cond_true,cond_true,cond_true];dsimp only;rw[e7,ak,Lg,ak,T,ak,d7,ak,Le,ak,O,ak];obtain⟨E,L⟩:=key ⟨c.box.next,c.box.next,false⟩ l ⟨false,c.box.next.low,c.box.next.high⟩ ⟨C.2,C.2⟩ h.f2 h.f2 o6 ji SK;exact al7 E L U
def aFS{c:av}(C:ei c)(D:g9 c=true):Jn (zi c) (Pf c):=by
 have h:=Ck.of D;have p:=gQ.of h.pa;have Z1:=bA.1 h.nw;have w1:c.box.bz.weights.length<=1048576:=C.1.1;have hi:=aFF (p:=c.box.bz) (by omega) h.f1;unfold zi Pf;rw[Zc c C,ak,R7 c C,ak,D,Bool.not_true,cond_false];by_cases Z:c.now=1000000
 ·rw[decide_eq_true (show c.now >= 1000000 by omega),cond_true,Z];exact⟨c,rfl,rfl,C,D⟩
 rw[jF Z,cond_false,decide_eq_false (show ¬ c.now >= 1000000 by omega),cond_false];have e1:W6 (c.now+1)=c.now+1:=aK;show Jn (bif (c.aX.aS != (2:Int))then (JO c.aL c.config.interval).bind λE=>(EC c.config.aB c.array (1:Int)).bind λL=>SX (cO (q6 (tD c (W6 (c.now+1))) E) L)else SX (tD c (W6 (c.now+1)))) (bif (c.aX.aS != (2:Int))then (I6 (tD c (W6 (c.now+1))) c.config.interval).bind λE=>(I8 E.2.1 (1:Int)).bind λL=>SW L.2.1 else SW (tD c (W6 (c.now+1))));rw[e1];obtain⟨z1,z2,z3,z5,z6,z7,z8,z9,gW,kg,kN,mS,lR,nW⟩:=C;have key:∀ (r:cK) (a:cF),eG r=true->r.aE.length=c.aL.aE.length->kK c.config.aB a=true->ei (cO (q6 (tD c (c.now+1)) r) a)/\g9 (cO (q6 (tD c (c.now+1)) r) a)=true:=λr a O T ha=>by
  refine⟨⟨z1,z2,z3,zR (ef.va ha),z6,by have:=z7;unfold uO at this ⊢;show r.aE.length<=_;omega,z8,z9,gW,kg,kN,mS,lR,nW⟩,Ck.ok ⟨h.f1,h.f2,bA.2 ⟨by show 0<=c.now+1;omega,by show c.now+1<=_;omega⟩,h.rk,h.rd,ha,h.sp,h.se,O,(show gQ (cO (q6 (tD c (c.now+1)) r) a)from ⟨by show (r.aE.length:Int)=_;rw[T];exact p.dl,p.tl,p.gl,p.t,p.g,p.pd,p.u⟩).ok,h.qu,h.sh,h.sl,h.dr,h.pw,h.ps,by show c.aS.since<=c.now+1;have:=h.si;omega,h.s1,h.s2,h.s3,h.er,h.tr,h.rp⟩⟩
 cases c.aX.aS != (2:Int)with
 | true=>
  obtain⟨O,T⟩:=aFG h.rf hi;obtain⟨U,Y⟩:=key _ _ O T (aFJ h.ar);rw[cond_true,cond_true,aFH h.rf hi,ak,aFK h.ar,ak,aFI (c:=tD c (c.now+1)) h.rf hi,ak];dsimp only;rw[aFL (c:=q6 (tD c (c.now+1)) (zX (tD c (c.now+1)).aL c.config.interval)) h.ar,ak];exact al8 U Y
 | false=>
  obtain⟨U,Y⟩:=key c.aL c.array h.rf rfl h.ar;exact al8 (c:=tD c (c.now+1)) U Y
def aFT{c:av}(C:ei c):∃ y,zi c=some y/\Ja c=some y/\ei y:=by
 cases D:g9 c with
 | false=>
  refine⟨c,?_,?_,C⟩
  ·unfold zi;rw[Zc c C,ak,R7 c C,ak,D];rfl
  ·unfold Ja;rw[Zb c C,ak,akC c C,ak,D];rfl
 | true=>
  obtain⟨y,L,O,E,_⟩:=aFS C D;refine⟨y,L,?_,E⟩;unfold Ja;rw[Zb c C,ak,akC c C,ak,D,Bool.not_true,cond_false,O,ak];dsimp only;rw[Zb y E];rfl
def aFU(c:av)(L:LH c):X5 c=some true:=by
 unfold X5;obtain⟨y,e,h|⟨h1,h2,C⟩⟩:=aCT c L (n:=1048576) (by omega) (by omega)
 ·rw[e,ak,decide_eq_true h];rfl
 ·obtain⟨d,O,T,D⟩:=aFT C;rw[e,ak,decide_eq_false (by omega),cond_false];simp only[aCU c C,O,T,akA c C,akA _ D,ak,Bool.not_true,cond_false]
  refine akJ c C _ _ λU Y Z r3 r4 r5 r6 r7 r8 r9 sM sN sO sP sQ sR sS YZ hk E=>?_
  rw[decide_eq_false (by omega),cond_false]
  refine akJ d D _ _ λU Y Z r3 r4 r5 r6 r7 r8 r9 sM sN sO sP sQ sR sS YZ hk E=>?_
  rw[E];simp only[ak];rw[decide_eq_false (by omega),cond_false,bne_self_eq_false,cond_false];rfl
def aFV(C:Value)(w:World)(D:Wg .cx LH w C):Calls Tryz.prog 3 #[C] w λe w'=>e = .returned (.bool true)/\Below w.heap.size w w':=by
 obtain⟨x,E,us,rfl,L⟩:=D;exact aqs azi (aqt (ai:=[(true,.cx)]) (x:=(x,())) (by kernel_rfl) (aFU x E)) (aqv L)
end Go.Proofs.YtnilicojgkhpnaaGreat
