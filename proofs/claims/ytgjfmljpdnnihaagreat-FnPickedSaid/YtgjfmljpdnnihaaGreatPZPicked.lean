/-
  Plain laws. Nothing here is a claim.
-/
import Derived.Test.YtgjfmljpdnnihaaGreatPYPicked
namespace Go.Proofs.YtgjfmljpdnnihaaGreat
set_option linter.defProp false
open Go.RowKit
set_option linter.unusedVariables false
set_option linter.unusedSimpArgs false
set_option maxRecDepth 100000
def pM(t:cx)(row:Int):aj Nat:=match t.rows.findIdx? (λe=>e==row)with
 |some i=>some i
 |none=>t.counts.findIdx? (λe=>e==t.dg)
def kD(t:cx)(row:Int):cx:=match t.rows.findIdx? (λe=>e==row)with
 |some i=>⟨t.rows,t.counts.set i (t.counts.getD i 0+1),t.dg⟩
 | none=>match t.counts.findIdx? (λe=>e==t.dg)with
  |some i=>⟨t.rows.set i row,t.counts.set i (t.dg+1),t.dg⟩
  |none=>⟨t.rows,t.counts,t.dg+1⟩
def uG(t:cx)(row dj:Int):cx×Bool:=bif kz t&&(aN row 0 15&&aN dj 2 1000)then (bif kz (kD t row)then (kD t row,match pM t row with
    |some i=>((kD t row).counts.getD i 0).tmod dj==0
    |none=>false)else (t,false))else (t,false)
structure Tk (t:cx):Prop where
 rl:t.rows.length<=16
 cl:t.counts.length=t.rows.length
 sp:0<=t.dg/\t.dg<=100000
 cs:∀i (h:i<t.counts.length),0<=t.counts[i]/\t.counts[i]<=100000
def Tk.of{t:cx}(h:kz t=true):Tk t:=by
 simp[kz,aO,fI,cu,fk]at h;have⟨D,I,C,E⟩:=h;have D:=bA.1 D;have C:=bA.1 C
 refine⟨by omega,by omega,C,λi hi=>?_⟩
 have hb:=E i (by omega);rw[Rq (by omega) hi,aO,aO]at hb;have:=bA.1 hb.2.1;omega
def LJ{T:Type}{p:T -> Bool}{l:aa T}{i:Nat}(h:l.findIdx? p=some i):∃ hi:i<l.length,p l[i]=true:=by
 have⟨hi,C,_⟩:=nq.1 h;simp_all
def az3{t:cx}(h:Tk t)(row:Int):PI t row=some ((match pM t row with | some i=>(i:Int) | none=>-1),(kD t row,())):=by
 have O:=h.rl;have T:=h.cl;have E:=vN (step:=JV) t.rows (λe=>e==row) (λi=>(((),row,(i:Int),()),(((),(),t.dg,()),t.rows,t.counts,()))) (λi=>.inl (((i:Int),()),(((),(),t.dg,()),t.rows,t.counts.set i (t.counts.getD i 0+1),()))) (.inr (.inl (((),row,()),(((),(),t.dg,()),t.rows,t.counts,())))) aP (λk D=>by
  have C:k<t.counts.length:=by omega
  have I:=h.cs k C;unfold JV az bf xG xL;dsimp only;rw[aQ,aq,aB ⟨by omega,by omega⟩,aB];simp only[bu];cases t.rows[k]==row with
  |false=>rw[au,au,bz]
  | true=>
   rw[ aB ⟨by omega,C⟩,aB C,aB ⟨by omega,C⟩,aB C,aV (n:=t.counts[k]+1),ei,bQ C];rfl) (by
  unfold JV az bf xG xL;dsimp only;rw[aX,au]) (bF)
 have L:=vN (step:=JW) t.counts (λe=>e==t.dg) (λi=>(((),row,(i:Int),()),(((),(),t.dg,()),t.rows,t.counts,()))) (λi=>.inl (((i:Int),()),(((),(),t.dg,()),t.rows.set i row,t.counts.set i (t.dg+1),()))) (.inr (.inl (((),()),(((),(),t.dg,()),t.rows,t.counts,())))) aP (λk D=>by
  have C:k<t.rows.length:=by omega
  have I:=h.sp;unfold JW az bf xG xL;dsimp only;rw[aQ,aq,aB ⟨by omega,by omega⟩,aB];simp only[bu];cases t.counts[k]==t.dg with
  |false=>rw[au,au,bz]
  |true=>rw[aq,aq,aB ⟨by omega,C⟩,aB C,aB ⟨by omega,D⟩,aB D,aV]) (by
  unfold JW az bf xG xL;dsimp only;rw[aX,au]) (bF)
 have U:=h.sp;unfold PI pM kD bP
 refine(bq (λo=>Option.bind o _) E).trans ?_
 rw[ak];cases Y:t.rows.findIdx? (λe=>e==row)with
 |some i=>rfl
 | none=>
  simp only[dX,Sum.elim_inr]
  refine(bq (λo=>Option.bind o _) L).trans ?_
  rw[ak];cases Z:t.counts.findIdx? (λe=>e==t.dg)with
  |some i=>rfl
  | none=>
   simp;rw[aV]
def Y0{t:cx}(row:Int):(kD t row).rows.length=t.rows.length/\(kD t row).counts.length=t.counts.length:=by
 unfold kD
 grind
def ajS{t:cx}(h:Tk t){row:Int}{i:Nat}(hi:pM t row=some i):i<t.counts.length:=by
 have:=h.cl;unfold pM at hi;split at hi
 next j C=>cases hi;have⟨D,_⟩:=LJ C;omega
 ·exact(LJ hi).1
def ajT(t:cx)(D:kB t)(row dj:Int):JX t row dj=some (uG t row dj):=by
 unfold JX uG xL;rw[ajw t D,ak,Yn,ak];cases E:kz t with
 |false=>rfl
 | true=>
  have C:=Tk.of E;rw[bB,au,dN,ak,bZ];cases O:aN row 0 15 with
  |false=>rfl
  | true=>
   rw[bB,au,dN,ak,bZ];cases I:aN dj 2 1000 with
   |false=>rfl
   | true=>
    have hl:=bA.1 I;rw[bB,au,aq,az3 C,ak,Yn,ak];dsimp only;cases T:kz (kD t row)with
    |false =>simp_all
    | true=>
     rw[bB,au,aq];cases L:pM t row with
     |none=>rfl
     | some i=>
      have hi:i<(kD t row).counts.length:=by rw[(Y0 row).2];exact ajS C L
      grind
def az4(t:cx)(hz:kB t)(row dj:Int):QA t row dj=some (uG t row dj):=by
 have sw:∀x:Int,(λe:Int=>x==e)=λe=>e==x:=λx=>funext λe=>by rw[Bool.eq_iff_iff,fI,fI];exact eq_comm
 unfold QA uG xL;rw[YK t hz,ak,Ym,ak];dsimp only;cases ht:kz t with
 |false=>rfl
 | true=>
  have O:=Tk.of ht;have r1:=O.rl;have r2:=O.cl;have uQ:=O.sp;rw[bB,au,dR,ak,bZ];cases h1:aN row 0 15 with
  |false=>rfl
  | true=>
   rw[bB,au,dR,ak,bZ];cases h2:aN dj 2 1000 with
   |false=>rfl
   | true=>
    have hl:=bA.1 h2;rw[bB,au,aq,Rp _ _ (by omega),ak,sw row];have Y1:∀ (E:Int) (D:cx),D=kD t row->(E=match pM t row with | some i=>(i:Int) | none=>-1)->
      ((zU D).bind λlO=>bif (!lO)then ((some t).bind λuk=>some (uk,false))else (bif (decide (E >= (0:Int)))then if Ph:0<=E/\E.toNat<D.counts.length then if h25:E.toNat<D.counts.length then (if dj=0 then none else some (D,(D.counts[E.toNat]'h25).tmod dj==(0:Int)))else none else none else some (D,false)))=some (bif kz (kD t row)then (kD t row,match pM t row with
        |some i=>((kD t row).counts.getD i 0).tmod dj==0
        |none=>false)else (t,false)):=by
     intro E D T e2;subst T;rw[Ym,ak];cases h3:kz (kD t row)with
     |false=>rfl
     | true=>
      rw[bB,au,aq,e2];cases h4:pM t row with
      |none=>rfl
      | some i=>
       have hi:i<(kD t row).counts.length:=by rw[(Y0 row).2];exact ajS O h4
       simp only[bu];rw[aQ,aq,aB ⟨by omega,hi⟩,aB hi,bJ,ei,bQ hi];rfl
    cases C:t.rows.findIdx? (λe=>e==row)with
    | some i=>
     obtain⟨hi,_⟩:=LJ C;have L:i<t.counts.length:=by omega
     have hc:=O.cs i L;have U:pM t row=some i:=by unfold pM;rw[C]
     have Y:kD t row=⟨t.rows,t.counts.set i (t.counts[i]+1),t.dg⟩:=by unfold kD;simp only[C];rw[ei,bQ L];rfl
     have T:gz (λe=>e==row) t.rows=(i:Int):=by unfold gz;rw[C]
     rw[T,aX,au];simp only[bu];rw[aQ,aq,aB ⟨by omega,L⟩,aB L,aB ⟨by omega,L⟩,aB L];have Z:W6 (t.counts[i]+1)=t.counts[i]+1:=aV;simp only[Z];exact Y1 (i:Int) ⟨t.rows,t.counts.set i (t.counts[i]+1),t.dg⟩ Y.symm (by rw[U])
    | none=>
     have T:gz (λe=>e==row) t.rows = -1:=by unfold gz;rw[C]
     rw[T,aQ,aq,Rp _ _ (by omega),ak,sw t.dg];cases I:t.counts.findIdx? (λe=>e==t.dg)with
     | some i=>
      obtain⟨hi,hp⟩:=LJ I;have hir:i<t.rows.length:=by omega
      have hp:t.counts[i]=t.dg:=by simpa using hp
      have U:pM t row=some i:=by unfold pM;rw[C];exact I
      have Y:kD t row=⟨t.rows.set i row,t.counts.set i (t.dg+1),t.dg⟩:=by unfold kD;rw[C];simp only[I]
      have e3:gz (λe=>e==t.dg) t.counts=(i:Int):=by unfold gz;rw[I]
      rw[e3];simp only[bu];rw[aQ,aq,aB ⟨by omega,hir⟩,aB hir,aq,aB ⟨by omega,hi⟩,aB hi,aB ⟨by omega,hi⟩,aB hi];have Z:W6 (t.dg+1)=t.dg+1:=aV;simp only[hp,Z];exact Y1 (i:Int) ⟨t.rows.set i row,t.counts.set i (t.dg+1),t.dg⟩ Y.symm (by rw[U])
     | none=>
      have U:pM t row=none:=by unfold pM;rw[C];exact I
      have Y:kD t row=⟨t.rows,t.counts,t.dg+1⟩:=by unfold kD;rw[C];simp only[I]
      have e3:gz (λe=>e==t.dg) t.counts = -1:=by unfold gz;rw[I]
      have Z:W6 (t.dg+1)=t.dg+1:=aV;rw[e3,aX,au,au];simp only[Z];exact Y1 (-1) ⟨t.rows,t.counts,t.dg+1⟩ Y.symm (by rw[U])
def yf(k:Int):cx:=⟨List.replicate k.toNat (-1),List.replicate k.toNat 0,0⟩
def az5{k:Int}(h:aN k 1 16=true):QF k=some (yf k,true):=by
 have hb:=bA.1 h;unfold QF;have e:BY ([(-1:Int)]) k=some (List.replicate k.toNat (-1)):=by
  unfold BY;simp_all
 rw[dR,ak,h,bB,e,ak,bH ⟨by omega,Int.le_refl _,by omega⟩];rfl
def az6{k:Int}(h:aN k 1 16=true):EN k=some (yf k,true):=by
 have hb:=bA.1 h;obtain⟨n,rfl⟩:=fz (show 0 <= k by omega);unfold EN;rw[dN,ak,h,bB,aja n (by omega),ak,bH ⟨by omega,Int.le_refl _,by omega⟩];rfl
def vX(r:dn)(b:Int):dn:=bif decide (r.aJ.getD b.toNat 0 = -2)then r else ⟨r.aJ.set b.toNat (r.aJ.getD b.toNat 0-1),r.wait,r.eP⟩
def RO{r:dn}(h:ff r=true):∀ x∈r.aJ,-2 <= x/\x <= 5:=by
 simp[ff,aO,cu]at h;exact λx C=>bA.1 (h.1 x C)
def az7{α β:Type}{o:aj (α×β)}{a:α}(h:o.map Prod.fst=some a):∃b,o=some (a,b):=by simp_all
def az8{r:dn}(h:ff r=true){b:Int}(D:0 <= b)(C:b.toNat<r.aJ.length):∃ y,PN r b=some (vX r b,y):=by
 have hl:=oE h;have L:=RO h _ (cR C);have E:r.aJ.getD b.toNat 0=r.aJ[b.toNat]:=by rw[ei,bQ C];rfl
 unfold PN Cw vX xI xL xA xZ;rw[cM (by simp;omega),aq,ak,Li _ (by omega),ak,h,bB,au,dN,ak,LH D C (by omega),bB,au,aB ⟨D,C⟩,E];dsimp only;by_cases I:r.aJ[b.toNat] = -2
 ·simp_all
 ·rw[aX (show ¬ r.aJ[b.toNat] <= -2 by omega),aX I,kY,aB ⟨D,C⟩,aB ⟨D,C⟩,aB C,aV];simp_all
def az9{r:dn}(h:ff r=true){b:Int}(D:0 <= b)(C:b.toNat<r.aJ.length):∃ y,QG r b=some (vX r b,y):=by
 have hl:=oE h;have L:=RO h _ (cR C);have I:r.aJ.getD b.toNat 0=r.aJ[b.toNat]:=by rw[ei,bQ C];rfl
 unfold QG Fx vX xI xL xA xZ;rw[cM (by simp;omega),aq,ak,Ri _ (by omega),ak,h,bB,au,dR,ak,LH D C (by omega),bB,au,aB ⟨D,C⟩,I];dsimp only;by_cases E:r.aJ[b.toNat] = -2
 ·simp_all
 ·rw[jg E,aX E,kY,aB ⟨D,C⟩,aB C,aB ⟨D,C⟩,aB C,aV];simp_all
def yg(p:fA)(k now:Int):fA:=bif ku p&&aN now p.since 1000000 then
 (bif (k==6)&&(p.state==0)then ⟨1,now,p.idle⟩else bif (k==8)&&(p.state==0)then ⟨2,now,p.idle⟩else bif (k==7)&&(p.state==1)then ⟨0,now,p.idle⟩else bif (k==9)&&(p.state==2)then ⟨0,now,p.idle⟩else p)else p
def RQ(p:fA){k:Int}(C:6 <= k/\k <= 9)(now:Int):∃ y,QU p k now=some (yg p k now,y):=by
 refine az7 ?_;unfold QU yg;rw[Yl,ak];cases ku p with
 |false=>rfl
 | true=>
  rw[bB,au,dR,ak];cases aN now p.since 1000000 with
  |false=>rfl
  | true=>
   have:k=6 \/ k=7 \/ k=8 \/ k=9:=by omega
   grind
def RR(p:fA){k:Int}(C:6 <= k/\k <= 9)(now:Int):∃ y,PS p k now=some (yg p k now,y):=by
 unfold PS yg;simp[Rk,dN];have:k=6 \/ k=7 \/ k=8 \/ k=9:=by omega
 rcases this with rfl|rfl|rfl|rfl
 ·grind
 ·grind
 ·grind
 ·grind
def ajU{α β T:Type}{step:α -> aj (α⊕β)}(p:T -> Bool)(S:Nat -> Nat -> aa T -> α)(Z:Nat -> aa T -> β)
  (hs:∀i j s (E:j<s.length),i <= j -> j<1073741824 -> step (S i j s)=some (.inl (bif p s[j]then S i (j+1) s else S (i+1) (j+1) (s.set i s[j]))))
  (hz:∀i s,i <= s.length -> step (S i s.length s)=some (.inr (Z i s))):
  ∀(n i j fuel:Nat) (s:aa T),j+n=s.length -> i <= j -> s.length<1073741824 -> n<fuel -> ∃C D,iter step fuel (S i j s)=some (Z D C)/\C.length=s.length/\D <= s.length/\C.take D=s.take i++(s.drop j).filter (λx=>!p x):=by
 intro n
 induction n with
 | zero=>
  intro i j fuel s hn hi hl hf;obtain⟨f,rfl⟩:∃f,fuel=f+1:=⟨fuel-1,by omega⟩
  have ej:j=s.length:=by omega
  subst ej;refine⟨s,i,?_,rfl,hi,by simp⟩;unfold iter;simp_all
 | succ n I=>
  intro i j fuel s hn hi hl hf;obtain⟨f,rfl⟩:∃f,fuel=f+1:=⟨fuel-1,by omega⟩
  have E:j<s.length:=by omega
  unfold iter;rw[hs i j s E hi (by omega)];have hd:=List.drop_eq_getElem_cons E;cases hp:p s[j]with
  | true=>
   have⟨C,D,L,O,U,Y⟩:=I i (j+1) f s (by omega) (by omega) hl (by omega)
   grind
  | false=>
   have⟨C,D,L,O,U,Y⟩:=I (i+1) (j+1) f (s.set i s[j]) (by simp;omega) (by omega) (by simp;omega) (by omega);refine⟨C,D,L,by simpa using O,by simpa using U,?_⟩;rw[Y,hd,List.filter_cons_of_pos (by simp[hp]),List.drop_set_of_lt (by omega),List.take_add_one,List.getElem?_set_self (by omega),List.take_set_of_le (by omega)];simp
def Y2{T:Type}{p:T -> Bool}{l:aa T}{k:Nat}(h:l.findIdx? p=some k):l.filter (λx=>!p x)=l.take k++(l.drop (k+1)).filter (λx=>!p x):=by
 have⟨D,E,I⟩:=nq.1 h;have e:l=l.take k++l[k] :: l.drop (k+1):=by
  simp[*]
 have L:(l.take k).filter (λx=>!p x)=l.take k:=by
  rw[List.filter_eq_self];intro a C;obtain⟨i,hi,rfl⟩:=jb.1 C
  grind
 grind
def Y3{T:Type}(s r:aa T)(i:Nat)(h:i <= s.length):(splice s i r).take i=s.take i:=by
 unfold splice;simp_all
def aAa(l:aa aM)(a:aM)(hl:l.length<1073741824):QB l a=some (gz (gA a) l):=by
 unfold QB gz;have e:=vN (step:=KJ) l (gA a) (λi=>((l,a,(l.length:Int),(i:Int),()),())) (λi=>.inl (((i:Int),()),())) (.inr (.inl ((),()))) aP (λk h=>by
  unfold KJ gA az bf xG xI;dsimp only;rw[aQ,aq,aB ⟨by omega,by omega⟩];simp only[bu];rw[bz];cases (l[k].ay==a.ay&&(l[k].row==a.row&&(l[k].bO==a.bO&&true)))<;>rfl) (by
  unfold KJ az bf xG xI;dsimp only;rw[aX,au]) (bF hl)
 rw[cm]at e;rw[e];cases l.findIdx? (gA a)<;>rfl
def aAb(l:aa aM)(x:aE)(hl:l.length<1073741824):QV l x=some (gz (λa=>a.ay==x.ay) l):=by
 unfold QV gz;have e:=vN (step:=KZ) l (λa=>a.ay==x.ay) (λi=>((l,x,(l.length:Int),(i:Int),()),())) (λi=>.inl (((i:Int),()),())) (.inr (.inl ((),()))) aP (λk h=>by
  unfold KZ az bf xG xI;dsimp only;rw[aQ,aq,aB ⟨by omega,by omega⟩];simp only[bu];rw[bz];cases (l[k].ay==x.ay)<;>rfl) (by
  unfold KZ az bf xG xI;dsimp only;rw[aX,au]) (bF hl)
 rw[cm]at e;rw[e];cases l.findIdx? (λa=>a.ay==x.ay)<;>rfl
def aAc(l:aa aM)(a:aM)(hl:l.length<1000000):QC l a=some (l.filter (λx=>!gA a x),([],())):=by
 unfold QC;rw[aAa l a (by omega),ak];unfold gz;cases C:l.findIdx? (gA a)with
 | none=>
  have e:l.filter (λx=>!gA a x)=l:=by
   rw[List.filter_eq_self];intro x D;have:=List.findIdx?_eq_none_iff.1 C x D;simp[this]
  rw[e];rfl
 | some k=>
  obtain⟨L,O,T⟩:=nq.1 C;rw[Y2 C];simp only;rw[jg (show ¬ (k:Int) = -1 by omega),au,bz];obtain⟨U,Y,E,Z,h3,I⟩:=ajU (step:=KM) (gA a) (λi j s=>(((),a,(i:Int),(j:Int),()),(s,()))) (λi s=>.inl (((),(i:Int),()),(s,()))) (λi j s hj hi hb=>by
   unfold KM gA az xG xL;dsimp only;rw[aQ,aq,aB ⟨by omega,by omega⟩,aB];simp only[bu];rw[bz,bz,aB ⟨by omega,by omega⟩,aB];cases (s[j].ay==a.ay&&(s[j].row==a.row&&(s[j].bO==a.bO&&true)))<;>rfl) (λi s hi=>by
   unfold KM az xG xL;dsimp only;rw[aX,au]) (l.length-(k+1)) k (k+1) aP l (by omega) (by omega) (by omega) (by unfold aP;omega)
  rw[E,ak,dX];dsimp only;rw[bH ⟨by omega,by omega,by omega⟩,bH ⟨by omega,by omega⟩,bH ⟨by omega,by omega,by
   rw[th _ _ _ (by simp;omega)];omega⟩]
  rw[Y3 _ _ _ (by omega),bu,I]
def aAd(l:aa aM)(c:aE)(hl:l.length<1000000):QW l c=some (l.filter (λx=>!(x.ay==c.ay)),([],())):=by
 unfold QW;rw[aAb l c (by omega),ak];unfold gz;cases C:l.findIdx? (λa=>a.ay==c.ay)with
 | none=>
  have e:l.filter (λx=>!(x.ay==c.ay))=l:=by
   rw[List.filter_eq_self];intro x D;have:=List.findIdx?_eq_none_iff.1 C x D;simp[this]
  rw[e];rfl
 | some k=>
  obtain⟨L,O,T⟩:=nq.1 C;rw[Y2 C];simp only;rw[jg (show ¬ (k:Int) = -1 by omega),au,bz];obtain⟨U,Y,E,Z,h3,I⟩:=ajU (step:=K0) (λx=>x.ay==c.ay) (λi j s=>(((),c,(i:Int),(j:Int),()),(s,()))) (λi s=>.inl (((),(i:Int),()),(s,()))) (λi j s hj hi hb=>by
   unfold K0 az xG xL;dsimp only;rw[aQ,aq,aB ⟨by omega,by omega⟩,aB];simp only[bu];rw[bz,bz,aB ⟨by omega,by omega⟩,aB];cases (s[j].ay==c.ay)<;>rfl) (λi s hi=>by
   unfold K0 az xG xL;dsimp only;rw[aX,au]) (l.length-(k+1)) k (k+1) aP l (by omega) (by omega) (by omega) (by unfold aP;omega)
  rw[E,ak,dX];dsimp only;rw[bH ⟨by omega,by omega,by omega⟩,bH ⟨by omega,by omega⟩,bH ⟨by omega,by omega,by
   rw[th _ _ _ (by simp;omega)];omega⟩]
  rw[Y3 _ _ _ (by omega),bu,I]
def m7(b:Int)(pd:aa aM)(n:Int):aa aM:=bif pd.any (gA ⟨b,n,0⟩)then pd else pd++[⟨b,n,0⟩]
def qy(c:av)(t:aa cx)(C:aa Int)(pd:aa aM):av:=⟨c.config,c.box,c.now,c.aY,c.ready,c.array,c.spare,c.aS,t,C,pd,c.queue,c.shares,c.drain,c.aT,c.cU,c.errors,c.trace,c.cr⟩
def ajV{T:Type}(p:T -> Bool)(l:aa T):decide (gz p l<0) = !l.any p/\decide (gz p l >= 0)=l.any p:=by
 unfold gz
 grind
def RS(b:Int):∀ (ns:aa Int) (pd:aa aM),(ns.foldl (m7 b) pd).length <= pd.length+ns.length
 |[],pd=>dx _
 | n :: ns,pd=>by
  have:=RS b ns (m7 b pd n);have C:(m7 b pd n).length <= pd.length+1:=by
   unfold m7
   grind
  grind
def ajW{T U:Type}(f:U->T->U)(l:aa T)(u:U){k:Nat}(h:k<l.length):(l.take (k+1)).foldl f u=f ((l.take k).foldl f u) l[k]:=by
 rw[List.take_add_one,bQ h,List.foldl_append];rfl
def aAe(c:av)(x:aE)(ns:aa Int)(C:ns.length <= 1000)(D:c.pending.length <= 1000):iter FB aP (((),(),(),(ns.length:Int),(0:Int),()),(c,(x.kind,x.ay,x.row,x.bO,()),ns,()))=some (.inl ((),(qy c c.bI c.guard (ns.foldl (m7 x.ay) c.pending),()))):=by
 have e:=cD (step:=FB) _ (λi=>(((),(),(),ns.length,i,()),(qy c c.bI c.guard ((ns.take i).foldl _ _),(x.kind,x.ay,x.row,x.bO,()),ns,()))) _ aP (λk h=>by
  have hl:=RS x.ay (ns.take k) c.pending;rw[fU]at hl;rw[ajW _ _ _ h];generalize (ns.take k).foldl (m7 x.ay) c.pending=pd at hl;unfold FB m7 qy XJ az xG xL;dsimp only;rw[aQ,aq,aB ⟨by omega,by omega⟩,aB];simp only[bu];rw[aiL _ _ (by omega),ak,ak,(ajV _ _).2,bz,cM (by simp;omega)];cases pd.any (gA ⟨x.ay,ns[k],0⟩)<;>rfl) (by
  unfold FB qy az xG xL;dsimp only;rw[aX,au]) (bF)
 rw[ ir]at e;exact e
def aAf(c:av)(x:aE)(ns:aa Int)(C:ns.length <= 1000)(D:c.pending.length <= 1000):iter uj aP (((),(),true,(),(0:Int),()),(c,(x.kind,x.ay,x.row,x.bO,()),ns,()))=some (.inl ((),(qy c c.bI c.guard (ns.foldl (m7 x.ay) c.pending),()))):=by
 have e:=cD (step:=uj) _ (λi=>(((),(),true,(),i,()),(qy c c.bI c.guard ((ns.take i).foldl _ _),(x.kind,x.ay,x.row,x.bO,()),ns,()))) _ aP (λk h=>by
  have hl:=RS x.ay (ns.take k) c.pending;rw[fU]at hl;rw[ajW _ _ _ h];generalize (ns.take k).foldl (m7 x.ay) c.pending=pd at hl;unfold uj m7 qy az xG xL;dsimp only;rw[aQ,aq,aq,aB ⟨by omega,by omega⟩,aB];simp only[bu];rw[Ys _ _ (by omega),ak,(ajV _ _).1,bz,cM (by simp;omega)];cases pd.any (gA ⟨x.ay,ns[k],0⟩)<;>rfl) (by
  unfold uj qy az xG xL;dsimp only;rw[aX,au]) (bF)
 rw[ ir]at e;exact e
def aAg(c:av)(x:aE)(ns:aa Int):iter uj aP (((),(),false,(),(0:Int),()),(c,(x.kind,x.ay,x.row,x.bO,()),ns,()))=some (.inl ((),(c,()))):=by
 have e:=cD (step:=uj) 0 (λi=>(((),(),false,(),i,()),(c,(x.kind,x.ay,x.row,x.bO,()),ns,()))) _ aP (λk h=>by omega) (by
  unfold uj az xG xL;cases decide ((0:Int)<ns.length)<;>rfl) (bF)
 simp_all
def zT:cx:=⟨[],[],0⟩
def sW(c:av)(x:aE):cx×Bool:=uG (c.bI.getD x.ay.toNat zT) x.row (c.guard.getD x.ay.toNat 0)
def oF(c:av)(x:aE):aa aM:=c.pending.filter (λa=>!gA ⟨x.ay,x.row,0⟩ a)
def uH(c:av)(x:aE):av:=
 qy (cP c (uD c.config.ax c.config.eC c.array x.ay x.row)) (c.bI.set x.ay.toNat (sW c x).1) c.guard (bif (sW c x).2 then (mm c.config.ax.rows x.row).foldl (m7 x.ay) (oF c x)else oF c x)
def kV{T:Type}{l:aa T}{i:Nat}(d:T)(h:i<l.length):l.getD i d=l[i]:=by
 rw[ei,bQ h];rfl
def Y4(R r:Int):(mm R r).length <= 2:=by
 unfold mm
 grind
def Y5{T:Type}(p:T->Bool)(l:aa T):(l.filter p).length<=l.length:=List.length_filter_le p l
def aAh{B:Int}(c:av)(x:aE)(I:cw c.config.ax=true)(U:fy c.config.ax B c.array)(hp:c.pending.length <= 200)(Y:∀ t∈c.bI,kB t)(D:0 <= x.ay)(Z:x.ay<aR c.config.ax)(L:0 <= x.row)(O:x.row<c.config.ax.rows)(C:x.ay.toNat<c.bI.length)(E:x.ay.toNat<c.guard.length):QD c x=some ((),(uH c x,())):=by
 have⟨_,_,_,_,g5,g6,g7,g8⟩:=fe I;have T:=ajz I c.config.eC c U D Z L O;have e2:=aAc c.pending ⟨x.ay,x.row,0⟩ (by omega);have hf:(oF c x).length <= c.pending.length:=List.length_filter_le _ _;have qX:=Y4 c.config.ax.rows x.row;simp only[cP]at T;unfold QD br xL xM
 refine(bq (λo=>Option.bind o _) T).trans ?_
 rw[ak];dsimp only
 refine(bq (λo=>Option.bind o _) e2).trans ?_
 rw[ak];dsimp only;rw[aB ⟨D,C⟩,aB C,aB ⟨D,E⟩,aB E,aB C,aB C];rw[az4 _ (Y _ (cR C)),ak,aB ⟨D,C⟩,aB C];unfold uH sW;rw[kV _ C,kV _ E];cases (uG (c.bI[x.ay.toNat]'C) x.row (c.guard[x.ay.toNat]'E)).2 with
 |false=>rfl
 | true=>
  rw[bB,au,YH (by omega) (by omega) L O,ak]
  refine(bq (λo=>Option.bind o _) (aAe (qy (cP c (uD _ _ c.array x.ay x.row)) _ c.guard (oF c x)) x _ (by omega) (by unfold qy;dsimp only;omega))).trans ?_
  rfl
def vY(l:aa aM):Prop:=∀i (h:i<l.length),(l.take i).any (gA l[i])=false
def LK{a b:aM}:gA a b=true ↔ a=b:=by
 have⟨C,D,E⟩:=a;have⟨I,L,O⟩:=b;simp[gA,aO,fI,and_true,aM.mk.injEq]
 grind
def vY.cut{l:aa aM}(h:vY l){a:aM}{k:Nat}(C:l.findIdx? (gA a)=some k):l.take k++l.drop (k+1)=l.filter (λx=>!gA a x):=by
 have⟨L,D,O⟩:=nq.1 C;rw[Y2 C];congr 1;symm;rw[List.filter_eq_self];intro x E;obtain⟨i,hi,rfl⟩:=jb.1 E;rw[List.length_drop]at hi;rw[List.getElem_drop];cases I:gA a _ with
 |false=>rfl
 | true=>
  have T:=LK.1 I;have U:=LK.1 D;have:=List.any_eq_false.1 (h (k+1+i) (by omega)) l[k] (jb.2 ⟨k,by rw[fU];omega,by rw[List.getElem_take]⟩);simp_all
def aAi{B:Int}(c:av)(x:aE)(I:cw c.config.ax=true)(ha:fy c.config.ax B c.array)(hp:c.pending.length <= 200)(hu:vY c.pending)(L:∀ t∈c.bI,kB t)(D:0 <= x.ay)(h2:x.ay<aR c.config.ax)(O:0 <= x.row)(T:x.row<c.config.ax.rows)(C:x.ay.toNat<c.bI.length)(E:x.ay.toNat<c.guard.length):PL c x=some ((),(uH c x,())):=by
 have⟨_,_,_,_,g5,g6,g7,g8⟩:=fe I;have U:=ajD I c.config.eC c ha D h2 O T;have e2:=Ys c.pending ⟨x.ay,x.row,0⟩ (by omega);have hf:(oF c x).length <= c.pending.length:=List.length_filter_le _ _;have qX:=Y4 c.config.ax.rows x.row;have Y:Xe c.config.ax.rows x.row=some (mm c.config.ax.rows x.row):=YH (by omega) (by omega) O T;simp only[cP]at U;unfold PL xA br xL xM xZ
 refine(bq (λo=>Option.bind o _) U).trans ?_
 rw[ak];dsimp only
 refine(bq (λo=>Option.bind o _) e2).trans ?_
 rw[ak];have Z:∀ pd:aa aM,pd=oF c x -> ∀ t:cx×Bool,t=sW c x -> (iter uj aP (((),(),t.2,(),(0:Int),()),((⟨c.config,c.box,c.now,c.aY,c.ready,uD c.config.ax c.config.eC c.array x.ay x.row,c.spare,c.aS,(c.bI.set x.ay.toNat t.1),c.guard,pd,c.queue,c.shares,c.drain,c.aT,c.cU,c.errors,c.trace,c.cr⟩:av),(x.kind,x.ay,x.row,x.bO,()),mm c.config.ax.rows x.row,()))).bind (Sum.elim (λJ0=>some ((),(J0.2.1,()))) (λz=>nomatch z))=some ((),(uH c x,())):=by
  rintro pd rfl ⟨t1,t2⟩ C;unfold uH;rw[<- C];cases t2 with
  | false=>
   refine(bq (λo=>Option.bind o _) (aAg _ x _)).trans ?_
   rfl
  | true=>
   refine(bq (λo=>Option.bind o _) (aAf _ x _ (by omega) (by dsimp only;omega))).trans ?_
   rfl
 have hT:sW c x=uG (c.bI[x.ay.toNat]'C) x.row (c.guard[x.ay.toNat]'E):=by
  unfold sW;simp[*]
 unfold gz;cases hi:c.pending.findIdx? (gA ⟨x.ay,x.row,0⟩)with
 | none=>
  have e:oF c x=c.pending:=by
   unfold oF;rw[List.filter_eq_self];simp_all
  dsimp only;rw[aX,au,aB ⟨D,C⟩,aB C,aB ⟨D,E⟩,aB E,aB C,aB C];rw[ajT _ (L _ (cR C)),ak,aB ⟨D,C⟩,aB C,Y,ak];exact Z _ e.symm _ hT.symm
 | some k=>
  have⟨k1,NS,hq⟩:=nq.1 hi;have e:=hu.cut hi;dsimp only;rw[aQ,aq,bz,bH ⟨by omega,by omega,by omega⟩,bH ⟨by omega,by omega,by omega⟩];simp only[bu,Int.toNat_zero,List.drop_zero,kY,ir];rw[cM (by simp;omega),aq,cM (by simp;omega),aq,aB ⟨D,C⟩,aB C,aB ⟨D,E⟩,aB E,aB C,aB C];rw[ajT _ (L _ (cR C)),ak,aB ⟨D,C⟩,aB C,Y,ak];exact Z _ e _ hT.symm
def yh{U:Type}(f:U->Nat->U)(u:U)(k:Nat):(List.range (k+1)).foldl f u=f ((List.range k).foldl f u) k:=by
 rw[List.range_succ,List.foldl_append];rfl
def qz(g:aI)(l:nu)(a:en)(b:Int)(n:Nat):en:=(List.range n).foldl (λa (r:Nat)=>uD g l a b (r:Int)) a
def FX{g:aI}(C:cw g=true)(l:nu){B:Int}(hB:0<=B){a:en}(D:fy g B a){b:Int}(E:0<=b)(I:b<aR g):∀ n:Nat,(n:Int)<=g.rows->fy g B (qz g l a b n)
 |0,_=>D
 | n+1,h=>by
  unfold qz;rw[yh];exact YN C l hB (FX C l hB D E I n (by omega)) E I (by omega) (by omega)
def ajX{B:Int}(hB:0 <= B)(c:av)(C:cw c.config.ax=true)(L:fy c.config.ax B c.array){b:Int}(D:0 <= b)(E:b<aR c.config.ax):QE c b=some ((),(cP c (qz c.config.ax c.config.eC c.array b c.config.ax.rows.toNat),())):=by
 have⟨_,_,_,_,O,T,U,Y⟩:=fe C;have e:=cD (step:=KN) c.config.ax.rows.toNat (λi=>(((),b,i,()),(cP c (qz _ _ _ b i),()))) _ aP (λk h=>by
  have I:=ajz C c.config.eC (cP c (qz c.config.ax c.config.eC c.array b k)) (FX C c.config.eC hB L D E k (by omega)) D E (show 0 <= (k:Int) by omega) (by omega);simp only[cP]at I;unfold KN cP az xG;dsimp only;rw[aQ,aq,I,ak,bz];dsimp only;unfold qz;rw[yh]) (by
  unfold KN cP az xG;dsimp only;rw[aX,au]) (bF)
 refine(bq (λo=>Option.bind o _) e).trans ?_
 rfl
def aAj{B:Int}(hB:0 <= B)(c:av)(C:cw c.config.ax=true)(L:fy c.config.ax B c.array){b:Int}(D:0 <= b)(E:b<aR c.config.ax):Xj c.config.ax c.config.eC c b=some ((),(cP c (qz c.config.ax c.config.eC c.array b c.config.ax.rows.toNat),())):=by
 have⟨_,_,_,_,O,T,U,Y⟩:=fe C;have e:=cD (step:=J2) c.config.ax.rows.toNat (λi=>(((),b,(),(),i,()),(cP c _,(c.config.ax.bK,c.config.ax.aA,c.config.ax.rows,c.config.ax.aL,()),(c.config.eC.bC,c.config.eC.bw,()),()))) _ aP (λk h=>by
  have I:=ajD C c.config.eC (cP c (qz c.config.ax c.config.eC c.array b k)) (FX C c.config.eC hB L D E k (by omega)) D E (show 0 <= (k:Int) by omega) (by omega);simp only[cP]at I;unfold J2 cP az xG;dsimp only;rw[aQ,aq,I,ak,bz];dsimp only;unfold qz;rw[yh]) (by
  unfold J2 cP az xG;dsimp only;rw[aX,au]) (bF)
 refine(bq (λo=>Option.bind o _) e).trans ?_
 rfl
def LL(c:av)(b:Int)(pd:aa aM):av:=
 qy (cP c (qz c.config.ax c.config.eC c.array b c.config.ax.rows.toNat)) (c.bI.set b.toNat (yf c.config.iF)) (c.guard.set b.toNat c.box.bT.fl) pd
def ajY(c:av)(I:aN c.config.iF 1 16=true){b:Int}(C:0<=b)(D:b.toNat<c.bI.length)(E:b.toNat<c.guard.length):KO c b=some ((),(qy c (c.bI.set b.toNat (yf c.config.iF)) (c.guard.set b.toNat c.box.bT.fl) c.pending,())):=by
 unfold KO xL;rw[az5 I,ak,aB ⟨C,D⟩,aB D,aB ⟨C,E⟩,aB E];rfl
def aAk(c:av)(b:Int)(D:c.pending.length <= 1000):iter E8 aP (((),b,(),(0:Int),()),(c,([]:aa aM),()))=some (.inl (((),(),()),(c,c.pending.filter (λa=>!(a.ay==b)),()))):=by
 have e:=cD (step:=E8) c.pending.length (λi=>(((),b,(),(i:Int),()),(c,(c.pending.take i).filter (λa=>!(a.ay==b)),()))) (.inl (((),(),()),(c,(c.pending.take c.pending.length).filter (λa=>!(a.ay==b)),()))) aP (λk h=>by
  have hl:=Y5 (λa:aM=>!(a.ay==b)) (c.pending.take k);rw[fU]at hl;have C:c.pending.take (k+1)=c.pending.take k++[c.pending[k]]:=by rw[List.take_add_one,bQ h];rfl
  rw[C,List.filter_append];generalize (c.pending.take k).filter (λa=>!(a.ay==b))=ls at hl;unfold E8 az xG xL;dsimp only;rw[aQ,aq,aB ⟨by omega,by omega⟩,aB];simp only[bu];rw[bz,bne];cases hb:c.pending[k].ay==b with
  |true=>rw[List.filter_cons_of_neg (by simp[hb])];simp
  | false=>
   rw[gM,aB ⟨by omega,by omega⟩,aB,cM (by simp;omega),List.filter_cons_of_pos (by simp[hb])];rfl) (by
  unfold E8 az xG xL;dsimp only;rw[aX,au]) (bF)
 rw[cm,ir]at e;exact e
def ajZ{B:Int}(hB:0 <= B)(c:av)(L:cw c.config.ax=true)(O:fy c.config.ax B c.array)(T:aN c.config.iF 1 16=true)(Y:c.pending.length <= 200){b:Int}(C:0 <= b)(U:b<aR c.config.ax)(D:b.toNat<c.bI.length)(E:b.toNat<c.guard.length):J3 c b=some ((),(LL c b (c.pending.filter (λa=>!(a.ay==b))),())):=by
 have I:=aAj hB c L O C U;simp only[cP]at I;unfold J3 br xL
 refine(bq (λo=>Option.bind o _) I).trans ?_
 rw[ak];rw[az6 T,ak,aB ⟨C,D⟩,aB D,aB ⟨C,E⟩,aB E]
 refine(bq (λo=>Option.bind o _) (aAk _ b (by dsimp only;omega))).trans ?_
 rfl
def gC(c:av)(k:Nat)(pd:aa aM):av:=
 ⟨c.config,c.box,c.now,c.aY,c.ready,(List.range k).foldl (λa (b:Nat)=>qz c.config.ax c.config.eC a (b:Int) c.config.ax.rows.toNat) c.array,c.spare,⟨(List.range k).foldl (λd b=>d.set b 0) c.aS.aJ,c.aS.wait,c.aS.eP⟩,(List.range k).foldl (λd b=>d.set b (yf c.config.iF)) c.bI,(List.range k).foldl (λd b=>d.set b c.box.bT.fl) c.guard,pd,c.queue,c.shares,c.drain,c.aT,c.cU,c.errors,c.trace,c.cr⟩
def yj{T:Type}(x:T)(l:aa T):∀ k:Nat,((List.range k).foldl (λd b=>d.set b x) l).length=l.length
 |0=>rfl
 |k+1=>by rw[yh,ji,yj x l k]
def RT{g:aI}(C:cw g=true)(l:nu){B:Int}(hB:0 <= B){a:en}(D:fy g B a):∀ k:Nat,(k:Int) <= aR g -> fy g B ((List.range k).foldl (λa (b:Nat)=>qz g l a (b:Int) g.rows.toNat) a)
 |0,_=>D
 | k+1,h=>by
  have⟨_,_,_,_,E,I,L,O⟩:=fe C;rw[yh];exact FX C l hB (RT C l hB D k (by omega)) (by omega) (by omega) _ (by omega)
structure uI (B:Int) (c:av):Prop where
 hB:0<=B
 g:cw c.config.ax=true
 a:fy c.config.ax B c.array
 k:aN c.config.iF 1 16=true
 p:c.pending.length<=200
 t:(c.bI.length:Int)=aR c.config.ax
 d:(c.guard.length:Int)=aR c.config.ax
 r:(c.aS.aJ.length:Int)=aR c.config.ax
def uI.RU{B:Int}{c:av}(h:uI B c)(k:Nat)(C:(k:Int)<=aR c.config.ax)(pd:aa aM)(D:pd.length<=200):uI B (gC c k pd):=
 ⟨h.hB,h.g,RT h.g c.config.eC h.hB h.a k C,h.k,D,(bq (λn:Nat=>(n:Int)) (yj _ _ k)).trans h.t,(bq (λn:Nat=>(n:Int)) (yj _ _ k)).trans h.d,(bq (λn:Nat=>(n:Int)) (yj _ _ k)).trans h.r⟩
def aj0(c:av)(k:Nat)(pd C:aa aM):gC c (k+1) C=⟨c.config,c.box,c.now,c.aY,c.ready,(LL (gC c k pd) (k:Int) C).array,c.spare,⟨(gC c k pd).aS.aJ.set k 0,c.aS.wait,c.aS.eP⟩,(LL (gC c k pd) (k:Int) C).bI,(LL (gC c k pd) (k:Int) C).guard,C,c.queue,c.shares,c.drain,c.aT,c.cU,c.errors,c.trace,c.cr⟩:=by
 unfold gC;simp only[yh];rfl
def aAl{B:Int}{c:av}(h:uI B c):iter xQ aP (((),(c.bI.length:Int),(0:Int),()),(gC c 0 [],()))=some (.inl ((),(gC c c.bI.length [],()))):=by
 have T:=dS c.config.ax;have U:=h.t;have e:=cD (step:=xQ) c.bI.length (λi=>(((),c.bI.length,i,()),(gC c i [],()))) _ aP (λk Y=>by
  have C:=h.RU k (by omega) [] (by simp);have w1:=C.t;have E:=C.d;have I:=C.r;have D:aR (gC c k []).config.ax=aR c.config.ax:=rfl;rw[D]at w1 E I;have L:=ajX C.hB _ C.g C.a (b:=(k:Int)) (by omega) (by rw[D];omega);have O:=ajY (cP (gC c k []) (qz (gC c k []).config.ax (gC c k []).config.eC (gC c k []).array (k:Int) (gC c k []).config.ax.rows.toNat)) C.k (b:=(k:Int)) (by omega) (by show (k:Int).toNat<(gC c k []).bI.length;omega) (by show (k:Int).toNat<(gC c k []).guard.length;omega);rw[aj0 c k [] []];unfold xQ az xG xL;dsimp only;rw[aQ,aq,L,ak,O,ak,bz];have Z:k<(gC c k []).aS.aJ.length:=by omega
  rw[aB ⟨by omega,by show (k:Int).toNat<(gC c k []).aS.aJ.length;omega⟩,aB (by show (k:Int).toNat<(gC c k []).aS.aJ.length;omega)];rfl) (by
  unfold xQ az xG xL;dsimp only;rw[aX,au]) (bF)
 simp_all
def qA(pd:aa aM):Nat->aa aM
 |0=>pd
 |k+1=>(qA pd k).filter (λa=>!(a.ay==(k:Int)))
def aj1(pd:aa aM):∀ k,(qA pd k).length<=pd.length
 |0=>dx _
 |k+1=>Nat.le_trans (Y5 _ _) (aj1 pd k)
def aj2(pd:aa aM){a:aM}:∀ k,a∈qA pd k -> a∈pd /\ ∀ b:Nat,b<k -> a.ay≠(b:Int)
 |0,h=>⟨h,λb hb=>by omega⟩
 | k+1,h=>by
  have⟨C,D⟩:=List.mem_filter.1 h;have⟨E,I⟩:=aj2 pd k C
  grind
def aAm{pd:aa aM}{k:Nat}(h:∀ a∈pd,0 <= a.ay/\a.ay<(k:Int)):qA pd k=[]:=by
 rw[List.eq_nil_iff_forall_not_mem];intro a C;have⟨D,E⟩:=aj2 pd k C;have:=h a D;exact E a.ay.toNat (by omega) (by omega)
def aAn{B:Int}{c:av}(h:uI B c)(Z:c.aY.aA.length=c.bI.length)(E:∀ a∈c.pending,0<=a.ay/\a.ay<aR c.config.ax):iter Cz aP (((),(0:Int),()),(c,()))=some (.inl ((),(gC c c.bI.length [],()))):=by
 have b1:=dS c.config.ax;have htr:=h.t;have e:=cD (step:=Cz) c.bI.length (λi=>(((),(i:Int),()),(gC c i (qA c.pending i),()))) (.inl ((),(gC c c.bI.length (qA c.pending c.bI.length),()))) aP (λk hk=>by
  have C:=h.RU k (by omega) (qA c.pending k) (Nat.le_trans (aj1 _ _) h.p);have w1:=C.t;have I:=C.d;have L:=C.r;have D:aR (gC c k (qA c.pending k)).config.ax=aR c.config.ax:=rfl;rw[D]at w1 I L;have O:=ajZ C.hB _ C.g C.a C.k C.p (b:=(k:Int)) (by omega) (by rw[D];omega) (by omega) (by omega);rw[aj0 c k (qA c.pending k) (qA c.pending (k+1))];unfold Cz az xG xL;dsimp only;rw[aQ (by show (k:Int)<((c.aY.aA.length:Nat):Int);omega),aq,O,ak,bz];rw[aB ⟨by omega,by show (k:Int).toNat<(gC c k (qA c.pending k)).aS.aJ.length;omega⟩,aB (by show (k:Int).toNat<(gC c k (qA c.pending k)).aS.aJ.length;omega)];rfl) (by
  unfold Cz az xG xL;dsimp only;rw[aX (by show ¬ ((c.bI.length:Nat):Int)<((c.aY.aA.length:Nat):Int);omega),au]) (bF)
 have T:qA c.pending c.bI.length=[]:=aAm (λa U=>by have:=E a U;omega);have Y:gC c 0 (qA c.pending 0)=c:=rfl;rw[cm,T,Y]at e;exact e
def wv(l:aa Int):Nat->Int
 |0=>0
 |i+1=>bits .or .i64 (wv l i) (W6 (l.getD i 0*2 ^ (min (4*(i:Int)).toNat IntKind.i64.bits)))
def aj3{l:aa Int}(h:l.length=8)(C:∀ s∈l,0 <= s/\s <= 15):rP l 8=true:=by
 simp[rP,aO,cu,vJ,bA];simp_all
def aAo{l:aa Int}(h:l.length=8)(D:∀ s∈l,0<=s/\s<=15):QK l=some (wv l 8,true):=by
 unfold QK br;rw[ain _ _ (by omega),aj3 h D,ak];have e:=cD (step:=KU) 8 (λi=>((wv l i,l,(l.length:Int),(i:Int),()),())) (.inl ((wv l 8,()),())) aP (λi hi=>by
  have C:i<l.length:=by omega
  have E:W6 (4*(i:Int))=4*(i:Int):=aV;have I:¬ 4*(i:Int)<0:=by omega
  have L:l.getD i 0=l[i]:=by rw[ei,bQ C];rfl
  have O:wv l (i+1)=bits .or .i64 (wv l i) (W6 (l.getD i 0*2 ^ (min (4*(i:Int)).toNat IntKind.i64.bits))):=rfl;unfold KU az xG xI;rw[O,L];simp (disch:=omega) [C,E,I,bz]) (by unfold KU az xG xI;simp[h]) (bF)
 rw[cm]at e;simp only[bB,au];have T:wv l 0=0:=rfl;rw[T]at e;rw[e];rfl
def aAp{l:aa Int}(h:l.length=8)(D:∀ s∈l,0<=s/\s<=15):Px l=some (wv l 8,true):=by
 unfold Px br;rw[K8 _ _ (by omega),aj3 h D,ak];have e:=cD (step:=JG) 8 (λi=>((l,wv l i,(i:Int),()),())) (.inl ((wv l 8,()),())) aP (λi hi=>by
  have C:i<l.length:=by omega
  have E:W6 (4*(i:Int))=4*(i:Int):=aV;have I:IntKind.u64.wrap (4*(i:Int))=4*(i:Int):=ajk (by omega) (by omega);have L:¬ 4*(i:Int)<0:=by omega
  have O:l.getD i 0=l[i]:=by rw[ei,bQ C];rfl
  have T:wv l (i+1)=bits .or .i64 (wv l i) (W6 (l.getD i 0*2 ^ (min (4*(i:Int)).toNat IntKind.i64.bits))):=rfl;unfold JG az xG xI;rw[T,O];simp (disch:=omega) [C,E,I,L,bz]) (by unfold JG az xG xI;simp[h]) (bF)
 rw[cm]at e;simp only[bB,au];have U:wv l 0=0:=rfl;rw[U]at e;rw[e];rfl
def aAq{w:aa Nat}(D:dG w)(hl:w.length=11):Py (bk w)=some (bk (w.drop 3)):=by
 have E:=(La D hl).ok;have hlen:(bk w).length=11:=by rw[gR,hl]
 have C:(bk w).drop 3=bk (w.drop 3):=by simp
 unfold Py xA xZ;rw[K8 _ _ (by rw[gR];omega),E];generalize bk w=W at hlen C ⊢;rw[<- C];have I:W.take 11=W:=by rw[<- hlen,ir]
 simp[hlen,bD,I]
def aj4{w:aa Nat}(D:dG w)(hl:w.length=11):(bk (w.drop 3)).length=8 /\ ∀ s∈bk (w.drop 3),0 <= s/\s <= 15:=by
 refine⟨by rw[gR];simp[hl],λs C=>?_⟩
 simp only[ List.mem_map]at C;obtain⟨x,E,rfl⟩:=C;have:=D x (List.mem_of_mem_drop E);omega
def AM(w:aa Nat):Int:=bif (gk w).2.1==2 then 0 else wv (bk ((gk w).1.drop 3)) 8
def aAr{w:aa Nat}(C:dG w)(hl:w.length=11):QM (bk w)=some (AM w,(gk w).2.1,(gk w).2.2):=by
 have⟨D,E,_⟩:=C0 C hl;have⟨d1,d2⟩:=aj4 E D;unfold QM AM;rw[ajn C hl,ak];cases h:(gk w).2.1==2 with
 |true=>simp
 | false=>
  rw[ ay4 E D,ak,aAo d1 d2];rfl
def aAs{w:aa Nat}(C:dG w)(hl:w.length=11):Pz (bk w)=some (AM w,(gk w).2.1,(gk w).2.2):=by
 have⟨D,E,_⟩:=C0 C hl;have⟨d1,d2⟩:=aj4 E D;unfold Pz AM;rw[ayX C hl,ak];cases h:(gk w).2.1==2 with
 |true=>simp
 | false=>
  rw[ aAq E D,ak,aAp d1 d2];rfl
def nw(c:cq):aa Nat:=c.symbols.map Int.toNat
def RX{c:cq}(h:Sy c.symbols):bk (nw c)=c.symbols/\dG (nw c)/\(nw c).length=11:=by
 have⟨C,D⟩:=X6 _ h.2;exact⟨C,D,by simp[nw,h.1]⟩
def mz(c:cq):Int:=bif c.jm then 2 else (gk (nw c)).2.1
def sX(c:cq):cq:=bif c.jm then c else bif (gk (nw c)).2.1==1 then ⟨bk (gk (nw c)).1,c.jm⟩else bif (gk (nw c)).2.1==2 then ⟨c.symbols,true⟩else c
def aAt{l:aa cq}{j:Nat}(h:j<l.length):l.set j l[j]=l:=List.set_getElem_self h
def Y6{c:cq}(h:Sy c.symbols):Sy (sX c).symbols:=by
 have⟨L,C,D⟩:=RX h;have⟨E,I,_⟩:=C0 C D;unfold sX;cases c.jm with
 |true=>exact h
 | false=>
  cases (gk _).2.1==1 with
  |true=>exact La I E
  |false=>grind
def FY(x:Int)(k:Nat):Int:=bits .and .i64 (x.fdiv (2 ^ (min (4*(k:Int)).toNat IntKind.i64.bits))) 15
def kE(x:Int):Nat->aa Int
 |0=>[]
 |k+1=>kE x k++[FY x k]
def LM(x:Int):∀ k,(kE x k).length=k
 |0=>rfl
 |k+1=>by simp[kE,LM x k]
def Y7(x:Int):∀ k,∀ s∈kE x k,0<=s/\s<=15
 |0,s,h=>by cases h
 | k+1,s,h=>by
  rcases List.mem_append.1 h with h|h
  ·exact Y7 x k s h
  ·rw[kI.1 h];exact ayP _
def aAu{x:Int}(U:0<=x)(Y:x<=4294967295):PB x=some (kE x 8):=by
 have C:aN x 0 4294967295=true:=by rw[bA];omega
 unfold PB br;have e:=cD (step:=JI) 8 (λk=>((x,(),(k:Int),()),(kE x k,()))) (.inl (((),()),(kE x 8,()))) aP (λk Z=>by
  have D:(k:Int)<8:=by omega
  have E:bD ((kE x k).length+1)=true:=cM (by rw[LM];omega);have I:W6 (4*(k:Int))=4*(k:Int):=aV;have L:IntKind.u64.wrap (4*(k:Int))=4*(k:Int):=ajk (by omega) (by omega);have O:¬ 4*(k:Int)<0:=by omega
  unfold JI I3 az xG;simp (disch:=omega) [D,dN,C,I,L,O,E,bz,kE,FY]) (by
  unfold JI az xG;simp) (bF)
 rw[cm]at e;have T:kE x 0=[]:=rfl;rw[T]at e;rw[e];rfl
def aAv{x:Int}(T:0<=x)(U:x<=4294967295):QH x=some (kE x 8):=by
 have C:aN x 0 4294967295=true:=by rw[bA];omega
 unfold QH B8 br;rw[dR,ak,ak,C,bB,au];have e:=cD (step:=KS) 8 (λk=>((x,(),(k:Int),()),(kE x k,()))) (.inl (((),()),(kE x 8,()))) aP (λk Y=>by
  have D:(k:Int)<8:=by omega
  have E:bD ((kE x k).length+1)=true:=cM (by rw[LM];omega);have I:W6 (4*(k:Int))=4*(k:Int):=aV;have L:¬ 4*(k:Int)<0:=by omega
  unfold KS az xG;simp (disch:=omega) [D,I,L,E,bz,kE,FY]) (by
  unfold KS az xG;simp) (bF)
 rw[cm]at e;have O:kE x 0=[]:=rfl;rw[O]at e;rw[e];rfl
def aj5:(jh λx=>jh λy=>jh λz=>(λC D E=>Nat.beq (gm (gm 2 (C ^^^ D) ^^^ gm 5 (C ^^^ E)) 13) y&&(Nat.beq (gm (gm 3 (C ^^^ E) ^^^ gm 5 (C ^^^ D)) 13) z&&Nat.beq (C ^^^ (y ^^^ z)) x)) (gm x (pw 0) ^^^ (gm y (pw 0) ^^^ gm z (pw 0))) (gm x (pw 0) ^^^ (gm y (pw 1) ^^^ gm z (pw 2))) (gm x (pw 0) ^^^ (gm y (pw 2) ^^^ gm z (pw 4))))=true:=by kernel_rfl
def aAw{x y z:Nat}{d:aa Nat}(j:Nat):bR (x :: y :: z :: d) j 11=(gm x (pw (0*j)) ^^^ (gm y (pw (1*j)) ^^^ gm z (pw (2*j)))) ^^^ bR (0 :: 0 :: 0 :: d) j 11:=by
 simp[bR,List.getD_cons_zero,List.getD_cons_succ,Nat.xor_assoc,Nat.zero_xor,Q7 (um _)]
def FZ{a b:Nat}(h:a ^^^ b=0):a=b:=by
 have C:(a ^^^ b) ^^^ b=0 ^^^ b:=by rw[h]
 grind
def aj6{w v:aa Nat}(I:dG w)(L:dG v)(lw:w.length=11)(lv:v.length=11)(O:w.drop 3=v.drop 3)(zw:nT w=true)(zv:nT v=true):w=v:=by
 obtain⟨x,y,z,d,rfl⟩:∃ x y z d,w=x :: y :: z :: d:=by
  match w,lw with
  |x::y::z::d,_=>simp_all
 obtain⟨C,D,E,d',rfl⟩:∃ x y z d,v=x :: y :: z :: d:=by
  match v,lv with
  |x::y::z::d,_=>simp_all
 have O:d=d':=O;subst O;simp only[nT,aO]at zw zv;have⟨w0,w1,T⟩:=zw;have⟨U,Y,Z⟩:=zv;rw[aAw]at w0 w1 T U Y Z;have w0:gm x (pw 0) ^^^ (gm y (pw 0) ^^^ gm z (pw 0))=bR (0::0::0::d) 0 11:=FZ (cC w0);have w1:gm x (pw 0) ^^^ (gm y (pw 1) ^^^ gm z (pw 2))=bR (0::0::0::d) 1 11:=FZ (cC w1);have T:gm x (pw 0) ^^^ (gm y (pw 2) ^^^ gm z (pw 4))=bR (0::0::0::d) 2 11:=FZ (cC T);have U:gm C (pw 0) ^^^ (gm D (pw 0) ^^^ gm E (pw 0))=bR (0::0::0::d) 0 11:=FZ (cC U);have Y:gm C (pw 0) ^^^ (gm D (pw 1) ^^^ gm E (pw 2))=bR (0::0::0::d) 1 11:=FZ (cC Y);have Z:gm C (pw 0) ^^^ (gm D (pw 2) ^^^ gm E (pw 4))=bR (0::0::0::d) 2 11:=FZ (cC Z);have m:∀{l:aa Nat} {n:Nat},dG l -> n∈l -> n<16:=λh hn=>h _ hn
 have k1:=gy (gy (gy aj5 (m I (n:=x) (by simp))) (m I (n:=y) (by simp))) (m I (n:=z) (by simp));have k2:=gy (gy (gy aj5 (m L (n:=C) (by simp))) (m L (n:=D) (by simp))) (m L (n:=E) (by simp));simp_all
def aj7(w r:aa Nat):∀ k,k<=3->(qq w r k).drop 3=w.drop 3
 |0,_=>rfl
 | k+1,h=>by
  show (List.set _ _ _).drop 3=_;rw[List.drop_set_of_lt (by omega),aj7 w r k (by omega)]
def Y8{a b:aa Nat}(h:bk a=bk b):a=b:=(List.map_inj_right (λx y h=>by
 omega)).1 h
def aAx{d:aa Nat}(D:dG d)(hl:d.length=8):∃ w,Ak (bk d)=some (bk w)/\w.length=11/\dG w/\w.drop 3=d/\nT w=true:=by
 have E:dG (0 :: 0 :: 0 :: d):=by
  intro x hx;simp only[gn]at hx;rcases hx with rfl|rfl|rfl|hx
  ·decide
  ·decide
  ·decide
  ·exact D x hx
 have C:(0::0::0::d).length=11:=by simp[hl]
 obtain⟨w,e,I,L,O,T,U⟩:=axp D hl;refine⟨w,e,I,L,?_,by simp[nT,O,T,U]⟩;have Y:Ak (bk d)=some (bk (qq (0 :: 0 :: 0 :: d) (out (0 :: 0 :: 0 :: d) 8) 3)):=by
  unfold Ak xA br xZ;have c0:((d.length:Int)==(8:Int))=true:=by rw[hl];rfl
  have Z:bD ((List.replicate (3:Int).toNat (0:Int)).length+(bk d).length)=true:=by
   rw[gR,hl];rfl
  have c2:bD (([]:aa Int).length+(bk (0 :: 0 :: 0 :: d)).length)=true:=by
   rw[gR,C];rfl
  have c3:W6 (((bk (0 :: 0 :: 0 :: d)).length:Int)-(1:Int))=10:=by
   rw[gR,C];rfl
  have eW:List.replicate (3:Int).toNat (0:Int)++bk d=bk (0::0::0::d):=rfl;rw[aie D (by omega),ak,c0,show (!true)=false from rfl,au,bH (by decide),Z,aq,eW,aid,ak,dX];dsimp only;rw[kY,c2,aq,c3,aif E C,ak,dX];dsimp only;rw[aim C (by rw[CL,C]),ak,dX]
 rw[Y]at e;injection e with e;rw[<-Y8 e,aj7 _ _ 3 (dx _)];rfl
def C8(x:Int):aa Int:=(FD x).getD []
def LN{x:Int}(E:0 <= x)(I:x <= 4294967295):FD x=some (C8 x)/\Sy (C8 x) /\ ∃ w,C8 x=bk w/\w.length=11/\dG w/\bk (w.drop 3)=kE x 8/\nT w=true:=by
 have L:aN x 0 4294967295=true:=by rw[bA];omega
 have⟨t1,t2⟩:=X6 _ (Y7 x 8);have tl:((kE x 8).map Int.toNat).length=8:=by rw[eI,LM]
 have⟨w,C,l1,d1,O,T,U,Y⟩:=axf t2 tl;have Z:nT w=true:=by simp[nT,T,U,Y]
 rw[t1]at C;have D:FD x=some (bk w):=by
  unfold FD B8;rw[dR,ak,ak,L,bB,au,aAv E I,ak,C,ak]
 have ee:C8 x=bk w:=by unfold C8;rw[D];rfl
 rw[ee];exact⟨D,La d1 l1,w,rfl,l1,d1,by rw[O,t1],Z⟩
def aj8{x:Int}(C:0 <= x)(D:x <= 4294967295):E5 x=some (C8 x):=by
 have⟨t1,t2⟩:=X6 _ (Y7 x 8);have tl:((kE x 8).map Int.toNat).length=8:=by rw[eI,LM]
 have⟨_,_,w,I,l1,d1,L,O⟩:=LN C D;have⟨v,E,l2,d2,T,U⟩:=aAx t2 tl;have Y:=aj6 d1 d2 l1 l2 (by rw[T];exact Y8 (by rw[L,t1])) O U;subst Y;rw[t1]at E;unfold E5;rw[aAu C D,ak,E,ak,I]
def aAy{a b:Nat}(E:a<9223372036854775808)(hb:b<9223372036854775808):bits .or .i64 (a:Int) (b:Int)=((a ||| b:Nat):Int):=by
 have e:bits .or .i64 (a:Int) (b:Int)=W6 ((BitVec.ofInt 64 (a:Int) |||BitVec.ofInt 64 (b:Int)).toNat:Int):=rfl;have h:a |||b<2 ^ 63:=Nat.or_lt_two_pow (by omega) (by omega);have C:BitVec.ofInt 64 (a:Int)=BitVec.ofNat 64 a:=BitVec.ofInt_natCast 64 a;have D:BitVec.ofInt 64 (b:Int)=BitVec.ofNat 64 b:=BitVec.ofInt_natCast 64 b;rw[e,C,D,BitVec.toNat_or,BitVec.toNat_ofNat,BitVec.toNat_ofNat,Nat.mod_eq_of_lt (by omega),Nat.mod_eq_of_lt (by omega),aV]
def aAz(a:Nat)(I:a<9223372036854775808):bits .and .i64 (a:Int) 15=((a % 16:Nat):Int):=by
 have e:bits .and .i64 (a:Int) 15=W6 ((BitVec.ofInt 64 (a:Int) &&& BitVec.ofInt 64 15).toNat:Int):=rfl;have C:BitVec.ofInt 64 (a:Int)=BitVec.ofNat 64 a:=BitVec.ofInt_natCast 64 a;have D:(BitVec.ofInt 64 15).toNat=15:=rfl;have E:a &&& 15=a % 16:=Nat.and_two_pow_sub_one_eq_mod a 4;rw[e,C,BitVec.toNat_and,BitVec.toNat_ofNat,Nat.mod_eq_of_lt (by omega),D,E,aV]
def nv(d:aa Nat):Nat->Nat
 |0=>0
 |k+1=>nv d k+d.getD k 0*16 ^ k
def LO{d:aa Nat}(C:dG d):∀ k,nv d k<16 ^ k
 |0=>Nat.one_pos
 | k+1=>by
  have D:=LO C k;have E:=C.get k;have I:d.getD k 0*16 ^ k <= 15*16 ^ k:=iL _ (by omega);show nv d k+d.getD k 0*16 ^ k<16 ^ (k+1)
  grind
def aj9(k:Nat)(C:k<8):(min (4*(k:Int)).toNat IntKind.i64.bits)=4*k:=by
 have:IntKind.i64.bits=64:=rfl;rw[this];omega
def Y9{d:aa Nat}(C:dG d)(hl:d.length=8):∀ k,k<=8->wv (bk d) k=(nv d k:Int)
 |0,_=>rfl
 | k+1,h=>by
  have E:=LO C k;have O:=C.get k;have T:(16:Nat) ^ k<=16 ^ 7:=Nat.pow_le_pow_right (by decide) (by omega);have D:(2:Nat) ^ (4*k)=16 ^ k:=by rw[Nat.pow_mul]
  have U:d.getD k 0*16 ^ k<=15*16 ^ k:=iL _ (by omega);have I:(bk d).getD k 0=((d.getD k 0:Nat):Int):=by
   rw[ei,bQ (by rw[gR];omega)];exact uq (by rw[gR];omega)
  have L:((d.getD k 0:Nat):Int)*2 ^ (4*k)=((d.getD k 0*16 ^ k:Nat):Int):=by
   rw[<-D]
   push_cast
   rfl
  show bits .or .i64 (wv (bk d) k) (W6 ((bk d).getD k 0*2 ^ (min (4*(k:Int)).toNat IntKind.i64.bits)))=((nv d k+d.getD k 0*16 ^ k:Nat):Int)
  rw[Y9 C hl k (by omega),aj9 k (by omega),I,L,aV,aAy (by omega) (by omega)];congr 1;have:=Nat.two_pow_add_eq_or_of_lt (i:=4*k) (b:=nv d k) (by rw[D];exact E) (d.getD k 0);rw[D,Nat.mul_comm]at this;rw[Nat.or_comm,<-this];omega
def aka{d:aa Nat}(C:dG d):∀ n k,k<n -> nv d n / 16 ^ k % 16=d.getD k 0
 |0,k,h=>by omega
 | n+1,k,h=>by
  have D:=LO C n;have I:=C.get n;show (nv d n+d.getD n 0*16 ^ n) / 16 ^ k % 16=_;by_cases e:k=n
  ·subst e;rw[Nat.add_mul_div_right _ _ (Nat.pow_pos (by decide)),Nat.div_eq_of_lt D,eN];omega
  ·have L:n=(n-k-1)+1+k:=by omega
   have E:d.getD n 0*16 ^ n=(d.getD n 0*16 ^ (n-k-1)*16)*16 ^ k:=by
    grind
   rw[E,Nat.add_mul_div_right _ _ (Nat.pow_pos (by decide)),Nat.add_mul_mod_self_right,aka C n k (by omega)]
def aAA{d:aa Nat}(C:dG d)(hl:d.length=8):kE (wv (bk d) 8) 8=bk d:=by
 have L:nv d 8<16 ^ 8:=LO C 8;rw[Y9 C hl 8 (dx _)];have key:∀ k,k <= 8 -> kE (nv d 8:Int) k=bk (d.take k):=by
  intro k
  induction k with
  |zero=>intro _;rfl
  | succ k D=>
   intro O;have T:(2:Nat) ^ (4*k)=16 ^ k:=by rw[Nat.pow_mul]
   have E:(nv d 8:Int).fdiv (2 ^ (4*k))=((nv d 8 / 16 ^ k:Nat):Int):=by
    grind
   have I:FY (nv d 8:Int) k=((d.getD k 0:Nat):Int):=by
    unfold FY;rw[aj9 k (by omega),E,aAz _ (Nat.lt_of_le_of_lt (Nat.div_le_self _ _) (by omega)),aka C 8 k (by omega)]
   show kE (nv d 8:Int) k++[FY (nv d 8:Int) k]=_;rw[D (by omega),I,List.take_add_one,bQ (by omega),ei,bQ (by omega)];exact(kX (f:=λn:Nat=>(n:Int)) (l₁:=d.take k) (l₂:=[d[k]])).symm
 rw[key 8 (dx _),<- hl,ir]
def aAB{d:aa Nat}(C:dG d)(hl:d.length=8):0 <= wv (bk d) 8/\wv (bk d) 8 <= 4294967295:=by
 have D:=LO C 8;rw[Y9 C hl 8 (dx _)];omega
def aAC{w:aa Nat}(C:dG w)(hl:w.length=11)(h:(gk w).2.1=1):E5 (AM w)=some (bk (gk w).1):=by
 have⟨D,E,_⟩:=C0 C hl;have Y:=ay3 C hl (by omega);have I:dG ((gk w).1.drop 3):=λx Z=>E x (List.mem_of_mem_drop Z)
 have L:((gk w).1.drop 3).length=8:=by rw[List.length_drop,D]
 have he:AM w=wv (bk ((gk w).1.drop 3)) 8:=by
  unfold AM;simp_all
 have⟨O,T⟩:=aAB I L;have e2:=aj8 O T;have⟨_,_,v,ev,vl,v16,U,vz⟩:=LN O T;rw[aAA I L]at U;have:=aj6 v16 E vl D (Y8 U) vz Y;simp_all
def LP(d:cq):Int:=bif d.jm then 0 else AM (nw d)
def vZ(c:av)(j:Nat)(d:cq):av:=cP c ⟨c.array.cells.set j d,c.array.bC,c.array.bw⟩
def akb{c:av}{j:Nat}(h:j<c.array.cells.length):vZ c j c.array.cells[j]=c:=by
 unfold vZ cP;rw[aAt h]
def aAD{c:av}{j:Nat}(C:j<c.array.cells.length)(O:Sy c.array.cells[j].symbols):Aw c (j:Int)=some ((LP c.array.cells[j],mz c.array.cells[j]),(vZ c j (sX c.array.cells[j]),())):=by
 have⟨T,D,E⟩:=RX O;have I:=ajn D E;have L:=aAr D E;rw[T]at I L;have Y:=akb C;unfold Aw mz sX LP xL xM;rw[aB ⟨by omega,by omega⟩,aB];simp only[bu];cases U:c.array.cells[j].jm with
 |true =>simp_all
 | false=>
  rw[au,au,au,au,aB C,aB C,I,ak,aB C,aB C,L,ak];dsimp only;rcases(C0 D E).2.2 with q|q|q
  ·grind
  ·rw[q,jj,aB C,U];rfl
  ·rw[q,jg (by omega),au,jj,aB C];rfl
def akc{c:av}{j:Nat}(C:j<c.array.cells.length)(L:Sy c.array.cells[j].symbols):Cy c (j:Int)=some ((LP c.array.cells[j],mz c.array.cells[j]),(vZ c j (sX c.array.cells[j]),())):=by
 have⟨O,D,E⟩:=RX L;have I:=aAs D E;rw[O]at I;have U:=akb C;unfold Cy mz sX LP xL xM;rw[aB ⟨by omega,by omega⟩,aB];simp only[bu];cases T:c.array.cells[j].jm with
 |true =>simp_all
 | false=>
  rw[au,au,au,au,aB C,I,ak];dsimp only;rcases(C0 D E).2.2 with q|q|q
  ·grind
  ·rw[q,jj,aAC D E q,ak,aB ⟨by omega,C⟩,aB C,jg (by omega),au,T];rfl
  ·rw[q,jg (by omega),jj,au,aB ⟨by omega,C⟩,aB C];rfl
def uJ(q:aa aZ)(i:Nat):Bool:=match q[i]? with
 |some r=>(q.take i).any λx=>x.line==r.line
 |none=>false
def akd{q:aa aZ}{i:Nat}(h:i<q.length):uJ q i=(q.take i).any λx=>x.line==q[i].line:=by
 unfold uJ;rw[bQ h]
def aAE{α:Type}(p:α -> Bool)(q:aa α)(i:Nat)(hi:i <= q.length):c9 p (q.take i)=min (c9 p q) i:=by
 have L:=uC p q;have D:=uC p (q.take i);rw[fU,Nat.min_eq_left hi]at D;rcases Nat.lt_or_ge (c9 p (q.take i)) i with h|h
 ·have E:c9 p (q.take i)<(q.take i).length:=by rw[fU,Nat.min_eq_left hi];exact h
  have I:=qx E;rw[List.getElem_take]at I;rcases Nat.lt_or_ge (c9 p q) (c9 p (q.take i))with h5|h5
  ·have h6:=qx (p:=p) (q:=q) (by omega);have C:=m0 h5 (by rw[fU];omega);simp_all
  ·rcases Nat.lt_or_ge (c9 p (q.take i)) (c9 p q)with h6 | h6
   ·have C:=m0 h6 (by omega);simp_all
   ·omega
 ·have e:c9 p (q.take i)=i:=by omega
  rw[e];rcases Nat.lt_or_ge (c9 p q) i with h5|h5
  ·have h6:=qx (p:=p) (q:=q) (by omega);have C:=m0 (p:=p) (q:=q.take i) (i:=c9 p q) (by omega) (by rw[fU];omega);simp_all
  ·omega
def aAF{q:aa aZ}{i:Nat}(h:i<q.length)(I:q.length <= 1000):Qf q (i:Int)=some (uJ q i):=by
 have L:=uC (λx:aZ=>x.line==q[i].line) (q.take i);have hlen:(q.take i).length=i:=by rw[fU];omega
 unfold Qf bP;rw[dR,ak,LH (by omega) (by omega) (by omega),bB,au,bH ⟨by omega,by omega,by omega⟩,akd h,Lz];simp only[bu,Int.toNat_zero,List.drop_zero];generalize O:q.take i=t at *
 have e:=cD (step:=Fm) (c9 (λx:aZ=>x.line==q[i].line) t) (λj=>((q,(i:Int),t,(t.length:Int),(j:Int),()),())) (if c9 (λx:aZ=>x.line==q[i].line) t<t.length then .inl ((true,()),())else .inr (.inl ((),()))) aP (λk E=>by
  have D:=m0 E (by omega);unfold Fm az bf xG xI;dsimp only;rw[aQ,aq,aB ⟨by omega,by omega⟩,aB ⟨by omega,by omega⟩];simp only[bu];rw[D,au,bz]) (by
  by_cases C:c9 (λx:aZ=>x.line==q[i].line) t<t.length
  ·have D:=qx C;unfold Fm az bf xG xI;dsimp only;rw[aQ,aq,aB ⟨by omega,by omega⟩,aB ⟨by omega,by omega⟩]
   grind
  ·unfold Fm az bf xG xI;dsimp only;rw[aX,au,bJ C]) (bF)
 rw[cm]at e
 refine(bq (λo=>Option.bind o _) e).trans ?_
 by_cases C:c9 (λx:aZ=>x.line==q[i].line) t<t.length
 ·rw[bH C,aQ C];rfl
 ·rw[bJ C,aX C];rfl
def ake{q:aa aZ}{i:Nat}(h:i<q.length)(E:q.length <= 1000):Jn q (i:Int)=some (uJ q i):=by
 have I:=aAE (λx:aZ=>x.line==q[i].line) q i (by omega);have L:=uC (λx:aZ=>x.line==q[i].line) (q.take i);have hlen:(q.take i).length=i:=by rw[fU];omega
 unfold Jn bP;rw[akd h,Lz,hlen];generalize O:c9 (λx:aZ=>x.line==q[i].line) (q.take i)=n at *
 have e:=cD (step:=EU) n (λj=>((q,(i:Int),(j:Int),()),())) (if n<i then .inl ((true,()),())else .inr (.inl ((),()))) aP (λk T=>by
  have D:=m0 (p:=λx:aZ=>x.line==q[i].line) (q:=q) (i:=k) (by omega) (by omega);unfold EU az bf xG xI;dsimp only;rw[aQ,aq,aQ,aq,aB ⟨by omega,by omega⟩,aB ⟨by omega,by omega⟩];simp only[bu];rw[D,au,bz]) (by
  by_cases C:n<i
  ·have D:((q[n]'(by omega)).line==q[i].line)=true:=by
    have U:c9 (λx:aZ=>x.line==q[i].line) q=n:=by omega
    have:=qx (p:=λx:aZ=>x.line==q[i].line) (q:=q) (by omega)
    grind
   unfold EU az bf xG xI;dsimp only;rw[aQ,aq,aQ,aq,aB ⟨by omega,by omega⟩,aB ⟨by omega,by omega⟩]
   grind
  ·unfold EU az bf xG xI;dsimp only;rw[aX,au,bJ C]) (bF)
 rw[cm]at e
 refine(bq (λo=>Option.bind o _) e).trans ?_
 by_cases C:n<i
 ·rw[bH C,aQ C];rfl
 ·rw[bJ C,aX C];rfl
def AN(d:jc)(n:Int)(w:Bool):Bool:=bif w then d.on ||decide (n<1)else !d.on
def aAG{d:jc}(n:Int)(w:Bool)(h:mW d=true):Qg d n w=some (AN d n w):=by
 unfold Qg AN;rw[Ye,h]
 grind
def aAH{d:jc}(n:Int)(w:Bool)(h:mW d=true):Pc d n w=some (AN d n w):=by
 unfold Pc AN;rw[Rg,h]
 grind
def AO(p:Nat->Bool)(k:Nat):Int:=((List.range k).countP p:Nat)
def RY(p:Nat -> Bool)(k:Nat):AO p (k+1)=AO p k+(bif p k then 1 else 0):=by
 unfold AO;rw[List.range_succ,List.countP_append,List.countP_singleton]
 grind
def RZ(p:Nat -> Bool)(k:Nat):0 <= AO p k/\AO p k <= k:=by
 unfold AO;have:=List.countP_le_length (p:=p) (l:=List.range k);simp_all
def rW(f:Nat->Bool)(n k:Nat):aa Bool:=(List.range k).map f++List.replicate (n-k) false
def R0{f:Nat->Bool}{n k:Nat}(h:k<=n):(rW f n k).length=n:=by unfold rW;simp;omega
def R1{f:Nat -> Bool}{n k:Nat}(h:k<n):(rW f n k).set k (f k)=rW f n (k+1):=by
 unfold rW;rw[List.set_append_right _ _ (by simp),eI,cV,Nat.sub_self,show n-k=(n-(k+1))+1 by omega,List.replicate_succ,List.range_succ,kX,List.append_assoc];rfl
def Za(f:Nat->Bool)(n:Nat):rW f n 0=List.replicate n false:=rfl
def R2(f:Nat->Bool)(n:Nat):rW f n n=(List.range n).map f:=by unfold rW;simp
def yl{f:Nat->Bool}{n k:Nat}(h:k<n)(C:k<((List.range n).map f).length):((List.range n).map f)[k]=f k:=by simp
def qB(q:aa aZ)(i:Nat):Bool:=match q[i]? with
 |some r=>r.write
 |none=>false
def AP{q:aa aZ}{i:Nat}(h:i<q.length):qB q i=q[i].write:=by
 unfold qB;rw[bQ h]
def kF(q:aa aZ)(i:Nat):Bool:=!uJ q i
def qC(q:aa aZ)(k:Nat):Int:=AO (λi=>kF q i && !qB q i) k
def rX(q:aa aZ)(k:Nat):Int:=AO (λi=>kF q i&&qB q i) k
def gT(c:av)(i:Nat):Bool:=kF c.queue i&&(AN c.drain (qC c.queue c.queue.length) (qB c.queue i) ||(!qB c.queue i&&rX c.queue c.queue.length==0))
def aAI{c:av}(h:Pq c):Pd c=some ((List.range c.queue.length).map (gT c)):=by
 have I:=h.ql;have e:=cD (step:=Jo) c.queue.length (λi=>((c,qC c.queue i,rX c.queue i,(i:Int),()),())) (.inl ((c,qC c.queue c.queue.length,rX c.queue c.queue.length,()),())) aP (λk C=>by
  have L:=RZ (λi=>kF c.queue i && !qB c.queue i) k;have O:=RZ (λi=>kF c.queue i&&qB c.queue i) k;unfold Jo az xG xI;dsimp only;rw[aQ,aq,ake C (by omega),ak,bz];unfold qC rX at *
  have E:kF c.queue k = !uJ c.queue k:=rfl;rw[RY,RY];simp only[E,AP C];cases uJ c.queue k with
  |true=>simp
  | false=>
   rw[au,aB ⟨by omega,by omega⟩];simp only[bu];cases c.queue[k].write with
   |true=>rw[aq,aV];simp[kF]
   |false=>rw[au,aV];simp[kF]) (by
  unfold Jo az xG xI;dsimp only;rw[aX,au]) (bF)
 have D:=cD (step:=Jp) c.queue.length (λi=>((c,qC c.queue c.queue.length,rX c.queue c.queue.length,(),(i:Int),()),((List.range i).map (gT c),()))) (.inl (((),()),((List.range c.queue.length).map (gT c),()))) aP (λk C=>by
  have hl:((List.range k).map (gT c)).length=k:=by simp
  unfold Jp az xG xI;dsimp only;rw[aQ,aq,aB ⟨by omega,by omega⟩,ake C (by omega),ak,bz,List.range_succ,kX,hl,List.map_singleton];simp only[bu,jk,cM (show k+1<1073741824 by omega),aq,aAH _ _ h.dr,ak];unfold gT kF;rw[AP C];cases uJ c.queue k<;>cases c.queue[k].write<;>cases AN c.drain (qC c.queue c.queue.length) _<;>first|rfl|simp) (by
  unfold Jp az xG xI;dsimp only;rw[aX,au]) (bF)
 rw[cm]at e D;unfold Pd br
 refine(bq (λo=>Option.bind o _) e).trans ?_
 rw[ak]
 refine(bq (λo=>Option.bind o _) D).trans ?_
 rfl
def fD(c:av):aa aM:=c.queue.map λr=>gB c r.line
def sY(c:av):(fD c).length=c.queue.length:=by unfold fD;rw[eI]
def akf{c:av}{i:Nat}(h:i<c.queue.length)(C:i<(fD c).length):(fD c)[i]=gB c c.queue[i].line:=by simp only[fD,List.getElem_map]
def R3{c:av}(h:Pq c){r:aZ}(C:r∈c.queue):vE c r.line=some (gB c r.line,true)/\dz c.config.ax (gB c r.line)=true:=
 azX h.p h.sp h.se h.mo (h.q r C).1.1 (h.q r C).1.2
def Zb{c:av}(h:Pq c){r:aZ}(C:r∈c.queue):xB c r.line=some (gB c r.line):=
 azZ h.p h.sp h.se h.mo (h.q r C).1.1 (h.q r C).1.2
def aAJ{c:av}(h:Pq c):Qe c=some (fD c):=by
 have D:=h.ql;have e:=cD (step:=Kn) c.queue.length (λi=>(((),(),c.queue,c.queue.length,i,()),(c,(c.queue.take i).map _,()))) (.inl (((),()),(fD c,()))) aP (λk C=>by
  have hl:((c.queue.take k).map (λr=>gB c r.line)).length=k:=by simp;omega
  unfold Kn az xG xI;dsimp only;rw[aQ,aq,aB ⟨by omega,by omega⟩];simp only[bu];rw[(R3 h (cR C)).1,ak,bz,hl,jk,cM,aq,mU C,kX];rfl) (by
  unfold Kn az xG xI;dsimp only;rw[aX,au,ir];rfl) (bF)
 unfold Qe br;simp_all
def akg{c:av}(h:Pq c):Jm c=some (fD c):=by
 have D:=h.ql;have e:=cD (step:=Jl) c.queue.length (λi=>((c,(),i,()),((c.queue.take i).map _,()))) (.inl (((),()),(fD c,()))) aP (λk C=>by
  have hl:((c.queue.take k).map (λr=>gB c r.line)).length=k:=by simp;omega
  unfold Jl az xG xI;dsimp only;rw[aQ,aq,aB ⟨by omega,by omega⟩];simp only[bu];rw[Zb h (cR C),ak,bz,hl,jk,cM,aq,mU C,kX];rfl) (by
  unfold Jl az xG xI;dsimp only;rw[aX,au,ir];rfl) (bF)
 unfold Jm br;simp_all
def zA:aM:=⟨0,0,0⟩
def zQ:aZ:=⟨0,0,0,false,0,0⟩
def fH(c:av)(i:Nat):aM:=(fD c).getD i zA
def lQ(c:av)(i:Nat):aZ:=c.queue.getD i zQ
def AQ{c:av}{i:Nat}(h:i<(fD c).length):(fD c)[i]=fH c i:=by
 unfold fH;rw[ei,bQ h];rfl
def pN{c:av}{i:Nat}(h:i<c.queue.length):c.queue[i]=lQ c i:=by
 unfold lQ;rw[ei,bQ h];rfl
def C9{c:av}(h:Pq c){i:Nat}(hi:i<c.queue.length):dz c.config.ax (fH c i)=true/\0 <= (fH c i).ay/\(fH c i).ay.toNat<c.aY.aA.length/\(fH c i).ay.toNat<c.aS.aJ.length/\(fH c i).ay<aR c.config.ax/\0 <= (fH c i).row:=by
 have e:=akf hi (by rw[sY];exact hi);rw[AQ]at e;have C:=(R3 h (cR hi)).2;rw[<- e]at C;have⟨_,D,E,I,L,O,T⟩:=rM C;have:=h.p.bl;have:=h.dl;simp_all
def v5{c:av}(h:Pq c):c.aY.aA.length<=1048576:=by
 have:=h.p.bl;have:=dS c.config.ax;omega
def dW(c:av)(i:Nat):Bool:=vV c.aY (fH c i)
def aAK{c:av}(h:Pq c)(C:aa Int)(D:aa aM)(Z:Int×Int×Int×Int×af)(P:Int×Int×Int×Int×Int×(aa Int)×Int×Int×af):iter Fs aP ((C,D,(),(),(),(),(0:Int),(0:Int),c.queue,(c.queue.length:Int),(0:Int),()),(c,Z,P,List.replicate c.queue.length false,()))=some (.inl ((C,D,(),(),(),(),qC c.queue c.queue.length,rX c.queue c.queue.length,()),(c,Z,P,(List.range c.queue.length).map (kF c.queue),()))):=by
 have L:=h.ql;have e:=cD (step:=Fs) c.queue.length (λi=>((C,D,(),(),(),(),qC c.queue i,rX c.queue i,c.queue,(c.queue.length:Int),(i:Int),()),(c,Z,P,rW (kF c.queue) c.queue.length i,()))) (.inl ((C,D,(),(),(),(),qC c.queue c.queue.length,rX c.queue c.queue.length,()),(c,Z,P,(List.range c.queue.length).map (kF c.queue),()))) aP (λk E=>by
  have O:=RZ (λi=>kF c.queue i && !qB c.queue i) k;have T:=RZ (λi=>kF c.queue i&&qB c.queue i) k;have I:kF c.queue k = !uJ c.queue k:=rfl;have hl:=R0 (f:=kF c.queue) (n:=c.queue.length) (k:=k) (by omega);have U:((rW (kF c.queue) c.queue.length k).set k (!uJ c.queue k)).length=c.queue.length:=by rw[ji,hl]
  rw[<- R1 E];unfold Fs az xG xI xL;dsimp only;rw[aQ,aq,aB ⟨by omega,by omega⟩,aAF E (by omega),ak,aB ⟨by omega,by omega⟩,aB,aB ⟨by omega,by simp only[bu];omega⟩,aB (by simp only[bu];omega),bz];simp only[bu,List.getElem_set_self];unfold qC rX at *
  rw[RY,RY];simp only[I,AP E];cases uJ c.queue k with
  | true=>
   simp[*]
  | false=>
   rw[gM,aq];cases c.queue[k].write with
   |true=>rw[ aV];simp
   | false=>
    rw[au,aB ⟨by omega,by rw[ji];omega⟩,aB (by rw[ji];omega),aV];simp) (by
  unfold Fs az xG xI xL;dsimp only;rw[aX,au,R2]) (bF)
 rw[cm,Za]at e;exact e
def sZ(c:av):Nat->aa (Int×Bool)
 |0=>[]
 |k+1=>bif gT c k&&dW c k then nM (sZ c k) (fH c k).ay true else sZ c k
def ym(c:av)(k:Nat)(b:Int):Bool:=(List.range k).any λi=>gT c i&&dW c i&&b==(fH c i).ay
def akh(c:av)(b:Int):∀ k,mI (sZ c k) b=ym c k b
 |0=>rfl
 | k+1=>by
  have C:=akh c b k;have e:ym c (k+1) b=(ym c k b || (gT c k&&dW c k&&b==(fH c k).ay)):=by
   unfold ym
   grind
  rw[e,<- C];show mI (bif gT c k&&dW c k then nM _ (fH c k).ay true else sZ c k) b=_;cases gT c k&&dW c k with
  |false=>simp
  |true=>rw[aq,ayL,bZ,Bool.or_comm]
def aAL{c:av}(h:Pq c)(D:aa Int)(Z:Int×Int×Int×Int×af)(P:Int×Int×Int×Int×Int×(aa Int)×Int×Int×af):iter Ft aP ((D,fD c,(),(),(),(),qC c.queue c.queue.length,rX c.queue c.queue.length,(),(),(),c.queue,(c.queue.length:Int),(0:Int),()),(c,Z,P,(List.range c.queue.length).map (kF c.queue),List.replicate c.queue.length false,List.replicate c.queue.length false,([]:aa (Int×Bool)),()))=some (.inl ((D,fD c,(),(),(),(),(),(),()),(c,Z,P,(List.range c.queue.length).map (gT c),(List.range c.queue.length).map (dW c),sZ c c.queue.length,()))):=by
 have hq:=h.ql;have E:=v5 h;have e:=cD (step:=Ft) c.queue.length (λi=>((D,fD c,(),(),(),(),qC c.queue c.queue.length,rX c.queue c.queue.length,(),(),(),c.queue,(c.queue.length:Int),(i:Int),()),(c,Z,P,(List.range c.queue.length).map (kF c.queue),rW (gT c) c.queue.length i,rW (dW c) c.queue.length i,sZ c i,()))) (.inl ((D,fD c,(),(),(),(),(),(),()),(c,Z,P,(List.range c.queue.length).map (gT c),(List.range c.queue.length).map (dW c),sZ c c.queue.length,()))) aP (λk C=>by
  have hl:=R0 (f:=gT c) (n:=c.queue.length) (k:=k) (by omega);have I:=R0 (f:=dW c) (n:=c.queue.length) (k:=k) (by omega);have L:=sY c;have hl4:((List.range c.queue.length).map (kF c.queue)).length=c.queue.length:=by simp
  obtain⟨ho,O,T,o3,o4,U⟩:=C9 h C;have Y:=az1 (r:=c.aY) (a:=fH c k) U O T E;have hd:gT c k=(kF c.queue k&&(AN c.drain (qC c.queue c.queue.length) c.queue[k].write ||(!c.queue[k].write&&rX c.queue c.queue.length==0))):=by unfold gT;rw[AP C]
  have hhb:sZ c (k+1)=bif gT c k&&dW c k then nM (sZ c k) (fH c k).ay true else sZ c k:=rfl;have hit:dW c k=vV c.aY (fH c k):=rfl;rw[<-R1 C,<-R1 C,hhb];unfold Ft az xG xI xL;dsimp only;rw[aQ,aq,aB ⟨by omega,by omega⟩,aB ⟨by omega,by omega⟩,aB];simp only[bu,yl C,aAG _ _ h.dr,ak,AQ,Y,bz (show k<4611686018427387904 by omega),List.getElem_set_self,ji,hl,I,L];rw[hd,hit];cases kF c.queue k<;>cases AN c.drain (qC c.queue c.queue.length) c.queue[k].write<;>cases c.queue[k].write<;>cases vV c.aY (fH c k)<;>cases rX c.queue c.queue.length==0<;>simp[C]) (by
  unfold Ft az xG xI xL;dsimp only;rw[aX,au,R2,R2]) (bF)
 rw[cm,Za,Za]at e;exact e
def R4(e:cA):cA:=⟨e.line,e.code,(if (999:Int)<(W6 (e.times+(1:Int)))then (999:Int)else (W6 (e.times+(1:Int))))⟩
def zEE:cA:=⟨0,0,0⟩
def uK(l:aa cA)(line code:Int):aa cA:=match l.findIdx? (lP ⟨line,code,1⟩)with
 |some i=>l.set i (R4 (l.getD i zEE))
 |none=>bif ((l.length:Int)==(6:Int))then l.drop 1++[⟨line,code,1⟩]else l++[⟨line,code,1⟩]
def aAM{l:aa cA}(h:kR l=true){line code:Int}(D:0<=line/\line<=1023)(E:code=1\/code=2):QN l line code=some (uK l line code,true):=by
 have hl:l.length<=6:=by
  simp only[kR,aO,fY]at h;omega
 have I:aN line 0 1023=true:=bA.2 D;unfold QN KV uK bP xA xZ;rw[cM (by simp;omega),aq,ak,aiE _ (by omega),ak,h,bB,au,dR,ak,I,bB,au,kY];have e:=vN (step:=KW) l (lP ⟨line,code,1⟩) (λk=>((line,code,(),(),(l.length:Int),(k:Int),()),(l,()))) (λi=>.inl (((),true,()),(l.set i (R4 (l.getD i zEE)),()))) (.inr (.inl ((line,code,(),()),(l,())))) aP (λk L=>by
  unfold KW lP az bf xG xL;dsimp only;rw[aQ,aq,aB ⟨by omega,by omega⟩,aB];simp only[bu];rw[aB ⟨by omega,by omega⟩,aB,bz,kV _ L];cases l[k].line==line<;>cases l[k].code==code<;>rfl) (by
  unfold KW az bf xG xL;dsimp only;rw[aX,au]) (bF)
 rw[cm]at e;have O:iter XM aP ((line,code,(),(),(l.length:Int),(0:Int),()),(l,()))=_:=e;rcases E with rfl|rfl
 ·rw[bne_self_eq_false,au,O];cases l.findIdx? (lP ⟨line,1,1⟩)with
  |some i=>rfl
  | none=>
   rw[ak,Sum.elim_inr,dX];dsimp only;cases C:(l.length:Int)==(6:Int)with
   |false=>rw[au,au,cM (by simp;omega)];rfl
   | true=>
    have C:=eq_of_beq C;rw[aq,aq,bH ⟨by omega,by omega,by omega⟩,cM (by simp;omega),aq,ak,cM (by simp;omega),aq];simp
 ·rw[fO (by omega),aq,bne_self_eq_false,au,e];cases l.findIdx? (lP ⟨line,2,1⟩)with
  |some i=>rfl
  | none=>
   rw[ak,Sum.elim_inr,dX];dsimp only;cases C:(l.length:Int)==(6:Int)with
   |false=>rw[au,au,cM (by simp;omega)];rfl
   | true=>
    have C:=eq_of_beq C;rw[aq,aq,bH ⟨by omega,by omega,by omega⟩,cM (by simp;omega),aq,ak,cM (by simp;omega),aq];simp
def aAN{l:aa cA}(h:kR l=true){line code:Int}(D:0 <= line/\line <= 1023)(U:code=1 \/ code=2):PC l line code=some (uK l line code,true):=by
 have hl:l.length <= 6:=by
  simp only[kR,aO,fY]at h;omega
 have E:aN line 0 1023=true:=bA.2 D;have I:aN 1 1 999=true:=rfl;have L:E6 ⟨line,code,1⟩=some true:=by
  unfold E6;rw[dN,ak,E,dN,I]
  grind
 unfold PC uK xA xC xZ;rw[cM (by simp;omega),aq,aiD,ak,h,bB,au,L,ak,bB,au];have C:=aiC l ⟨line,code,1⟩ (by omega);dsimp only at C;rw[C,ak,kY];unfold gz;cases hi:l.findIdx? (lP ⟨line,code,1⟩)with
 | some i=>
  have⟨O,Y,Z⟩:=nq.1 hi;dsimp only;rw[aQ,aq,aB ⟨by omega,by omega⟩,aB,aB ⟨by omega,by omega⟩,aB];rw[kV _ O];rfl
 | none=>
  dsimp only;rw[aX,au];by_cases T:l.length=6
  ·rw[aQ,show ((l.length:Int)==6)=true by rw[T];rfl,bH ⟨by omega,by omega,by omega⟩,cM (by simp;omega),cM (by simp;omega)];simp
  ·rw[aX,au,jg (by omega),au,cM (by simp;omega),aq]
def Zc(c:av)(l:aa cA):av:=⟨c.config,c.box,c.now,c.aY,c.ready,c.array,c.spare,c.aS,c.bI,c.guard,c.pending,c.queue,c.shares,c.drain,c.aT,c.cU,l,c.trace,c.cr⟩
def Da(c:av)(n code:Int):av:=bif code != 0 then Zc c (uK c.errors n code)else c
def aAO{c:av}(h:kR c.errors=true){n code:Int}(C:0<=n/\n<=1023)(h2:code=0\/code=1\/code=2):Av c n code=some ((),(Da c n code,())):=by
 unfold Av Da;rcases h2 with rfl|h2
 ·rfl
 ·rw[aAM h C h2,fO (by omega)];rfl
def aki{c:av}(h:kR c.errors=true){n code:Int}(C:0<=n/\n<=1023)(h2:code=0\/code=1\/code=2):Ct c n code=some ((),(Da c n code,())):=by
 unfold Ct Da;rcases h2 with rfl|h2
 ·rfl
 ·rw[aAN h C h2,fO (by omega)];rfl
def akj(q:aa aZ):Prop:=∀i (h:i<q.length),(q.take i).any (λx=>x.id==q[i].id)=false
def aAP{q:aa aZ}{i:Nat}(h:i<q.length)(hl:q.length<=12):QS q (i:Int) (W6 ((i:Int)+1))=some (q.take i++q.drop (i+1),([],())):=by
 have C:(splice q i ((q.take ((q.length:Int).toNat)).drop (i+1))).length=q.length:=by
  rw[th _ _ _ (by simp;omega)]
 have E:((q.take ((q.length:Int).toNat)).drop (i+1))=q.drop (i+1):=by rw[bu,ir]
 unfold QS;rw[bz,bH ⟨by omega,by omega,by omega,by omega⟩,jg (by omega),au,bH ⟨by omega,by omega,by omega⟩,bH ⟨by omega,by omega,by omega⟩];simp only[bu]at C ⊢;rw[bH ⟨by omega,by omega,by omega,by omega⟩,bH ⟨by omega,by omega,by omega⟩,bH ⟨by omega,by omega⟩];have D:i+(q.length-(i+1))-0=i+(q.length-(i+1)):=by omega
 rw[D,Y3 _ _ _ (by omega)];unfold splice;rw[ir,List.take_append_of_le_length (by simp;omega),List.take_of_length_le (by simp;omega)]
def aAQ{q:aa aZ}(C:akj q){i:Nat}(h:i<q.length)(hl:q.length <= 12):PO q q[i].id=some (q.take i++q.drop (i+1),true):=by
 have D:q.findIdx? (λr=>r.id==q[i].id)=some i:=by
  rw[nq]
  refine⟨h,by simp,λj E=>?_⟩
  have:=List.any_eq_false.1 (C i h) q[j] (jb.2 ⟨j,by rw[fU];omega,by rw[List.getElem_take]⟩);simp_all
 unfold PO xA xZ;rw[Yi _ _ (by omega),ak];unfold gz;rw[D];dsimp only;rw[aX,au,bH ⟨by omega,by omega,by omega⟩,cM (by simp;omega),aq,bz,bH ⟨by omega,by omega,by omega⟩,cM (by simp;omega),aq];simp_all
def rY:aZ:=⟨0,0,0,false,0,0⟩
def AR(s:aa cE)(t:Int):aa cE:=match qk s ((List.replicate 4 false).set t.toNat true)with
 |some (l,_)=>l
 |none=>[]
def oG(c:av)(i:Nat)(a:en)(e:aa cA)(x:fK):av:=
 ⟨c.config,c.box,c.now,c.aY,c.ready,a,c.spare,c.aS,c.bI,c.guard,c.pending,c.queue.take i++c.queue.drop (i+1),AR c.shares (c.queue.getD i rY).dL,c.drain,c.aT,c.cU,e,c.trace,c.cr++[x]⟩
def oH(c:av)(i:Nat):av:=
 let r:=c.queue.getD i rY
 let n:=ic c.config.ax (gB c r.line)
 bif r.write then oG c i ⟨c.array.cells.set n ⟨C8 r.data,false⟩,c.array.bC,c.array.bw⟩ c.errors ⟨r.id,c.now,0,0⟩
 else oG c i ⟨c.array.cells.set n (sX (c.array.cells.getD n vT)),c.array.bC,c.array.bw⟩ (bif mz (c.array.cells.getD n vT) != 0 then uK c.errors (n:Int) (mz (c.array.cells.getD n vT))else c.errors) ⟨r.id,c.now,LP (c.array.cells.getD n vT),mz (c.array.cells.getD n vT)⟩
def R5{d:cq}(h:Sy d.symbols):mz d=0 \/ mz d=1 \/ mz d=2:=by
 have⟨E,C,D⟩:=RX h;unfold mz;cases d.jm with
 |true=>simp_all
 |false=>exact(C0 C D).2.2
structure oI (c:av) (i:Nat) (B:Int):Prop where
 ad:∀r∈c.queue,vE c r.line=some (gB c r.line,true)/\dz c.config.ax (gB c r.line)=true
 tn:∀r∈c.queue,0<=r.dL/\r.dL<=3
 ql:c.queue.length<=12
 sh:ia c.shares=true
 shl:c.shares.length=4
 u:akj c.queue
 i:i<c.queue.length
 d:∀r∈c.queue,0<=r.data/\r.data<=4294967295
 a:fy c.config.ax B c.array
 e:kR c.errors=true
 r:c.cr.length<=1000
def oI.facts{c:av}{i:Nat}{B:Int}(h:oI c i B){r:aZ}(C:r∈c.queue):vE c r.line=some (gB c r.line,true)/\qp c.config.ax (gB c r.line)=(ic c.config.ax (gB c r.line):Int)/\ic c.config.ax (gB c r.line)<c.array.cells.length/\(ic c.config.ax (gB c r.line):Int) <= 1023/\qk c.shares ((List.replicate 4 false).set r.dL.toNat true)=some (AR c.shares r.dL,(qk c.shares ((List.replicate 4 false).set r.dL.toNat true)).get!.2)/\0 <= r.dL/\r.dL.toNat<4:=by
 obtain⟨D,E⟩:=h.ad _ C;have I:=h.tn _ C;obtain⟨L,O⟩:=Lt E;have T:=h.a.cells;have hl:=mT c.config.ax;obtain⟨y,t,e,_⟩:=YV ((List.replicate 4 false).set _ true) (by have:=h.shl;omega) h.sh (by simp[h.shl]);refine⟨D,L,by omega,by omega,?_,I.1,by omega⟩;unfold AR;rw[e];rfl
def akk{c:av}{i:Nat}{B:Int}(h:oI c i B):QT c (i:Int)=some ((),(oH c i,())):=by
 have hi:=h.i;have⟨f1,f3,f4,f5,f6,f7,f8⟩:=h.facts (cR hi);have C:=h.d _ (cR hi);have D:=h.a.syms _ (cR f4);have E:c.queue.getD i rY=c.queue[i]:=kV _ hi;have L:=h.r;unfold QT xL;rw[aB ⟨by omega,by omega⟩,aB];simp only[bu];rw[f1,ak,aAP hi h.ql,ak,bH (by decide)];have I:(4:Int).toNat=4:=rfl;rw[I,aB ⟨f7,by simpa using f8⟩,aB (by simpa using f8)];dsimp only;rw[f6,ak];dsimp only;unfold oH;rw[E];dsimp only;cases hw:c.queue[i].write with
 | true=>
  rw[ XX,ak,(LN C.1 C.2).1,ak,aB ⟨by omega,by omega⟩,aB,cM (by simp;omega)];unfold oG;simp_all
 | false=>
  rw[au,au,XX,ak,f3,kV _ f4]
  refine(bq (λo=>Option.bind o _) (aAD (c:=⟨c.config,c.box,c.now,c.aY,c.ready,c.array,c.spare,c.aS,c.bI,c.guard,c.pending,c.queue.take i++c.queue.drop (i+1),AR c.shares c.queue[i].dL,c.drain,c.aT,c.cU,c.errors,c.trace,c.cr⟩) f4 D)).trans ?_
  rw[ak];unfold vZ cP;dsimp only;rw[cM (by simp;omega),aq,ak]
  refine(bq (λo=>Option.bind o _) (aAO (by exact h.e) ⟨by omega,f5⟩ (R5 D))).trans ?_
  rw[ak];unfold Da oG Zc;rw[E];dsimp only;cases mz c.array.cells[ic c.config.ax (gB c c.queue[i].line)] != 0<;>rfl
def akl{c:av}{i:Nat}{B:Int}(h:oI c i B)(I:∀ r∈c.queue,xB c r.line=some (gB c r.line)):PR c (i:Int)=some ((),(oH c i,())):=by
 have hi:=h.i;have⟨f1,f3,f4,f5,f6,f7,f8⟩:=h.facts (cR hi);have f2:=I _ (cR hi);have C:=h.d _ (cR hi);have D:=h.a.syms _ (cR f4);have E:c.queue.getD i rY=c.queue[i]:=kV _ hi;have O:=h.r;unfold PR xL;rw[aB ⟨by omega,by omega⟩,aB];simp only[bu];rw[f2,ak,Q4,ak,f3,aAQ h.u hi h.ql,ak,bH (by decide)];have L:(4:Int).toNat=4:=rfl;rw[L,aB ⟨f7,by simpa using f8⟩,aB (by simpa using f8)];dsimp only;rw[ajK _ _ (by have:=h.shl;omega),f6,ak];dsimp only;unfold oH;rw[E];dsimp only;cases hw:c.queue[i].write with
 | true=>
  rw[ aj8 C.1 C.2,ak,aB ⟨by omega,by omega⟩,aB,cM (by simp;omega)];unfold oG;simp_all
 | false=>
  rw[au,au,kV _ f4]
  refine(bq (λo=>Option.bind o _) (akc (c:=⟨c.config,c.box,c.now,c.aY,c.ready,c.array,c.spare,c.aS,c.bI,c.guard,c.pending,c.queue.take i++c.queue.drop (i+1),AR c.shares c.queue[i].dL,c.drain,c.aT,c.cU,c.errors,c.trace,c.cr⟩) f4 D)).trans ?_
  rw[ak];dsimp only
  refine(bq (λo=>Option.bind o _) (aki (by exact h.e) ⟨by omega,f5⟩ (R5 D))).trans ?_
  rw[ak];unfold Da oG Zc vZ cP;rw[E];dsimp only;cases mz c.array.cells[ic c.config.ax (gB c c.queue[i].line)] != 0 with
  | true=>
   rw[aq];rw[cM (by simp;omega)];rfl
  | false=>
   rw[au];rw[cM (by simp;omega)];rfl
def dw(c:av)(x:aE):av:=⟨c.config,c.box,c.now,fj c.aY x,mj c.config.ax c.ready ⟨c.now,x⟩,c.array,c.spare,c.aS,c.bI,c.guard,c.pending,c.queue,c.shares,c.drain,c.aT,c.cU,c.errors,c.trace++[⟨c.now,x⟩],c.cr⟩
def akm(c:av)(p:fA):av:=⟨c.config,c.box,c.now,c.aY,c.ready,c.array,c.spare,c.aS,c.bI,c.guard,c.pending,c.queue,c.shares,c.drain,p,c.cU,c.errors,c.trace,c.cr⟩
def qD(c:av)(r:dn):av:=⟨c.config,c.box,c.now,c.aY,c.ready,c.array,c.spare,r,c.bI,c.guard,c.pending,c.queue,c.shares,c.drain,c.aT,c.cU,c.errors,c.trace,c.cr⟩
def akn(c:av)(r:bU):av:=⟨c.config,c.box,c.now,r,c.ready,c.array,c.spare,c.aS,c.bI,c.guard,c.pending,c.queue,c.shares,c.drain,c.aT,c.cU,c.errors,c.trace,c.cr⟩
def Db(c:av)(k:Int):av:=akm c (yg c.aT k c.now)
def R6(c:av)(b:Int):av:=qD (LL c b (c.pending.filter (λa=>!(a.ay==b)))) (vX c.aS b)
def oJ(c:av)(x:aE)(i:Int):av:=
 bif x.kind==1 then uH (dw c x) x else
 bif x.kind==5 then R6 (dw c x) x.ay else
 bif x.kind==2 ||x.kind==3 then oH (dw c x) i.toNat else
 bif x.kind==4 then dw c x else
 bif x.kind==9 then gC (Db (dw c x) 9) c.bI.length []else Db (dw c x) x.kind
structure Bs (c:av):Prop where
 w:uI 100000 c
 u:vY c.pending
 pk:∀a∈c.pending,0<=a.ay/\a.ay<aR c.config.ax
 zt:∀t∈c.bI,kB t
 rf:ff c.aS=true
 bl:(c.aY.aA.length:Int)=aR c.config.ax
 l1:c.ready.last.length<1073741824
 l2:c.ready.aU.length<1073741824
 tl:c.trace.length<10000
def Bs.dw{c:av}(h:Bs c)(x:aE):uI 100000 (dw c x):=⟨h.w.hB,h.w.g,h.w.a,h.w.k,h.w.p,h.w.t,h.w.d,h.w.r⟩
def oI.dw{c:av}{n:Nat}{B:Int}(h:oI c n B)(x:aE):oI (dw c x) n B:=⟨h.ad,h.tn,h.ql,h.sh,h.shl,h.u,h.i,h.d,h.a,h.e,h.r⟩
def aAR{c:av}(h:uI 100000 c):iter xQ aP (((),(c.bI.length:Int),(0:Int),()),((⟨c.config,c.box,c.now,c.aY,c.ready,c.array,c.spare,c.aS,c.bI,c.guard,([]:aa aM),c.queue,c.shares,c.drain,c.aT,c.cU,c.errors,c.trace,c.cr⟩:av),()))=some (.inl ((),(gC c c.bI.length [],()))):=aAl h
def aAS{c:av}{x:aE}(C:1 <= x.kind/\x.kind <= 9)(hb:x.kind <= 5 -> 0 <= x.ay/\x.ay.toNat<c.aY.aA.length):PT c x=some ((),(akn c (fj c.aY x),())):=by
 unfold PT fj akn xL;rcases kinds C with h|h|h|h|h|h|h|h|h<;>(try (have hb:=hb _))<;>simp[h,hb]
def R7{g:aI}{x:aE}(h:cQ g x=true)(C:x.kind=1):0 <= x.row/\x.row<g.rows:=by
 simp[cQ,aO]at h;have D:=h.2.2.2.1;rw[sP,C,show ((1:Int)==1)=true from rfl,aq,bA]at D;omega
def aAT{c:av}(h:Bs c){x:aE}(E:jP c.config.ax c.aY x=true){i:Int}(I:x.kind=2 \/ x.kind=3 -> oI c i.toNat 100000/\0 <= i):K1 c x i=some ((),(oJ c x i,())):=by
 have⟨hg,hlen,L,hb⟩:=CS E;have O:cQ c.config.ax x=true:=by
  simp only[jP,aO]at E
  grind
 have b1:=dS c.config.ax;have w:=h.dw x;have ht:=h.w.t;have hd:=h.w.d;have hr:=h.w.r;have LQ:=h.tl;have er:xy c.config.ax c.aY x=some (fj c.aY x,true):=by
  rw[Yv _ _ _ (by omega)];unfold FJ;simp_all
 unfold K1 oJ br;rw[cM (by simp;omega),aq,ai2 _ _ _ h.l1 h.l2,ak,er,ak];rcases kinds L with q|q|q|q|q|q|q|q|q<;>rw[q]<;>simp only[Int.reduceBEq,Int.reduceBNe,aq,au,Bool.or_true,Bool.or_false,Bool.true_or,Bool.false_or,Bool.or_self]
 ·have⟨C,T⟩:=hb (by omega);have⟨U,Y⟩:=R7 O q
  refine(bq (λo=>Option.bind o _) (aAh (c:=dw c x) x w.g w.a w.p h.zt C (by show x.ay<aR c.config.ax;omega) U Y (by show x.ay.toNat<c.bI.length;omega) (by show x.ay.toNat<c.guard.length;omega))).trans ?_
  rfl
 ·have⟨s,D⟩:=I (.inl q);have e:=akk (s.dw x);rw[Int.toNat_of_nonneg D]at e
  refine(bq (λo=>Option.bind o _) e).trans ?_
  rfl
 ·have⟨s,D⟩:=I (.inr q);have e:=akk (s.dw x);rw[Int.toNat_of_nonneg D]at e
  refine(bq (λo=>Option.bind o _) e).trans ?_
  rfl
 ·rfl
 ·have⟨C,T⟩:=hb (by omega);have⟨y,Z⟩:=az9 h.rf (b:=x.ay) C (by omega)
  refine(bq (λo=>Option.bind o _) (ajX w.hB (dw c x) w.g w.a C (by show x.ay<aR c.config.ax;omega))).trans ?_
  rw[ak];unfold cP;dsimp only;rw[aAd _ _ (by show c.pending.length<1000000;have:=h.w.p;omega),ak];dsimp only
  refine(bq (λo=>Option.bind o _) (ajY _ (by exact w.k) C (by show x.ay.toNat<c.bI.length;omega) (by show x.ay.toNat<c.guard.length;omega))).trans ?_
  rw[ak];unfold qy;dsimp only
  refine(bq (λo=>Option.bind o _) Z).trans ?_
  rfl
 ·have⟨y,e⟩:=RQ c.aT (k:=6) (by omega) c.now;rw[e,ak];rfl
 ·have⟨y,e⟩:=RQ c.aT (k:=7) (by omega) c.now;rw[e,ak];rfl
 ·have⟨y,e⟩:=RQ c.aT (k:=8) (by omega) c.now;rw[e,ak];rfl
 ·have⟨y,e⟩:=RQ c.aT (k:=9) (by omega) c.now;rw[e,ak]
  refine(bq (λo=>Option.bind o _) (aAR (c:=Db (dw c x) 9) ⟨w.hB,w.g,w.a,w.k,w.p,w.t,w.d,w.r⟩)).trans ?_
  rfl
def aAU{c:av}(h:Bs c){x:aE}(E:jP c.config.ax c.aY x=true){i:Int}(I:x.kind=2 \/ x.kind=3 -> oI c i.toNat 100000/\0 <= i)(L:∀ r∈c.queue,xB c r.line=some (gB c r.line)):An c x i=some ((),(oJ c x i,())):=by
 have⟨hg,hlen,O,hb⟩:=CS E;have T:cQ c.config.ax x=true:=by
  simp[jP,aO]at E;simp_all
 have b1:=dS c.config.ax;have w:=h.dw x;have ht:=h.w.t;have hd:=h.w.d;have hr:=h.w.r;have LQ:=h.tl;unfold An oJ br;rw[cM (by simp;omega),aq,ayk _ _ _ h.l1 h.l2,ak]
 refine(bq (λo=>Option.bind o _) (aAS O (λU=>by have:=hb U;exact⟨this.1,this.2⟩))).trans ?_
 rw[ak];rcases kinds O with q|q|q|q|q|q|q|q|q<;>rw[q]<;>simp only[Int.reduceBEq,Int.reduceBNe,aq,au,Bool.or_true,Bool.or_false,Bool.true_or,Bool.false_or,Bool.or_self]
 ·have⟨C,Y⟩:=hb (by omega);have⟨Z,r1⟩:=R7 T q
  refine(bq (λo=>Option.bind o _) (aAi (c:=dw c x) x w.g w.a w.p h.u h.zt C (by show x.ay<aR c.config.ax;omega) Z r1 (by show x.ay.toNat<c.bI.length;omega) (by show x.ay.toNat<c.guard.length;omega))).trans ?_
  rfl
 ·have⟨s,D⟩:=I (.inl q);have e:=akl (s.dw x) L;rw[Int.toNat_of_nonneg D]at e
  refine(bq (λo=>Option.bind o _) e).trans ?_
  rfl
 ·have⟨s,D⟩:=I (.inr q);have e:=akl (s.dw x) L;rw[Int.toNat_of_nonneg D]at e
  refine(bq (λo=>Option.bind o _) e).trans ?_
  rfl
 ·rfl
 ·have⟨C,Y⟩:=hb (by omega);have⟨y,e4⟩:=az8 h.rf (b:=x.ay) C (by omega)
  refine(bq (λo=>Option.bind o _) (ajZ w.hB (dw c x) w.g w.a w.k w.p C (by show x.ay<aR c.config.ax;omega) (by show x.ay.toNat<c.bI.length;omega) (by show x.ay.toNat<c.guard.length;omega))).trans ?_
  rw[ak]
  refine(bq (λo=>Option.bind o _) e4).trans ?_
  rfl
 ·have⟨y,e⟩:=RR c.aT (k:=6) (by omega) c.now
  refine(bq (λo=>Option.bind o _) e).trans ?_
  rfl
 ·have⟨y,e⟩:=RR c.aT (k:=7) (by omega) c.now
  refine(bq (λo=>Option.bind o _) e).trans ?_
  rfl
 ·have⟨y,e⟩:=RR c.aT (k:=8) (by omega) c.now
  refine(bq (λo=>Option.bind o _) e).trans ?_
  rfl
 ·have⟨y,e⟩:=RR c.aT (k:=9) (by omega) c.now
  refine(bq (λo=>Option.bind o _) e).trans ?_
  rw[ak]
  refine(bq (λo=>Option.bind o _) (aAn (c:=Db (dw c x) 9) ⟨w.hB,w.g,w.a,w.k,w.p,w.t,w.d,w.r⟩ (by show (fj c.aY x).aA.length=c.bI.length;rw[Yw];omega) h.pk)).trans ?_
  rfl
def aAV{l m:aa Int}(h:l.length=m.length)(D:(l.zip m).all vL=true):(∀ x∈l,0 <= x/\x <= 100000) /\ ∀ x∈m,0 <= x/\x <= 100000:=by
 rw[cu]at D;have key:∀ i _ (E:i<m.length),(0 <= l[i]/\l[i] <= 100000)/\(0 <= m[i]/\m[i] <= 100000):=λi L E=>by
  have I:i<(l.zip m).length:=by rw[List.length_zip];omega
  have:=D _ (cR I);rw[List.getElem_zip]at this;simp[vL,aO,bA]at this;exact this
 constructor
 ·intro x C;obtain⟨i,hi,rfl⟩:=jb.1 C
  grind
 ·intro x C;obtain⟨i,hi,rfl⟩:=jb.1 C;simp_all
def fy.v7{g:aI}{a:en}(h:oA g a=true):fy g 100000 a:=by
 simp only[oA,aO,fY]at h;have⟨Y,C,D,E,I,L⟩:=h;have⟨O,T⟩:=aAV (by omega) L
 refine⟨C,λc U=>?_,D,E,O,T⟩
 exact Sy.of (cu.1 I c U)
def Bs.of{c:av}(D:dK c)(h:dH c=true)(I:c.trace.length<10000):Bs c:=by
 have E:=Pq.of D h;have z1:c.box.bT.weights.length <= 1048576:=D.1.1;have h0:=h;simp only[dH,aO]at h;have⟨L,h2,h3,h4,O,T,h7,h8,C,CR,xW,qd,uw,uy,vQ,uz,AD,C4,C5,FQ,vA,FR⟩:=h;have⟨f1,f2⟩:=FW (by omega) L;simp only[nR,aO]at f1;simp only[qw,aO,fI,gW,qL,cu,fk]at C;have⟨C,U,Y,Z,g4,g5,g6⟩:=C;have uR:=E.pl;have⟨hg,rl,ra⟩:=FM O;have b1:=dS c.config.ax
 refine⟨⟨by decide,hg,fy.v7 T,f1.2.2.2.2.2.1,by omega,Y,Z,U⟩,λi hi=>?_,λa ha=>?_,D.2.2.2.2.2.2.1.2,C,E.p.bl,by omega,by omega,I⟩
 ·have hb:=g6 i hi;unfold uv at hb
  grind
 ·have⟨_,k1,k2,_⟩:=rM (E.pe a ha);simp_all
def oI.of{c:av}(L:dK c)(h:dH c=true){n:Nat}(O:n<c.queue.length)(C:c.cr.length <= 1000):oI c n 100000:=by
 have D:=Pq.of L h;simp[dH,aO]at h;have⟨Y,Z,h3,h4,h5,T,h7,h8,h9,E,xW,qd,uw,uy,vQ,uz,AD,C4,C5,U,vA,FR⟩:=h;simp[iX,aO,cu,fk]at E;have⟨I,q2⟩:=E
 refine⟨λr C=>R3 D C,λr C=>(D.q r C).2.1,D.ql,D.sh,D.shl,λi hi=>?_,O,λr C=>?_,fy.v7 T,U,C⟩
 ·cases i with
  |zero=>simp
  | succ i=>
   have hb:=I _ hi;rw[Lj hi]at hb;simp_all
 ·obtain⟨i,hi,rfl⟩:=jb.1 C;have hb:=I i hi;unfold rR at hb;rw[bQ hi]at hb;simp[pK,Rj,aO,bA]at hb;simp_all
def v8{g:aI}{B:Int}{a:en}(h:fy g B a):Ry a:=by
 have D:=h.cells;have E:=h.bC;have I:=h.bw;have L:=mT g;have O:=qm g;exact⟨⟨by omega,λc C=>by unfold Rx;rw[(h.syms c C).1];omega⟩,by omega,by omega⟩
def Zd{l:aa cx}(h:l.length <= 1048576 /\ ∀y∈l,kB y){t:cx}(C:kB t)(i:Nat):(l.set i t).length <= 1048576 /\ ∀y∈l.set i t,kB y:=by grind
def ako{k:Int}(h:aN k 1 16=true):kB (yf k):=by
 have:=bA.1 h;unfold yf kB
 grind
def aAW{t:cx}(h:kB t)(row dj:Int):kB (uG t row dj).1:=by
 have hl:=Y0 (t:=t) row;unfold kB at h ⊢;unfold uG
 grind
def aAX{c:av}(E:dK c)(I:c.ready.aU.length <= 4)(ht:c.trace.length <= 10000)(x:aE):dK (dw c x):=by
 have⟨L,C,⟨O,z4⟩,T,U,Y,Z,z9,gQ,jx,jR,jS,jy,mq⟩:=E;have D:=YF c.config.ax c.ready ⟨c.now,x⟩;refine⟨L,by unfold ajp at C ⊢;show (fj _ x).aA.length <= _;rw[Yw];exact C,⟨by show (mj _ _ _).last.length <= _;rw[D.1];exact O,Nat.le_trans (D.2 I) (by decide)⟩,T,U,Y,Z,z9,gQ,jx,jR,jS,by simp[dw];omega,mq⟩
def R8{c:av}(D:dK c){a:en}(E:Ry a){r:dn}(I:AG r){t:aa cx}(L:t.length <= 1048576 /\ ∀ y∈t,kB y){C:aa Int}(O:C.length <= 1048576){pd:aa aM}(T:pd.length <= 1048576)(pw:fA):dK ⟨c.config,c.box,c.now,c.aY,c.ready,a,c.spare,r,t,C,pd,c.queue,c.shares,c.drain,pw,c.cU,c.errors,c.trace,c.cr⟩:=by
 have⟨U,Y,Z,z5,z6,z7,z8,z9,gQ,jx,jR,jS,jy,mq⟩:=D;exact⟨U,Y,Z,E,z6,I,L,O,T,jx,jR,jS,jy,mq⟩
def aAY{c:av}(C:dK c)(h:uI 100000 c)(x:aE)(D:0 <= x.ay)(E:x.ay<aR c.config.ax)(I:0 <= x.row)(L:x.row<c.config.ax.rows):dK (uH c x):=by
 have zt:=C.2.2.2.2.2.2.1;have hb:x.ay.toNat<c.bI.length:=by have:=h.t;omega
 have O:=h.p;refine R8 C (v8 (YN h.g _ h.hB h.a D E I L)) C.2.2.2.2.2.1 (Zd zt ?_ _) C.2.2.2.2.2.2.2.1 ?_ _
 ·unfold sW;rw[kV];exact aAW (zt.2 _ (cR hb)) _ _
 ·have T:(oF c x).length <= c.pending.length:=List.length_filter_le _ _;have U:=Y4 c.config.ax.rows x.row;have Y:=RS x.ay (mm c.config.ax.rows x.row) (oF c x)
  grind
def akp(r:dn)(b:Int):(vX r b).aJ.length=r.aJ.length:=by
 unfold vX;cases decide (r.aJ.getD b.toNat 0 = -2)<;>simp
def aAZ{c:av}(C:dK c)(h:uI 100000 c){b:Int}(D:0 <= b)(E:b<aR c.config.ax):dK (R6 c b):=by
 have⟨_,_,_,_,I,L,O,T⟩:=fe h.g;have zt:=C.2.2.2.2.2.2.1;have U:=h.p;have Y:=Y5 (λa:aM=>!(a.ay==b)) c.pending;exact R8 C (v8 (FX h.g _ h.hB h.a D E _ (by omega))) (by unfold AG;rw[akp];exact C.2.2.2.2.2.1) (Zd zt (ako h.k) _) (by show (c.guard.set _ _).length <= _;rw[ji];exact C.2.2.2.2.2.2.2.1) (by show (c.pending.filter _).length <= _;omega) _
def akq{l:aa cx}(h:l.length<=1048576/\∀ y∈l,kB y){t:cx}(C:kB t):∀ k:Nat,((List.range k).foldl (λd b=>d.set b t) l).length<=1048576/\∀ y∈(List.range k).foldl (λd b=>d.set b t) l,kB y
 |0=>h
 |k+1=>by rw[yh];exact Zd (akq h C k) C k
def aA0{c:av}(C:dK c)(h:uI 100000 c)(k:Nat)(D:(k:Int)<=aR c.config.ax):dK (gC c k []):=
 R8 C (v8 (RT h.g c.config.eC h.hB h.a k D)) (by unfold AG;rw[yj];exact C.2.2.2.2.2.1) (akq C.2.2.2.2.2.2.1 (ako h.k) k) (by rw[yj];exact C.2.2.2.2.2.2.2.1) (by simp) c.aT
def akr{l:aa cA}(n code:Int):(uK l n code).length <= l.length+1:=by
 unfold uK
 grind
def aks{c:av}(I:dK c){i:Nat}(h:oI c i 100000):dK (oH c i):=by
 have⟨L,O,T,z5,U,Y,Z,z9,gQ,jx,jR,jS,jy,mq⟩:=I;have hi:=h.i;have hql:=h.ql;have hr:=h.r;have⟨f1,f3,f4,f5,f6,f7,f8⟩:=h.facts (cR hi);have C:c.queue.getD i rY=c.queue[i]:=kV _ hi;have D:=h.d _ (cR hi);have VP:(AR c.shares c.queue[i].dL).length <= 1048576:=by
  have⟨y,t,e,hl⟩:=YV ((List.replicate 4 false).set c.queue[i].dL.toNat true) (by have:=h.shl;omega) h.sh (by simp[h.shl])
  grind
 have iG:c.errors.length <= 6:=by
  have E:=h.e;simp only[kR,aO,fY]at E;omega
 have key:∀ (a:en) (e:aa cA) (x:fK),Ry a -> e.length <= 100 -> dK (oG c i a e x):=λa e x ha E=>
  ⟨L,O,T,ha,U,Y,Z,z9,gQ,by simp[oG];omega,by unfold oG;rw[C];exact VP,by show e.length <= _;omega,jy,by simp[oG];omega⟩
 unfold oH;rw[C];dsimp only;cases c.queue[i].write with
 |true=>exact key _ _ _ (v8 (h.a.CZ _ (c:=⟨_,false⟩) (LN D.1 D.2).2.1)) (by omega)
 | false=>
  rw[au,kV _ f4];refine key _ _ _ (v8 (h.a.CZ _ (Y6 (h.a.syms _ (cR f4))))) ?_;have:=akr (l:=c.errors) (ic c.config.ax (gB c c.queue[i].line):Int) (mz c.array.cells[ic c.config.ax (gB c c.queue[i].line)]);cases mz c.array.cells[ic c.config.ax (gB c c.queue[i].line)] != 0 with
  |true=>grind
  |false=>grind
def akt{c:av}(L:dK c)(h:Bs c)(O:c.ready.aU.length <= 4){x:aE}(E:jP c.config.ax c.aY x=true){i:Int}(I:x.kind=2 \/ x.kind=3 -> oI c i.toNat 100000/\0 <= i):dK (oJ c x i):=by
 have⟨hg,hlen,T,hb⟩:=CS E;have U:cQ c.config.ax x=true:=by
  simp[jP,aO]at E;simp_all
 have w:=h.dw x;have ht:=h.w.t;have LQ:=h.tl;have z:=aAX L O (by omega) x;have C:∀k,dK (Db (dw c x) k):=λk=>R8 z z.2.2.2.1 z.2.2.2.2.2.1 z.2.2.2.2.2.2.1 z.2.2.2.2.2.2.2.1 z.2.2.2.2.2.2.2.2.1 _
 unfold oJ;rcases kinds T with q|q|q|q|q|q|q|q|q<;>rw[q]<;>simp
 ·have⟨D,Y⟩:=hb (by omega);have⟨Z,r1⟩:=R7 U q;exact aAY z w x D (by show _<aR c.config.ax;omega) Z r1
 ·exact aks z ((I (.inl q)).1.dw x)
 ·exact aks z ((I (.inr q)).1.dw x)
 ·exact z
 ·have⟨D,Y⟩:=hb (by omega);exact aAZ z w D (by show x.ay<aR c.config.ax;omega)
 ·exact C 6
 ·exact C 7
 ·exact C 8
 ·exact aA0 (C 9) ⟨w.hB,w.g,w.a,w.k,w.p,w.t,w.d,w.r⟩ _ (by show (c.bI.length:Int) <= aR c.config.ax;omega)
def m8(c:av)(b:Int):Bool:=decide (c.aS.aJ.getD b.toNat 0 >= 4)
def LR(c:av)(b:Int):Bool:=c.pending.any λa=>a.ay==b
def jz(c:av)(i:Nat):aE:=AK c.aY (fH c i) (qB c.queue i)
def R9(c:av)(i:Nat):Bool:=decide (c.now-(lQ c i).at_<c.box.bT.cap)
def kG(c:av)(i:Nat):Bool:=
 gT c i&&(!m8 c (fH c i).ay&&(dc c (jz c i)&&(!(((jz c i).kind==1 ||(jz c i).kind==4)&&LR c (fH c i).ay) && !((jz c i).kind==4&&(ym c c.queue.length (fH c i).ay&&R9 c i)))))
def aA1{l:aa Int}{b:Int}(C:0 <= b)(h:b.toNat<l.length):∀ i:Nat,(((i:Int)+b)∈cG i l) ↔ l.getD b.toNat 0 >= 4:=by
 obtain⟨n,rfl⟩:=fz C;rw[bu]at *
 clear C
 induction l generalizing n with
 |nil=>simp at h
 | cons d l E=>
  intro i;have I:∀ x∈cG (i+1) l,(i:Int)+1 <= x:=λx D=>by
   have⟨j,L,_,_⟩:=ajH D;omega
  have e:cG i (d::l)=bif decide (d >= 4)then (i:Int)::cG (i+1) l else cG (i+1) l:=rfl
  grind
def Ze{c:av}{b:Int}(hl:c.aS.aJ.length <= 8)(C:0 <= b)(h:b.toNat<c.aS.aJ.length):vD (cG 0 c.aS.aJ) b=some (m8 c b):=by
 have E:=C7 0 c.aS.aJ;have D:=aA1 C h 0;rw[cm,Int.zero_add]at D;unfold vD;rw[Rp _ _ (by omega),ak];congr 1;unfold m8 gz
 grind
def Sa{c:av}{b:Int}(hl:c.aS.aJ.length <= 8)(C:0 <= b)(h:b.toNat<c.aS.aJ.length):Cp c b=some (m8 c b):=by
 unfold Cp m8 xI;simp_all
def Zf{c:av}(h:Pq c){i:Nat}(hi:i<c.queue.length):cQ c.config.ax (jz c i)=true:=az2 _ (C9 h hi).1
def rZ(c:av):Nat->aa Bool
 |0=>List.replicate 4 false
 |k+1=>bif kG c k then (rZ c k).set (lQ c k).dL.toNat true else rZ c k
def Sb(c:av):∀ k,(rZ c k).length=4
 |0=>rfl
 | k+1=>by
  have C:=Sb c k;show (bif kG c k then _ else _:aa Bool).length=4
  grind
def aA2{c:av}{T:aa Int}{O:aa aM}{Z:Int×Int×Int×Int×af}{P:Int×Int×Int×Int×Int×(aa Int)×Int×Int×af}{I hit dm wait:aa Bool}{hb:aa (Int×Bool)}{U:aa aE}{k:Nat}{r:aZ}{a:aM}{nd:aE}{ct rd ib:Bool}(hq:c.queue.length<=12)(hk:k<c.queue.length)(hr:c.queue[k]=r)(h2:k<O.length)(ha:O[k]=a)(h3:k<I.length)(C:k<dm.length)(h5:U.length=k)(D:0<=r.dL)(E:r.dL.toNat<wait.length)(e1:xO c.aY a r.write=some nd)(e2:vD T a.ay=some ct)(e3:iW c nd=some rd)(e4:CB c.pending a.ay=some ib)(b1:0<=r.at_/\r.at_<=1000000)(b2:0<=c.now/\c.now<=1000000):
  CD ((T,O,(),(),(),(),(),(),(),(),(),c.queue,(c.queue.length:Int),(k:Int),()),(c,Z,P,I,hit,hb,U,dm,wait,()))=some (.inl ((T,O,(),(),(),(),(),(),(),(),(),c.queue,(c.queue.length:Int),((k+1:Nat):Int),()),(c,Z,P,I,hit,hb,U++[nd],dm.set k (I[k]&&(!ct&&(rd&&(!((nd.kind==1 ||nd.kind==4)&&ib) && !(nd.kind==4&&(mI hb a.ay&&decide (c.now-r.at_<P.2.1))))))),(bif (I[k]&&(!ct&&(rd&&(!((nd.kind==1 ||nd.kind==4)&&ib) && !(nd.kind==4&&(mI hb a.ay&&decide (c.now-r.at_<P.2.1)))))))then wait.set r.dL.toNat true else wait),()))):=by
 have hw:W6 (c.now-r.at_)=c.now-r.at_:=aV;unfold CD az xG xI xL;dsimp only;rw[aQ,aq,aB ⟨by omega,by omega⟩,aB ⟨by omega,by omega⟩,aB ⟨by omega,by omega⟩];simp only[bu,hr,ha,e1,ak,h5,jk,cM (show k+1<1073741824 by omega),aq,e2,e3,e4,hw,bz (show k<4611686018427387904 by omega)];by_cases L:nd.kind=1
 ·have k4:(nd.kind==(4:Int))=false:=by rw[L];rfl
  have L:(nd.kind==(1:Int))=true:=by rw[L];rfl
  simp only[L,k4,aq,au,Bool.true_or,bZ,Bool.false_and,gM,Bool.and_true];rw[aB ⟨by omega,by omega⟩,aB];cases I[k]<;>cases ct<;>cases rd<;>cases ib<;>simp[C,D,E]
 ·have L:(nd.kind==(1:Int))=false:=by simpa using L
  simp only[L,au,Bool.false_or];rw[aB ⟨by omega,by omega⟩,aB];cases nd.kind==(4:Int)with
  |false=>cases I[k]<;>cases ct<;>cases rd<;>cases ib<;>simp[C,D,E]
  | true=>
   cases I[k]with
   |false=>simp[C,D,E]
   | true=>
    cases ct with
    |true=>simp[C,D,E]
    | false=>
     cases rd with
     |false=>simp[C,D,E]
     | true=>
      cases ib with
      |true=>simp[C,D,E]
      | false=>
       cases mI hb a.ay with
       |false=>simp[C,D,E]
       | true=>
        by_cases Y:c.now-r.at_<P.2.1
        ·simp[C,D,E,Y]
        ·simp[C,D,E,Y]
def LS(y x:aE):Bool:=(y.kind==x.kind)&&((y.ay==x.ay)&&((y.row==x.row)&&((y.bO==x.bO)&&true)))
def F0(c:av)(x:aE)(i:Int):Bool:=aN i 0 ((c.queue.length:Int)-1)&&(decide ((c.cr.length:Int)<400)&&LS (AK c.aY (gB c (c.queue.getD i.toNat rY).line) (c.queue.getD i.toNat rY).write) x)
def m9(c:av)(x:aE)(i:Int):Bool:=cQ c.config.ax x&&(dc c x&&(!decide ((c.trace.length:Int) >= 2000)&&bif x.kind==2 ||x.kind==3 then F0 c x i else i == -1 ||aN i 0 ((c.queue.length:Int)-1)))
def Zg{c:av}(h:Pq c){i:Int}(hi:aN i 0 ((c.queue.length:Int)-1)=true):∃ C:i.toNat<c.queue.length,0 <= i/\c.queue.getD i.toNat rY=c.queue[i.toNat]/\vE c c.queue[i.toNat].line=some (gB c c.queue[i.toNat].line,true)/\xO c.aY (gB c c.queue[i.toNat].line) c.queue[i.toNat].write=some (AK c.aY (gB c c.queue[i.toNat].line) c.queue[i.toNat].write):=by
 have hb:=bA.1 hi;have C:i.toNat<c.queue.length:=by omega
 have⟨D,E⟩:=R3 h (cR C);have⟨_,I,L,_⟩:=rM E;have O:=h.p.bl;have T:=dS c.config.ax;exact⟨C,hb.1,kV _ C,D,RN _ I (by omega) (by omega)⟩
def aA3{c:av}(h:Pq c)(x:aE)(i:Int):Al c x i=some (m9 c x i):=by
 have T:=h.ql;unfold Al m9;rw[aiQ,ak];cases L:cQ c.config.ax x with
 |false=>rfl
 |true=>
 rw[bB,au,RM h.p L,ak];cases dc c x with
 |false=>rfl
 |true=>
 rw[bB,au];cases decide ((c.trace.length:Int) >= 2000)with
 |true=>rfl
 |false=>
 rw[au,bZ,bZ,gM,bZ,dN,aV (n:=(c.queue.length:Int)-1),ak];unfold F0;have nd:Ah=xO:=rfl;cases hi:aN i 0 ((c.queue.length:Int)-1)with
 | true=>
  have⟨D,E,O,f1,f3⟩:=Zg h hi;have f2:=Zb h (cR D);rw[fO (show ¬ i = -1 by omega),aq,bB,au,aQ (show i >= 0 from E),bZ,Bool.or_true,O];by_cases C:x.kind=2
  ·rw[show (x.kind != 2)=false by rw[C];rfl,show (x.kind==2)=true by rw[C];rfl,au,aq,Bool.true_or,aq];cases decide ((c.cr.length:Int)<400)with
   |false=>rfl
   | true=>
    rw[ aB ⟨E,D⟩,aB ⟨E,D⟩];rw[f2,ak,nd,f3];rfl
  ·rw[fO C,jg C,aq,Bool.false_or];by_cases I:x.kind=3
   ·rw[show (x.kind != 3)=false by rw[I];rfl,show (x.kind==3)=true by rw[I];rfl,au,aq,aq];cases decide ((c.cr.length:Int)<400)with
    |false=>rfl
    | true=>
     rw[ aB ⟨E,D⟩,aB ⟨E,D⟩];rw[f2,ak,nd,f3];rfl
   ·grind
 | false=>
  rw[Bool.false_and,gM,aq,Bool.or_false];by_cases e:i = -1
  ·subst e;rw[bne_self_eq_false,au,jj,show decide ((-1:Int) >= 0)=false from rfl,au];by_cases C:x.kind=2
   ·simp_all
   ·rw[fO C,jg C,aq,Bool.false_or];by_cases I:x.kind=3
    ·simp_all
    ·grind
  ·grind
def aA4{c:av}(O:dK c)(h:Pq c)(x:aE)(i:Int):rK c x i=bif m9 c x i then (K1 c x i).bind (λy=>some (y.2.1,true))else some (c,false):=by
 have Y:=h.ql;unfold rK m9 xI;rw[azw c O,ak,RB c O,ak,h.p.ok,bB,au];cases T:cQ c.config.ax x with
 | false=>
  have e:iW c x=some false:=by
   unfold iW;rw[Yu,T,Bool.false_and,Bool.and_false];rfl
  rw[e];rfl
 |true=>
 rw[yc h.p T,ak];cases dc c x with
 |false=>rfl
 |true=>
 rw[bB,au];cases decide ((c.trace.length:Int) >= 2000)with
 |true=>rfl
 |false=>
 rw[au,bZ,bZ,gM,bZ,dR,aV (n:=(c.queue.length:Int)-1),ak];unfold F0;cases hi:aN i 0 ((c.queue.length:Int)-1)with
 | true=>
  have⟨C,D,U,f1,f3⟩:=Zg h hi;rw[fO (show ¬ i = -1 by omega),bB,au,aq,au,bZ,Bool.or_true,U];by_cases E:x.kind=2
  ·rw[show (x.kind==2)=true by rw[E];rfl,aq,Bool.true_or,aq];by_cases I:(c.cr.length:Int)<400
   ·rw[aQ I,aX (show ¬ (c.cr.length:Int) >= 400 by omega),au,aB ⟨D,C⟩];dsimp only;rw[f1,ak,aB ⟨D,C⟩,f3,ak];unfold LS
    grind
   ·grind
  ·rw[jg E,au,Bool.false_or];by_cases L:x.kind=3
   ·rw[show (x.kind==3)=true by rw[L];rfl,aq,aq];by_cases I:(c.cr.length:Int)<400
    ·rw[aQ I,aX (show ¬ (c.cr.length:Int) >= 400 by omega),au,aB ⟨D,C⟩];dsimp only;rw[f1,ak,aB ⟨D,C⟩,f3,ak];unfold LS
     grind
    ·grind
   ·grind
 | false=>
  rw[Bool.false_and,gM,aq,Bool.or_false];by_cases E:x.kind=2
  ·simp_all
  ·rw[jg E,au,Bool.false_or];by_cases L:x.kind=3
   ·simp_all
   ·rw[jg L,au,au];by_cases e:i = -1
    ·simp_all
    ·grind
def Zh{c:av}(D:dK c)(h:Pq c){x:aE}{i:Int}(E:m9 c x i=true):Bs c/\jP c.config.ax c.aY x=true/\(x.kind=2 \/ x.kind=3 -> oI c i.toNat 100000/\0 <= i)/\c.ready.aU.length <= 4:=by
 simp only[m9,aO,gW,qL]at E;have⟨L,I,Y,C⟩:=E;simp[dc,aO]at I
 refine⟨Bs.of D h.p.ok (by omega),?_,λO=>?_,(FM h.p.rdy).2.2⟩
 ·unfold jP;rw[h.p.rk,L,I.1];rfl
 ·have e:(x.kind==2 || x.kind==3)=true:=by rcases O with q | q <;>rw[q] <;>rfl
  rw[e,aq]at C;simp[F0,aO,fY]at C;have⟨T,U,_⟩:=Zg h C.1;exact⟨oI.of D h.p.ok T (by omega),U⟩
structure Ck (c:av):Prop where
 f1:mY c.config c.box.bT=true
 f2:mY c.config c.box.next=true
 nw:aN c.now 0 1000000=true
 rk:jN c.config.ax c.aY=true
 rd:jO c.config.ax c.ready=true
 ar:oA c.config.ax c.array=true
 sp:kA c.config.ax c.spare=true
 se:c.spare.bM=c.config.bM
 rf:ff c.aS=true
 pa:qw c=true
 qu:iX (ez (ef c.config.ax c.spare)) c.queue=true
 sh:ia c.shares=true
 sl:(c.shares.length:Int)=4
 dr:mW c.drain=true
 pw:ku c.aT=true
 ps:c.aT.state=c.aY.aT
 si:c.aT.since<=c.now
 s1:aN c.cU.every 1 100000=true
 s2:aN c.cU.wait 1 c.cU.every=true
 s3:aN c.cU.next 0 (W6 (ez c.config.ax-1))=true
 er:kR c.errors=true
 tr:c.trace.length<=2000
 rp:c.cr.length<=400
def Ck.of{c:av}(h:dH c=true):Ck c:=by
 simp[dH,aO,fI,fY,gW,qL]at h;have⟨C,D,E,I,L,O,T,U,⟨Y,Z⟩,CR,xW,qd,uw,uy,vQ,uz,AD,C4,C5,FQ,vA,FR⟩:=h;exact⟨C,D,E,I,L,O,T,U,Y,Z,CR,xW,qd,uw,uy,vQ,by omega,AD,C4,C5,FQ,by omega,by omega⟩
def Ck.ok{c:av}(h:Ck c):dH c=true:=by
 have⟨C,D,E,I,L,O,T,U,Y,Z,CR,xW,qd,uw,uy,vQ,uz,AD,C4,C5,FQ,vA,FR⟩:=h;simp[dH,aO,fI,fY,gW,qL]
 grind
def aku:∀ (l:aa Nat) (a:Nat),l.Pairwise (λx y=>x≠y) -> l.length <= (l.filter (λx=>decide (x≠a))).length+1
 |[],a,_=>by simp
 | x :: l,a,h=>by
  have⟨C,D⟩:=List.pairwise_cons.1 h;by_cases e:x=a
  ·subst e;have:(x :: l).filter (λy=>decide (y≠x))=l:=by
    rw[List.filter_cons_of_neg (by simp)];exact List.filter_eq_self.2 λy E=>by simpa using (C y E).symm
   grind
  ·rw[List.filter_cons_of_pos (by simpa using e)];have:=aku l a D;simp only[nj];omega
def pig:∀ (n:Nat) (l:aa Nat),(∀ x∈l,x<n)->l.Pairwise (λx y=>x≠y)->l.length<=n
 | 0,l,h,_=>by
  cases l with
  |nil=>simp
  |cons x l=>exact absurd (h x (.head _)) (by omega)
 | n+1,l,h,C=>by
  have E:=aku l n C;have I:=pig n (l.filter (λx=>decide (x≠n))) (λx D=>by
   have:=List.mem_filter.1 D;have L:=h x this.1;have O:x≠n:=by simpa using this.2
   omega) (C.filter _)
  omega
def vY.pw{l:aa aM}(h:vY l):l.Pairwise (λx y=>x≠y):=by
 rw[List.pairwise_iff_getElem];intro i j hi D I e;have C:=h j D;rw[List.any_eq_false]at C;have E:l[i]∈l.take j:=by
  rw[List.mem_take_iff_getElem]
  grind
 exact C _ E (LK.2 e.symm)
def vY.mk{l:aa aM}(h:l.Pairwise (λx y=>x≠y)):vY l:=by
 rw[List.pairwise_iff_getElem]at h;intro j C;rw[List.any_eq_false];intro x D e;obtain⟨i,hi,rfl⟩:=List.mem_take_iff_getElem.1 D;exact h i j _ C (by omega) (LK.1 e).symm
structure gv (c:av):Prop where
 dl:(c.aS.aJ.length:Int)=aR c.config.ax
 tl:(c.bI.length:Int)=aR c.config.ax
 gl:(c.guard.length:Int)=aR c.config.ax
 t:∀x∈c.bI,kz x=true
 g:∀x∈c.guard,3<=x/\x<=1000
 pd:∀a∈c.pending,dz c.config.ax a=true/\a.bO=0
 u:c.pending.Pairwise (λx y=>x≠y)
def gv.of{c:av}(h:qw c=true):gv c:=by
 simp[qw,aO,fI,cu,fk]at h;have⟨E,I,L,g4,O,T⟩:=h;have key:=λi C U=>by
  have:=O i C;unfold partAt at this;rw[bQ C,bQ U,aO,bA]at this;exact this
 have Y:∀ i _,dz _ c.pending[i]=true/\c.pending[i].bO=0/\(c.pending.take i).any _=false:=λi C=>by
  have:=T i C;unfold uv at this;rw[bQ C]at this
  simpa [aO]using this
 refine⟨E,I,L,λx D=>?_,λx D=>?_,λa Z=>?_,vY.pw λi hi=>(Y i hi).2.2⟩
 ·obtain⟨i,hi,rfl⟩:=jb.1 D
  grind
 ·obtain⟨i,hi,rfl⟩:=jb.1 D
  grind
 ·obtain⟨i,hi,rfl⟩:=jb.1 Z;simp[*]
def aA5{g:aI}{l:aa aM}(D:∀ a∈l,dz g a=true/\a.bO=0)(L:l.Pairwise (λx y=>x≠y)):l.length <= 128:=by
 have E:∀ a∈l,0 <= a.ay/\a.ay<8/\0 <= a.row/\a.row<16:=λa C=>by
  have⟨I,U,Y,Z,h5,_⟩:=rM (D a C).1;have b1:=dS g;have b2:=fe I;omega
 have I:=pig 128 (l.map λa=>(a.ay*16+a.row).toNat) (λx O=>by
  obtain⟨a,C,rfl⟩:=List.mem_map.1 O;have:=E a C;omega) (by
  rw[List.pairwise_map]
  refine L.imp_of_mem λ{a b} C hb T e=>T ?_
  have r1:=E a C;have r2:=E b hb;have c1:=(D a C).2;have c2:=(D b hb).2;cases a;cases b;simp only at *
  congr 1<;>omega)
 simp_all
def gv.ok{c:av}(h:gv c):qw c=true:=by
 have⟨E,I,L,U,Y,C,D⟩:=h;have hl:=aA5 C D;have O:=vY.mk D;simp[qw,aO,fI,gW,qL,cu,fk]
 refine⟨E,I,L,by omega,λi hi=>?_,λi hi=>?_⟩
 ·have T:i<c.guard.length:=by omega
  unfold partAt;rw[bQ hi,bQ T,aO,bA];simp_all
 ·unfold uv;rw[bQ hi];simp only[aO,fI,gW];exact⟨(C _ (cR hi)).1,(C _ (cR hi)).2,O i hi⟩
def aA6{g:aI}{b n:Int}{l:aa aM}(I:dz g ⟨b,n,0⟩=true)(L:∀ a∈l,dz g a=true/\a.bO=0)(C:l.Pairwise (λx y=>x≠y)):(∀ a∈m7 b l n,dz g a=true/\a.bO=0)/\(m7 b l n).Pairwise (λx y=>x≠y):=by
 unfold m7;cases h:l.any _ with
 |true=>simp_all
 | false=>
  rw[au];rw[List.any_eq_false]at h
  refine⟨λa O=>?_,?_⟩
  ·grind
  ·rw[List.pairwise_append]
   refine⟨C,List.pairwise_singleton _ _,λx D y E e=>?_⟩
   rw[kI.1 E]at e;exact h x D (LK.2 e.symm)
def akv{g:aI}{b:Int}:∀ (ns:aa Int) {l:aa aM},(∀ n∈ns,dz g ⟨b,n,0⟩=true) -> (∀ a∈l,dz g a=true/\a.bO=0) -> l.Pairwise (λx y=>x≠y) -> (∀ a∈ns.foldl (m7 b) l,dz g a=true/\a.bO=0)/\(ns.foldl (m7 b) l).Pairwise (λx y=>x≠y)
 |[],l,_,C,D=>⟨C,D⟩
 | n :: ns,l,E,C,D=>by
  have⟨I,L⟩:=aA6 (E n (.head _)) C D;exact akv ns (λm O=>E m (.tail _ O)) I L
def F1{T:Type}{p:T -> Prop}{l:aa T}{i:Nat}{x:T}(h:∀y∈l,p y)(C:p x):∀y∈l.set i x,p y:=by grind
def aA7{t:cx}(h:kz t=true)(row dj:Int):kz (uG t row dj).1=true:=by
 unfold uG
 grind
def akw{k:Int}(h:aN k 1 16=true):kz (yf k)=true:=by
 have hb:=bA.1 h;simp only[kz,yf,aO,fI,cu,kH,bA]
 refine⟨by omega,trivial,by omega,λi hi=>?_⟩
 rw[Rq (by simpa using hi) (by simpa using hi)];simp[aN]
def akx{c:fm}{p:dY}(hl:p.weights.length<1073741823)(h:mY c p=true):3 <= p.fl/\p.fl <= 1000:=by
 have⟨_,f2⟩:=FW hl h;simp[pJ,aO,bA]at f2;simp_all
def yo{g:aI}{a:en}(C:cw g=true)(h:fy g 100000 a):oA g a=true:=by
 simp only[oA,aO,fY,cu]
 refine⟨C,h.cells,h.bC,h.bw,λc D=>Sy.ok (h.syms c D),λp E=>?_⟩
 have⟨x,y⟩:=p;have⟨I,L⟩:=List.of_mem_zip E;simp[vL,aO,bA];exact⟨h.K9 x I,h.hit y L⟩
def aA8{g:aI}{c:aE}(h:cQ g c=true):oB g (fQ g c).toNat=true:=by
 have⟨E,D,hb,_⟩:=sQ h;have⟨I,L⟩:=FL h;unfold oB;unfold fQ at *
 cases C:aN _ 1 5 with
 | true=>
  have C:=bA.1 C
  grind
 | false=>
  have O:¬ c.kind <= 5:=λh=>by rw[bA.2 ⟨D.1,h⟩]at C;cases C
  grind
def aky{l:aa Int}(h:∀ i,i<l.length -> oC l i=true){i:Nat}(hi:i<l.length):aN l[i] 0 1000000=true:=by
 have:=h i hi;cases i with
 |zero=>rw[Ln]at this;exact this
 |succ i=>rw[FG,aO]at this;exact this.1
def akz{l:aa Int}(h:∀ i,i<l.length -> oC l i=true){i:Nat}(hi:i+1<l.length):l[i]<l[i+1]:=by
 have:=h _ hi;rw[FG hi,aO,gW,qL]at this;omega
def akA{l:aa Int}(C:∀ i (hi:i<l.length),aN l[i] 0 1000000=true)(D:∀ i (hi:i+1<l.length),l[i]<l[i+1]):∀ i,i<l.length -> oC l i=true:=λi hi=>by
 cases i with
 |zero=>rw[Ln];exact C 0 hi
 | succ i=>
  have:=D i hi;rw[FG hi,aO,gW,qL];simp_all
def aA9{l:aa Int}(h:∀ i,i<l.length -> oC l i=true){x:Int}(I:aN x 0 1000000=true)(hl:xX ⟨[],l⟩ x=false):∀ i,i<(l++[x]).length -> oC (l++[x]) i=true:=by
 refine akA (λi hi=>?_) λi hi=>?_
 ·by_cases C:i<l.length
  ·rw[List.getElem_append_left];exact aky h C
  ·grind
 ·have D:i<l.length:=by simp at hi;omega
  by_cases C:i+1<l.length
  ·rw[List.getElem_append_left C,List.getElem_append_left];exact akz h C
  ·have e:i+1=l.length:=by omega
   have E:(l++[x])[i+1]=x:=by simp[e]
   rw[E,List.getElem_append_left D];unfold xX at hl
   grind
def aBa{l:aa Int}(h:∀ i,i<l.length -> oC l i=true)(k:Nat):∀ i,i<(l.drop k).length -> oC (l.drop k) i=true:=by
 refine akA (λi hi=>?_) λi hi=>?_
 ·rw[List.getElem_drop];exact aky h _
 ·rw[List.getElem_drop,List.getElem_drop];rw[List.length_drop]at hi;exact akz h _
def akB{g:aI}{r:cZ}(e:bW)(h:jO g r=true):jO g (mj g r e)=true:=by
 unfold mj;cases C:jO g r&&(cQ g e.cmd&&(aN e.at_ 0 1000000 && !(e.cmd.kind==1&&xX r e.at_)))with
 |false=>exact h
 | true=>
  rw[aq];simp only[aO,gW]at C;have⟨_,L,D,E⟩:=C;simp only[jO,aO,fI,gW,qL,cu,fk]at h ⊢;have⟨O,T,U,Y,I⟩:=h
  refine⟨O,by rw[ji];exact T,?_,λi hi=>?_,?_⟩
  ·cases e.cmd.kind==1 with
   |false=>exact U
   | true=>
    rw[aq];unfold xY
    grind
  ·rw[ji]at hi;have hb:=Y i hi;rw[Ll hi]at hb;rw[Ll (by rw[ji];exact hi)];by_cases Z:(fQ g e.cmd).toNat=i
   ·subst Z;rw[List.getElem_set_self,aA8 L];have:=bA.1 D;rw[bA.2 ⟨by omega,by omega⟩];rfl
   ·simp_all
  ·cases hk:e.cmd.kind==1 with
   |false=>exact I
   | true=>
    rw[hk]at E;exact aBa (aA9 I D E) _
structure Qk (n:Int) (q:List aZ):Prop where
 r:∀x∈q,pK n x=true
 b:q.Pairwise λx y=>ga x y=true
 i:q.Pairwise λx y=>x.id≠y.id
 l:q.length<=12
def aBb{x y z:aZ}(C:ga x y=true)(D:ga y z=true):ga x z=true:=by
 simp only[ga,eA,aO,fY,fI]at *
 omega
def Qk.of{n:Int}{q:aa aZ}(h:iX n q=true):Qk n q:=by
 have I:=h;simp only[iX,aO,cu,fk,fY]at h;have⟨E,U⟩:=h;have L:∀ x∈q,pK n x=true:=λx O=>by
  obtain⟨i,hi,rfl⟩:=jb.1 O;have:=E i hi;unfold rR at this;simp_all
 have hb:∀ j i (D:i<j) (C:j<q.length),ga q[i] q[j]=true:=by
  intro j
  induction j with
  |zero=>simp_all
  | succ j T=>
   intro i D C;have:=E (j+1) C;rw[Lj C,aO,aO]at this;by_cases e:i=j
   ·simp_all
   ·exact aBb (T i (by omega) _) this.2.1
 refine⟨L,?_,?_,by omega⟩
 ·rw[List.pairwise_iff_getElem]
  grind
 ·rw[List.pairwise_iff_getElem];intro i j hi C D e;have:=azg I D C;simp_all
def Qk.ok{n:Int}{q:aa aZ}(h:Qk n q):iX n q=true:=by
 have⟨C,D,E,L⟩:=h;rw[List.pairwise_iff_getElem]at D E;simp[iX,aO,cu,fk,fY]
 refine⟨λi hi=>?_,by omega⟩
 cases i with
 |zero=>rw[Yj hi];exact C _ (cR hi)
 | succ i=>
  rw[Lj hi,aO,aO,gW];refine⟨C _ (cR hi),D i (i+1) (by omega) hi (by omega),?_⟩;rw[List.any_eq_false];intro x I e;obtain⟨k,O,rfl⟩:=List.mem_take_iff_getElem.1 I
  grind
def Qk.sub{n:Int}{q s:aa aZ}(h:Qk n q)(C:s.Sublist q):Qk n s:=
 ⟨λx D=>h.r x (C.subset D),h.b.sublist C,h.i.sublist C,Nat.le_trans C.length_le h.l⟩
def akC{T:Type}(l:aa T)(i:Nat):(l.take i++l.drop (i+1)).Sublist l:=by
 rw[<-List.eraseIdx_eq_take_drop_succ];exact List.eraseIdx_sublist l i
def aBc(e x:cA):Prop:=¬ (e.line=x.line/\e.code=x.code)
structure Ek (l:List cA):Prop where
 e:∀x∈l,xV x=true
 k:l.Pairwise aBc
 l:l.length<=6
def Zi{e x:cA}:lP e x=true ↔ x.line=e.line/\x.code=e.code:=by
 simp only[lP,aO,fI]
def Ek.of{l:aa cA}(h:kR l=true):Ek l:=by
 simp[kR,aO,cu,fk,fY]at h;have⟨D,L⟩:=h;have key:=λi hi=>by
  have:=D i hi
  rwa [Ro hi,aO,gW]at this
 refine⟨λx E=>?_,?_,by omega⟩
 ·obtain⟨i,hi,rfl⟩:=jb.1 E
  grind
 ·rw[List.pairwise_iff_getElem];intro i j hi I O e;have C:=(key j I).2;rw[List.any_eq_false]at C;exact C l[i] (List.mem_take_iff_getElem.2 ⟨i,by omega,rfl⟩) (Zi.2 e)
def Ek.ok{l:aa cA}(h:Ek l):kR l=true:=by
 have⟨D,C,I⟩:=h;rw[List.pairwise_iff_getElem]at C;simp only[kR,aO,cu,fk,fY]
 refine⟨λi hi=>?_,by omega⟩
 rw[Ro hi,aO,gW];refine⟨D _ (cR hi),?_⟩;rw[List.any_eq_false];intro x E e;obtain⟨k,L,rfl⟩:=List.mem_take_iff_getElem.1 E;exact C k i (by omega) hi (by omega) (Zi.1 e)
def akD{l:aa cA}(h:kR l=true){n code:Int}(h1:0 <= n/\n <= 1023)(h2:code=1 \/ code=2):kR (uK l n code)=true:=by
 have C:=Ek.of h;have hl:=C.l;have aCX:xV ⟨n,code,1⟩=true:=by
  simp[xV,aO,eA,fI,bA];omega
 refine Ek.ok ?_;unfold uK;cases D:l.findIdx? (lP ⟨n,code,1⟩)with
 | some i=>
  have⟨hi,hp⟩:=LJ D;dsimp only;rw[kV _ hi];have T:=C.e _ (cR hi);have U:xV (R4 l[i])=true:=by
   simp only[xV,aO,bA]at T ⊢;unfold R4;dsimp only;rw[aV]
   grind
  refine⟨F1 C.e U,?_,by rw[ji];exact hl⟩;have E:=C.k;rw[List.pairwise_iff_getElem]at E ⊢;intro a b I hb Y;rw[ji]at I hb;have:=E a b I hb Y;rw[List.getElem_set,List.getElem_set];by_cases L:i=a
  ·subst L
   rwa [bH rfl,bJ]
  ·rw[bJ L];by_cases Z:i=b
   ·subst Z
    rwa [bH rfl]
   ·simp[*]
 | none=>
  have hn:∀ x∈l,¬ (x.line=n/\x.code=code):=λx hx e=>by
   have:=List.findIdx?_eq_none_iff.1 D x hx;rw[Zi.2 e]at this;cases this
  have app:∀ m:aa cA,m.Sublist l -> m.length <= 5 -> Ek (m++[⟨n,code,1⟩]):=λm O hml=>by
   refine⟨λx hx=>?_,?_,by rw[mC,jk];omega⟩
   ·rcases List.mem_append.1 hx with hx | hx
    ·exact C.e x (O.subset hx)
    ·rwa [kI.1 hx]
   ·rw[List.pairwise_append]
    refine⟨C.k.sublist O,List.pairwise_singleton _ _,λx hx y hy e=>?_⟩
    rw[kI.1 hy]at e
    grind
  dsimp only;by_cases e6:l.length=6
  ·grind
  ·rw[jg (show ¬ (l.length:Int)=6 by omega),au]
   grind
def akE{l:aa cE}(h:∀ s∈l,nS s=true){k:Nat}(C:k<l.length)(E:1<=l[k].fJ):∀ s∈l.set k ⟨l[k].weight,W6 (l[k].fJ-1)⟩,nS s=true:=by
 have D:=h _ (cR C);simp only[nS,aO,bA]at D;rw[aV (n:=l[k].fJ-1)];refine F1 h ?_;simp only[nS,aO,bA];omega
def aBd{l:aa cE}(w:aa Bool)(hl:l.length<1073741823)(D:ia l=true)(hw:l.length=w.length):∃ y t,qk l w=some (y,t)/\y.length=l.length/\ia y=true:=by
 have mk:∀ y:aa cE,y.length=l.length -> (∀ s∈y,nS s=true) -> y.length=l.length/\ia y=true:=λy C Z=>by
  refine⟨C,?_⟩;simp[ia,aO,cu]at D ⊢;exact⟨Z,by rw[C];exact D.2⟩
 have E:∀ s∈l,nS s=true:=by
  simp only[ia,aO,cu]at D;exact D.1
 unfold qk xA xC br xL xZ;have hb:=vU (λi=>w.getD i false) (λi=>(l.getD i ⟨0,0⟩).fJ) (min l.length w.length);have O:(ja l).length=l.length:=by simp[ja]
 have gI:=vU (λi=>w.getD i false) (λi=>((ja l).getD i ⟨0,0⟩).fJ) (min (ja l).length w.length);have hm:=YS (λi=>w.getD i false) (λi=>(l.getD i ⟨0,0⟩).fJ) (min l.length w.length);rw[kY,LF l w (by omega),ak,Lh _ (by omega),ak,D,bB,au,List.length_nil,eN,cM,aq];unfold uF;generalize hr:kU (λi=>w.getD i false) (λi=>(l.getD i ⟨0,0⟩).fJ) (min l.length w.length)=b at *
 by_cases T:b<0
 ·rw[aQ T];exact⟨_,_,rfl,mk _ rfl E⟩
 ·have C:b.toNat<l.length:=by omega
  rw[aX T,au,aB ⟨by omega,C⟩,aB C];dsimp only;have hsb:=E _ (cR C);simp only[nS,aO,bA]at hsb;cases U:l[b.toNat].fJ==0 with
  | false=>
   have U:¬ l[b.toNat].fJ=0:=by simpa using U
   rw[ aB ⟨by omega,C⟩,aB C,aB ⟨by omega,C⟩,aB C];exact⟨_,_,rfl,mk _ (by simp) (akE E C (by omega))⟩
  | true=>
   have aBe:∀ s∈ja l,nS s=true:=λs D=>by
    obtain⟨x,L,rfl⟩:=List.mem_map.1 D;have:=E x L;simp[nS,aO,bA,sV]at this ⊢;omega
   rw[aq,YU l w (by omega),ak];simp only[dX];rw[LF _ w (by omega),ak];have Y:0 <= uF (ja l) w:=YT _ (i:=b.toNat) (by rcases hm with h|h;exact absurd h (by omega);exact h) _ (by rw[O];omega);have hq:uF (ja l) w<((min (ja l).length w.length:Nat):Int):=gI.2;have I:(uF (ja l) w).toNat<(ja l).length:=by omega
   have h4:1 <= (ja l)[(uF (ja l) w).toNat].fJ:=by
    have dU:(uF (ja l) w).toNat<l.length:=by omega
    have L:=E _ (cR dU);simp only[nS,aO,bA]at L;simp only[ja,List.getElem_map,sV];simp only[ja]at L;omega
   rw[aB ⟨Y,I⟩,aB I,aB ⟨Y,I⟩,aB I];exact⟨_,_,rfl,mk _ (by simp[O]) (akE aBe I h4)⟩
def akF{r:dn}(h:ff r=true)(k:Nat){d:Int}(C:-2 <= d/\d <= 5):ff ⟨r.aJ.set k d,r.wait,r.eP⟩=true:=by
 simp only[ff,aO]at h ⊢;refine⟨YD h.1 ?_,by rw[ji];exact h.2.1,h.2.2⟩;exact bA.2 C
def aBf{r:dn}(h:ff r=true){b:Int}(hb:b.toNat<r.aJ.length):ff (vX r b)=true:=by
 have C:=RO h _ (cR hb);unfold vX;rw[kV _ hb];by_cases e:r.aJ[b.toNat] = -2
 ·simp_all
 ·rw[aX e];exact akF h _ (by omega)
def aBg{r:bU}{p:fA}{x:aE}{now:Int}(E:ku p=true)(C:p.state=r.aT)(I:p.since <= now)(L:now <= 1000000)(T:6 <= x.kind/\x.kind <= 9)(D:iZ r x=true):ku (yg p x.kind now)=true/\(yg p x.kind now).state=(fj r x).aT/\(yg p x.kind now).since <= now:=by
 have hb:0 <= p.since:=by
  simp[ku,aO,bA]at E;omega
 have hi:0 <= p.idle/\p.idle <= 1000000:=by
  simp[ku,aO,bA]at E;omega
 have O:=bA.2 ⟨I,L⟩;unfold yg;rw[E,O,Bool.and_self];have mk:∀ s:Int,0 <= s/\s <= 2 -> ku ⟨s,now,p.idle⟩=true:=λs C=>by
  simp[ku,aO,bA];omega
 have:x.kind=6 \/ x.kind=7 \/ x.kind=8 \/ x.kind=9:=by omega
 rcases this with h|h|h|h
 ·have e:r.aT=0:=by simpa [iZ,h]using D
  simp[fj,h,C,e,mk]
 ·have e:r.aT=1:=by simpa [iZ,h]using D
  simp[fj,h,C,e,mk]
 ·have e:r.aT=0:=by have:=D;simp[iZ,h]at this;exact this.1
  simp[fj,h,C,e,mk]
 ·have e:r.aT=2:=by simpa [iZ,h]using D
  simp[fj,h,C,e,mk]
def aBh{c:av}(h:Pq c)(Z:Int×Int×Int×Int×af)(P:Int×Int×Int×Int×Int×(aa Int)×Int×Int×af)(I:P.2.1=c.box.bT.cap):iter CD aP ((cG 0 c.aS.aJ,fD c,(),(),(),(),(),(),(),(),(),c.queue,(c.queue.length:Int),(0:Int),()),(c,Z,P,(List.range c.queue.length).map (gT c),(List.range c.queue.length).map (dW c),sZ c c.queue.length,([]:aa aE),List.replicate c.queue.length false,List.replicate 4 false,()))=some (.inl (((),(),(),(),(),(),(),()),(c,Z,P,(List.range c.queue.length).map (dW c),(List.range c.queue.length).map (jz c),(List.range c.queue.length).map (kG c),rZ c c.queue.length,()))):=by
 have L:=h.ql;have uR:=h.pl;have O:=oE h.rf;have T:=v5 h;have e:=cD (step:=CD) c.queue.length (λi=>((cG 0 _,fD c,(),(),(),(),(),(),(),(),(),c.queue,c.queue.length,i,()),(c,Z,P,(List.range _).map (gT c),(List.range c.queue.length).map (dW c),sZ c _,(List.range i).map (jz c),rW (kG c) c.queue.length i,rZ c i,()))) _ aP (λk C=>by
  have hl:=R0 (f:=kG c) (n:=c.queue.length) (k:=k) (by omega);have Sc:=sY c;have hwl:=Sb c k;have⟨ho,D,U,Y,o4,o5⟩:=C9 h C;have⟨q1,q2,E⟩:=h.q _ (cR C);rw[pN C]at q1 q2 E;have HS:(lQ c k).write=qB c.queue k:=by rw[AP C,pN C]
  refine(aA2 (r:=lQ c k) (a:=fH c k) (nd:=jz c k) (ct:=m8 c (fH c k).ay) (rd:=dc c (jz c k)) (ib:=LR c (fH c k).ay) L C (pN C) (by omega) (AQ _) (by simp;exact C) (by omega) (by simp) (by omega) (by omega) (by rw[HS];exact RN _ D U T) (Ze O.1 D Y) (yc h.p (Zf h C)) (YZ _ _ (by omega)) E h.nw).trans ?_;rw[yl C,akh,I,<- R1 C,List.range_succ,kX];rfl) (by
  unfold CD az xG xI xL;dsimp only;rw[aX,au,R2]) (bF)
 exact e
def s7(f g:Nat->Bool)(n k:Nat):aa Bool:=(List.range n).map λi=>bif Nat.blt i k then f i else g i
def akG(f g:Nat->Bool)(n:Nat):s7 f g n 0=(List.range n).map g:=rfl
def akH(f g:Nat -> Bool)(n:Nat):s7 f g n n=(List.range n).map f:=by
 refine List.map_congr_left λi hi=>?_
 have hi:=fk.1 hi;rw[show Nat.blt i n=true from iM hi];rfl
def Sd(f g:Nat->Bool)(n k:Nat):(s7 f g n k).length=n:=by unfold s7;simp
def aBi(k:Nat):Nat.blt k k=false:=by
 cases h:Nat.blt k k with
 |false=>rfl
 |true=>simp_all
def akI{f g:Nat->Bool}{n k:Nat}(C:k<(s7 f g n k).length):(s7 f g n k)[k]=g k:=by
 simp only[s7,List.getElem_map,jA,aBi,au]
def akJ{f g:Nat -> Bool}{n k:Nat}(h:k<n):(s7 f g n k).set k (f k)=s7 f g n (k+1):=by
 apply List.ext_getElem
 ·rw[ji,Sd,Sd]
 ·intro i E I;rw[List.getElem_set];simp only[s7,List.getElem_map,jA];by_cases e:k=i
  ·subst e;rw[bH rfl,show Nat.blt k _=true from iM (dx _)];rfl
  ·rw[bJ e];rcases Nat.lt_or_gt_of_ne e with h3 | h3
   ·have C:Nat.blt i k=false:=by
     cases hb:Nat.blt i k with
     |false=>rfl
     |true=>have:=cK hb;omega
    have D:Nat.blt i (k+1)=false:=by
     cases hb:Nat.blt i (k+1)with
     |false=>rfl
     |true=>have:=cK hb;omega
    rw[C,D]
   ·rw[show Nat.blt i k=true from iM h3,show Nat.blt i _=true from iM (by omega)]
def pO(c:av)(t:Int)(i:Nat):Bool:=kG c i&&(lQ c i).dL==t
def aBj{c:av}(I:c.queue.length <= 12)(t:Int)(Z:Int×Int×Int×Int×af)(P:Int×Int×Int×Int×Int×(aa Int)×Int×Int×af)(hit:aa Bool)(C:aa aE):iter Fv aP (((),(),(),(),(),(),t,c.queue,(c.queue.length:Int),(0:Int),()),(c,Z,P,hit,C,(List.range c.queue.length).map (kG c),()))=some (.inl (((),(),(),(),(),(),()),(c,Z,P,hit,C,(List.range c.queue.length).map (pO c t),()))):=by
 have e:=cD (step:=Fv) c.queue.length (λi=>(((),(),(),(),(),(),t,c.queue,(c.queue.length:Int),(i:Int),()),(c,Z,P,hit,C,s7 (pO c t) (kG c) c.queue.length i,()))) _ aP (λk D=>by
  have hl:=Sd (pO c t) (kG c) c.queue.length k;rw[<- akJ D];unfold Fv az xG xI xL;dsimp only;rw[aQ,aq,aB ⟨by omega,by omega⟩,aB ⟨by omega,by omega⟩,aB,bz];simp only[bu,akI,pN];have E:pO c t k=(kG c k&&(lQ c k).dL==t):=rfl;rw[E];cases kG c k with
  |false=>rw[au,aB ⟨by omega,by omega⟩,aB];rfl
  |true=>rw[ aB ⟨by omega,by omega⟩,aB];rfl) (by
  unfold Fv az xG xI xL;dsimp only;rw[aX,au,akH]) (bF)
 rw[cm,akG]at e;exact e
def fR(p:Nat->Bool):Nat->Int
 |0=>-1
 |k+1=>bif decide (fR p k<0)&&p k then (k:Int)else fR p k
def Dc(p:Nat->Bool)(k:Nat):fR p (k+1)=bif decide (fR p k<0)&&p k then (k:Int)else fR p k:=rfl
def qE(p:Nat -> Bool):∀ n,(fR p n = -1 /\ ∀ k,k<n -> p k=false) \/ ∃ j:Nat,j<n/\fR p n=(j:Int)/\p j=true /\ ∀ k,k<j -> p k=false
 |0=>.inl ⟨rfl,λk C=>absurd C (Nat.not_lt_zero k)⟩
 | n+1=>by
  rw[Dc];rcases qE p n with ⟨D,E⟩|⟨j,D,E,I,L⟩
  ·grind
  ·grind
def qF(old hit dm:Nat->Bool)(n:Nat):Int:=
 bif decide (fR (λi=>dm i&&old i) n<0)then (bif decide (fR (λi=>dm i&&hit i) n<0)then fR dm n else fR (λi=>dm i&&hit i) n)else fR (λi=>dm i&&old i) n
def nc(c:av)(i:Nat):Bool:=decide ((lQ c i).at_<=c.now-c.box.bT.cap)
def aBk{c:av}(h:Pq c)(dm:Nat->Bool):Qh c.queue ((List.range c.queue.length).map dm) ((List.range c.queue.length).map (dW c)) c.box.bT.cap c.now=some (qF (nc c) (dW c) dm c.queue.length):=by
 have hq:=h.ql;have Z:=h.nw;have hcp:=h.cap;have T:W6 (c.now-c.box.bT.cap)=c.now-c.box.bT.cap:=aV;have kW:∀ (k:Nat),k<c.queue.length->(dm k&&nc c k)=false->As (((List.range c.queue.length).map dm,(List.range c.queue.length).map (dW c),c.box.bT.cap,c.now,fR dm k,fR (λi=>dm i&&dW c i) k,c.queue,(c.queue.length:Int),(k:Int),()),())=some (.inl (((List.range c.queue.length).map dm,(List.range c.queue.length).map (dW c),c.box.bT.cap,c.now,fR dm (k+1),fR (λi=>dm i&&dW c i) (k+1),c.queue,(c.queue.length:Int),((k+1:Nat):Int),()),())):=by
  intro k C D;rw[Dc,Dc];unfold As az bf xG xI;dsimp only;rw[aQ,aq,aB ⟨by omega,by omega⟩];simp only[eI,cV];rw[aX,au,aB ⟨by omega,by omega⟩];simp only[bu,yl C,T,pN];rw[bz];cases E:dm k with
  |false=>simp[E]
  | true=>
   rw[E,bZ]at D;unfold nc at D;rw[D,aQ (by omega:(k:Int)<(c.queue.length:Int)),aB ⟨by omega,by omega⟩];simp only[bB,au,aq,E,bZ];cases dW c k<;>cases decide (fR dm k<0)<;>cases decide (fR (λi=>dm i&&dW c i) k<0)<;>simp
 unfold Qh qF bP;rw[dR,ak,bA.2 ⟨hcp.1,by omega⟩,bB,au,dR,ak,bA.2 Z,bB,au];rcases qE (λi=>dm i&&nc c i) c.queue.length with ⟨I,L⟩|⟨j,I,L,O,h4⟩
 ·have e:=cD (step:=As) c.queue.length (λk=>(((List.range c.queue.length).map dm,(List.range c.queue.length).map (dW c),c.box.bT.cap,c.now,fR dm k,fR (λi=>dm i&&dW c i) k,c.queue,(c.queue.length:Int),(k:Int),()),())) (.inr (.inl ((fR dm c.queue.length,fR (λi=>dm i&&dW c i) c.queue.length,()),()))) aP (λk C=>kW k C (L k C)) (by
   unfold As az bf xG xI;dsimp only;rw[aX,au]) (bF)
  rw[cm]at e
  refine(bq (λo=>Option.bind o _) e).trans ?_
  rw[ak,I];simp only[Sum.elim_inr,dX];by_cases U:fR (λi=>dm i&&dW c i) c.queue.length<0
  ·rw[aX (by omega:¬ fR (λi=>dm i&&dW c i) c.queue.length >= 0),aQ U];rfl
  ·rw[aQ (by omega:fR (λi=>dm i&&dW c i) c.queue.length >= 0),aX U];rfl
 ·have e:=cD (step:=As) j (λk=>(((List.range c.queue.length).map dm,(List.range c.queue.length).map (dW c),c.box.bT.cap,c.now,fR dm k,fR (λi=>dm i&&dW c i) k,c.queue,(c.queue.length:Int),(k:Int),()),())) (.inl (((j:Int),()),())) aP (λk C=>kW k (by omega) (h4 k C)) (by
   rw[aO]at O;have Y:=O.2;unfold nc at Y;unfold As az bf xG xI;dsimp only;rw[aQ,aq,aB ⟨by omega,by omega⟩];simp only[eI,cV];rw[aX,au,aB ⟨by omega,by omega⟩];simp only[bu,yl I,T,pN,O.1,Y,bB,au,aq]) (bF)
  rw[cm]at e
  refine(bq (λo=>Option.bind o _) e).trans ?_
  rw[ak,L,aX];rfl
def rkN(old hit dm:Nat->Bool)(n:Nat):Int:=
 bif decide (fR (λi=>dm i&&old i) n<0)then (bif decide (fR (λi=>dm i&&hit i) n<0)then (bif decide (fR dm n<0)then 0 else 1)else 2)else 3
def aBl{c:av}(h:Pq c)(dm:Nat->Bool):Pj c.queue ((List.range c.queue.length).map dm) ((List.range c.queue.length).map (dW c)) c.box.bT.cap c.now=some (qF (nc c) (dW c) dm c.queue.length):=by
 have O:=h.ql;have D:=h.nw;have E:=h.cap;have I:W6 (c.now-c.box.bT.cap)=c.now-c.box.bT.cap:=aV;unfold Pj br;rw[dN,ak,bA.2 ⟨E.1,by omega⟩,bB,au,dN,ak,bA.2 D,bB,au];have e:=cD (step:=Jt) c.queue.length (λk=>((c.queue,(List.range c.queue.length).map dm,(List.range c.queue.length).map (dW c),c.box.bT.cap,c.now,qF (nc c) (dW c) dm k,rkN (nc c) (dW c) dm k,(k:Int),()),())) (.inl ((qF (nc c) (dW c) dm c.queue.length,()),())) aP (λk C=>by
  have T:=qE dm k;have U:=qE (λi=>dm i&&dW c i) k;have Y:=qE (λi=>dm i&&nc c i) k;unfold Jt az xG xI;dsimp only;simp only[eI,cV];rw[aQ,aq,aq,aB ⟨by omega,by omega⟩];simp only[bu,yl C,I,pN];rw[bz];unfold qF rkN;rw[Dc,Dc,Dc];have hold:decide ((lQ c k).at_<=c.now-c.box.bT.cap)=nc c k:=rfl;rw[hold];cases L:dm k with
  |false=>simp[L]
  | true=>
   simp only[bB,au,bZ];rw[aB ⟨by omega,by omega⟩,aB ⟨by omega,by omega⟩];generalize fR (λi=>dm i&&nc c i) k=o at *
   generalize fR (λi=>dm i&&dW c i) k=u at *
   generalize fR dm k=a at *
   have ao:a<0\/0<=a:=by omega
   have uo:u<0\/0<=u:=by omega
   have oo:o<0\/0<=o:=by omega
   have kn:¬ (k:Int)<0:=by omega
   rcases ao with ao|ao<;>rcases uo with uo|uo<;>rcases oo with oo|oo<;>cases dW c k<;>cases nc c k<;>simp[C,ao,uo,oo,kn,Int.not_lt.2 ao,Int.not_lt.2 uo,Int.not_lt.2 oo]) (by
  unfold Jt az xG xI;dsimp only;rw[aX,au]) (bF)
 rw[cm]at e
 refine(bq (λo=>Option.bind o _) e).trans ?_
 rfl
def v9:aE:=⟨0,0,0,0⟩
def qG(c:av):Int:=match qk c.shares (rZ c c.queue.length)with
 |some y=>y.2
 |none=>0
def ng(c:av):Int:=qF (nc c) (dW c) (pO c (qG c)) c.queue.length
def pP(c:av):aE×Int:=bif decide (ng c<0)then (v9,-1)else (jz c (ng c).toNat,ng c)
def akK{c:av}(h:Pq c):∃ l,qk c.shares (rZ c c.queue.length)=some (l,qG c):=by
 have⟨y,t,e,_⟩:=YV (rZ c c.queue.length) (by have:=h.shl;omega) h.sh (by rw[Sb,h.shl]);refine⟨y,?_⟩;unfold qG;rw[e]
def akL(c:av):-1 <= ng c/\ng c<c.queue.length:=by
 unfold ng qF;rcases qE _ _ with ⟨C,_⟩|⟨j,C,I,_⟩
 ·rw[C,aQ,aq];rcases qE _ _ with ⟨D,_⟩ | ⟨j,D,L,_⟩
  ·rw[D,aQ,aq];rcases qE (pO c (qG c)) c.queue.length with ⟨E,_⟩|⟨j,E,O,_⟩<;>omega
  ·grind
 ·grind
def aBm{c:av}(h:Pq c):Qm c (cG 0 c.aS.aJ) (fD c)=some (pP c):=by
 have E:=h.ql;have⟨l,hl⟩:=akK h;have hb:=akL c;unfold Qm br xL;rw[bH ⟨by omega,by omega,by omega⟩,bu,aAK h,ak];simp only[dX];rw[bH ⟨by omega,by omega,by omega⟩,bH ⟨by omega,by omega,by omega⟩,bu,aAL h,ak];simp only[dX];rw[bH ⟨by omega,by omega,by omega⟩,bH (by decide),bu,show (4:Int).toNat=4 from rfl,aBh h _ _ rfl,ak];simp only[dX];rw[hl,ak];dsimp only;rw[aBj E,ak];simp only[dX];rw[aBk h,ak];show (bif decide (ng c<0)then _ else _)=_;unfold pP;by_cases C:ng c<0
 ·rw[aQ C];rfl
 ·have I:(ng c).toNat<c.queue.length:=by omega
  rw[aX C,au,au];have L:¬ qF (nc c) (dW c) (pO c (qG c)) c.queue.length<0:=C;have D:=I;rw[aB ⟨by omega,by simp only[eI,cV];exact D⟩,aB (by simp only[eI,cV];exact D)];simp only[List.getElem_map,jA];rfl
def Zj(l:aa aM)(b:Int)(hl:l.length <= 1048576):ET l b=some (l.any λa=>a.ay==b):=by
 have E:=uC (λa:aM=>a.ay==b) l;unfold ET bP;rw[Lz];have e:=cD (step:=ES) (c9 (λa:aM=>a.ay==b) l) (λi=>((l,b,(i:Int),()),())) (if c9 (λa:aM=>a.ay==b) l<l.length then .inl ((true,()),())else .inr (.inl ((),()))) aP (λk h=>by
  have D:=m0 h (by omega);unfold ES az bf xG xI;dsimp only;rw[aQ,aq,aB ⟨by omega,by omega⟩];simp only[bu];rw[D,au,bz]) (by
  by_cases C:c9 (λa:aM=>a.ay==b) l<l.length
  ·have D:=qx C;unfold ES az bf xG xI;dsimp only;simp[*]
  ·unfold ES az bf xG xI;dsimp only;rw[aX,au,bJ C]) (bF)
 rw[cm]at e
 refine(bq (λo=>Option.bind o _) e).trans ?_
 by_cases C:c9 (λa:aM=>a.ay==b) l<l.length
 ·rw[bH C,aQ C];rfl
 ·rw[bJ C,aX C];rfl
def akM{c:av}(h:Pq c)(a:aM):(iter EV aP ((c,fD c,(List.range c.queue.length).map (gT c),(),(0:Int),()),((a.ay,a.row,a.bO,()),()))).bind (Sum.elim (λD=>some D.1.1) (Sum.elim (λZ=>some true) (λz=>nomatch z)))=some (!ym c c.queue.length a.ay):=by
 have hq:=h.ql;have E:=v5 h;have e:=fN (step:=EV) (List.range c.queue.length) (λi=>!(gT c i&&dW c i&&a.ay==(fH c i).ay)) (λi=>((c,fD c,(List.range c.queue.length).map (gT c),(),(i:Int),()),((a.ay,a.row,a.bO,()),()))) (.inl ((false,()),())) (.inr (.inl ((),()))) aP (λk C=>by
  rw[cV]at C;have I:=sY c;have hl4:((List.range c.queue.length).map (gT c)).length=c.queue.length:=by simp
  have⟨ho,L,O,o3,o4,T⟩:=C9 h C;have U:=ajQ (r:=c.aY) (a:=fH c k) T L O E;rw[jA];unfold EV az bf xG xI;dsimp only;rw[aQ,aq,aB ⟨by omega,by omega⟩];simp only[bu,yl C];rw[bz];cases gT c k with
  |false=>rfl
  | true=>
   rw[aq,aB ⟨by omega,by omega⟩];simp only[AQ];rw[aB ⟨by omega,by omega⟩,U,ak,Bool.beq_comm];have hit:dW c k=vV c.aY (fH c k):=rfl;rw[hit];cases a.ay==(fH c k).ay<;>cases vV c.aY (fH c k)<;>rfl) (by
  rw[cV];have I:=sY c;unfold EV az bf xG xI;dsimp only;rw[aX,au]) (by rw[cV];exact bF)
 rw[cm]at e;rw[e,ak];have Y:(List.range c.queue.length).all (λi=>!(gT c i&&dW c i&&a.ay==(fH c i).ay)) = !ym c c.queue.length a.ay:=by
  unfold ym;rw[List.any_eq_not_all_not,Bool.not_not]
 rw[Y];cases ym c c.queue.length a.ay<;>rfl
def aBn{c:av}(h:Pq c){k:Nat}(C:k<c.queue.length):Pf c (fD c) ((List.range c.queue.length).map (gT c)) (k:Int)=some (kG c k):=by
 have hq:=h.ql;have uR:=h.pl;have L:=oE h.rf;have O:=v5 h;have Sc:=sY c;have hl4:((List.range c.queue.length).map (gT c)).length=c.queue.length:=by simp
 obtain⟨ho,E,T,U,o4,o5⟩:=C9 h C;obtain⟨q1,q2,Y⟩:=h.q _ (cR C);rw[pN C]at Y;have hnw:=h.nw;have Z:(lQ c k).write=qB c.queue k:=by rw[AP C,pN C]
 have hnd:Ah c.aY (fH c k) (lQ c k).write=some (jz c k):=by rw[Z,ajO];exact RN _ E T O
 have hw:W6 (c.now-(lQ c k).at_)=c.now-(lQ c k).at_:=aV;unfold Pf xI bP;rw[aB ⟨by omega,by omega⟩];simp only[bu,AQ];rw[aB ⟨by omega,by omega⟩];simp only[yl C,(Sa L.1 E U),ak,pN];unfold kG;cases gT c k with
 |false=>rfl
 | true=>
  simp only[bB,au,bZ];cases m8 c (fH c k).ay with
  |true=>rfl
  | false=>
   rw[au,aB ⟨by omega,by omega⟩,hnd,ak,RM h.p (Zf h C),ak];cases dc c (jz c k)with
   |false=>rfl
   | true=>
    simp only[bB,gM,au,bZ,Zj _ _ (show c.pending.length<=1048576 by omega),ak,akM h,hw];have tR:(c.pending.any λa=>a.ay==(fH c k).ay)=LR c (fH c k).ay:=rfl;have hyg:decide (c.now-(lQ c k).at_ >= c.box.bT.cap) = !R9 c k:=by
     unfold R9;by_cases I:c.now-(lQ c k).at_<c.box.bT.cap
     ·rw[aQ I,aX];rfl
     ·rw[aX I,aQ];rfl
    rw[tR,hyg];by_cases D:(jz c k).kind=1
    ·have k4:((jz c k).kind==(4:Int))=false:=by rw[D];rfl
     have k4':((jz c k).kind != (4:Int))=true:=by rw[D];rfl
     have D:((jz c k).kind==(1:Int))=true:=by rw[D];rfl
     rw[D,k4,k4'];cases LR c (fH c k).ay<;>rfl
    ·have D:((jz c k).kind==(1:Int))=false:=by simpa using D
     rw[D,bne];cases (jz c k).kind==(4:Int)with
     |false=>rfl
     | true=>
      cases LR c (fH c k).ay with
      |true=>rfl
      | false=>
       simp only[Bool.false_or,bB,aq,au,bZ,gM];refine(aB (⟨by omega,C⟩:0<=(k:Int)/\k<c.queue.length)).trans ?_;cases R9 c k with
       |false=>rw[Bool.and_false];rfl
       |true=>rw[Bool.and_true];exact akM h _
def aBo{c:av}(h:Pq c):Pm c=some (pP c):=by
 have hq:=h.ql;have T:=v5 h;have Sc:=sY c;have⟨l,hl⟩:=akK h;have hb:=akL c;have e:=cD (step:=Ju) c.queue.length (λi=>((c,(),(),(),(),(),(),(i:Int),()),(((0:Int),(0:Int),(0:Int),(0:Int),()),fD c,(List.range c.queue.length).map (gT c),(List.range i).map (kG c),(List.range i).map (dW c),rZ c i,()))) (.inl ((c,(),(),(),(),(),()),(((0:Int),(0:Int),(0:Int),(0:Int),()),fD c,(List.range c.queue.length).map (kG c),(List.range c.queue.length).map (dW c),rZ c c.queue.length,()))) aP (λk C=>by
  have⟨Y,E,I,Z,o4,U⟩:=C9 h C;have⟨q1,q2,q3⟩:=h.q _ (cR C);rw[pN C]at q2;have hwl:=Sb c k;have hh:=ajQ (r:=c.aY) (a:=fH c k) U E I T;have hit:dW c k=vV c.aY (fH c k):=rfl;have hwt:rZ c (k+1)=bif kG c k then (rZ c k).set (lQ c k).dL.toNat true else rZ c k:=rfl;unfold Ju az xG xI xL;dsimp only;simp only[eI,cV,jk];rw[aQ,aq,aBn h C,ak,cM,aq,aB ⟨by omega,by omega⟩,aB];simp only[bu,AQ];rw[hh,ak,aq,bz,List.range_succ,kX,kX,List.map_singleton,List.map_singleton,hit,hwt];cases kG c k with
  |false=>rfl
  | true=>
   rw[ aB ⟨by omega,by omega⟩];simp only[pN];rw[aB ⟨by omega,by omega⟩,aB];rfl) (by
  unfold Ju az xG xI xL;dsimp only;rw[aX,au]) (bF)
 have L:=cD (step:=Jv) c.queue.length (λi=>((c,(),(),(),(),qG c,(i:Int),()),(((0:Int),(0:Int),(0:Int),(0:Int),()),fD c,s7 (pO c (qG c)) (kG c) c.queue.length i,(List.range c.queue.length).map (dW c),()))) (.inl ((c,(),(),(),(),()),(((0:Int),(0:Int),(0:Int),(0:Int),()),fD c,(List.range c.queue.length).map (pO c (qG c)),(List.range c.queue.length).map (dW c),()))) aP (λk C=>by
  have D:=Sd (pO c (qG c)) (kG c) c.queue.length k;have ht:pO c (qG c) k=(kG c k&&(lQ c k).dL==qG c):=rfl;rw[<- akJ C,ht];unfold Jv az xG xI xL;dsimp only;rw[aQ,aq,aB ⟨by omega,by omega⟩,aB,bz];simp only[bu,akI];cases kG c k with
  |false=>rw[au,aB ⟨by omega,by omega⟩,aB];rfl
  | true=>
   rw[ aB ⟨by omega,by omega⟩];simp only[pN];rw[aB ⟨by omega,by omega⟩,aB];rfl) (by
  unfold Jv az xG xI xL;dsimp only;rw[aX,au,akH]) (bF)
 rw[cm]at e L;rw[akG]at L;unfold Pm xI br xL;rw[akg h,ak,aAI h,ak,bH (by decide)]
 refine(bq (λo=>Option.bind o _) e).trans ?_
 rw[ak];simp only[dX];rw[ajK _ _ (by have:=h.shl;omega),hl,ak]
 refine(bq (λo=>Option.bind o _) L).trans ?_
 rw[ak];simp only[dX];rw[aBl h,ak];show (bif decide (ng c<0)then _ else _)=_;unfold pP;by_cases O:ng c<0
 ·rw[aQ O];rfl
 ·have D:(ng c).toNat<c.queue.length:=by omega
  have⟨Y,E,I,Z,o4,U⟩:=C9 h D;rw[aX O,au,au];have nD:¬ qF (nc c) (dW c) (pO c (qG c)) c.queue.length<0:=O;have azY:(qF (nc c) (dW c) (pO c (qG c)) c.queue.length).toNat<c.queue.length:=D;rw[aB ⟨by omega,by omega⟩,aB];simp only[AQ];rw[aB ⟨by omega,by omega⟩];simp only[pN];have HS:(lQ c (ng c).toNat).write=qB c.queue (ng c).toNat:=by rw[AP D,pN D]
  show (Ah c.aY (fH c (ng c).toNat) (lQ c (ng c).toNat).write).bind _=_;rw[HS,ajO,RN _ E I T,ak];rfl
def Se{α:Type}(p:α -> Bool)(l:aa α):(c9 p l=l.length/\l.find? p=none) \/ ∃ h:c9 p l<l.length,l.find? p=some l[c9 p l]:=by
 have E:=uC p l;rcases Nat.lt_or_ge _ _ with h|h
 ·refine .inr ⟨h,?_⟩;rw[List.find?_eq_some_iff_getElem]
  refine⟨qx h,_,h,rfl,λj C=>?_⟩
  rw[m0 C];rfl
 ·refine .inl ⟨by omega,?_⟩;rw[List.find?_eq_none];intro x D;obtain⟨j,C,rfl⟩:=jb.1 D;rw[m0 (p:=p) (by omega) C];simp
def LU(c:av)(l:aa aE):aE×Bool:=match l.find? (dc c)with
 |some x=>(x,true)
 |none=>(v9,false)
def akN{c:av}(h:Pq c){l:aa aE}(hl:l.length <= 1000)(I:∀ x∈l,cQ c.config.ax x=true):Ji c l=some (LU c l):=by
 have hi:=uC (dc c) l;have kW:∀ (k:Nat) (C:k<l.length),Co ((c,l,(),(k:Int),()),(((0:Int),(0:Int),(0:Int),(0:Int),()),()))=some (bif dc c l[k]then .inr (.inl (((),true,()),((l[k].kind,l[k].ay,l[k].row,l[k].bO,()),())))else .inl ((c,l,(),((k+1:Nat):Int),()),(((0:Int),(0:Int),(0:Int),(0:Int),()),()))):=by
  intro k C;unfold Co az bf xG xI;dsimp only;rw[aQ,aq,aB ⟨by omega,by omega⟩];simp only[bu];rw[RM h.p (I _ (cR C)),ak];cases dc c l[k]with
  |false=>rw[au,bz];rfl
  |true=>simp_all
 unfold Ji LU bP;rcases Se (dc c) l with ⟨D,E⟩|⟨D,E⟩
 ·have e:=cD (step:=Co) l.length _ _ aP (λk C=>by
   rw[kW k C,m0 (p:=dc c) (i:=k) (by omega) C];rfl) (by
   unfold Co az bf xG xI;dsimp only;rw[aX,au]) (bF)
  rw[cm]at e
  refine(bq (λo=>Option.bind o _) e).trans ?_
  rw[E];rfl
 ·have e:=cD (step:=Co) (c9 (dc c) l) (λk=>((c,l,(),(k:Int),()),(((0:Int),(0:Int),(0:Int),(0:Int),()),()))) (.inl (((),true,()),((l[c9 (dc c) l].kind,l[c9 (dc c) l].ay,l[c9 (dc c) l].row,l[c9 (dc c) l].bO,()),()))) aP (λk C=>by
   rw[kW k (by omega),m0 (p:=dc c) (i:=k) C (by omega)];rfl) (by
   rw[kW _ D,qx D];rfl) (bF)
  rw[cm]at e
  refine(bq (λo=>Option.bind o _) e).trans ?_
  rw[E];rfl
def we(c:av)(b:Int)(x:aE):aE:=bif (iY c.aY b).open_ then ⟨4,b,0,0⟩else x
def Zk{c:av}{b:Int}(x:aE)(C:0 <= b)(h:b.toNat<c.aY.aA.length):Aq c b x=some (we c b x):=by
 unfold Aq we xI;rw[aB ⟨C,h⟩,AL h]
 grind
def Zl{c:av}(x:aE)(C:0 <= x.ay)(h:x.ay.toNat<c.aY.aA.length):ER c x=some (we c x.ay x):=by
 unfold ER we xI;rw[aB ⟨C,h⟩,AL h]
 grind
def LV{c:av}{b:Int}{x:aE}(h:Pq c)(C:0 <= b/\b<aR c.config.ax)(D:cQ c.config.ax x=true):cQ c.config.ax (we c b x)=true:=by
 unfold we;cases (iY _ b).open_ with
 |false=>exact D
 |true=>exact vW h.p.R.pL (.inl rfl) C
def gU(c:av)(b:Int):aE:=we c b ⟨5,b,0,0⟩
def nh(c:av)(i:Nat):aM:=c.pending.getD i zA
def Zm{c:av}{i:Nat}(h:i<c.pending.length):c.pending[i]=nh c i:=by
 unfold nh;rw[ei,bQ h];rfl
def qH(c:av)(i:Nat):Bool:=!m8 c (nh c i).ay && !((c.pending.take i).any λa=>a.ay==(nh c i).ay)
def jT(c:av)(i:Nat):aE:=we c (nh c i).ay ⟨1,(nh c i).ay,(nh c i).row,0⟩
def pQ(c:av):aa aE:=(cG 0 c.aS.aJ).map (gU c)
def qI(c:av)(k:Nat):aa aE:=((List.range k).filter (qH c)).map (jT c)
def Sf{c:av}(h:Pq c){i:Nat}(hi:i<c.pending.length):dz c.config.ax (nh c i)=true/\0 <= (nh c i).ay/\(nh c i).ay.toNat<c.aY.aA.length/\(nh c i).ay.toNat<c.aS.aJ.length/\(nh c i).ay<aR c.config.ax:=by
 have C:=h.pe _ (cR hi);rw[Zm]at C;have⟨_,D,E,I,L,O,T⟩:=rM C;have:=h.p.bl;have:=h.dl;simp_all
def Zn{c:av}(h:Pq c){b:Int}(hb:b∈cG 0 c.aS.aJ):(0 <= b/\b<aR c.config.ax)/\cQ c.config.ax (gU c b)=true:=by
 obtain⟨j,rfl,C,_⟩:=ajH hb;have:=h.dl;have hb:0 <= ((0+j):Int)/\((0+j):Int)<aR c.config.ax:=by omega
 exact⟨hb,LV h hb (vW h.p.R.pL (.inr rfl) hb)⟩
def akO{c:av}(h:Pq c){i:Nat}(hi:i<c.pending.length):cQ c.config.ax (jT c i)=true:=by
 have⟨C,D,I,L,E⟩:=Sf h hi;exact LV h ⟨D,E⟩ (ajR C)
def akP(c:av)(k:Nat):(qI c k).length <= k:=by
 unfold qI
 grind
def aBp{c:av}(h:Pq c):O9 c=some (pQ c++qI c c.pending.length):=by
 have E:=oE h.rf;have uR:=h.pl;have hdn:=h.dl;have Lg:=h.p.bl;have ul:=C7 0 c.aS.aJ;have e:=cD (step:=Jj) c.aS.aJ.length (λi=>((c,(),(i:Int),()),((cG 0 (c.aS.aJ.take i)).map (gU c),()))) (.inl ((c,(),()),(pQ c,()))) aP (λk C=>by
  have L:=C7 0 (c.aS.aJ.take k);rw[fU]at L;have O:=(Sa (c:=c) (b:=(k:Int)) E.1 (by omega) (by omega))
  have T:m8 c (k:Int)=decide (c.aS.aJ[k] >= 4):=by
   unfold m8;rw[bu,ei,bQ C];rfl
  unfold Jj az xG;dsimp only;rw[aQ,aq,O,ak,bz,YQ C,T];cases decide (c.aS.aJ[k] >= 4)with
  |false=>rfl
  | true=>
   rw[aq,aq,Zl _ (by show 0 <= (k:Int);omega) (by show (k:Int).toNat<_;omega),ak,eI,jk,cM,kX];rfl) (by
  unfold Jj az xG;dsimp only;rw[aX,au,ir];rfl) (bF)
 have D:=cD (step:=Jk) c.pending.length (λi=>((c,(),(i:Int),()),(pQ c++qI c i,()))) (.inl (((),()),(pQ c++qI c c.pending.length,()))) aP (λk C=>by
  have⟨ho,I,U,Y,o4⟩:=Sf h C;have hpk:=akP c k;have hul:(pQ c).length <= 8:=by unfold pQ;rw[eI];omega
  have Z:qI c (k+1)=qI c k++(bif qH c k then [jT c k]else []):=by
   unfold qI;rw[List.range_succ,List.filter_append];cases hp:qH c k<;>simp[hp]
  rw[Z];unfold Jk az xG xI;dsimp only;rw[aQ,aq,aB ⟨by omega,by omega⟩,bz];simp only[bu,Zm,(Sa E.1 I Y),ak,Int.toNat_zero,List.drop_zero];unfold qH;cases m8 c (nh c k).ay with
  |true=>rw[bB,au,Bool.false_and,au,List.append_nil]
  | false=>
   rw[gM,aq,bH ⟨by omega,by omega,by omega⟩,Zj _ _ (by rw[fU];omega),ak,bZ];cases (c.pending.take k).any λa=>a.ay==(nh c k).ay with
   |true=>rw[bB,au,au,List.append_nil]
   | false=>
    rw[gM,Zl _ I U,ak,mC,jk,cM,List.append_assoc];rfl) (by
  unfold Jk az xG xI;dsimp only;rw[aX,au]) (bF)
 rw[cm]at e D;unfold O9 br
 refine(bq (λo=>Option.bind o _) e).trans ?_
 rw[ak];have e0:pQ c++qI c 0=pQ c:=List.append_nil _;rw[e0]at D
 refine(bq (λo=>Option.bind o _) D).trans ?_
 rfl
def uL(u:Bool)(l:aa Int)(idle:Nat->Bool)(i:Nat):Bool:=bif u then decide (l.getD i 0 >= 4)else decide (l.getD i 0 > 0)&&idle i
def AS(r:dn)(idle:Nat->Bool):Int:=kU (uL (decide (((cG 0 r.aJ).length:Int) > 0)) r.aJ idle) (λi=>r.aJ.getD i 0) r.aJ.length
def Sg(r:dn)(idle:Nat->Bool):-1<=AS r idle/\AS r idle<r.aJ.length:=vU _ _ _
def aBq{r:dn}(D:ff r=true)(idle:Nat -> Bool):Kt r ((List.range r.aJ.length).map idle)=some (AS r idle):=by
 have hl:=oE D;unfold Kt br;rw[Ri _ (by omega),ak,D,bB,au,YR D,ak];generalize O:decide (((cG 0 r.aJ).length:Int) > 0)=u;have e:=cD (step:=Kr) r.aJ.length (λi=>(((List.range r.aJ.length).map idle,(),u,kU (uL u r.aJ idle) (λi=>r.aJ.getD i 0) i,r.aJ,(r.aJ.length:Int),(i:Int),()),((r.aJ,r.wait,r.eP,()),()))) (.inl ((kU (uL u r.aJ idle) (λi=>r.aJ.getD i 0) r.aJ.length,()),())) aP (λk E=>by
  have hb:=vU (uL u r.aJ idle) (λi=>r.aJ.getD i 0) k;rw[FU];generalize kU (uL u r.aJ idle) (λi=>r.aJ.getD i 0) k=C at hb;have T:r.aJ.getD k 0=r.aJ[k]:=by rw[ei,bQ E];rfl
  unfold Kr AH uL az xG xI;dsimp only;rw[aQ,aq,aB ⟨by omega,by omega⟩];simp only[bu,T,eI,cV];rw[bz,aQ (by omega:(k:Int)<(r.aJ.length:Int)),aq,aB ⟨by omega,by omega⟩];simp only[yl E];by_cases I:C<0
  ·rw[aQ I,Bool.true_or];cases u<;>cases decide (r.aJ[k] > 0)<;>cases decide (r.aJ[k] >= 4)<;>cases idle k<;>rfl
  ·have L:C.toNat<r.aJ.length:=by omega
   have U:r.aJ.getD C.toNat 0=r.aJ[C.toNat]:=by rw[ei,bQ L];rfl
   have Y:0 <= C/\C.toNat<r.aJ.length:=⟨by omega,L⟩
   rw[aX I,U];simp only[aB Y,au];cases u<;>cases decide (r.aJ[k] > 0)<;>cases decide (r.aJ[k] >= 4)<;>cases idle k<;>cases decide (r.aJ[k] > r.aJ[C.toNat])<;>rfl) (by
  unfold Kr az xG xI;dsimp only;rw[aX,au]) (bF)
 rw[cm]at e
 refine(bq (λo=>Option.bind o _) e).trans ?_
 unfold AS;rw[O];rfl
def aBr{r:dn}(D:ff r=true)(idle:Nat -> Bool):Pn r ((List.range r.aJ.length).map idle)=some (AS r idle):=by
 have hl:=oE D;unfold Pn br;rw[Li _ (by omega),ak,D,bB,au,ajI D,ak];generalize O:decide (((cG 0 r.aJ).length:Int) > 0)=u;have e:=cD (step:=Jw) r.aJ.length (λi=>(((List.range r.aJ.length).map idle,(),u,kU (uL u r.aJ idle) (λi=>r.aJ.getD i 0) i,(i:Int),()),((r.aJ,r.wait,r.eP,()),()))) (.inl ((kU (uL u r.aJ idle) (λi=>r.aJ.getD i 0) r.aJ.length,()),())) aP (λk E=>by
  have hb:=vU (uL u r.aJ idle) (λi=>r.aJ.getD i 0) k;rw[FU];generalize kU (uL u r.aJ idle) (λi=>r.aJ.getD i 0) k=C at hb;have T:r.aJ.getD k 0=r.aJ[k]:=by rw[ei,bQ E];rfl
  have U:0 <= (k:Int)/\k<r.aJ.length:=⟨by omega,E⟩
  unfold Jw AH uL az xG xI;dsimp only;rw[aQ,aq,aB ⟨by omega,by omega⟩];simp only[bu,T,eI,cV,aB U];rw[bz,aQ (by omega:(k:Int)<(r.aJ.length:Int)),aq];simp only[yl E];by_cases I:C<0
  ·rw[aQ I,Bool.true_or];cases u<;>cases decide (r.aJ[k] > 0)<;>cases decide (r.aJ[k] >= 4)<;>cases idle k<;>rfl
  ·have L:C.toNat<r.aJ.length:=by omega
   have Y:r.aJ.getD C.toNat 0=r.aJ[C.toNat]:=by rw[ei,bQ L];rfl
   have Z:0 <= C/\C.toNat<r.aJ.length:=⟨by omega,L⟩
   rw[aX I,Y];simp only[aB Z,au];cases u<;>cases decide (r.aJ[k] > 0)<;>cases decide (r.aJ[k] >= 4)<;>cases idle k<;>cases decide (r.aJ[k] > r.aJ[C.toNat])<;>rfl) (by
  unfold Jw az xG xI;dsimp only;rw[aX,au]) (bF)
 rw[cm]at e
 refine(bq (λo=>Option.bind o _) e).trans ?_
 unfold AS;rw[O];rfl
def nU(w:aa aM)(r:bU)(b:Nat):Bool:=w.any λa=>a.ay==(b:Int)&&a.row==(iY r (b:Int)).row
def s8(w:aa aM)(r:bU)(b:Nat):Bool:=(iY r (b:Int)).open_ && !nU w r b
def yp(r:bU)(eU:Int)(w:aa aM):Int:=bif eU != 1 then -1 else fR (s8 w r) r.aA.length
def Zo(r:bU)(eU:Int)(w:aa aM):-1 <= yp r eU w/\yp r eU w<r.aA.length:=by
 unfold yp;cases eU != 1 with
 |true=>grind
 | false=>
  rw[au];rcases qE (s8 w r) r.aA.length with ⟨C,_⟩|⟨j,C,D,_⟩<;>omega
def aBs{w:aa aM}{r:bU}{L:aa Int}{b:Nat}{i n:Int}(hb:b<r.aA.length)(hl:r.aA.length<=1048576)(D:w.length<=1000):iter Fw aP ((w,(),(b:Int),false,(),n,i,w,(w.length:Int),(0:Int),()),((r.aA,r.aT,()),L,()))=some (.inl ((w,(),(b:Int),nU w r b,(),n,i,()),((r.aA,r.aT,()),L,()))):=by
 have e:=cD (step:=Fw) w.length (λk=>((w,(),(b:Int),((w.take k).any λa=>a.ay==(b:Int)&&a.row==(iY r (b:Int)).row),(),n,i,w,(w.length:Int),(k:Int),()),((r.aA,r.aT,()),L,()))) (.inl ((w,(),(b:Int),nU w r b,(),n,i,()),((r.aA,r.aT,()),L,()))) aP (λk C=>by
  rw[mU C,List.any_append,List.any_cons,List.any_nil,Bool.or_false,AL (by rw[bu];exact hb)];unfold Fw az xG xI;dsimp only;rw[aQ,aq,aB ⟨by omega,by omega⟩,bz];simp only[bu];cases (w.take k).any λa=>a.ay==(b:Int)&&a.row==r.aA[b].row with
  |true=>rfl
  | false=>
   rw[au,Bool.false_or];cases w[k].ay==(b:Int)with
   |false=>rfl
   |true=>rw[aq,aB ⟨by omega,hb⟩,bZ]) (by
  unfold Fw az xG xI;dsimp only;rw[aX,au,ir];rfl) (bF)
 rw[cm]at e;exact e
def aBt{w:aa aM}{r:bU}{b:Nat}(hb:b<r.aA.length)(hl:r.aA.length <= 1048576)(D:w.length <= 1000)(o:Bool):iter EY aP ((w,(),(b:Int),o,(0:Int),()),((r.aA,r.aT,()),()))=some (.inl ((w,(),(b:Int),o || nU w r b,()),((r.aA,r.aT,()),()))):=by
 have e:=cD (step:=EY) w.length (λk=>((w,(),(b:Int),o || ((w.take k).any λa=>a.ay==(b:Int)&&a.row==(iY r (b:Int)).row),(k:Int),()),((r.aA,r.aT,()),()))) (.inl ((w,(),(b:Int),o || nU w r b,()),((r.aA,r.aT,()),()))) aP (λk C=>by
  rw[mU C,List.any_append,List.any_cons,List.any_nil,Bool.or_false,AL (by rw[bu];exact hb)];unfold EY az xG xI;dsimp only;rw[aQ,aq,aB ⟨by omega,by omega⟩,bz];simp only[bu];cases w[k].ay==(b:Int)with
  |false=>rw[au,Bool.false_and,Bool.or_false]
  | true=>
   rw[aq,aB ⟨by omega,C⟩,aB ⟨by omega,hb⟩,bZ];cases w[k].row==r.aA[b].row with
   |false=>simp[*]
   |true=>rw[aq,Bool.or_true,Bool.or_true]) (by
  unfold EY az xG xI;dsimp only;rw[aX,au,ir];rfl) (bF)
 rw[cm,List.take_zero,List.any_nil,Bool.or_false]at e;exact e
def akQ(w:aa aM)(r:bU):∀ k,k <= r.aA.length -> (opens 0 (r.aA.take k)).find? (λb=>!nU w r b.toNat)=bif decide (fR (s8 w r) k<0)then none else some (fR (s8 w r) k)
 |0,_=>rfl
 | k+1,E=>by
  have C:=akQ w r k (by omega);have hb:(iY r (k:Int)).open_=r.aA[k].open_:=by rw[AL (by rw[bu];omega)];simp only[bu]
  have D:s8 w r k=(r.aA[k].open_ && !nU w r k):=by unfold s8;rw[hb]
  rw[mU (show k<r.aA.length by omega),XY,fU,Nat.min_eq_left (by omega),eN,List.find?_append,C,Dc,D];have I:opens k [r.aA[k]]=bif r.aA[k].open_ then [(k:Int)]else []:=rfl
  grind
def akR(i:Nat)(l:aa di)(x:Int)(h:x∈opens i l):∃ j:Nat,j<l.length/\x=((i+j:Nat):Int):=by
 induction l generalizing i with
 |nil=>cases h
 | cons d l C=>
  have e:opens i (d :: l)=bif d.open_ then (i:Int) :: opens (i+1) l else opens (i+1) l:=rfl;rw[e]at h;have tl:x∈opens (i+1) l -> ∃ j:Nat,j<(d :: l).length/\x=((i+j:Nat):Int):=λh=>by
   have⟨j,D,E⟩:=C _ h;exact⟨j+1,by simpa using D,by rw[E];omega⟩
  cases I:d.open_ with
  |false=>grind
  | true=>
   rw[I,aq]at h;rcases gn.1 h with rfl|h
   ·exact⟨0,by simp,rfl⟩
   ·exact tl h
def aBu{r:bU}(eU:Int){w:aa aM}(hl:r.aA.length <= 1048576)(O:w.length <= 1000):Ku r eU w=some (yp r eU w):=by
 unfold Ku yp bP;cases eU != 1 with
 |true=>rfl
 | false=>
  rw[au,au,Q6 r (by omega),ak];have I:=akQ w r r.aA.length (dx _);rw[ir]at I;have Z:=Q5 0 r.aA;have T:=akR 0 r.aA;generalize hL:opens 0 r.aA=L at *
  have hi:=uC (λb:Int=>!nU w r b.toNat) L;have kW:∀ (k:Nat) (C:k<L.length),CE ((w,(),(),(L.length:Int),(k:Int),()),((r.aA,r.aT,()),L,()))=some (bif !nU w r L[k].toNat then .inr (.inl ((L[k],()),()))else .inl ((w,(),(),(L.length:Int),((k+1:Nat):Int),()),((r.aA,r.aT,()),L,()))):=by
   intro k C;have⟨j,E,D⟩:=T _ (cR C);rw[eN]at D;unfold CE az bf xG br xL;dsimp only;rw[aQ,aq,aB ⟨by omega,by omega⟩,aB];simp only[bu,D];rw[aBs E hl O,ak];simp only[dX];rw[bz];cases nU w r j<;>rfl
  rcases Se (λb:Int=>!nU w r b.toNat) L with ⟨E,D⟩|⟨E,D⟩
  ·have e:=cD (step:=CE) L.length (λk=>((w,(),(),(L.length:Int),(k:Int),()),((r.aA,r.aT,()),L,()))) (.inr (.inl ((),()))) aP (λk C=>by
    have:=m0 (p:=λb:Int=>!nU w r b.toNat) (q:=L) (i:=k) (by omega) C;rw[kW k C,this];rfl) (by
    unfold CE az bf xG br xL;dsimp only;rw[aX,au]) (bF)
   rw[cm]at e
   refine(bq (λo=>Option.bind o _) e).trans ?_
   rw[D]at I;by_cases U:fR (s8 w r) r.aA.length<0
   ·rcases qE (s8 w r) r.aA.length with ⟨Y,_⟩ | ⟨j,_,k2,_⟩
    ·rw[Y];rfl
    ·omega
   ·grind
  ·have e:=cD (step:=CE) (c9 (λb:Int=>!nU w r b.toNat) L) (λk=>((w,(),(),(L.length:Int),(k:Int),()),((r.aA,r.aT,()),L,()))) (.inl ((L[c9 (λb:Int=>!nU w r b.toNat) L],()),())) aP (λk C=>by
    have:=m0 (p:=λb:Int=>!nU w r b.toNat) (q:=L) (i:=k) C (by omega);rw[kW k (by omega),this];rfl) (by
    have:=qx (p:=λb:Int=>!nU w r b.toNat) (q:=L) E;rw[kW _ E,this];rfl) (bF)
   rw[cm]at e
   refine(bq (λo=>Option.bind o _) e).trans ?_
   rw[D]at I;by_cases U:fR (s8 w r) r.aA.length<0
   ·grind
   ·simp[*]
def aBv{r:bU}(eU:Int){w:aa aM}(hl:r.aA.length <= 1048576)(I:w.length <= 1000):Po r eU w=some (yp r eU w):=by
 unfold Po yp bP;cases eU != 1 with
 |true=>rfl
 | false=>
  have kW:∀ k (C:k<r.aA.length),Cq ((w,(),k,()),((r.aA,r.aT,()),()))=some (bif s8 w r k then .inr (.inl ((k,()),()))else .inl ((w,(),((k+1):Int),()),((r.aA,r.aT,()),()))):=by
   intro k C;have hb:(iY r (k:Int)).open_=r.aA[k].open_:=by rw[AL (by rw[bu];omega)];simp only[bu]
   unfold Cq s8 az bf xG xI br;dsimp only;rw[aQ,aq,aB ⟨by omega,by omega⟩,hb];simp only[bu];rw[aBt C hl I,ak];simp only[dX];rw[bz];cases r.aA[k].open_<;>cases nU w r k<;>rfl
  rcases qE (s8 w r) _ with ⟨D,E⟩|⟨j,D,E,L,O⟩
  ·have e:=cD (step:=Cq) r.aA.length (λk=>((w,(),(k:Int),()),((r.aA,r.aT,()),()))) (.inr (.inl ((),()))) aP (λk C=>by
    rw[kW k C,E k C];rfl) (by
    unfold Cq az bf xG xI br;dsimp only;rw[aX,au]) (bF)
   rw[cm]at e
   refine(bq (λo=>Option.bind o _) e).trans ?_
   rw[D];rfl
  ·have e:=cD (step:=Cq) j (λk=>((w,(),(k:Int),()),((r.aA,r.aT,()),()))) (.inl (((j:Int),()),())) aP (λk C=>by
    rw[kW k (by omega),O k C];rfl) (by
    rw[kW j D,L];rfl) (bF)
   rw[cm]at e
   refine(bq (λo=>Option.bind o _) e).trans ?_
   rw[E];rfl
def cz(c:av):Int:=uE c.box.bT.eB c.aT (yd c)
def F2(c:av)(i:Nat):Bool:=!((fD c).any λa=>a.ay==(i:Int))
def fS(c:av):Int:=AS c.aS (F2 c)
def gV(c:av):Int:=yp c.aY c.box.bT.eU (fD c)
def s9(c:av):aa aE:=bif decide (fS c >= 0) && !m8 c (fS c)then [gU c (fS c)]else []
def pR(c:av):aa aE:=bif decide (gV c >= 0)then [⟨4,gV c,0,0⟩]else []
def mA(c:av):aa aE:=bif cz c==8&&decide (((opens 0 c.aY.aA).length:Int) > 0)then [⟨4,(opens 0 c.aY.aA).headD 0,0,0⟩]else bif cz c != 0 then [⟨cz c,0,0,0⟩]else []
def r3(c:av)(l:aa aE):aE:=(l.find? (dc c)).getD v9
def fnd_nil(c:av):r3 c []=v9:=rfl
def fnd_cons(c:av)(x:aE)(l:aa aE):r3 c (x :: l)=bif dc c x then x else r3 c l:=by
 unfold r3;rw[List.find?_cons];cases dc c x<;>rfl
def Sh(c:av)(w:Int):aj aE:=
 let D:Int->Int->Int->Int->aj (aE):=λE I L O=>(let T:Bool->aj (aE):=λU=>bif U then some (⟨E,I,L,O⟩:aE)else some (⟨(0:Int),(0:Int),(0:Int),(0:Int)⟩:aE);bif (E != (0:Int))then (iW c (⟨E,I,L,O⟩:aE)).bind λY=>(T Y)else (T false));bif (w==(8:Int))then (zP c.aY).bind λC=>bif (decide ((C.length:Int) > (0:Int)))then if qd:0<=(0:Int)/\(0:Int).toNat<C.length then if Z:(0:Int).toNat<C.length then (let rJ:=C[(0:Int).toNat]'Z;(D (4:Int) rJ (0:Int) (0:Int)))else none else none else (D w 0 0 0)else (D w 0 0 0)
def Dd(c:av)(D:aa aM)(w:Int):aj aE:=
 (Ku c.aY c.box.bT.eU D).bind λC=>bif (C != (-1:Int))then (iW c (⟨(4:Int),C,(0:Int),(0:Int)⟩:aE)).bind λE=>bif E then some (⟨(4:Int),C,(0:Int),(0:Int)⟩:aE)else Sh c w else Sh c w
def akS(c:av)(L:aa Int)(D:aa aM)(w:Int)(idle:aa Bool):aj aE:=
 (Kt c.aS idle).bind λC=>(let E:Bool->aj (aE):=λO=>bif O then (Aq c C (⟨(5:Int),C,(0:Int),(0:Int)⟩:aE)).bind λI=>(iW c I).bind λT=>bif T then some I else Dd c D w else Dd c D w;bif (C != (-1:Int))then (vD L C).bind λU=>(E (!U))else (E false))
def F3(c:av):cz c=0\/6<=cz c/\cz c<=9:=azT _ _ _
def aBw(l:aa Int)(h:0<l.length):l.headD 0=l[0]:=by
 cases l with
 |nil=>cases h
 |cons x l=>rfl
def Zp(c:av)(h:Pq c)(C:0<(opens 0 c.aY.aA).length):(0 <= (opens 0 c.aY.aA)[0]/\(opens 0 c.aY.aA)[0]<aR c.config.ax)/\(opens 0 c.aY.aA).headD 0=(opens 0 c.aY.aA)[0]:=by
 have⟨j,D,E⟩:=akR 0 _ _ (cR C);have:=h.p.bl;exact⟨by omega,aBw _ C⟩
def aBx{c:av}(h:Pq c):Sh c (cz c)=some (r3 c (mA c)):=by
 have lC:=v5 h;have hw:=F3 c;have D:=h.p.R.pL;have L:cz c≠0 -> iW c ⟨cz c,0,0,0⟩=some (dc c ⟨cz c,0,0,0⟩):=λhn=>yc h.p (LI D (by omega))
 have O:(bif (cz c != (0:Int))then (iW c (⟨cz c,0,0,0⟩:aE)).bind λT=>(bif T then some (⟨cz c,0,0,0⟩:aE)else some v9)else some v9)=some (r3 c (bif cz c != 0 then [⟨cz c,0,0,0⟩]else [])):=by
  by_cases C:cz c=0
  ·rw[C];rfl
  ·rw[fO C,aq,aq,L C,fnd_cons,fnd_nil]
   grind
 unfold Sh mA;dsimp only;by_cases E:cz c=8
 ·have U:(cz c==8)=true:=by rw[E];rfl
  rw[U,aq,Q6 _ (by omega),ak,bZ];by_cases I:0<(opens 0 c.aY.aA).length
  ·have⟨Y,Z⟩:=Zp c h I;rw[aQ,aq,aq,aB ⟨by omega,I⟩,aB,Z];show (bif ((4:Int) != 0)then (iW c ⟨4,(opens 0 c.aY.aA)[0],0,0⟩).bind _ else _)=_;rw[yc h.p (vW D (.inl rfl) Y),fnd_cons,fnd_nil];cases dc c ⟨4,(opens 0 c.aY.aA)[0],0,0⟩<;>rfl
  ·rw[aX,au];exact O
 ·rwa [jg E,au,Bool.false_and,au]
def aBy{c:av}(h:Pq c):Dd c (fD c) (cz c)=some (r3 c (pR c++mA c)):=by
 have C:=v5 h;have E:=h.ql;have I:=h.p.bl;have hb:-1 <= gV c/\gV c<c.aY.aA.length:=Zo _ _ _;unfold Dd pR;rw[aBu _ C (by rw[sY];omega),ak];show (bif gV c != -1 then (iW c ⟨4,gV c,0,0⟩).bind _ else _)=_;rw[aBx h];by_cases D:gV c >= 0
 ·rw[fO (by omega:¬ gV c = -1),aq,aQ D,aq,yc h.p (vW h.p.R.pL (.inl rfl) (by omega)),ak,List.singleton_append,fnd_cons];cases dc c ⟨4,gV c,0,0⟩<;>rfl
 ·grind
def aBz{c:av}(h:Pq c):akS c (cG 0 c.aS.aJ) (fD c) (cz c) ((List.range c.aS.aJ.length).map (F2 c))=some (r3 c (s9 c++(pR c++mA c))):=by
 have U:=v5 h;have I:=oE h.rf;have Y:=h.p.bl;have Z:=h.dl;have hb:-1 <= fS c/\fS c<c.aS.aJ.length:=Sg _ _;unfold akS s9;rw[aBq h.rf,ak];show (bif fS c != -1 then (vD (cG 0 c.aS.aJ) (fS c)).bind λL=>(bif !L then (Aq c (fS c) ⟨5,fS c,0,0⟩).bind λD=>(iW c D).bind λC=>bif C then some D else Dd c (fD c) (cz c)else Dd c (fD c) (cz c))else Dd c (fD c) (cz c))=_;rw[aBy h];by_cases O:fS c >= 0
 ·have E:0 <= fS c/\fS c<aR c.config.ax:=by omega
  rw[fO (by omega:¬ fS c = -1),aq,aQ O,bZ,(Ze I.1 (by omega) (by omega)),ak];cases m8 c (fS c)with
  |true=>rfl
  | false=>
   have T:cQ c.config.ax (gU c (fS c))=true:=LV h E (vW h.p.R.pL (.inr rfl) E);rw[gM,aq,aq,Zk _ (by omega) (by omega),ak];show ((iW c (gU c (fS c))).bind λC=>bif C then some (gU c (fS c))else _)=_;rw[yc h.p T,ak,List.singleton_append,fnd_cons]
   grind
 ·grind
def aBA{c:av}(h:Pq c):Kw c (cG 0 c.aS.aJ) (fD c) ⟨cz c,0,0,0⟩=some (r3 c (s9 c++(pR c++mA c))):=by
 have D:=v5 h;have E:=h.ql;have I:=h.p.bl;have L:=h.dl;have O:=oE h.rf;have C:c.aY.aA.length=c.aS.aJ.length:=by omega
 have e:=cD (step:=Kv) c.aY.aA.length (λi=>((cG 0 c.aS.aJ,fD c,(),(),(),(),(c.aY.aA.length:Int),(i:Int),()),(c,(cz c,(0:Int),(0:Int),(0:Int),()),((0:Int),(0:Int),(0:Int),(0:Int),()),(List.range i).map (F2 c),()))) _ aP (λk T=>by
  unfold Kv az xG;dsimp only;rw[aQ,aq,YZ _ _ (by rw[sY];omega),ak,eI,cV,jk,cM,aq,bz,List.range_succ,kX];rfl) (by
  unfold Kv az xG;dsimp only;rw[aX,au]) (bF)
 rw[cm]at e;unfold Kw br xL
 refine(bq (λo=>Option.bind o _) e).trans ?_
 rw[ak,C];exact aBz h
def akT{c:av}(h:Pq c):(mA c).length <= 1 /\ ∀ x∈mA c,cQ c.config.ax x=true:=by
 have U:=F3 c;have D:=h.p.R.pL;have E:(bif cz c != 0 then [(⟨cz c,0,0,0⟩:aE)]else []).length <= 1 /\ ∀ x∈(bif cz c != 0 then [⟨cz c,0,0,0⟩]else []),cQ c.config.ax x=true:=by
  by_cases I:cz c=0
  ·simp_all
  ·rw[fO I];exact⟨dx _,λx C=>by rw[kI.1 C];exact LI D (by omega)⟩
 unfold mA;cases cz c==8 with
 |false=>exact E
 | true=>
  by_cases L:0<(opens 0 c.aY.aA).length
  ·have⟨O,T⟩:=Zp c h L;rw[aQ,T];exact⟨dx _,λx C=>by rw[kI.1 C];exact vW D (.inl rfl) O⟩
  ·simp_all
def akU{c:av}(h:Pq c):(pR c).length <= 1 /\ ∀ x∈pR c,cQ c.config.ax x=true:=by
 have E:=h.p.bl;have hb:-1 <= gV c/\gV c<c.aY.aA.length:=Zo _ _ _;unfold pR;by_cases C:gV c >= 0
 ·rw[aQ C];exact⟨dx _,λx D=>by rw[kI.1 D];exact vW h.p.R.pL (.inl rfl) (by omega)⟩
 ·grind
def aBB{c:av}(h:Pq c):(s9 c).length <= 1 /\ ∀ x∈s9 c,cQ c.config.ax x=true:=by
 have I:=h.dl;have hb:-1 <= fS c/\fS c<c.aS.aJ.length:=Sg _ _;unfold s9;by_cases D:fS c >= 0
 ·have C:0 <= fS c/\fS c<aR c.config.ax:=by omega
  rw[aQ D];cases m8 c _ with
  |true=>simp_all
  |false=>exact⟨dx _,λx E=>by rw[kI.1 E];exact LV h C (vW h.p.R.pL (.inr rfl) C)⟩
 ·grind
def aBC{c:av}(h:Pq c):Pp c (cz c)=some (s9 c++(pR c++mA c)):=by
 have U:=v5 h;have hq:=h.ql;have Lg:=h.p.bl;have hdn:=h.dl;have Y:=oE h.rf;have Z:c.aY.aA.length=c.aS.aJ.length:=by omega
 have zI:-1 <= fS c/\fS c<c.aS.aJ.length:=Sg _ _;have gI:-1 <= gV c/\gV c<c.aY.aA.length:=Zo _ _ _;have hol:=Q5 0 c.aY.aA;have e:=cD (step:=Jx) c.aY.aA.length (λi=>((c,cz c,(),(),(),(i:Int),()),(([]:aa aE),fD c,(List.range i).map (F2 c),()))) (.inl ((c,cz c,(),(),(),()),(([]:aa aE),fD c,(List.range c.aY.aA.length).map (F2 c),()))) aP (λk hk=>by
  unfold Jx az xG;dsimp only;rw[aQ,aq,Zj _ _ (by rw[sY];omega),ak,eI,cV,jk,cM,aq,bz,List.range_succ,kX];rfl) (by
  unfold Jx az xG;dsimp only;rw[aX,au]) (bF)
 rw[cm]at e;have D:∀l:aa aE,l.length <= 5 -> bD (l.length+1)=true:=λl hl=>cM
 -- the end
 have tl:∀ l:aa aE,l.length <= 5 -> (bif (cz c==(8:Int))then (bif (decide (((opens 0 c.aY.aA).length:Int) > (0:Int)))then (if I:0 <= (0:Int)/\(0:Int).toNat<(opens 0 c.aY.aA).length then if C:(0:Int).toNat<(opens 0 c.aY.aA).length then (bif bD (l.length+([(⟨(4:Int),(opens 0 c.aY.aA)[(0:Int).toNat]'C,(0:Int),(0:Int)⟩:aE)]:aa aE).length)then some (l++([(⟨(4:Int),(opens 0 c.aY.aA)[(0:Int).toNat]'C,(0:Int),(0:Int)⟩:aE)]:aa aE))else none)else none else none)else (bif (cz c != (0:Int))then bif bD (l.length+([(⟨cz c,(0:Int),(0:Int),(0:Int)⟩:aE)]:aa aE).length)then some (l++([(⟨cz c,(0:Int),(0:Int),(0:Int)⟩:aE)]:aa aE))else none else some l))else (bif (cz c != (0:Int))then bif bD (l.length+([(⟨cz c,(0:Int),(0:Int),(0:Int)⟩:aE)]:aa aE).length)then some (l++([(⟨cz c,(0:Int),(0:Int),(0:Int)⟩:aE)]:aa aE))else none else some l))=some (l++mA c):=by
  intro l hl;have z:(bif (cz c != (0:Int))then bif bD (l.length+([(⟨cz c,(0:Int),(0:Int),(0:Int)⟩:aE)]:aa aE).length)then some (l++([(⟨cz c,(0:Int),(0:Int),(0:Int)⟩:aE)]:aa aE))else none else some l)=some (l++(bif cz c != 0 then [(⟨cz c,0,0,0⟩:aE)]else [])):=by
   rw[jk,D l hl];cases cz c != 0 with
   |true=>rfl
   |false=>rw[au,au,List.append_nil]
  unfold mA;cases cz c==8 with
  |false=>exact z
  | true=>
   rw[aq,bZ];by_cases E:0<(opens 0 c.aY.aA).length
   ·have⟨k1,k2⟩:=Zp c h E;rw[aQ (by omega:((opens 0 c.aY.aA).length:Int) > 0),aq,aq,aB ⟨by omega,E⟩,aB (show Int.toNat 0<(opens 0 c.aY.aA).length from E),jk,D l hl,aq,k2];rfl
   ·rw[aX (by omega:¬ ((opens 0 c.aY.aA).length:Int) > 0),au,au];exact z
 unfold Pp br xL;rw[akg h,ak]
 refine(bq (λo=>Option.bind o _) e).trans ?_
 rw[ak,Z];simp only[dX,aBr h.rf,ak,aBv _ U (show (fD c).length <= 1000 by rw[sY];omega),aiT _ (show c.aY.aA.length<1073741823 by omega)];have er:AS c.aS (F2 c)=fS c:=rfl;have ec:yp c.aY c.box.bT.eU (fD c)=gV c:=rfl;rw[er,ec];have h1:∀ l:aa aE,l.length <= 4 -> (bif decide (gV c >= 0)then bif bD (l.length+([(⟨4,gV c,0,0⟩:aE)]:aa aE).length)then some ((l++([(⟨4,gV c,0,0⟩:aE)]:aa aE))++mA c)else none else some (l++mA c))=some (l++(pR c++mA c)):=by
  intro l hl;unfold pR;rw[jk,D l (by omega)];cases decide (gV c >= 0)with
  |true=>rw[aq,aq,List.append_assoc];rfl
  |false=>rfl
 have L:∀ l:aa aE,l.length <= 1 -> (bif decide (gV c >= 0)then bif bD (l.length+([(⟨4,gV c,0,0⟩:aE)]:aa aE).length)then (bif (cz c==(8:Int))then (bif (decide (((opens 0 c.aY.aA).length:Int) > (0:Int)))then (if I:0 <= (0:Int)/\(0:Int).toNat<(opens 0 c.aY.aA).length then if C:(0:Int).toNat<(opens 0 c.aY.aA).length then (bif bD ((l++([(⟨4,gV c,0,0⟩:aE)]:aa aE)).length+([(⟨(4:Int),(opens 0 c.aY.aA)[(0:Int).toNat]'C,(0:Int),(0:Int)⟩:aE)]:aa aE).length)then some ((l++([(⟨4,gV c,0,0⟩:aE)]:aa aE))++([(⟨(4:Int),(opens 0 c.aY.aA)[(0:Int).toNat]'C,(0:Int),(0:Int)⟩:aE)]:aa aE))else none)else none else none)else (bif (cz c != (0:Int))then bif bD ((l++([(⟨4,gV c,0,0⟩:aE)]:aa aE)).length+([(⟨cz c,(0:Int),(0:Int),(0:Int)⟩:aE)]:aa aE).length)then some ((l++([(⟨4,gV c,0,0⟩:aE)]:aa aE))++([(⟨cz c,(0:Int),(0:Int),(0:Int)⟩:aE)]:aa aE))else none else some (l++([(⟨4,gV c,0,0⟩:aE)]:aa aE))))else (bif (cz c != (0:Int))then bif bD ((l++([(⟨4,gV c,0,0⟩:aE)]:aa aE)).length+([(⟨cz c,(0:Int),(0:Int),(0:Int)⟩:aE)]:aa aE).length)then some ((l++([(⟨4,gV c,0,0⟩:aE)]:aa aE))++([(⟨cz c,(0:Int),(0:Int),(0:Int)⟩:aE)]:aa aE))else none else some (l++([(⟨4,gV c,0,0⟩:aE)]:aa aE))))else none else (bif (cz c==(8:Int))then (bif (decide (((opens 0 c.aY.aA).length:Int) > (0:Int)))then (if I:0 <= (0:Int)/\(0:Int).toNat<(opens 0 c.aY.aA).length then if C:(0:Int).toNat<(opens 0 c.aY.aA).length then (bif bD (l.length+([(⟨(4:Int),(opens 0 c.aY.aA)[(0:Int).toNat]'C,(0:Int),(0:Int)⟩:aE)]:aa aE).length)then some (l++([(⟨(4:Int),(opens 0 c.aY.aA)[(0:Int).toNat]'C,(0:Int),(0:Int)⟩:aE)]:aa aE))else none)else none else none)else (bif (cz c != (0:Int))then bif bD (l.length+([(⟨cz c,(0:Int),(0:Int),(0:Int)⟩:aE)]:aa aE).length)then some (l++([(⟨cz c,(0:Int),(0:Int),(0:Int)⟩:aE)]:aa aE))else none else some l))else (bif (cz c != (0:Int))then bif bD (l.length+([(⟨cz c,(0:Int),(0:Int),(0:Int)⟩:aE)]:aa aE).length)then some (l++([(⟨cz c,(0:Int),(0:Int),(0:Int)⟩:aE)]:aa aE))else none else some l)))=some (l++(pR c++mA c)):=by
  intro l hl;rw[tl _ (by rw[mC,jk];omega),tl _ (by omega)];exact h1 l (by omega)
 have O:=L [] (by simp);unfold s9;by_cases T:fS c >= 0
 ·have hv:0 <= fS c/\fS c<aR c.config.ax:=by omega
  rw[aQ T,aq,bZ,(Sa Y.1 (by omega) (by omega)),ak];cases m8 c (fS c)with
  |true=>exact O
  | false=>
   rw[gM,aq,aq,Zl _ (by show 0 <= fS c;omega) (by show (fS c).toNat<_;omega),ak,List.length_nil,jk,cM,aq];exact L [gU c (fS c)] (dx _)
 ·rw[aX T,au,Bool.false_and,au];exact O
def LW(c:av):aj aE:=(pQ c++qI c c.pending.length).find? (dc c)
def uM(c:av):aE×Int:=
 bif c.aT.state != 0 then (bif cz c != 0 then (bif dc c ⟨cz c,0,0,0⟩then (⟨cz c,0,0,0⟩,-1)else (v9,-1))else (v9,-1))else
 match LW c with
 |some x=>(x,-1)
 |none=>bif decide ((pP c).2 >= 0)then pP c else (r3 c (s9 c++(pR c++mA c)),-1)
def aBD(c:av)(l:aa aE):LU c l=(r3 c l,(l.find? (dc c)).isSome):=by
 unfold LU r3;cases l.find? (dc c)<;>rfl
def akV{c:av}(h:Pq c):xF c=some (bif decide ((c.trace.length:Int) >= 2000)then (v9,-1)else uM c):=by
 have D:=h.p.R.pL;have T:=F3 c;have U:=h.pl;have Y:=oE h.rf;have Z:=C7 0 c.aS.aJ;have E:=aBB h;have I:=akU h;have L:=akT h;unfold xF;cases decide ((c.trace.length:Int) >= 2000)with
 |true=>rfl
 | false=>
  rw[au,au,ajJ h.rf,ak,azS _ _ _ h.eB h.pw,ak];have O:uE c.box.bT.eB c.aT (yd c)=cz c:=rfl;rw[O];unfold uM;cases c.aT.state != 0 with
  | true=>
   rw[aq,aq];by_cases C:cz c=0
   ·rw[C];rfl
   ·rw[jg C,fO C,RM h.p (LI D (by omega))];cases dc c ⟨cz c,0,0,0⟩<;>rfl
  | false=>
   rw[au,au,aBp h,ak,akN h (by
    rw[mC];have:=akP c c.pending.length;have:(pQ c).length=(cG 0 c.aS.aJ).length:=by unfold pQ;rw[eI]
    omega) (λx hx=>by
    rcases List.mem_append.1 hx with hx|hx
    ·obtain⟨b,hb,rfl⟩:=List.mem_map.1 hx;exact(Zn h hb).2
    ·obtain⟨i,hi,rfl⟩:=List.mem_map.1 hx;exact akO h (fk.1 (List.mem_filter.1 hi).1)),ak]
   unfold LU LW;cases (pQ c++qI c c.pending.length).find? (dc c)with
   |some x=>rfl
   | none=>
    dsimp only;rw[au,aBo h,ak];cases decide ((pP c).2 >= 0)with
    |true=>rfl
    | false=>
     rw[au,au,aBC h,ak,akN h (by rw[mC,mC];omega) (λx hx=>by
      rcases List.mem_append.1 hx with hx|hx
      ·exact E.2 x hx
      ·rcases List.mem_append.1 hx with hx | hx
       ·exact I.2 x hx
       ·exact L.2 x hx),ak,aBD]
def aBE(p:Nat -> Bool)(n:Nat):c9 p (List.range n) <= n/\(∀ k,k<c9 p (List.range n) -> p k=false)/\(c9 p (List.range n)<n -> p (c9 p (List.range n))=true):=by
 have C:=uC p (List.range n);rw[cV]at C
 refine⟨C,λk D=>?_,λE=>?_⟩
 ·have:=m0 D (by rw[cV];omega);simp_all
 ·have:=qx (p:=p) (q:=List.range n) (by rw[cV];exact E)
  rwa [jA]at this
def aBF(c:av)(n:Nat):(qI c n).find? (dc c)=if c9 (λi=>qH c i&&dc c (jT c i)) (List.range n)<n then some (jT c (c9 (λi=>qH c i&&dc c (jT c i)) (List.range n)))else none:=by
 unfold qI;rw[List.find?_map,List.find?_filter];have e:(List.range n).find? (λa=>decide (qH c a=true/\(dc c ∘ jT c) a=true))=(List.range n).find? (λi=>qH c i&&dc c (jT c i)):=by
  simp_all
 rw[e];rcases Se (λi=>qH c i&&dc c (jT c i)) (List.range n)with ⟨C,D⟩|⟨C,D⟩
 ·simp_all
 ·grind
def aBG{c:av}(h:Pq c):Qn c=some (uM c):=by
 have Y:=h.p.R.pL;have hw:=F3 c;have uR:=h.pl;have Z:=oE h.rf;have ul:=C7 0 c.aS.aJ;have Lg:=h.p.bl;have hdn:=h.dl;unfold Qn bP;rw[YR h.rf,ak,azQ h.rf,ak,azR _ _ _ h.eB h.pw,ak];have ew:uE c.box.bT.eB c.aT (yd c)=cz c:=rfl;rw[ew];unfold uM;cases c.aT.state != 0 with
 | true=>
  rw[aq,aq];by_cases O:cz c=0
  ·rw[O];rfl
  ·rw[fO O,aq,aq,yc h.p (LI Y (by omega)),ak];cases dc c ⟨cz c,0,0,0⟩<;>rfl
 | false=>
  rw[au,au];have kW:∀ (k:Nat) (C:k<(cG 0 c.aS.aJ).length),CF (((),(),(),(),(),((cG 0 c.aS.aJ).length:Int),(k:Int),()),(c,((0:Int),(0:Int),(0:Int),(0:Int),()),cG 0 c.aS.aJ,(cz c,(0:Int),(0:Int),(0:Int),()),()))=some (bif dc c (gU c (cG 0 c.aS.aJ)[k])then .inr (.inl (((),(-1:Int),()),(((gU c (cG 0 c.aS.aJ)[k]).kind,(gU c (cG 0 c.aS.aJ)[k]).ay,(gU c (cG 0 c.aS.aJ)[k]).row,(gU c (cG 0 c.aS.aJ)[k]).bO,()),())))else .inl (((),(),(),(),(),((cG 0 c.aS.aJ).length:Int),((k+1:Nat):Int),()),(c,((0:Int),(0:Int),(0:Int),(0:Int),()),cG 0 c.aS.aJ,(cz c,(0:Int),(0:Int),(0:Int),()),()))):=by
   intro k C;have⟨k1,k2⟩:=Zn h (cR C);unfold CF az bf xG xL;dsimp only;rw[aQ,aq,aB ⟨by omega,by omega⟩,aB];simp only[bu];rw[Zk _ (by omega) (by omega),ak];show ((iW c (gU c (cG 0 c.aS.aJ)[k])).bind _)=_;rw[yc h.p k2,ak,bz];cases dc c (gU c (cG 0 c.aS.aJ)[k])<;>rfl
  have hfu:(pQ c).find? (dc c)=((cG 0 c.aS.aJ).find? (λb=>dc c (gU c b))).map (gU c):=by
   unfold pQ;rw[List.find?_map];rfl
  unfold LW;rw[List.find?_append,hfu,aBF];rcases Se (λb=>dc c (gU c b)) (cG 0 c.aS.aJ)with ⟨I,T⟩|⟨I,T⟩
  ·have e:=cD (step:=CF) (cG 0 c.aS.aJ).length (λk=>(((),(),(),(),(),((cG 0 c.aS.aJ).length:Int),(k:Int),()),(c,((0:Int),(0:Int),(0:Int),(0:Int),()),cG 0 c.aS.aJ,(cz c,(0:Int),(0:Int),(0:Int),()),()))) (.inr (.inl (((),(),(),(),()),(c,((0:Int),(0:Int),(0:Int),(0:Int),()),cG 0 c.aS.aJ,(cz c,(0:Int),(0:Int),(0:Int),()),())))) aP (λk C=>by
    have:=m0 (p:=λb=>dc c (gU c b)) (q:=cG 0 c.aS.aJ) (i:=k) (by omega) C;rw[kW k C,this];rfl) (by
    unfold CF az bf xG xL;dsimp only;rw[aX,au]) (bF)
   rw[cm]at e
   refine(bq (λo=>Option.bind o _) e).trans ?_
   rw[ak,T];simp only[Sum.elim_inr,dX,Option.map_none,Option.none_or];have⟨i1,i2,i3⟩:=aBE (λi=>qH c i&&dc c (jT c i)) c.pending.length;have L:∀ (k:Nat) (C:k<c.pending.length),CG (((),(),(),(),c.pending,(c.pending.length:Int),(k:Int),()),(c,((0:Int),(0:Int),(0:Int),(0:Int),()),cG 0 c.aS.aJ,(cz c,(0:Int),(0:Int),(0:Int),()),()))=some (bif qH c k&&dc c (jT c k)then .inr (.inl (((),(-1:Int),()),(((jT c k).kind,(jT c k).ay,(jT c k).row,(jT c k).bO,()),())))else .inl (((),(),(),(),c.pending,(c.pending.length:Int),((k+1:Nat):Int),()),(c,((0:Int),(0:Int),(0:Int),(0:Int),()),cG 0 c.aS.aJ,(cz c,(0:Int),(0:Int),(0:Int),()),()))):=by
    intro k C;have⟨ho,U,o2,o3,o4⟩:=Sf h C;unfold CG az bf xG xI;dsimp only;rw[aQ,aq,aB ⟨by omega,by omega⟩,bz];simp only[bu,Zm,(Ze Z.1 U o3),ak,Int.toNat_zero,List.drop_zero];have ek:qH c k=(!m8 c (nh c k).ay && !((c.pending.take k).any λa=>a.ay==(nh c k).ay)):=rfl;rw[ek];cases m8 c (nh c k).ay with
    |true=>rfl
    | false=>
     rw[au,bH ⟨by omega,by omega,by omega⟩,YZ _ _ (by rw[fU];omega),ak];cases (c.pending.take k).any λa=>a.ay==(nh c k).ay with
     |true=>rfl
     | false=>
      rw[au,Zk _ U o2,ak];show ((iW c (jT c k)).bind _)=_;rw[yc h.p (akO h C)];cases dc c (jT c k)<;>rfl
   by_cases E:c9 (λi=>qH c i&&dc c (jT c i)) (List.range c.pending.length)<c.pending.length
   ·rw[bH E];generalize hN:c9 (λi=>qH c i&&dc c (jT c i)) (List.range c.pending.length)=N at *
    have D:=cD (step:=CG) N (λk=>(((),(),(),(),c.pending,(c.pending.length:Int),(k:Int),()),(c,((0:Int),(0:Int),(0:Int),(0:Int),()),cG 0 c.aS.aJ,(cz c,(0:Int),(0:Int),(0:Int),()),()))) (.inl (((),(-1:Int),()),(((jT c N).kind,(jT c N).ay,(jT c N).row,(jT c N).bO,()),()))) aP (λk C=>by
     rw[L k (by omega),i2 k C];rfl) (by
     rw[L N E,i3 E];rfl) (bF)
    rw[cm]at D
    refine(bq (λo=>Option.bind o _) D).trans ?_
    rfl
   ·rw[bJ E];have D:=cD (step:=CG) c.pending.length (λk=>(((),(),(),(),c.pending,(c.pending.length:Int),(k:Int),()),(c,((0:Int),(0:Int),(0:Int),(0:Int),()),cG 0 c.aS.aJ,(cz c,(0:Int),(0:Int),(0:Int),()),()))) (.inr (.inl (((),(),(),(),()),(c,((0:Int),(0:Int),(0:Int),(0:Int),()),cG 0 c.aS.aJ,(cz c,(0:Int),(0:Int),(0:Int),()),())))) aP (λk C=>by
     rw[L k C,i2 k (by omega)];rfl) (by
     unfold CG az bf xG xI;dsimp only;rw[aX,au]) (bF)
    rw[cm]at D
    refine(bq (λo=>Option.bind o _) D).trans ?_
    rw[ak];simp only[Sum.elim_inr,dX];rw[aAJ h,ak,aBm h,ak];cases decide ((pP c).2 >= 0)with
    |true=>rfl
    | false=>
     rw[au,au];show ((Kw c (cG 0 c.aS.aJ) (fD c) ⟨cz c,0,0,0⟩).bind _)=_;rw[aBA h,ak]
  ·have e:=cD (step:=CF) (c9 (λb=>dc c (gU c b)) (cG 0 c.aS.aJ)) (λk=>(((),(),(),(),(),((cG 0 c.aS.aJ).length:Int),(k:Int),()),(c,((0:Int),(0:Int),(0:Int),(0:Int),()),cG 0 c.aS.aJ,(cz c,(0:Int),(0:Int),(0:Int),()),()))) (.inl (((),(-1:Int),()),(((gU c (cG 0 c.aS.aJ)[c9 (λb=>dc c (gU c b)) (cG 0 c.aS.aJ)]).kind,(gU c (cG 0 c.aS.aJ)[c9 (λb=>dc c (gU c b)) (cG 0 c.aS.aJ)]).ay,(gU c (cG 0 c.aS.aJ)[c9 (λb=>dc c (gU c b)) (cG 0 c.aS.aJ)]).row,(gU c (cG 0 c.aS.aJ)[c9 (λb=>dc c (gU c b)) (cG 0 c.aS.aJ)]).bO,()),()))) aP (λk C=>by
    have:=m0 (p:=λb=>dc c (gU c b)) (q:=cG 0 c.aS.aJ) (i:=k) C (by omega);rw[kW k (by omega),this];rfl) (by
    have:=qx (p:=λb=>dc c (gU c b)) (q:=cG 0 c.aS.aJ) I;rw[kW _ I,this];rfl) (bF)
   simp_all
def aBH{r:bU}{x:aE}(C:x.kind <= 5):(fj r x).aT=r.aT:=by
 unfold fj
 grind
def gv.dw{c:av}(p:gv c)(x:aE):gv (dw c x):=⟨p.dl,p.tl,p.gl,p.t,p.g,p.pd,p.u⟩
def Ck.dw{c:av}(h:Ck c){x:aE}(C:jP c.config.ax c.aY x=true)(D:x.kind<=5)(E:c.trace.length<2000):Ck (dw c x):=by
 simp only[jP,aO]at C;exact⟨h.f1,h.f2,h.nw,YE C.1 C.2.1 C.2.2,akB _ h.rd,h.ar,h.sp,h.se,h.rf,((gv.of h.pa).dw x).ok,h.qu,h.sh,h.sl,h.dr,h.pw,h.ps.trans (aBH D).symm,h.si,h.s1,h.s2,h.s3,h.er,by simp[Proofs.YtgjfmljpdnnihaaGreat.dw];omega,h.rp⟩
def Ck.opn{c:av}(h:Ck c){x:aE}(E:0 <= x.ay)(I:x.ay<aR c.config.ax)(L:0 <= x.row)(O:x.row<c.config.ax.rows):Ck (uH c x):=by
 have C:=(vR h.rk).1;have gb:=fe C;have p:=gv.of h.pa;have LQ:=p.tl;have hgl:=p.gl;have T:x.ay.toNat<c.bI.length:=by omega
 have D:fy c.config.ax 100000 (uD c.config.ax c.config.eC c.array x.ay x.row):=YN C c.config.eC (by decide) (fy.v7 h.ar) E I L O;have U:∀a∈oF c x,dz c.config.ax a=true/\a.bO=0:=λa D=>p.pd a (List.mem_filter.1 D).1
 have Y:(oF c x).Pairwise (λx y=>x≠y):=p.u.filter _;have q:(∀ a∈(uH c x).pending,dz c.config.ax a=true/\a.bO=0)/\(uH c x).pending.Pairwise (λx y=>x≠y):=by
  show (∀a∈(bif (sW c x).2 then (mm c.config.ax.rows x.row).foldl (m7 x.ay) (oF c x)else oF c x),dz c.config.ax a=true/\a.bO=0)/\(bif (sW c x).2 then (mm c.config.ax.rows x.row).foldl (m7 x.ay) (oF c x)else oF c x).Pairwise (λx y=>x≠y);cases (sW c x).2 with
  |false=>simp_all
  | true=>
   refine akv _ (λn Z=>?_) U Y
   have:=ajh L O n Z;exact vF C E I this.1 this.2 (Int.le_refl 0) (by show 0<_;omega)
 have hp:gv (uH c x):=⟨p.dl,by show ((c.bI.set x.ay.toNat (sW c x).1).length:Int)=_;rw[ji];exact p.tl,p.gl,F1 p.t (by unfold sW;rw[kV _ T];exact aA7 (p.t _ (cR T)) _ _),p.g,q.1,q.2⟩
 exact⟨h.f1,h.f2,h.nw,h.rk,h.rd,yo C D,h.sp,h.se,h.rf,hp.ok,h.qu,h.sh,h.sl,h.dr,h.pw,h.ps,h.si,h.s1,h.s2,h.s3,h.er,h.tr,h.rp⟩
def Ck.ref{c:av}(h:Ck c)(hl:c.box.bT.weights.length<1073741823)(E:aN c.config.iF 1 16=true){b:Int}(I:0 <= b)(L:b<aR c.config.ax):Ck (R6 c b):=by
 have C:=(vR h.rk).1;have T:=fe C;have p:=gv.of h.pa;have U:=p.dl;have D:fy _ 100000 (qz _ c.config.eC c.array b c.config.ax.rows.toNat):=FX C _ (by decide) (fy.v7 h.ar) I L _ (by omega);have O:gv (R6 c b):=⟨by show ((vX c.aS b).aJ.length:Int)=_;rw[akp];exact p.dl,by show ((c.bI.set b.toNat _).length:Int)=_;rw[ji];exact p.tl,by show ((c.guard.set b.toNat _).length:Int)=_;rw[ji];exact p.gl,F1 p.t (akw E),F1 p.g (akx hl h.f1),λa D=>p.pd a (List.mem_filter.1 D).1,p.u.filter _⟩
 exact⟨h.f1,h.f2,h.nw,h.rk,h.rd,yo C D,h.sp,h.se,aBf h.rf (by omega),O.ok,h.qu,h.sh,h.sl,h.dr,h.pw,h.ps,h.si,h.s1,h.s2,h.s3,h.er,h.tr,h.rp⟩
def Zq{T:Type}{p:T->Prop}{l:aa T}{x:T}(h:∀ y∈l,p y)(C:p x):∀ k:Nat,∀ y∈(List.range k).foldl (λd b=>d.set b x) l,p y
 |0=>h
 | k+1=>by
  rw[yh];exact F1 (Zq h C k) C
def akW{r:dn}(h:ff r=true):∀ k:Nat,ff ⟨(List.range k).foldl (λd b=>d.set b 0) r.aJ,r.wait,r.eP⟩=true
 |0=>h
 | k+1=>by
  rw[yh];exact akF (akW h k) k (by omega)
def Ck.RU{c:av}(h:Ck c)(hl:c.box.bT.weights.length<1073741823)(E:aN c.config.iF 1 16=true)(n:Nat)(I:(n:Int) <= aR c.config.ax):Ck (gC c n []):=by
 have D:=(vR h.rk).1;have p:=gv.of h.pa;have C:=RT D c.config.eC (by decide) (fy.v7 h.ar) n I;have L:gv (gC c n []):=⟨by show (((List.range n).foldl _ c.aS.aJ).length:Int)=_;rw[yj];exact p.dl,by show (((List.range n).foldl _ c.bI).length:Int)=_;rw[yj];exact p.tl,by show (((List.range n).foldl _ c.guard).length:Int)=_;rw[yj];exact p.gl,Zq p.t (akw E) n,Zq p.g (akx hl h.f1) n,λa C=>(by cases C),List.Pairwise.nil⟩
 exact⟨h.f1,h.f2,h.nw,h.rk,h.rd,yo D C,h.sp,h.se,akW h.rf n,L.ok,h.qu,h.sh,h.sl,h.dr,h.pw,h.ps,h.si,h.s1,h.s2,h.s3,h.er,h.tr,h.rp⟩
def Ck.acc{c:av}(h:Ck c){i:Nat}(C:oI c i 100000)(hr:c.cr.length<400):Ck (oH c i):=by
 have O:=(vR h.rk).1;have p:=gv.of h.pa;have hi:=C.i;have⟨f1,f3,f4,f5,f6,f7,f8⟩:=C.facts (cR hi);have D:c.queue.getD i rY=c.queue[i]:=kV _ hi;have E:=C.d _ (cR hi);have T:=C.shl;have I:ia (AR c.shares c.queue[i].dL)=true/\((AR c.shares c.queue[i].dL).length:Int)=4:=by
  have⟨y,t,e,hl,ho⟩:=aBd ((List.replicate 4 false).set c.queue[i].dL.toNat true) (by omega) h.sh (by simp[T])
  grind
 have U:iX (ez (ef c.config.ax c.spare)) (c.queue.take i++c.queue.drop (i+1))=true:=((Qk.of h.qu).sub (akC _ _)).ok;have key:∀ (a:en) (e:aa cA) (x:fK),fy c.config.ax 100000 a -> kR e=true -> Ck (oG c i a e x):=λa e x Y Z=>
  ⟨h.f1,h.f2,h.nw,h.rk,h.rd,yo O Y,h.sp,h.se,h.rf,(show gv (oG c i a e x)from ⟨p.dl,p.tl,p.gl,p.t,p.g,p.pd,p.u⟩).ok,U,by unfold oG;rw[D];exact I.1,by unfold oG;rw[D];exact I.2,h.dr,h.pw,h.ps,h.si,h.s1,h.s2,h.s3,Z,h.tr,by simp[oG];omega⟩
 unfold oH;rw[D];dsimp only;cases c.queue[i].write with
 |true=>exact key _ _ _ (C.a.CZ _ (c:=⟨_,false⟩) (LN E.1 E.2).2.1) h.er
 | false=>
  have L:=C.a.syms _ (cR f4);rw[au,kV _ f4];refine key _ _ _ (C.a.CZ _ (Y6 L)) ?_;have hec:=R5 L;by_cases e:mz c.array.cells[ic c.config.ax (gB c c.queue[i].line)]=0
  ·rw[e];exact h.er
  ·rw[fO e,aq];exact akD h.er ⟨by omega,f5⟩ (by omega)
def Ck.Si{c:av}(h:Ck c){x:aE}(C:jP c.config.ax c.aY x=true)(D:6 <= x.kind/\x.kind <= 9)(T:c.trace.length<2000):Ck (Db (Proofs.YtgjfmljpdnnihaaGreat.dw c x) x.kind):=by
 simp[jP,aO]at C;have E:=bA.1 h.nw;have⟨I,L,O⟩:=aBg h.pw h.ps h.si E.2 D C.2.2;have p:=gv.of h.pa;exact⟨h.f1,h.f2,h.nw,YE C.1 C.2.1 C.2.2,akB _ h.rd,h.ar,h.sp,h.se,h.rf,(show gv _ from ⟨p.dl,p.tl,p.gl,p.t,p.g,p.pd,p.u⟩).ok,h.qu,h.sh,h.sl,h.dr,I,L,O,h.s1,h.s2,h.s3,h.er,by simp[Db,akm,Proofs.YtgjfmljpdnnihaaGreat.dw];omega,h.rp⟩
def Ck.iss{c:av}(I:dK c)(h:Ck c){x:aE}{i:Int}(E:m9 c x i=true):Ck (oJ c x i):=by
 have U:=Pq.of I h.ok;have L:c.box.bT.weights.length<1073741823:=by
  have:=I.1.1;unfold Ls at this;omega
 have Y:aN c.config.iF 1 16=true:=by
  have:=(FW L h.f1).1;simp[nR,aO]at this;exact this.2.2.2.2.2.1
 have⟨hb,C,Z,hr⟩:=Zh I U E;have D:c.trace.length<2000:=by
  simp only[m9,aO,gW,qL]at E;omega
 have hrp:x.kind=2 \/ x.kind=3 -> c.cr.length<400:=λO=>by
  simp only[m9,aO]at E;have e:(x.kind==2 ||x.kind==3)=true:=by rcases O with q|q<;>rw[q]<;>rfl
  rw[e,aq]at E;simp[F0,aO,fY]at E;omega
 have⟨hg,hlen,O,hbk⟩:=CS C;have hc:cQ c.config.ax x=true:=by
  simp only[jP,aO]at C
  grind
 have LQ:=(gv.of h.pa).tl;have lC:=U.p.bl;unfold oJ;rcases kinds O with q|q|q|q|q|q|q|q|q<;>rw[q]<;>simp only[Int.reduceBEq,Int.reduceBNe,aq,au,Bool.or_true,Bool.or_false,Bool.true_or,Bool.false_or,Bool.or_self]
 ·have⟨T,zI⟩:=hbk (by omega);have⟨r0,r1⟩:=R7 hc q;exact(h.dw C (by omega) D).opn T (by show x.ay<aR c.config.ax;omega) r0 r1
 ·exact(h.dw C (by omega) D).acc ((Z (.inl q)).1.dw x) (hrp (.inl q))
 ·exact(h.dw C (by omega) D).acc ((Z (.inr q)).1.dw x) (hrp (.inr q))
 ·exact h.dw C (by omega) D
 ·have⟨T,zI⟩:=hbk (by omega);exact(h.dw C (by omega) D).ref L Y T (by show x.ay<aR c.config.ax;omega)
 ·have:=h.Si C (by omega) D;rw[q]at this;exact this
 ·have:=h.Si C (by omega) D;rw[q]at this;exact this
 ·have:=h.Si C (by omega) D;rw[q]at this;exact this
 ·have:=h.Si C (by omega) D;rw[q]at this;exact this.RU L Y _ (by show (c.bI.length:Int) <= aR c.config.ax;omega)
def Sj(n:Int)(c y:av):Prop:=(y.trace=c.trace/\y.aY=c.aY/\y.ready=c.ready)\/∃x,y.trace=c.trace++[⟨n,x⟩]/\y.aY=fj c.aY x/\y.ready=mj c.config.ax c.ready ⟨n,x⟩/\cQ c.config.ax x=true/\iZ c.aY x=true/\m6 c.config.ax c.config.bX c.ready x<=n
def Nx(c y:av):Prop:=y.now=c.now/\y.config=c.config/\y.queue.Sublist c.queue/\(∀r∈y.cr,r∈c.cr\/∃q∈c.queue,r.id=q.id)/\Sj c.now c y/\y.queue.length+y.cr.length=c.queue.length+c.cr.length
def Nx.refl(c:av):Nx c c:=⟨rfl,rfl,List.Sublist.refl _,λr C=>.inl C,.inl ⟨rfl,rfl,rfl⟩,rfl⟩
def akX{c:av}{x:aE}(C:cQ c.config.ax x=true/\iZ c.aY x=true/\m6 c.config.ax c.config.bX c.ready x<=c.now){i:Nat}(hi:i<c.queue.length):Nx c (oH (dw c x) i):=by
 have key:∀ (a:en) (e:aa cA) (t:fK),t.id=c.queue[i].id->Nx c (oG (dw c x) i a e t):=λa e t D=>by
  refine⟨rfl,rfl,akC _ _,λr hr=>?_,.inr ⟨x,rfl,rfl,rfl,C⟩,?_⟩
  ·rcases List.mem_append.1 hr with hr | hr
   ·exact .inl hr
   ·rw[kI.1 hr];exact .inr ⟨_,cR hi,D⟩
  ·show (c.queue.take i++c.queue.drop (i+1)).length+(c.cr++[t]).length=_;rw[mC,mC,fU,List.length_drop,jk];omega
 have E:(dw c x).queue.getD i rY=c.queue[i]:=kV _ hi;unfold oH;rw[E];dsimp only;cases c.queue[i].write with
 |true=>exact key _ _ _ rfl
 |false=>exact key _ _ _ rfl
def akY{c:av}{x:aE}{i:Int}(D:m9 c x i=true)(U:1<=x.kind/\x.kind<=9)(I:x.kind=2\/x.kind=3->i.toNat<c.queue.length):Nx c (oJ c x i):=by
 have E:cQ c.config.ax x=true/\iZ c.aY x=true/\m6 c.config.ax c.config.bX c.ready x<=c.now:=by
  simp only[m9,dc,aO,fY]at D;exact⟨D.1,D.2.1.1,D.2.1.2.2⟩
 have C:∀y:av,y.now=c.now->y.config=c.config->y.queue=c.queue->y.cr=c.cr->y.trace=c.trace++[⟨c.now,x⟩]->y.aY=fj c.aY x->y.ready=mj c.config.ax c.ready ⟨c.now,x⟩->Nx c y:=λy Y Z L O h5 h6 h7=>⟨Y,Z,by rw[L];exact List.Sublist.refl _,λr T=>by rw[O]at T;exact .inl T,.inr ⟨x,h5,h6,h7,E⟩,by rw[L,O]⟩
 unfold oJ;rcases kinds U with q|q|q|q|q|q|q|q|q<;>rw[q]<;>simp only[Int.reduceBEq,Int.reduceBNe,aq,au,Bool.or_true,Bool.or_false,Bool.true_or,Bool.false_or,Bool.or_self]
 ·exact C _ rfl rfl rfl rfl rfl rfl rfl
 ·exact akX E (I (.inl q))
 ·exact akX E (I (.inr q))
 ·exact C _ rfl rfl rfl rfl rfl rfl rfl
 ·exact C _ rfl rfl rfl rfl rfl rfl rfl
 ·exact C _ rfl rfl rfl rfl rfl rfl rfl
 ·exact C _ rfl rfl rfl rfl rfl rfl rfl
 ·exact C _ rfl rfl rfl rfl rfl rfl rfl
 ·exact C _ rfl rfl rfl rfl rfl rfl rfl
def yu(d:Int):Int:=if (5:Int)<W6 (d+1)then 5 else W6 (d+1)
def aBI{c:fm}{p:dY}(hl:p.weights.length<1073741823)(h:mY c p=true):∃ l t,B2 p.weights=some (l,t)/\ia l=true/\(l.length:Int)=4/\mW ⟨false,p.low,p.high⟩=true:=by
 have⟨_,f2⟩:=FW hl h;simp[pJ,aO,fI]at f2;have⟨f3,f4,f5,f6,f7,f8,f9⟩:=f2;refine⟨p.weights.map jM,true,?_,f8,by rw[eI];exact f7,f6⟩;rw[Yc _ hl];unfold xT;simp_all
def Sk(c y:av):Prop:=y.now=c.now+1/\y.config=c.config/\y.queue.Sublist c.queue/\(∀r∈y.cr,r∈c.cr\/∃q∈c.queue,r.id=q.id)/\Sj (c.now+1) c y/\y.queue.length+y.cr.length=c.queue.length+c.cr.length
abbrev LX:=aj (af×(av×af))
def Ks(s:av)(o:LX):Prop:=∃y,o=some ((),(y,()))/\dK y/\dH y=true/\Nx s y
def aBJ{c:av}(h:ff c.aS=true){n:Int}(Z:2<=n/\n<=10000):∃ r,J5 c n=some ((),(qD c r,()))/\ff r=true/\r.aJ.length=c.aS.aJ.length:=by
 have hl:=oE h;have C:=RO h;have hw:1<=c.aS.wait/\c.aS.wait<=10000:=by
  simp only[ff,aO,bA]at h;exact h.2.2
 have mk:∀ (l:aa Int) (w:Int) (b:Bool),l.length=c.aS.aJ.length->(∀ x∈l,-2<=x/\x<=5)->1<=w/\w<=10000->ff ⟨l,w,b⟩=true:=λl w b h1 L O=>by
  simp only[ff,aO,cu,AA,bA];exact⟨L,by omega,O⟩
 have D:W6 (c.aS.wait-1)=c.aS.wait-1:=aV;unfold J5 br;by_cases E:c.aS.wait-1 > 0
 ·rw[D,aQ E,aq];exact⟨⟨c.aS.aJ,c.aS.wait-1,c.aS.eP⟩,rfl,mk _ _ _ rfl C (by omega),rfl⟩
 ·have e:=cD (step:=J4) c.aS.aJ.length (λi=>(((),n,(i:Int),()),(qD c ⟨upto yu c.aS.aJ i,c.aS.wait-1,c.aS.eP⟩,()))) (.inl (((),n,()),(qD c ⟨c.aS.aJ.map yu,c.aS.wait-1,c.aS.eP⟩,()))) aP (λi hi=>by
   have hlen:=K2 yu c.aS.aJ i;unfold J4 qD az xG xL;dsimp only;rw[aQ,aq,aB ⟨by omega,by omega⟩,aB,aB ⟨by omega,by omega⟩,aB,bz];simp only[bu];rw[Q0 yu c.aS.aJ i hi,<-Q1 yu c.aS.aJ i hi];rfl) (by
   unfold J4 qD az xG xL;dsimp only;rw[QZ,aX (by rw[eI];omega),au]) (bF)
  rw[cm,ah6]at e;have I:∀ x∈c.aS.aJ.map yu,-2<=x/\x<=5:=λx T=>by
   obtain⟨d,U,rfl⟩:=List.mem_map.1 T;have:=C d U;unfold yu;rw[aV (n:=d+1)];split<;>omega
  have Y:W6 (n.tdiv 2)=n / 2:=by rw[qK (by omega)];exact aV
  rw[D,aX E,au]
  refine(bq (λo=>∃r,Option.bind o _=some ((),(qD c r,()))/\ff r=true/\r.aJ.length=c.aS.aJ.length) e).mpr ?_
  rw[ak];simp only[dX,qD];rw[Y];cases c.aS.eP with
  |true=>exact⟨⟨c.aS.aJ.map yu,n / 2,true⟩,rfl,mk _ _ _ (by simp) I (by omega),by simp⟩
  |false=>exact⟨⟨c.aS.aJ.map yu,n,false⟩,rfl,mk _ _ _ (by simp) I (by omega),by simp⟩
def aBK{c:av}(h:oA c.config.ax c.array=true):∃ a,J7 c 1=some ((),(cP c a,()))/\oA c.config.ax a=true:=by
 have E:=(ay9 h).1;have C:=fy.v7 h;have hb:=qm c.config.ax;have hl:=C.bC
 refine⟨⟨c.array.cells,c.array.bC.map (rQ 1),c.array.bw⟩,?_,yo E ⟨C.cells,C.syms,by rw[eI];exact C.bC,C.bw,λx D=>?_,C.hit⟩⟩
 ·have e:=cD (step:=J6) c.array.bC.length (λi=>(((),(1:Int),(i:Int),()),(cP c ⟨c.array.cells,upto (rQ 1) c.array.bC i,c.array.bw⟩,()))) (.inl ((),(cP c ⟨c.array.cells,c.array.bC.map (rQ 1),c.array.bw⟩,()))) aP (λi hi=>by
   have hlen:=K2 (rQ 1) c.array.bC i;have D:=C.K9 _ (cR hi);unfold J6 cP az xG xL;dsimp only;rw[aQ,aq,aB ⟨by omega,by omega⟩,aB,aB ⟨by omega,by omega⟩,aB,bz];simp only[bu];rw[Q0 (rQ 1) c.array.bC i hi,aV (n:=c.array.bC[i]+1),<- Q1 (rQ 1) c.array.bC i hi];rfl) (by
   unfold J6 cP az xG xL;dsimp only;rw[QZ,aX (by rw[eI];omega),au]) (bF)
  rw[cm,ah6]at e;unfold J7 br;exact(bq (λo=>Option.bind o _) e).trans rfl
 ·obtain⟨y,I,rfl⟩:=List.mem_map.1 D;exact aip (C.K9 y I) (by decide)
def aBL(q:aa aZ)(w:Bool)(hl:q.length<1073741824):∃ n,JA q w=some n:=by
 unfold JA br;have e:=cD (step:=Jz) q.length (λi=>((q,w,(((q.take i).countP λr=>r.write==w:Nat):Int),(i:Int),()),())) (.inl (((((q.take q.length).countP λr=>r.write==w:Nat):Int),()),())) aP (λk C=>by
  have D:=List.countP_le_length (p:=λr:aZ=>r.write==w) (l:=q.take k);rw[fU]at D;unfold Jz az xG xI;dsimp only;rw[aQ,aq,aB ⟨by omega,by omega⟩,bz];simp only[bu];rw[mU C,List.countP_append,List.countP_singleton];cases q[k].write==w with
  |true=>rw[ bz];rfl
  |false=>rw[ bz];rfl) (by
  unfold Jz az xG xI;dsimp only;rw[aX,au]) (bF)
 rw[cm]at e;exact⟨_,(bq (λo=>Option.bind o _) e).trans rfl⟩
def aBM{d:jc}(h:mW d=true)(n:Int):∃ y,Jy d n=some y/\mW y=true:=by
 unfold Jy;rw[Rg,ak,h,bB];cases decide (n >= d.high)with
 | true=>
  cases decide (n <= d.low)with
  |true=>exact⟨_,rfl,h⟩
  |false=>exact⟨_,rfl,h⟩
 | false=>
  cases decide (n <= d.low)with
  |true=>exact⟨_,rfl,h⟩
  |false=>simp_all
def aBN{p:fA}(h:ku p=true)(w:Bool):∃ y,JB p w=some y/\ku y=true/\y.state=p.state/\y.since=p.since:=by
 unfold JB;rw[Rk,ak,h,bB];simp[ku,aO,bA]at h;cases w with
 |true=>exact⟨_,rfl,by simp[ku,aO,bA];omega,rfl,rfl⟩
 | false=>
  refine⟨_,rfl,?_,rfl,rfl⟩;rw[aV];simp[ku,aO,bA]
  grind
def aBO(b:iE)(h:FP b)(x:Bool):∃ t,JD b x=some (bif t then ⟨b.next,b.next,false⟩else b,t):=by
 have C:b.next.weights.length <= 1048576:=h.2
 unfold JD;rw[YL b h];cases x with
 |false=>simp_all
 | true=>
  cases b.waits with
  |false=>simp_all
  | true=>
   refine⟨true,?_⟩;unfold vt xA xZ;rw[ig _];rfl
def aBP{c:fm}{p:dY}(hl:p.weights.length<1073741823)(h:mY c p=true):∃ l t,Ad p.weights=some (l,t)/\ia l=true/\(l.length:Int)=4/\mW ⟨false,p.low,p.high⟩=true:=by
 have⟨l,t,e,C⟩:=aBI hl h;rw[Yc _ hl]at e;exact⟨l,t,by rw[Yd _ hl];exact e,C⟩
def aBQ{s:oL}{n:Int}(C:aN s.every 1 100000=true)(D:aN s.wait 1 s.every=true)(E:aN s.next 0 (W6 (n-1))=true)(Y:1<=n/\n<=1000000):∃ y m,Cr s n=some (y,m)/\aN y.every 1 100000=true/\aN y.wait 1 y.every=true/\aN y.next 0 (W6 (n-1))=true/\m<n:=by
 have O:=bA.1 C;have Z:=bA.1 D;have I:W6 (n-1)=n-1:=aV;have T:=bA.1 E;rw[I]at T;unfold Cr;rw[dN,ak,C,bB,au,dN,ak,D,bB,au,aX (show ¬ n<1 by omega),au,aX (show ¬ s.next<0 by omega),au,aX (show ¬ s.next >= n by omega),au,aV (n:=s.wait-1)];by_cases L:s.wait-1 > 0
 ·rw[aQ L,aq];exact⟨_,_,rfl,C,bA.2 ⟨by dsimp only;omega,by dsimp only;omega⟩,E,by omega⟩
 ·rw[aX L,au,bJ,aV (n:=s.next+1)];refine⟨_,_,rfl,C,bA.2 ⟨O.1,Int.le_refl _⟩,?_,by omega⟩;rw[I,qJ (by omega)];have U:=Int.emod_nonneg (s.next+1) (show n≠0 by omega);have e2:=Int.emod_lt_of_pos (s.next+1) (show 0<n by omega);exact bA.2 ⟨U,by dsimp only;omega⟩
def wg(j:av)(b:iE)(s:aa cE)(d:jc)(p:fA)(u:oL):av:=⟨j.config,b,j.now,j.aY,j.ready,j.array,j.spare,j.aS,j.bI,j.guard,j.pending,j.queue,s,d,p,u,j.errors,j.trace,j.cr⟩
def Sl(x:av):LX:=(xF x).bind λC=>(let D:Bool -> LX:=λE=>bif E then (An x C.1 C.2).bind λI=>some ((),(I.2.1,()))else some ((),(x,()));bif (C.1.kind != (0:Int))then (Al x C.1 C.2).bind λL=>(D L)else (D false))
def Sn(x:av)(n:Int):LX:=bif (decide (n >= (0:Int)))then (Cy x n).bind λC=>(Ct C.2.1 n C.1.2).bind λD=>Sl D.2.1 else Sl x
def F4(j:av):LX:=(JA j.queue true).bind λO=>(Jy j.drain O).bind λD=>(Cm (wg j j.box j.shares D j.aT j.cU)).bind λT=>(JB j.aT T).bind λE=>(JD j.box ((j.queue.length:Int)==(0:Int))).bind λC=>bif C.2 then (Ad C.1.bT.weights).bind λU=>(qi j.config.ax).bind λY=>(Cr j.cU Y).bind λI=>Sn (wg j C.1 U.1 ⟨false,C.1.bT.low,C.1.bT.high⟩ E I.1) I.2 else (qi j.config.ax).bind λZ=>(Cr j.cU Z).bind λL=>Sn (wg j C.1 j.shares D E L.1) L.2
def Zr{x:av}(C:dK x)(D:dH x=true):Ks x (Sl x):=by
 have h:=Pq.of C D;have same:Ks x (some ((),(x,()))):=⟨x,rfl,C,D,Nx.refl x⟩
 unfold Sl;rw[akV h,ak];dsimp only;generalize (bif decide ((x.trace.length:Int) >= 2000)then (v9,-1)else uM x:aE×Int)=p;obtain⟨cmd,i⟩:=p;dsimp only;cases cmd.kind != (0:Int)with
 |false=>exact same
 | true=>
  rw[aq,aA3 h,ak];cases hm:m9 x cmd i with
  |false=>exact same
  | true=>
   obtain⟨hb,E,I,L⟩:=Zh C h hm;rw[aq,aAU hb E I (λr L=>Zb h L),ak];exact⟨oJ x cmd i,rfl,akt C hb L E I,(Ck.iss C (Ck.of D) hm).ok,akY hm (CS E).2.2.1 λq=>(I q).1.i⟩
def akZ{x:av}(O:dK x)(h:dH x=true){n:Int}(hn:n<ez x.config.ax):Ks x (Sn x n):=by
 unfold Sn;by_cases E:n >= 0
 ·have C:=Ck.of h;have I:=fy.v7 C.ar;have T:=(vR C.rk).1;have hl:=I.cells;have hb:=mT x.config.ax;obtain⟨j,rfl⟩:=fz E;have U:j<x.array.cells.length:=by omega
  have L:=I.syms _ (cR U);have hec:=R5 L;have D:fy x.config.ax 100000 ⟨x.array.cells.set j (sX x.array.cells[j]),x.array.bC,x.array.bw⟩:=I.CZ _ (Y6 L);have p:=gv.of C.pa;have iG:=(Ek.of C.er).l;rw[aQ E,aq,akc U L,ak];dsimp only;rw[aki (c:=vZ x j (sX x.array.cells[j])) C.er ⟨by omega,by omega⟩ hec,ak];dsimp only;have⟨Y,Z,z3,z5,z6,z7,z8,z9,gQ,jx,jR,jS,jy,mq⟩:=O;have VJ:dK (vZ x j (sX x.array.cells[j])):=⟨Y,Z,z3,v8 D,z6,z7,z8,z9,gQ,jx,jR,jS,jy,mq⟩
  have Uv:Ck (vZ x j (sX x.array.cells[j])):=⟨C.f1,C.f2,C.nw,C.rk,C.rd,yo T D,C.sp,C.se,C.rf,(show gv (vZ x j (sX x.array.cells[j]))from ⟨p.dl,p.tl,p.gl,p.t,p.g,p.pd,p.u⟩).ok,C.qu,C.sh,C.sl,C.dr,C.pw,C.ps,C.si,C.s1,C.s2,C.s3,C.er,C.tr,C.rp⟩
  unfold Da;by_cases e:mz x.array.cells[j]=0
  ·rw[e];exact Zr VJ Uv.ok
  ·rw[fO e,aq];have he:=akD C.er ⟨by omega,by omega⟩ (code:=mz x.array.cells[j]) (by omega);have hle:=akr (l:=x.errors) (j:Int) (mz x.array.cells[j]);exact Zr ⟨Y,Z,z3,v8 D,z6,z7,z8,z9,gQ,jx,jR,by show (uK x.errors (j:Int) _).length <= _;omega,jy,mq⟩ (Ck.ok ⟨C.f1,C.f2,C.nw,C.rk,C.rd,yo T D,C.sp,C.se,C.rf,(show gv _ from ⟨p.dl,p.tl,p.gl,p.t,p.g,p.pd,p.u⟩).ok,C.qu,C.sh,C.sl,C.dr,C.pw,C.ps,C.si,C.s1,C.s2,C.s3,he,C.tr,C.rp⟩)
 ·rw[aX E];exact Zr O h
def ak0{c:av}(O:dK c)(T:dH c=true):Ks c (F4 c):=by
 have h:=Ck.of T;have⟨C,U,Y,Z,z6,z7,z8,z9,gQ,jx,jR,jS,jy,mq⟩:=O;have p:=gv.of h.pa;have hb:=mT c.config.ax;have hLp:1 <= ez c.config.ax:=by
  have:=bA.1 h.s3;rw[aV]at this;omega
 have w2:c.box.next.weights.length <= 1048576:=C.2
 have⟨n,e1⟩:=aBL c.queue true (by omega);have⟨d,e2,D⟩:=aBM h.dr n;have e3:Cm (wg c c.box c.shares d c.aT c.cU)=some (yd (wg c c.box c.shares d c.aT c.cU)):=ajJ (c:=wg c c.box c.shares d c.aT c.cU) h.rf;have⟨pw,e4,NS,HD,hp3⟩:=aBN h.pw (yd (wg c c.box c.shares d c.aT c.cU));have⟨t,e5⟩:=aBO c.box C ((c.queue.length:Int)==(0:Int));have⟨u,m,L,Ti,qY,hu3,hm⟩:=aBQ h.s1 h.s2 h.s3 ⟨hLp,by omega⟩;have key:∀ (b:iE) (s:aa cE) (d:jc),FP b -> mY c.config b.bT=true -> mY c.config b.next=true -> ia s=true -> (s.length:Int)=4 -> mW d=true -> dK (wg c b s d pw u)/\dH (wg c b s d pw u)=true:=λb s d zI gI hb3 Zs Zt D=>
  ⟨⟨zI,U,Y,Z,z6,z7,z8,z9,gQ,jx,by show s.length <= _;omega,jS,jy,mq⟩,Ck.ok ⟨gI,hb3,h.nw,h.rk,h.rd,h.ar,h.sp,h.se,h.rf,(show gv (wg c b s d pw u)from ⟨p.dl,p.tl,p.gl,p.t,p.g,p.pd,p.u⟩).ok,h.qu,Zs,Zt,D,NS,HD.trans h.ps,by show pw.since <= c.now;rw[hp3];exact h.si,Ti,qY,hu3,h.er,h.tr,h.rp⟩⟩
 unfold F4;rw[e1,ak,e2,ak,e3,ak,e4,ak,e5,ak];dsimp only;cases t with
 | false=>
  rw[ xR,ak,L,ak];have⟨E,I⟩:=key c.box _ d C h.f1 h.f2 h.sh h.sl D;exact akZ E I hm
 | true=>
  have⟨l,t2,e7,qV,lA,Sc⟩:=aBP (by omega) h.f2;rw[aq,aq];rw[e7,ak,xR,ak,L];have⟨E,I⟩:=key ⟨c.box.next,c.box.next,false⟩ l ⟨false,c.box.next.low,c.box.next.high⟩ ⟨C.2,C.2⟩ h.f2 h.f2 qV lA Sc;exact akZ E I hm
def yw(c:av)(n:Int):av:=⟨c.config,c.box,n,c.aY,c.ready,c.array,c.spare,c.aS,c.bI,c.guard,c.pending,c.queue,c.shares,c.drain,c.aT,c.cU,c.errors,c.trace,c.cr⟩
def aBR{c:av}(hz:dK c)(hk:dH c=true)(hi:2<=c.config.interval/\c.config.interval<=10000)(hn:c.now<1000000):∃ y,PU c=some ((),(y,()))/\dK y/\dH y=true/\Sk c y:=by
 have h:=Ck.of hk;have p:=gv.of h.pa;have hnw:=bA.1 h.nw;have z:=hz;obtain⟨z1,z2,z3,z5,z6,z7,z8,z9,gQ,jx,jR,jS,jy,mq⟩:=z;have e1:W6 (c.now+1)=c.now+1:=aV;have Y:∀ (j:av),j.now=c.now+1->j.config=c.config->j.queue=c.queue->j.cr=c.cr->j.trace=c.trace->j.aY=c.aY->j.ready=c.ready->Ks j (F4 j)->∃ y,F4 j=some ((),(y,()))/\dK y/\dH y=true/\Sk c y:=λj Z j2 j3 j4 j5 j6 j7 hj=>by
  obtain⟨y,f1,f2,f3,f4,f5,f6,D,E,I⟩:=hj;rw[Z]at f4;rw[j2]at f5;rw[j3]at f6 D I;rw[j4]at D I;unfold Sj at E;rw[Z,j2,j5,j6,j7]at E;exact⟨y,f1,f2,f3,f4,f5,f6,D,E,I⟩
 have key:∀ (r:dn) (a:en),ff r=true->r.aJ.length=c.aS.aJ.length->oA c.config.ax a=true->dK (cP (qD (yw c (c.now+1)) r) a)/\dH (cP (qD (yw c (c.now+1)) r) a)=true:=λr a L O C=>by
  refine⟨⟨z1,z2,z3,v8 (fy.v7 C),z6,by have:=z7;unfold AG at this ⊢;show r.aJ.length<=_;omega,z8,z9,gQ,jx,jR,jS,jy,mq⟩,Ck.ok ⟨h.f1,h.f2,bA.2 ⟨by show 0<=c.now+1;omega,by show c.now+1<=_;omega⟩,h.rk,h.rd,C,h.sp,h.se,L,(show gv (cP (qD (yw c (c.now+1)) r) a)from ⟨by show (r.aJ.length:Int)=_;rw[O];exact p.dl,p.tl,p.gl,p.t,p.g,p.pd,p.u⟩).ok,h.qu,h.sh,h.sl,h.dr,h.pw,h.ps,by show c.aT.since<=c.now+1;have:=h.si;omega,h.s1,h.s2,h.s3,h.er,h.tr,h.rp⟩⟩
 unfold PU;rw[aX (show ¬ c.now >= 1000000 by omega),au,e1];show ∃y,(bif (c.aY.aT != (2:Int))then (J5 (yw c (c.now+1)) c.config.interval).bind λy1=>(J7 y1.2.1 (1:Int)).bind λy2=>F4 y2.2.1 else F4 (yw c (c.now+1)))=some ((),(y,()))/\dK y/\dH y=true/\Sk c y;cases c.aY.aT != (2:Int)with
 | true=>
  obtain⟨r,f1,L,O⟩:=aBJ (c:=yw c (c.now+1)) h.rf hi;obtain⟨a,f2,C⟩:=aBK (c:=qD (yw c (c.now+1)) r) h.ar;obtain⟨T,U⟩:=key r a L O C;rw[aq,f1,ak];dsimp only;rw[f2,ak];exact Y _ rfl rfl rfl rfl rfl rfl rfl (ak0 T U)
 | false=>
  obtain⟨T,U⟩:=key c.aS c.array h.rf rfl h.ar;rw[au];exact Y (yw c (c.now+1)) rfl rfl rfl rfl rfl rfl rfl (ak0 (c:=yw c (c.now+1)) T U)
def Zu{A T:Type}(f:Nat->A->T->aj A)(e:T):∀ (l:aa T) (k:Nat) (a:A),mX f k (l++[e]) a=(mX f k l a).bind λC=>f (k+l.length) C e
 | [],k,a=>by
  show (match f k a e with|some C=>some C|none=>none)=f k a e;cases f k a e<;>rfl
 | x :: l,k,a=>by
  show (match f k a x with|some C=>mX f (k+1) (l++[e]) C|none=>none)=(match f k a x with|some C=>mX f (k+1) l C|none=>none).bind λC=>f (k+(l.length+1)) C e
  cases f k a x with
  |none=>rfl
  | some C=>
   rw[show k+(l.length+1)=k+1+l.length by omega];exact Zu f e l (k+1) C
def ak1{A T:Type}{f f':Nat->A->T->aj A}:∀ (l:aa T) (k:Nat) (a:A),(∀ i (h:i<l.length) a,f (k+i) a l[i]=f' (k+i) a l[i])->mX f k l a=mX f' k l a
 |[],_,_,_=>rfl
 | x :: l,k,a,h=>by
  have D:f k a x=f' k a x:=h 0 (Nat.zero_lt_succ _) a;show (match f k a x with|some C=>mX f (k+1) l C|none=>none)=(match f' k a x with|some C=>mX f' (k+1) l C|none=>none)
  rw[D];cases f' k a x with
  |none=>rfl
  | some C=>
   exact ak1 l (k+1) C λi hi b=>by
    have:=h (i+1) (Nat.succ_lt_succ hi) b;rw[show k+(i+1)=k+1+i by omega]at this;exact this
def aBS{l:aa bW}{e x:bW}:∀ {k:Nat},k<=l.length->sR (l++[e]) k x=sR l k x
 |0,_=>rfl
 | k+1,h=>by
  simp only[sR];rw[List.getElem?_append_left (by omega)]
def ak2(g:aI)(t:ck){l:aa bW}(e x:bW){k:Nat}(h:k<=l.length)(r:bU):fT g t (l++[e]) k r x=fT g t l k r x:=by
 unfold fT;rw[aBS h,List.take_append_of_le_length h]
def aBT(g:aI)(t:ck)(l:aa bW)(e:bW):runT g t (l++[e])=(runT g t l).bind λr=>fT g t l l.length r e:=by
 unfold runT;rw[Zu,eN,ak1 (f':=fT g t l) l 0 (jQ g) λi hi a=>ak2 g t e _ (by omega) a];congr 1;funext r;exact ak2 g t e e (dx _) r
structure yx (g:aI) (t:ck) (l:List bW) (r:bU) (q:cZ):Prop where
 tkR:runT g t l=some r
 tkF:CX g l=some r
 tkY:oD g l=q
 tkV:∀e∈l,x8 g e=true/\e.at_<=q.last.getD (fQ g e.cmd).toNat (-1)
 tkA:q.aU=(gE l).drop ((gE l).length-4)
def yx.new(g:aI)(t:ck):yx g t [] (jQ g) (rT g):=⟨rfl,rfl,rfl,λe h=>(by cases h),rfl⟩
def aBU(g:aI)(t:ck){a b:aE}(c:aE)(C:a.kind=b.kind)(hb:a.kind<=5->a.ay=b.ay):kT g t a c=kT g t b c:=by
 have e:vP a c=vP b c:=by unfold vP;rw[C]
 unfold kT FK;rw[<-e,C];cases D:vP a c with
 |false=>rfl
 | true=>
  simp only[vP,aO,bA]at D;rw[hb D.1.2]
def aBV{g:aI}{c:aE}(h:cQ g c=true):(ij (fQ g c).toNat).kind=c.kind/\((ij (fQ g c).toNat).kind<=5->(ij (fQ g c).toNat).ay=c.ay):=by
 obtain⟨_,D,hb,_⟩:=sQ h;obtain⟨E,_⟩:=FL h;have e:((fQ g c).toNat:Int)=fQ g c:=Int.toNat_of_nonneg E;have I:fQ g c % 9+1=c.kind:=by unfold fQ;omega
 unfold ij;dsimp only;rw[e,I]
 refine⟨rfl,λC=>?_⟩
 have L:aN c.kind 1 5=true:=bA.2 ⟨D.1,C⟩;rw[bH C];unfold fQ;rw[L,aq];omega
def ak3(g:aI)(t:ck)(l:aa Int)(c:aE):∀ (k:Nat),k<=l.length->∀ (i:Nat) (hi:i<l.length),i<k->0<=l[i]->l[i]+kT g t (ij i) c<=rV g t l c k
 |0,_,_,_,h,_=>absurd h (Nat.not_lt_zero _)
 | k+1,E,i,hi,h,C=>by
  rw[RJ,RK (by omega)];by_cases e:i=k
  ·subst e;rw[aX,au];unfold rU;split<;>omega
  ·have D:=ak3 g t l c k (by omega) i hi (by omega) C;cases decide (l[k]<0)with
   |true=>exact D
   | false=>
    rw[au];unfold rU;split<;>omega
def aBW(g:aI)(t:ck)(r:cZ)(c:aE):rV g t r.last c r.last.length<=m6 g t r c:=by
 unfold m6 rU;cases c.kind==1&&(r.aU.length:Int)==4 with
 |false=>exact Int.le_refl _
 | true=>
  rw[aq];split<;>omega
def yx.gap{g:aI}{t:ck}{l:aa bW}{r:bU}{q:cZ}(h:yx g t l r q)(E:jO g q=true){x:aE}{n:Int}(Z:m6 g t q x<=n):∀ e∈l,e.at_+kT g t e.cmd x<=n/\e.at_<n:=λe I=>by
 obtain⟨L,O⟩:=h.tkV e I;obtain⟨D,h0,_⟩:=YB L;obtain⟨p0,p1⟩:=FL D;have hl:=(FM E).2.1;have C:(fQ g e.cmd).toNat<q.last.length:=by omega
 rw[ei,bQ C,Option.getD_some]at O;have T:=ak3 g t q.last x q.last.length (dx _) _ C C (by omega);have h4:=aBW g t q x;obtain⟨U,Y⟩:=aBV D;rw[aBU g t x U Y]at T;have h5:=ayg g t e.cmd x;omega
def aBX(l:aa bW)(e:bW):gE (l++[e])=bif e.cmd.kind==1 then gE l++[e.at_]else gE l:=by
 unfold gE;rw[List.filter_append,kX];cases h:e.cmd.kind==1<;>simp[List.filter_cons,h]
def aBY{l:aa bW}{y:Int}(h:y∈gE l):∃ e∈l,e.at_=y:=by
 obtain⟨e,C,rfl⟩:=List.mem_map.1 h;exact⟨e,(List.mem_filter.1 C).1,rfl⟩
def ak4{T:Type}{l:aa T}{i:Nat}{x:T}(d:T)(h:i<l.length):(l.set i x).getD i d=x:=by
 rw[ei,List.getElem?_set_self h];rfl
def getD_set_ne{T:Type}{l:aa T}{i j:Nat}{x:T}(d:T)(h:i≠j):(l.set i x).getD j d=l.getD j d:=by
 rw[ei,List.getElem?_set_ne h,<-ei]
def yx.add{g:aI}{t:ck}{l:aa bW}{r:bU}{q:cZ}(h:yx g t l r q)(hr:jN g r=true)(I:jO g q=true){x:aE}{n:Int}(C:cQ g x=true)(O:iZ r x=true)(ha:m6 g t q x<=n)(hn:0<=n/\n<=1000000):yx g t (l++[⟨n,x⟩]) (fj r x) (mj g q ⟨n,x⟩):=by
 have E:=h.gap I ha;have hl:=(FM I).2.1;obtain⟨p0,p1⟩:=FL C;have hi:aN n 0 1000000=true:=bA.2 hn;have D:=h.tkA;have h1:sR l l.length ⟨n,x⟩=true:=by
  cases e:l.length with
  |zero=>rfl
  | succ k=>
   simp only[sR];rw[bQ (by omega)];exact aQ (E _ (cR (by omega))).2
 have h2:uA g t l ⟨n,x⟩=false:=by
  unfold uA
  refine List.any_eq_false.2 λe he=>?_
  have:=(E e he).1;rw[fY];dsimp only;omega
 have h3:(x.kind==1&&AF t (gE l) n)=false:=by
  cases T:x.kind==1 with
  |false=>rfl
  | true=>
   rw[bZ];unfold AF;by_cases L:4<=(gE l).length
   ·have e4:q.aU.length=4:=by rw[D,List.length_drop];omega
    have e0:q.aU.getD 0 0=(gE l).getD ((gE l).length-4) 0:=by
     rw[D,ei,List.getElem?_drop,Nat.add_zero,<-ei]
    have e5:q.aU.getD 0 0+t.iN<=m6 g t q x:=by
     unfold m6 rU;rw[T,e4,show ((4:Nat):Int)==4 from rfl,Bool.and_self,aq];split<;>omega
    rw[<-e0,aX (show ¬ n-q.aU.getD 0 0<t.iN by omega),Bool.and_false]
   ·rw[aX L,Bool.false_and]
 have L:(x.kind==1&&xX q n)=false:=by
  cases T:x.kind==1 with
  |false=>rfl
  | true=>
   rw[bZ];unfold xX;cases hL:q.aU.getLast? with
   |none=>rfl
   | some y=>
    have U:y∈q.aU:=List.mem_of_getLast? hL;rw[D]at U;obtain⟨e,he,rfl⟩:=aBY (List.mem_of_mem_drop U);exact aX (by have:=(E e he).2;omega)
 have Y:mj g q ⟨n,x⟩=⟨q.last.set (fQ g x).toNat n,bif x.kind==1 then xY q.aU n else q.aU⟩:=by
  unfold mj;dsimp only;rw[I,C,hi,L];rfl
 refine⟨?_,?_,?_,?_,?_⟩
 ·rw[aBT,h.tkR,Option.bind_some];unfold fT;dsimp only;rw[C,hi,h1,O,ir,h2,h3];rfl
 ·have e:=h.tkF;unfold CX at e ⊢;rw[Zu,e,Option.bind_some];unfold fE jP;dsimp only;rw[hr,C,O];rfl
 ·have e:=h.tkY;unfold oD at e ⊢;rw[List.foldl_append,e];rfl
 ·rw[Y];dsimp only;intro e he;rcases List.mem_append.1 he with he | he
  ·obtain⟨e1,e2⟩:=h.tkV e he;refine⟨e1,?_⟩;by_cases Z:(fQ g x).toNat=(fQ g e.cmd).toNat
   ·rw[<-Z,ak4 _ (by omega)];have:=(E e he).2;omega
   ·rw[getD_set_ne _ Z];exact e2
  ·obtain rfl:=kI.1 he;dsimp only;rw[ak4 _ (by omega)];refine⟨?_,Int.le_refl _⟩;unfold x8;rw[C,hi];rfl
 ·rw[Y,aBX];dsimp only;cases x.kind==1 with
  |false=>exact D
  | true=>
   rw[aq,aq];unfold xY;rw[D,mC,jk,List.length_drop];by_cases hs:(gE l).length<=3
   ·rw[show (gE l).length-4=0 by omega,List.drop_zero];rfl
   ·rw[<-List.drop_append_of_le_length (l₂:=[n]) (show (gE l).length-4<=(gE l).length by omega),List.drop_drop];congr 1;omega
def ak5(l:aa Int):CY l l=true:=by
 unfold CY;rw[jj,bZ,cu];intro p C;obtain⟨i,hi,rfl⟩:=jb.1 C;rw[List.getElem_zip];exact jj _
def aBZ(l:aa di):(l.zip l).all C3=true:=by
 rw[cu];intro p C;obtain⟨i,hi,rfl⟩:=jb.1 C;rw[List.getElem_zip];unfold C3;rw[jj,jj];rfl
def LY(c:av):Prop:=yx c.config.ax c.config.bX c.trace c.aY c.ready
def LY.saf{c:av}(h:LY c):RH c=true:=by
 unfold RH;rw[h.tkR,h.tkF,h.tkY];dsimp only;rw[jj,aBZ,ak5,ak5];rfl
def So(R:Nat)(M:Int)(m:aa Int)(b j:Nat):Prop:=m.getD (b*R+j) 0=(j:Int)\/((R:Int)<=m.getD (b*R+j) 0/\m.getD (b*R+j) 0<=M/\∀k,k<j->m.getD (b*R+k) 0≠m.getD (b*R+j) 0)
def Zv{m:aa Int}{R b k:Nat}(C:k<R)(hl:(b+1)*R <= m.length):(iz m R b)[k]?=some (m.getD (b*R+k) 0):=by
 rw[iC]at hl;rw[FH,List.getElem?_take_of_lt C,List.getElem?_drop,bQ (by omega),kV]
def ak6{R:Nat}{M:Int}{m:aa Int}{b j:Nat}(D:j<R)(hl:(b+1)*R <= m.length):vO (R:Int) M (iz m R b) j=true ↔ So R M m b j:=by
 unfold vO So;rw[Zv D hl];simp only[eA,aO,fI,bA,gW,List.any_eq_false];have key:(∀ x∈(iz m R b).take j,¬ x=m.getD (b*R+j) 0) ↔ ∀ k,k<j -> m.getD (b*R+k) 0≠m.getD (b*R+j) 0:=by
  constructor
  ·intro h k C;refine h _ ?_;rw[List.mem_iff_getElem?];exact⟨k,by rw[List.getElem?_take_of_lt C,Zv (by omega) hl]⟩
  ·intro h x E;have⟨k,C⟩:=List.mem_iff_getElem?.1 E;have I:k<j:=by
    grind
   rw[List.getElem?_take_of_lt I,Zv (by omega) hl]at C
   grind
 rw[key,and_assoc]
structure Sp (g:aI) (s:dI) (bn R:Nat):Prop where
 sb:jw g s.bM=true
 hb:aR g=(bn:Int)
 hR:g.rows-s.bM=(R:Int)
 hl:s.map.length=bn*R
 f:∀b,b<bn->∀j,j<R->So R (g.rows-1) s.map b j
def Sp.of{g:aI}{s:dI}(h:kA g s=true):∃ C R,Sp g s C R:=by
 have⟨_,Z,_,_,E,h2,h3,h4⟩:=LG h;have U:=dS g;simp only[kA,aO,fI,cu,fk]at h;have⟨Y,hl,L⟩:=h;have⟨R,hR⟩:=fz (show 0 <= g.rows-s.bM by omega);have⟨C,I⟩:=fz U.1;rw[hR,I,bu,bu]at hl;have hl:s.map.length=C*R:=by exact_mod_cast hl
 rw[hR,I,bu,bu]at L
 refine⟨C,R,Y,I,hR,hl,λb hb j D=>?_⟩
 have O:(b+1)*R <= s.map.length:=by rw[hl];exact iL R hb
 have T:=FI O;have e:=Yp (R:Int) (g.rows-1) (iz s.map R b) (by rw[T]);rw[T]at e;have E:=cu.2 λj D=>L b hb j (fk.1 D)
 rw[e]at E;exact(ak6 D O).1 (cu.1 E j (fk.2 D))
def Sp.ok{g:aI}{s:dI}{I R:Nat}(h:Sp g s I R):kA g s=true:=by
 have⟨L,O,hR,hl,T⟩:=h;simp only[kA,aO,fI,cu,fk];rw[hR,O,bu,bu]
 refine⟨L,by exact_mod_cast hl,λb hb=>?_⟩
 have C:(b+1)*R <= s.map.length:=by rw[hl];exact iL R hb
 have D:=FI C;have e:=Yp (R:Int) (g.rows-1) _ (by rw[D]);rw[D]at e;have U:=cu.2 λj E=>(ak6 (fk.1 E) C).2 (T b hb j (fk.1 E))
 simp_all
def aB0{R b c r j:Nat}(C:r<R)(E:j<R)(h:b*R+r=c*R+j):b=c/\r=j:=by
 have key:∀ {b c r j:Nat},r<R -> b*R+r=c*R+j -> ¬ b<c:=λ{b c r j} C h D=>by
  have:=iL R (show b+1 <= c from D)
  grind
 grind
def Sq{m:aa Int}{p:Nat}(C:p<m.length)(i:Int)(q:Nat):(m.set p i).getD q 0=if q=p then i else m.getD q 0:=by grind
def Sp.set{g:aI}{s:dI}{D R:Nat}(h:Sp g s D R){b r:Nat}(hb:b<D)(I:r<R){i:Int}(T:(R:Int) <= i)(U:i <= g.rows-1)(hn:∀ k,k<R -> s.map.getD (b*R+k) 0≠i):Sp g ⟨s.bM,s.map.set (b*R+r) i⟩ D R:=by
 have C:b*R+r<s.map.length:=by
  have:=AB hb (show r+1 <= R from I);rw[h.hl];omega
 refine⟨h.sb,h.hb,h.hR,by rw[ji];exact h.hl,λc Y j L=>?_⟩
 have old:=h.f c Y j L;unfold So at old ⊢;dsimp only;by_cases e:c=b
 ·subst e;by_cases Z:j=r
  ·subst Z;refine .inr ?_;rw[Sq C,bH rfl]
   refine⟨T,U,λk E=>?_⟩
   rw[Sq C,bJ]
   grind
  ·grind
 ·have O:∀ k,k<R -> ¬ c*R+k=b*R+r:=λk E he=>e (aB0 E I he).1
  rw[Sq C,bJ (O j L)];rcases old with old|⟨o1,o2,o3⟩
  ·grind
  ·refine .inr ⟨o1,o2,λk E=>?_⟩
   rw[Sq C,bJ (O k (by omega))];simp_all
def Sp.AT{g:aI}{s:dI}{C R:Nat}(h:Sp g s C R):cw g=true/\cw (ef g s)=true/\ef g s=⟨g.bK,g.aA,(R:Int),g.aL⟩/\aR (ef g s)=(C:Int)/\C <= 8/\R <= 16/\2 <= R/\1 <= g.aL/\g.rows <= 16/\0 <= s.bM:=by
 have⟨e,D,E,I,L,O,T,U⟩:=LG h.ok;have Y:=dS g;have Z:=fe D;have:=h.hb;have hR:=h.hR
 grind
def Sp.bound{g:aI}{s:dI}{C R:Nat}(h:Sp g s C R){b r:Nat}(hb:b<C)(D:r<R):0<=s.map.getD (b*R+r) 0/\s.map.getD (b*R+r) 0<g.rows:=by
 have hR:=h.hR;have E:=h.AT.2.2.2.2.2.2.2.2.2;rcases h.f b hb r D with e|⟨I,L,_⟩
 ·omega
 ·omega
def Sp.ex{g:aI}{s:dI}{C R:Nat}(h:Sp g s C R)(b r:Int):dz (ef g s) ⟨b,r,0⟩=true ↔ (0 <= b/\b<(C:Int))/\0 <= r/\r<(R:Int):=by
 have⟨_,L,e,O,_,_,_,Y,_⟩:=h.AT;have er:(ef g s).rows=R:=by rw[e]
 have T:(ef g s).aL=g.aL:=by rw[e]
 constructor
 ·intro U;have⟨_,D,E,I,a4,_⟩:=rM U;simp_all
 ·rintro⟨⟨D,E⟩,I,a4⟩;exact vF L D (by rw[O];exact E) I (by rw[er];exact a4) (Int.le_refl 0) (by rw[T];show (0:Int)<_;omega)
def Sp.lens{g:aI}{s:dI}{D R:Nat}(h:Sp g s D R){b:Nat}(hb:b<D):(b+1)*R <= s.map.length/\s.map.length <= 128/\(iz s.map R b).length=R/\Nat.ble (b*R) ((b+1)*R)=true/\Nat.ble ((b+1)*R) s.map.length=true:=by
 have hl:=h.hl;have E:=h.AT.2.2.2.2.1;have I:=h.AT.2.2.2.2.2.1;have C:(b+1)*R <= s.map.length:=by rw[hl];exact iL R hb
 have L:=Nat.mul_le_mul E I;exact⟨C,by omega,FI C,iM (by rw[iC];omega),iM C⟩
def Sr:cx:=⟨List.replicate 16 (-1),List.replicate 16 0,0⟩
def ak7:cq:=⟨List.replicate 11 0,false⟩
def Ss(g:aI):en:=⟨List.replicate (ez g).toNat ak7,List.replicate (fP g).toNat 0,List.replicate (fP g).toNat 0⟩
def ta(c:fm)(p:dY):av:=⟨c,⟨p,p,false⟩,0,jQ c.ax,rT c.ax,Ss c.ax,(sO c.ax c.bM).1,⟨List.replicate (aR c.ax).toNat 0,c.interval,false⟩,List.replicate (aR c.ax).toNat Sr,List.replicate (aR c.ax).toNat p.fl,[],[],p.weights.map jM,⟨false,p.low,p.high⟩,⟨0,0,0⟩,⟨0,10,10⟩,[],[],[]⟩
def De{p:dY}(h:ya p):pJ p=true/\ia (p.weights.map jM)=true/\p.weights.length=4:=by
 have⟨⟨⟨D,E⟩,⟨I,L⟩,⟨O,T⟩,⟨U,Y⟩,⟨i,w,hi,Z,YY,hw⟩,⟨h9,CR⟩,xW,qd⟩,uw,uy⟩:=h;have hl:p.weights.length=4:=by rw[hw,ji];rfl
 have C:ia (p.weights.map jM)=true:=by
  rw[hw];rcases(by omega:i=0 \/ i=1 \/ i=2 \/ i=3)with rfl|rfl|rfl|rfl<;>rcases(by omega:w=1 \/ w=2 \/ w=3 \/ w=4)with rfl|rfl|rfl|rfl<;>rfl
 refine⟨?_,C,hl⟩;unfold pJ mW xU;rw[C,hl];simp only[aN,aO,fY]
 grind
def aB1{n:Int}(C:8<=n)(D:n<=17):zN n=some (2*n+2):=by
 unfold zN;rw[dR,ak,bA.2 ⟨by omega,by omega⟩,bB,au,aV (n:=2*n),aV]
def Su{g:aI}(h:RC g):cw g=true:=by
 have⟨⟨C,D⟩,⟨E,I⟩,⟨L,O⟩,T,U⟩:=h;simp[cw,aN,aO,fY];omega
def aB2:∀ r∈[(1:Int),2,3,4],∀ w∈[(4:Int),5,6,7,8],gS (YJ r w)=true/\decide (CO (YJ r w) <= 200)=true:=by
 intro r C w D;simp at C D;rcases C with rfl|rfl|rfl|rfl<;>rcases D with rfl|rfl|rfl|rfl|rfl<;>exact⟨by kernel_rfl,by kernel_rfl⟩
def aB3{c:fm}(h:vS c):nR c=true:=by
 have⟨C,⟨r,w,O,T,U,Y,E⟩,⟨Z,zu⟩,⟨Zs,Zt⟩,⟨hi1,hi2⟩,I,hl⟩:=h;have L:=Su C;have⟨t1,D⟩:=aB2 r (by simp;omega) w (by simp;omega);have D:=of_decide_eq_true D;have⟨⟨h1,h2⟩,⟨h3,h4⟩,⟨h5,h6⟩,h7,h8⟩:=C;unfold nR jw;rw[L,E,t1,hl,I];rw[aV];simp only[aN,aO,fY,true_and];omega
def ak8{c:fm}{p:dY}(C:vS c)(D:ya p):sK c p=some true:=by
 have I:=aB3 C;have⟨L,_,h3⟩:=De D;have⟨hg,⟨r,w,hr1,A5,hw1,YY,E⟩,⟨hm1,zu⟩,⟨Zs,Zt⟩,⟨hi1,hi2⟩,O,hl⟩:=C;have⟨_,T,U⟩:=D;have Y:c.bX.gG=7:=by rw[E];rfl
 have Z:c.bX.rp=3:=by rw[E];rfl
 unfold sK;rw[Rf,ak,I,aq,Rh _ (by omega),ak,L,aq,aB1 T U,ak,hl,O,Y,Z,aV (n:=2*p.fl+2+2)];dsimp only;rw[aQ,aq,aV (n:=7+3),bJ,aV (n:=5*c.interval),qK (by omega),aV (n:=16+1),aV (n:=(16+1)*p.fl),aV (n:=5*c.interval / (7+3)),aV,aQ]
def grow(x:av)(l:Int)(i:Nat):av:=⟨x.config,x.box,x.now,x.aY,x.ready,x.array,x.spare,x.aS,x.bI++List.replicate i Sr,x.guard++List.replicate i l,x.pending,x.queue,x.shares,x.drain,x.aT,x.cU,x.errors,x.trace,x.cr⟩
def Zw(g:aI)(sp:Int):aI:=⟨g.bK,g.aA,g.rows-sp,g.aL⟩
def Sv(g:aI)(sp:Int):Bool:=jN g (jQ g)&&(jO g (rT g)&&(oA g (Ss g)&&(kA g (sO g sp).1&&((sO g sp).1.bM==sp&&(cw (Zw g sp)&&(decide (0<ez (Zw g sp))&&(W6 (W6 ((ez g).tdiv g.rows)*W6 (g.rows-sp))==ez (Zw g sp)&&(decide (1<=ez g)&&decide ((sO g sp).1.map.length<=1048576)))))))))
def aB4:(([1,2]:aa Int).all λG=>([1,2]:aa Int).all λB=>([4,5,6]:aa Int).all λR=>([1,2]:aa Int).all λC=>([0,1,2]:aa Int).all λsp=>Sv ⟨G,B,R,C⟩ sp)=true:=by kernel_rfl
def ak9{g:aI}{sp:Int}(h:RC g)(C:0 <= sp)(D:sp <= 2):Sv g sp=true:=by
 have⟨⟨E,I⟩,⟨L,O⟩,⟨T,U⟩,d1,d2⟩:=h;have e:=aB4;simp only[cu]at e;exact e _ (by simp;omega) _ (by simp;omega) _ (by simp;omega) _ (by simp;omega) sp (by simp;omega)
def aB5:kz Sr=true:=by kernel_rfl
def aB6{c:fm}{p:dY}(C:vS c)(I:ya p):dK (ta c p):=by
 have hb:=dS c.ax;have hl:=mT c.ax;have L:=qm c.ax;have⟨_,_,O⟩:=De I;have E:=ak9 C.1 C.2.2.2.1.1 C.2.2.2.1.2;simp only[Sv,aO,fY]at E
 refine⟨⟨?_,?_⟩,?_,⟨?_,?_⟩,⟨⟨?_,λy D=>?_⟩,?_,?_⟩,E.2.2.2.2.2.2.2.2.2,?_,⟨?_,λy D=>?_⟩,?_,?_,?_,?_,?_,?_,?_⟩
 ·show p.weights.length <= _;omega
 ·show p.weights.length <= _;omega
 ·show (List.replicate _ _).length <= _;rw[kH];omega
 ·show (List.replicate _ _).length <= _;rw[kH];omega
 ·exact Nat.zero_le _
 ·show (List.replicate _ _).length <= _;rw[kH];omega
 ·obtain rfl:=List.eq_of_mem_replicate D;exact cK rfl
 ·show (List.replicate _ _).length <= _;rw[kH];omega
 ·show (List.replicate _ _).length <= _;rw[kH];omega
 ·show (List.replicate _ _).length <= _;rw[kH];omega
 ·show (List.replicate _ _).length <= _;rw[kH];omega
 ·obtain rfl:=List.eq_of_mem_replicate D;exact⟨cK rfl,cK rfl⟩
 ·show (List.replicate _ _).length <= _;rw[kH];omega
 ·exact Nat.zero_le _
 ·exact Nat.zero_le _
 ·show (p.weights.map jM).length <= _;rw[eI];omega
 ·exact Nat.zero_le _
 ·exact Nat.zero_le _
 ·exact Nat.zero_le _
def aB7{c:fm}{p:dY}(C:vS c)(D:ya p):dH (ta c p)=true:=by
 have hb:=dS c.ax;have hbp:=K3 (Su C.1);have hl:=mT c.ax;obtain⟨_,L,O⟩:=De D;have E:=ak9 C.1 C.2.2.2.1.1 C.2.2.2.1.2;simp only[Sv,aO,fY]at E;obtain⟨T,U,Y,Z,g5,g6,g7,g8,g9,g10⟩:=E;have I:mY c p=true:=by unfold mY;rw[ak8 C D];rfl
 have hiv:200<=c.interval/\c.interval<=259:=C.2.2.2.2.1;obtain⟨⟨_,_,⟨l1,l2⟩,⟨l3,l4⟩,_⟩,p1,p2⟩:=D;have e1:ff (ta c p).aS=true:=by
  unfold ff;simp only[ta,kH,aN,aO,fY,List.all_replicate];refine⟨?_,by omega,aQ,aQ⟩;split<;>rfl
 have e2:qw (ta c p)=true:=by
  unfold qw;simp only[ta,kH,aO,fI,List.length_nil,List.range_zero,List.all_nil];refine⟨by omega,by omega,by omega,rfl,?_,trivial⟩;rw[cu];intro i hi;have hi:i<(aR c.ax).toNat:=fk.1 hi;unfold partAt;simp only[List.getElem?_replicate,hi,if_true,aB5,bZ];exact bA.2 ⟨by omega,by omega⟩
 have e3:mW (ta c p).drain=true:=by
  unfold mW;simp only[ta,aO];exact⟨aQ l1,aQ l3,aQ⟩
 have e4:aN 0 0 (W6 (ez c.ax-1))=true:=by
  rw[aV];exact bA.2 ⟨by omega,by omega⟩
 have e5:((p.weights.map jM).length:Int)==4:=by rw[eI,O];rfl
 unfold dH;simp only[aO];exact⟨I,I,rfl,T,U,Y,Z,g5,⟨e1,e2⟩,rfl,L,e5,e3,rfl,rfl,rfl,rfl,rfl,e4,rfl,rfl,rfl⟩
def aB8{c:av}(C:dH c=true)(r:aZ):dH (sU c r).1=true/\((sU c r).2=false -> (sU c r).1=c):=by
 have h:=Ck.of C;have p:=gv.of h.pa;unfold sU;cases hb:((!dH c) ||((!(mw c r).2) ||(c.cr.any λx=>x.id==r.id)))with
 |true=>simp_all
 | false=>
  refine⟨?_,λh=>by cases h⟩
  rw[au];simp only[pS,Bool.not_eq_false']at hb;have D:iX (ez (ef c.config.ax c.spare)) (mw c r).1=true:=by
   have E:=hb.2.1;unfold mw C1 at E ⊢
   grind
  exact Ck.ok ⟨h.f1,h.f2,h.nw,h.rk,h.rd,h.ar,h.sp,h.se,h.rf,(show gv { c with queue:=(mw c r).1 } from ⟨p.dl,p.tl,p.gl,p.t,p.g,p.pd,p.u⟩).ok,D,h.sh,h.sl,h.dr,h.pw,h.ps,h.si,h.s1,h.s2,h.s3,h.er,h.tr,h.rp⟩
def aB9{b:aa Int}{c:bN}(E:kr b c):Dr b (OF c) λ_=>True:=by
 unfold OF;rw[E.eq]
 refine(fq E 4).bind λx O T D=>?_
 rw[D.eta];cases hb:(x==0)with
 | true=>
  refine(Q9 D _ (by decide)).bind λy I _ C=>?_
  rw[C.eta];exact Dr.pure C trivial
 | false=>
  cases U:(x==1)with
  | true=>
   refine(fq D 200).bind λy I _ C=>?_
   rw[C.eta];exact Dr.pure C trivial
  | false=>
   refine(fq D 65536).bind λy I _ C=>?_
   rw[C.eta]
   refine(fq C 65536).bind λy Y _ L=>?_
   rw[L.eta];exact Dr.pure L trivial
def aCa{b:aa Int}{c:bN}(D:kr b c)(n:Int):Dr b (OG c n) λ_=>True:=by
 unfold OG;rw[D.eq]
 refine(fq D 60).bind λY Z h1 E=>?_
 dsimp only;rw[E.eta]
 refine(fq E 3).bind λx2 k2 h2 I=>?_
 dsimp only;rw[I.eta]
 refine(fq I n).bind λx3 k3 h3 L=>?_
 dsimp only;rw[L.eta]
 refine(fq L 50).bind λx4 k4 h4 O=>?_
 dsimp only;rw[O.eta]
 refine(Ra O 2).bind λU k5 h5 C=>?_
 dsimp only;rw[C.eta];cases U with
 | true=>
  refine(aB9 C).bind λx6 k6 h6 T=>?_
  rw[T.eta];exact Dr.pure T trivial
 |false=>exact Dr.pure C trivial
def LZ(a:jV):Prop:=a.n7.weights.length<=1048576
def WtI(i:Int)(a:jV):Prop:=LZ a/\(a.request.id=0\/a.request.id=i)
def aCb{b:aa Int}{c:bN}(L:kr b c){x:fm}(hx:vS x)(i:Int):Dr b (OH c x i) (WtI i):=by
 have O:=Su hx.1;have gb:=fe O;unfold OH;rw[xR,ak,bJ,L.eq];dsimp only
 refine(fq L 12).bind λD k2 h2 C=>?_
 dsimp only;rw[C.eta];have hA:∀ l:aa Int,0<l.length -> Dr b ((Ab k2 l).bind λE=>some ((⟨(2:Int),⟨(0:Int),(0:Int),(0:Int),false,(0:Int),(0:Int)⟩,E.1,(0:Int),⟨(0:Int),(0:Int),(0:Int)⟩,⟨(0:Int),(0:Int),(0:Int),(0:Int),(0:Int),[],⟨(0:Int),(0:Int)⟩⟩⟩:jV),((⟨b,E.2.1.i,E.2.1.h⟩:bN),()))) (WtI i):=λl hl=>by
  refine(Q9 C l hl).bind λy k hy T=>?_
  rw[T.eta];exact Dr.pure T ⟨by show 0 <= 1048576;omega,.inl rfl⟩
 cases h0:D==(0:Int)with
 |true =>grind
 |false=>
 rw[au];cases h1:D==(1:Int)with
 |true =>grind
 |false=>
 rw[au];cases D==(2:Int)with
 | true=>
  rw[aq]
  refine(axv C O).bind λy5 k5 h5 U=>?_
  dsimp only;rw[U.eta]
  refine(fq U 11).bind λy6 k6 h6 Y=>?_
  dsimp only;rw[Y.eta]
  refine(fq Y 16).bind λy7 k7 h7 Z=>?_
  dsimp only;rw[Z.eta];exact Dr.pure Z ⟨by show (0:Nat) <= 1048576;omega,.inl rfl⟩
 |false=>
 rw[au];cases D==(3:Int)with
 | true=>
  rw[aq]
  refine(Q9 C _ (by simp)).bind λy8 k8 h8 Ly=>?_
  dsimp only;rw[Ly.eta]
  refine(fq Ly 2).bind λy9 k9 h9 CV=>?_
  rw[me,ak];dsimp only;rw[CV.eta]
  refine(fq CV _).bind λgK EB xW ala=>?_
  dsimp only;rw[ala.eta]
  refine(fq ala _).bind λhU WM qd alb=>?_
  dsimp only;rw[alb.eta]
  refine(ajr alb).bind λiV EA uw alc=>?_
  dsimp only;rw[alc.eta];have hl:=(De uw).2.2;exact Dr.pure alc ⟨by show iV.weights.length <= 1048576;omega,.inl rfl⟩
 |false=>
 rw[au]
 refine(aCa C _).bind λlN WL uy ald=>?_
 dsimp only;rw[ald.eta]
 refine(Ra ald 2).bind λkj k15 vQ I=>?_
 dsimp only;rw[I.eta];cases kj with
 | true=>
  refine(fq I 3).bind λmR k16 uz ale=>?_
  rw[ale.eta];exact Dr.pure ale ⟨by show 0 <= 1048576;omega,.inr rfl⟩
 |false=>exact Dr.pure I ⟨by show 0 <= 1048576;omega,.inr rfl⟩
def aCc{b:aa Int}{c:bN}(T:kr b c){x:fm}(hx:vS x)(m:Nat)(hm:m<=100):Dr b (OL c x (m:Int)) λl=>l.length<=m+1/\∀ a∈l,LZ a/\a.request.id<=(m:Int)+1:=by
 unfold OL br;rw[T.eq];obtain⟨z,e,C,aU,D,hl,E,rfl⟩:=XT (step:=IU) (m+1) (λk s=>∃ (C:bN) (aU:aa jV),kr b C/\aU.length=k/\(∀ a∈aU,LZ a/\a.request.id<=(m:Int)+1)/\s=(((),(m:Int),(),(),(k:Int),()),(((),C.i,C.h,()),x,aU,b,())))
  (λz=>∃(C:bN) (aU:aa jV),kr b C/\aU.length<=m+1/\(∀a∈aU,LZ a/\a.request.id<=(m:Int)+1)/\z = .inl (((),()),(aU,((),C.i,C.h,()),b,()))) aP (x:=(((),(m:Int),(),(),(0:Int),()),(((),c.i,c.h,()),x,([]:aa jV),b,()))) ⟨c,[],T,rfl,λa ha=>(by cases ha),rfl⟩ (by
  rintro k hk s ⟨C,aU,D,hl,E,rfl⟩;unfold IU az xG;dsimp only;rw[D.eta,aV (n:=(m:Int)+1)];obtain⟨U,L,O,I,Y⟩:=fq D ((m:Int)+1);rw[O,ak];dsimp only;by_cases Z:(k:Int)<U
  ·obtain⟨y2,k2,e2,vm,h2,h3⟩:=aCb I hx (W6 ((k:Int)+1));rw[aQ Z,aq,I.eta,e2,ak];dsimp only;rw[aV (n:=(k:Int)+1)]at h3;rw[cM (by rw[jk];omega),aq,bz]
   refine .inl ⟨_,rfl,k2,aU++[y2],vm,by rw[mC,jk,hl],λa ha=>?_,rfl⟩
   rcases List.mem_append.1 ha with ha|ha
   ·exact E a ha
   ·rw[kI.1 ha];exact⟨h2,by omega⟩
  ·rw[aX Z,au];exact .inr ⟨_,rfl,L,aU,I,by omega,E,rfl⟩) (by
  rintro s ⟨C,aU,D,hl,E,rfl⟩;unfold IU az xG;dsimp only;rw[D.eta,aV (n:=(m:Int)+1)];obtain⟨U,L,O,I,Y⟩:=fq D ((m:Int)+1);have h31:=Y.2.2 (by omega);rw[O,ak];dsimp only;rw[aX,au];exact⟨_,rfl,L,aU,I,by omega,E,rfl⟩) (bF)
 rw[e,ak];simp only[dX];rw[D.eta];exact Dr.pure D ⟨hl,E⟩
def Zx{g:aI}{s:dI}{D R:Nat}(h:Sp g s D R)(b r:Int):Kd g s b r=some (bif dz (ef g s) ⟨b,r,0⟩then b*(R:Int)+r else -1):=by
 obtain⟨Y,Z,eg,eb,h8,uz,lD,hc,Rr,MD⟩:=h.AT;have hR:W6 (g.rows-s.bM)=(R:Int):=by rw[h.hR];exact aV
 unfold Kd;rw[Yq,ak,h.ok,bB,au,me,ak,h.hb,hR,aV (n:=(D:Int)-1),aV (n:=(R:Int)-1),dN,ak];by_cases E:0<=b/\b<(D:Int)
 ·rw[bA.2 ⟨E.1,by omega⟩,bB,au,dN,ak];by_cases L:0<=r/\r<(R:Int)
  ·have I:=(h.ex b r).2 ⟨E,L⟩;obtain⟨b,rfl⟩:=fz E.1;have T:=(h.lens (b:=b) (by omega)).1;have aCY:=(h.lens (b:=b) (by omega)).2.1;rw[iC]at T;have U:W6 ((b:Int)*(R:Int))=((b*R:Nat):Int):=by rw[<-Int.natCast_mul];exact aV
   rw[bA.2 ⟨L.1,by omega⟩,bB,au,I,aq,U,aV,Int.natCast_mul]
  ·have I:dz (ef g s) ⟨b,r,0⟩=false:=by
    cases C:dz (ef g s) ⟨b,r,0⟩with
    |false=>rfl
    |true=>exact absurd ((h.ex b r).1 C).2 L
   have O:aN r 0 ((R:Int)-1)=false:=by
    cases C:aN r 0 ((R:Int)-1)with
    |false=>rfl
    |true=>have:=bA.1 C;exact absurd ⟨this.1,by omega⟩ L
   rw[O,I];rfl
 ·have I:dz (ef g s) ⟨b,r,0⟩=false:=by
   cases C:dz (ef g s) ⟨b,r,0⟩with
   |false=>rfl
   |true=>exact absurd ((h.ex b r).1 C).1 E
  have O:aN b 0 ((D:Int)-1)=false:=by
   cases C:aN b 0 ((D:Int)-1)with
   |false=>rfl
   |true=>have:=bA.1 C;exact absurd ⟨this.1,by omega⟩ E
  rw[O,I];rfl
def alf{g:aI}{s:dI}{C R:Nat}(h:Sp g s C R){b r:Nat}(hb:b<C)(I:r<R):xJ g s (b:Int) (r:Int)=some (s.map.getD (b*R+r) 0):=by
 have D:=(h.lens hb).1;rw[iC]at D;have E:=(h.ex (b:Int) r).2 ⟨⟨by omega,by omega⟩,by omega,by omega⟩;have e:b*R+r=((b*R+r:Nat):Int):=by rw[Int.natCast_add,Int.natCast_mul]
 unfold xJ xI;rw[Zx h,ak,E,aq,e,aX,au,aB ⟨by omega,by rw[bu];omega⟩]
 grind
def alg{g:aI}{s:dI}{C R:Nat}(h:Sp g s C R){b r:Int}(D:dz (ef g s) ⟨b,r,0⟩=false):xJ g s b r=some (-1):=by
 unfold xJ xI;rw[Zx h,ak,D];rfl
def alh{g:aI}{s:dI}{D R:Nat}(h:Sp g s D R)(b r:Int):∃ y,xJ g s b r=some y/\(dz (ef g s) ⟨b,r,0⟩=true -> 0 <= y/\y<g.rows):=by
 cases C:dz _ ⟨b,r,0⟩with
 |false=>exact⟨-1,alg h C,λh=>by cases h⟩
 | true=>
  have⟨⟨E,L⟩,I,a4⟩:=(h.ex b r).1 C;obtain⟨b,rfl⟩:=fz E;obtain⟨r,rfl⟩:=fz I;exact⟨_,alf h (by omega) (by omega),λ_=>h.bound (by omega) (by omega)⟩
def aCd{g:aI}{s:dI}{I R:Nat}(h:Sp g s I R){b:Nat}(hb:b<I){x:Int}(E:0 <= x):∃ y,P0 g s (b:Int) x=some y/\(y<0 -> ∀ k,k<R -> s.map.getD (b*R+k) 0≠x):=by
 have Y:=h.AT.2.2.2.2.2.1;unfold P0 bP;have⟨z,e,O⟩:=XT (step:=Kf) 16 (λk t=>t=(((b:Int),x,(),(),(k:Int),()),((g.bK,g.aA,g.rows,g.aL,()),(s.bM,s.map,()),())) /\ ∀ j,j<k -> j<R -> s.map.getD (b*R+j) 0≠x)
  (λz=>(∃r:Int,0 <= r/\z = .inl ((r,()),())) \/ (z = .inr (.inl ((),())) /\ ∀j,j<R -> s.map.getD (b*R+j) 0≠x)) aP (x:=(((b:Int),x,(),(),(0:Int),()),((g.bK,g.aA,g.rows,g.aL,()),(s.bM,s.map,()),()))) ⟨rfl,λj C=>by omega⟩ (by
  rintro k Z t ⟨rfl,D⟩;unfold Kf az bf xG;dsimp only;rw[mV,show (⟨s.bM,s.map⟩:dI)=s from rfl,aQ (show (k:Int)<16 by omega),aq,aQ (show x >= 0 from E),aq];by_cases T:k<R
  ·rw[alf h hb T,ak];by_cases e:s.map.getD (b*R+k) 0=x
   ·simp_all
   ·rw[jg e,au,bz]
    refine .inl ⟨_,rfl,rfl,λj C L=>?_⟩
    by_cases hjk:j=k
    ·simp_all
    ·grind
  ·have U:dz (ef g s) ⟨(b:Int),(k:Int),0⟩=false:=by
    cases E:dz (ef g s) ⟨(b:Int),(k:Int),0⟩with
    |false=>rfl
    |true=>have:=((h.ex b _).1 E).2;omega
   rw[alg h U,ak,jg (show ¬ (-1:Int)=x by omega),au,bz];exact .inl ⟨_,rfl,rfl,λj C L=>D j (by omega) L⟩) (by
  rintro t ⟨rfl,D⟩;unfold Kf az bf xG;dsimp only;rw[aX,au];exact⟨_,rfl,.inr ⟨rfl,λj C=>D j (by omega) C⟩⟩) (bF)
 rw[e,ak];rcases O with ⟨r,hr,rfl⟩|⟨rfl,D⟩
 ·exact⟨r,rfl,λhn=>by omega⟩
 ·simp_all
def aCe{g:aI}{s:dI}{C R:Nat}(h:Sp g s C R)(b r:Int):∃ y t,P1 g s b r=some (y,t)/\Sp g y C R/\y.bM=s.bM/\(t=true->dz (ef g s) ⟨b,r,0⟩=true):=by
 obtain⟨hg,yJ,eg,eb,E,I,lD,hc,Rr,MD⟩:=h.AT;have hm:s.map.length<=128:=by
  rw[h.hl];exact Nat.mul_le_mul E I
 have hR:=h.hR;have L:W6 (g.rows-s.bM)=(R:Int):=by rw[h.hR];exact aV
 unfold P1 Ke bP xA xZ;rw[cM (by simp;omega),aq,kY,ak,Zx h,ak];cases O:dz (ef g s) ⟨b,r,0⟩with
 |false=>exact⟨s,false,rfl,h,rfl,λh=>by cases h⟩
 | true=>
  obtain⟨⟨T,a2⟩,U,a4⟩:=(h.ex b r).1 O;obtain⟨b,rfl⟩:=fz T;obtain⟨r,rfl⟩:=fz U;have hb:b<C:=by omega
  have Y:r<R:=by omega
  have Z:=(h.lens hb).1;have hp:b*R+r<s.map.length:=by
   rw[iC]at Z;omega
  have e0:(b:Int)*(R:Int)+(r:Int)=((b*R+r:Nat):Int):=by rw[Int.natCast_add,Int.natCast_mul]
  rw[aq,e0,aX,au,L];dsimp only;obtain⟨n,hn⟩:=fz (show 0<=g.rows-(R:Int) by omega);obtain⟨z,e,hz⟩:=XT (step:=Kg) n (λk x=>x=(((b:Int),(),(),(),(),((b*R+r:Nat):Int),(R:Int)+(k:Int),()),((g.bK,g.aA,g.rows,g.aL,()),(s.bM,s.map,()),((0:Int),(),()),(s.bM,(),()),([]:aa Int),s.map,())))
   (λz=>(∃i:Int,z = .inl (((),true,()),((s.bM,(),()),s.map.set (b*R+r) i,()))/\(R:Int)<=i/\i<=g.rows-1/\∀k,k<R->s.map.getD (b*R+k) 0≠i)\/z = .inr (.inl (((),(),()),(((0:Int),(),()),(s.bM,(),()),([]:aa Int),s.map,())))) aP (x:=(((b:Int),(),(),(),(),((b*R+r:Nat):Int),(R:Int),()),((g.bK,g.aA,g.rows,g.aL,()),(s.bM,s.map,()),((0:Int),(),()),(s.bM,(),()),([]:aa Int),s.map,()))) (by rw[cm,Int.add_zero]) (by
   rintro k hk x rfl;obtain⟨y,ey,hy⟩:=aCd h hb (x:=(R:Int)+(k:Int)) (by omega);unfold Kg az bf xG xL;dsimp only;rw[mV,aQ (show (R:Int)+(k:Int)<g.rows by omega),aq];rw[show (⟨s.bM,s.map⟩:dI)=s from rfl,ey,ak];by_cases D:y<0
   ·rw[aQ D,aq,aB ⟨by omega,by omega⟩,aB];refine .inr ⟨_,rfl,.inl ⟨(R:Int)+(k:Int),?_,by omega,by omega,hy D⟩⟩;simp only[bu]
   ·rw[aX D,au,aV (n:=(R:Int)+(k:Int)+1)];exact .inl ⟨_,rfl,by rw[show ((k+1:Nat):Int)=(k:Int)+1 from Int.natCast_succ k,<-Int.add_assoc]⟩) (by
   rintro x rfl;unfold Kg az bf xG xL;dsimp only;rw[aX (show ¬ (R:Int)+(n:Int)<g.rows by omega),au];exact⟨_,rfl,.inr rfl⟩) (bF)
  rw[e,ak];rcases hz with ⟨i,rfl,i1,i2,i3⟩|rfl
  ·exact⟨_,true,rfl,h.set hb Y i1 i2 i3,rfl,λ_=>rfl⟩
  ·exact⟨_,false,rfl,h,rfl,λh=>by cases h⟩
def aCf{c:av}(O:dK c)(D:dH c=true)(t:aM):∃ v y,P2 c t=some (v,(y,()))/\dK y/\dH y=true/\Nx c y:=by
 have h:=Ck.of D;obtain⟨bn,R,E⟩:=Sp.of h.sp;obtain⟨T,yJ,eg,eb,h8,uz,lD,hc,Rr,MD⟩:=E.AT;obtain⟨f,e1,hf⟩:=alh E t.ay t.row;obtain⟨y,v,e2,I,Z,ht⟩:=aCe E t.ay t.row;unfold P2 br xL;rw[e1,ak,e2,ak];cases v with
 |false=>exact⟨false,c,rfl,O,D,Nx.refl c⟩
 | true=>
  have U:=ht rfl;obtain⟨⟨a1,a2⟩,a3,a4⟩:=(E.ex t.ay t.row).1 U;have lC:=(vR h.rk).2.1;have Lg:=E.hb;have hR:=E.hR;obtain⟨f1,f2⟩:=hf U;have egy:ef c.config.ax y=ef c.config.ax c.spare:=by
   unfold ef;rw[I.ok,h.sp,Z]
  obtain⟨q,e3,L⟩:=alh I t.ay t.row;have L:=L (by rw[egy];exact U);rw[bB,au,aB ⟨a1,by omega⟩,aB];dsimp only;cases c.aY.aA[t.ay.toNat].open_ with
  |true=>exact⟨false,c,rfl,O,D,Nx.refl c⟩
  | false=>
   rw[au,e3,ak];obtain⟨n,hn⟩:=fz (show 0<=c.config.ax.aL by omega);have gb:=fe T;have LD:∀(row:Int) (k:Nat),0<=row->row<c.config.ax.rows->k<n->dz c.config.ax ⟨t.ay,row,(k:Int)⟩=true:=λrow k r1 r2 D=>vF T a1 (by rw[Lg];exact a2) r1 r2 (by dsimp only;omega) (by dsimp only;omega)
   obtain⟨z,e,zg⟩:=XS (step:=Fe) n (λk x=>∃ a:en,fy c.config.ax 100000 a/\x=(((),(),(),f,(),q,(k:Int),()),(cP c a,(t.ay,t.row,t.bO,()),(c.config.ax.bK,c.config.ax.aA,c.config.ax.rows,c.config.ax.aL,()),(y.bM,(),()),y.map,())))
    (λz=>∃a:en,fy c.config.ax 100000 a/\z = .inl (((),(),()),(cP c a,(y.bM,(),()),y.map,()))) aP (x:=(((),(),(),f,(),q,(0:Int),()),(c,(t.ay,t.row,t.bO,()),(c.config.ax.bK,c.config.ax.aA,c.config.ax.rows,c.config.ax.aL,()),(y.bM,(),()),y.map,()))) ⟨c.array,fy.v7 h.ar,rfl⟩ (by
    rintro k D x ⟨a,C,rfl⟩;have at1:=LD q k L.1 L.2 D;have at2:=LD f k f1 f2 D;obtain⟨i1,_⟩:=Lt at1;obtain⟨i2,_⟩:=Lt at2;have l1:=C.lt at1;have l2:=C.lt at2;have hsy:=C.syms _ (cR l2);have st:Fe (((),(),(),f,(),q,(k:Int),()),(cP c a,(t.ay,t.row,t.bO,()),(c.config.ax.bK,c.config.ax.aA,c.config.ax.rows,c.config.ax.aL,()),(y.bM,(),()),y.map,()))=some (.inl (((),(),(),f,(),q,((k+1:Nat):Int),()),(cP c ⟨a.cells.set (ic c.config.ax ⟨t.ay,q,(k:Int)⟩) a.cells[ic c.config.ax ⟨t.ay,f,(k:Int)⟩],a.bC,a.bw⟩,(t.ay,t.row,t.bO,()),(c.config.ax.bK,c.config.ax.aA,c.config.ax.rows,c.config.ax.aL,()),(y.bM,(),()),y.map,()))):=by
     unfold Fe az xG xL xM;dsimp only;rw[mV,aQ (show (k:Int)<c.config.ax.aL by omega),aq,Q4,ak,Q4,ak,i1,i2];have Y:0<=(ic c.config.ax ⟨t.ay,f,(k:Int)⟩:Int)/\(ic c.config.ax ⟨t.ay,f,(k:Int)⟩:Int).toNat<(cP c a).array.cells.length:=⟨by omega,by simpa [cP]using l2⟩
     have c2:0<=(ic c.config.ax ⟨t.ay,q,(k:Int)⟩:Int)/\(ic c.config.ax ⟨t.ay,q,(k:Int)⟩)<(cP c a).array.cells.length:=⟨by omega,by simpa [cP]using l1⟩
     rw[aB Y,aB Y.2,aB Y.2];simp only[bu];rw[aio _ (by simp only[cP];rw[hsy.1];omega),ak,aB c2,aB c2.2,bz];rfl
    exact⟨_,st,_,C.CZ _ hsy,rfl⟩) (by
    rintro x ⟨a,C,rfl⟩;unfold Fe az xG xL xM;dsimp only;rw[aX (show ¬ (n:Int)<c.config.ax.aL by omega),au];exact⟨_,rfl,a,C,rfl⟩) (bF)
   rw[e,ak];obtain⟨a,C,rfl⟩:=zg;have p:=gv.of h.pa;obtain⟨z1,z2,z3,z5,z6,z7,z8,z9,gQ,jx,jR,jS,jy,mq⟩:=O;have hml:y.map.length<=128:=by
    rw[I.hl];exact Nat.mul_le_mul h8 uz
   refine⟨true,⟨c.config,c.box,c.now,c.aY,c.ready,a,y,c.aS,c.bI,c.guard,c.pending,c.queue,c.shares,c.drain,c.aT,c.cU,c.errors,c.trace,c.cr⟩,rfl,⟨z1,z2,z3,v8 C,by show y.map.length<=1048576;omega,z7,z8,z9,gQ,jx,jR,jS,jy,mq⟩,Ck.ok ⟨h.f1,h.f2,h.nw,h.rk,h.rd,yo T C,I.ok,Z.trans h.se,h.rf,(show gv ⟨c.config,c.box,c.now,c.aY,c.ready,a,y,c.aS,c.bI,c.guard,c.pending,c.queue,c.shares,c.drain,c.aT,c.cU,c.errors,c.trace,c.cr⟩from ⟨p.dl,p.tl,p.gl,p.t,p.g,p.pd,p.u⟩).ok,?_,h.sh,h.sl,h.dr,h.pw,h.ps,h.si,h.s1,h.s2,h.s3,h.er,h.tr,h.rp⟩,rfl,rfl,List.Sublist.refl _,λr hr=>.inl hr,.inl ⟨rfl,rfl,rfl⟩,rfl⟩
   show iX (ez (ef c.config.ax y)) c.queue=true;rw[egy];exact h.qu
def aCg{g:aI}(D:cw g=true):OS g=some (Ss g):=by
 have E:=mT g;have I:=qm g;have er:aR g*g.rows=fP g:=by simp[fP,D]
 have⟨n,C⟩:=fz E.1;unfold OS br;have e:=cD (step:=I2) n (λi=>(((),(),(),(i:Int),()),((g.bK,g.aA,g.rows,g.aL,()),((),(),(),()),((),(),(),()),([]:aa cq),([]:aa Int),([]:aa Int),List.replicate i ak7,([]:aa Int),([]:aa Int),()))) _ aP (λk h=>by
  unfold I2 az xG;dsimp only;rw[mV,xR,ak,C,aQ,aq,cM (by simp;omega),aq,bz,List.replicate_succ' (n:=k)];rfl) (by
  unfold I2 az xG;dsimp only;rw[mV,xR,ak,C,aX,au]) (bF)
 rw[cm,List.replicate_zero]at e
 refine(bq (λo=>Option.bind o _) e).trans ?_
 rw[ak];simp only[dX];rw[mV,me,ak,er,aV (n:=fP g),aX,au,Ax,ak,D,bB,au,bH ⟨by omega,by omega,by omega⟩,bH ⟨by omega,by omega,by omega⟩];unfold Ss;rw[C,bu]
def aCh{p:dY}(C:ya p):OU p=some (⟨p,p,false⟩,true):=by
 have⟨D,_,E⟩:=De C;unfold OU vt xA xZ;rw[Yf _ (by omega),ak,D,bB,au,cM (by simp[E]),aq,kY,ak,ak]
def aCi:EN 16=some (Sr,true):=by kernel_rfl
def aCj(Z C:av)(c:fm)(p:dY)(n:Nat)(O:n <= 8)(D:c.iF=16)(E:C.bI=[])(I:C.guard=[]):
  iter EO aP (((),(),(),(),(n:Int),(0:Int),()),(Z,C,c,(p.eU,p.cap,p.fl,p.low,p.high,p.weights,p.eB.down,p.eB.sleep,()),()))=some (.inl (((),(),(),()),(Z,grow C p.fl n,(p.eU,p.cap,p.fl,p.low,p.high,p.weights,p.eB.down,p.eB.sleep,()),()))):=by
 have e:=cD (step:=EO) n (λi=>(((),(),(),(),n,i,()),(Z,grow C _ i,c,(p.eU,p.cap,p.fl,p.low,p.high,p.weights,p.eB.down,p.eB.sleep,()),()))) _ aP (λk h=>by
  unfold EO grow az xG;dsimp only;rw[aQ,aq,D,aCi,ak,E,I,cM (by simp;omega),aq,cM (by simp;omega),aq,bz,List.replicate_succ' (n:=k),List.replicate_succ' (n:=k),List.append_assoc,List.append_assoc]) (by
  unfold EO grow az xG;dsimp only;rw[aX,au]) (bF)
 have L:grow C p.fl 0=C:=by
  unfold grow;simp only[List.replicate_zero,List.append_nil]
 rw[cm,L]at e;exact e
def aCk{c:fm}{p:dY}(D:vS c)(C:ya p):xz c p=some true:=by
 have⟨_,_,E⟩:=De C;have e:=ak8 D C;rw[Lv _ _ (by omega)]at e
 rwa [Rz _ _ (by omega)]
def aCl{c:fm}{p:dY}(C:vS c)(D:ya p):OW c p=some (ta c p,true):=by
 have E:=Su C.1;have hb:=dS c.ax;have Z:=K3 E;have⟨h2,L,h3⟩:=De D;have⟨n,I⟩:=fz hb.1;have O:c.iF=16:=C.2.2.2.2.2.1;have hiv:200 <= c.interval/\c.interval <= 259:=C.2.2.2.2.1;have T:OV (n:Int) c.interval=some (⟨List.replicate n 0,c.interval,false⟩,true):=by
  unfold OV;rw[dN,ak,bA.2 ⟨by omega,by omega⟩,bB,au,dN,ak,bA.2 ⟨by omega,by omega⟩,bB,au,bH ⟨by omega,by omega,by omega⟩,bu]
 have U:WX 10=some (⟨0,10,10⟩,true):=rfl;have Y:xT p.weights=(p.weights.map jM,true):=by unfold xT;rw[L,aq]
 unfold OW br;rw[aCk C D,ak,bB,au,ayd,ak,ayF E,ak,aCg E,ak,me,ak,aCh D,ak,X9,ak,I,T,ak];dsimp only;rw[aCj _ _ c p n (by omega) O rfl rfl,ak];simp only[dX];rw[Yd _ (by omega),ak,U,ak,Y];unfold ta grow;rw[I,bu];rfl
def aCm{r:dn}(h:ff r=true)(x:Bool):∃ y,PX r x=some y/\ff y=true/\y.aJ.length=r.aJ.length:=by
 have hl:=oE h;have C:=h;simp only[ff,aO,bA]at h;have mk:∀ (w:Int) (b:Bool),1<=w/\w<=10000->ff ⟨r.aJ,w,b⟩=true:=λw b D=>by
  simp only[ff,aO,bA];exact⟨h.1,h.2.1,D⟩
 have E:W6 ((W6 (r.wait+1)).tdiv 2)=(r.wait+1) / 2:=by
  rw[aV (n:=r.wait+1),qK (by omega)];exact aV
 have I:W6 (W6 (2*r.wait)-1)=2*r.wait-1:=by
  rw[aV (n:=2*r.wait)];exact aV
 unfold PX Cw xA xZ;rw[cM (by simp;omega),aq,kY,ak,Li _ (by omega),ak,C,bB,au];dsimp only;rw[E,I];cases x with
 | true=>
  cases r.eP with
  |false=>exact⟨_,rfl,mk _ _ (by omega),rfl⟩
  |true=>exact⟨_,rfl,mk _ _ h.2.2,rfl⟩
 | false=>
  cases r.eP with
  |false=>exact⟨_,rfl,mk _ _ h.2.2,rfl⟩
  |true=>exact⟨_,rfl,mk _ _ (by split<;>omega),rfl⟩
def aCn(b:iE)(C:FP b)(p:dY)(D:p.weights.length <= 1048576):PY b p=some (bif pJ p then ⟨b.bT,p,true⟩else b,pJ p):=by
 unfold PY;rw[YL b C,ak,Yf _ (by omega),ak];cases pJ p with
 |false=>rfl
 | true=>
  unfold vt xA xZ;rw[bB,ig _,aq];rfl
def aCo{c:av}(C:dH c=true)(r:aZ):(LA c r).2=(sU c r).1:=by
 unfold LA sU
 grind
def Tq(c:av)(u:Nat):Prop:=LY c/\c.queue.length+c.cr.length<=u
def Tq.up{c:av}{u:Nat}(h:Tq c u):Tq c (u+1):=⟨h.1,Nat.le_succ_of_le h.2⟩
def Tq.adv{c y:av}{u:Nat}{n:Int}(h:Tq c u)(O:dH c=true)(T:0<=n/\n<=1000000)(L:y.config=c.config)(U:Sj n c y)(hl:y.queue.length+y.cr.length=c.queue.length+c.cr.length):Tq y u:=by
 have k:=Ck.of O;have C:=h.1;unfold LY at C;refine⟨?_,by rw[hl];exact h.2⟩;unfold LY;rcases U with ⟨D,E,I⟩|⟨x,D,E,I,a4,Y,Z⟩
 ·rw[L,D,E,I];exact C
 ·rw[L,D,E,I];exact C.add k.rk k.rd a4 Y Z T
def Tq.nx{c y:av}{u:Nat}(h:Tq c u)(D:dH c=true)(C:Nx c y):Tq y u:=h.adv D (bA.1 (Ck.of D).nw) C.2.1 C.2.2.2.2.1 C.2.2.2.2.2
def Tq.kW{c y:av}{u:Nat}(h:Tq c u)(D:dH c=true)(E:c.now<1000000)(C:Sk c y):Tq y u:=by
 have:=bA.1 (Ck.of D).nw;exact h.adv D ⟨by omega,by omega⟩ C.2.1 C.2.2.2.2.1 C.2.2.2.2.2
def aCp{c:av}{u:Nat}(h:Tq c u)(r:aZ):Tq (sU c r).1 (u+1)/\(sU c r).1.now=c.now/\(sU c r).1.config=c.config:=by
 unfold sU;cases hb:((!dH c) ||((!(mw c r).2) ||(c.cr.any λx=>x.id==r.id)))with
 |true=>exact⟨h.up,rfl,rfl⟩
 | false=>
  have C:=h.2;refine⟨⟨h.1,?_⟩,rfl,rfl⟩;show (mw c r).1.length+c.cr.length<=u+1;unfold mw C1;cases (iX (ez (ef c.config.ax c.spare)) c.queue&&iX (ez (ef c.config.ax c.spare)) (yb (λx=>ga (YM c r) x) c.queue (YM c r)))with
  |false=>exact Nat.le_succ_of_le C
  | true=>
   rw[aq];dsimp only;rw[ajt];omega
def Dq(c:av)(u:Nat)(o:aj (Bool×(av×af))):Prop:=∃t y,o=some (t,(y,()))/\dK y/\dH y=true/\y.config=c.config/\(0<=y.now/\y.now<=c.now+500)/\Tq y (u+1)
def aCq{c:av}(hz:dK c)(I:dH c=true)(hi:2<=c.config.interval/\c.config.interval<=10000)(hn:c.now<=900000){u:Nat}(L:Tq c u){a:jV}(hw:a.n7.weights.length<=1048576):Dq c u (P3 c a):=by
 have h:=Ck.of I;have p:=gv.of h.pa;have O:=bA.1 h.nw;have T:=hz;obtain⟨Z,z2,z3,z5,z6,z7,z8,z9,gQ,jx,jR,jS,jy,mq⟩:=hz;have no:∀t:Bool,Dq c u (some (t,(c,()))):=λt=>⟨t,c,rfl,T,I,rfl,⟨O.1,by omega⟩,L.up⟩
 unfold P3 xC br xL xM;cases a.kind==(1:Int)with
 | true=>
  obtain⟨q1,q2⟩:=aB8 I a.request;obtain⟨v1,v2,v3⟩:=aCp L a.request;rw[aq,azA c a.request T I,ak];dsimp only;rw[aCo I];exact⟨_,_,rfl,azz c a.request T,q1,v3,⟨by rw[v2];exact O.1,by rw[v2];omega⟩,v1⟩
 |false=>
 rw[au];cases a.kind==(2:Int)with
 | true=>
  rw[aq,dN,ak];cases U:aN a.n 0 500 with
  |false=>exact no _
  | true=>
   have hb:=bA.1 U;obtain⟨m,hm⟩:=fz hb.1;rw[bB,au];obtain⟨z,e,y,rfl,E,D,C,y4,Y⟩:=XS (step:=Ki) m (λk x=>∃ y:av,x=(((),(),(k:Int),()),(y,a,()))/\dK y/\dH y=true/\y.config=c.config/\(0<=y.now/\y.now=c.now+(k:Int))/\Tq y u) (λz=>∃ y:av,z = .inl ((),(y,()))/\dK y/\dH y=true/\y.config=c.config/\(0<=y.now/\y.now<=c.now+500)/\Tq y u) aP (x:=(((),(),(0:Int),()),(c,a,()))) ⟨c,rfl,T,I,rfl,⟨O.1,by omega⟩,L⟩ (by
    rintro k hkk x ⟨y,rfl,E,D,C,y4,Y⟩;obtain⟨v,f1,f2,f3,f4⟩:=aBR E D (by rw[C];exact hi) (by omega);unfold Ki az xG;dsimp only;rw[hm,aQ (show (k:Int)<(m:Int) by omega),aq,f1,ak,bz];have aCZ:=f4.1;exact⟨_,rfl,v,rfl,f2,f3,f4.2.1.trans C,⟨by omega,by omega⟩,Y.kW D (by omega) f4⟩) (by
    rintro x ⟨y,rfl,E,D,C,y4,Y⟩;unfold Ki az xG;dsimp only;rw[hm,aX (show ¬ (m:Int)<(m:Int) by omega),au];exact⟨_,rfl,y,rfl,E,D,C,⟨y4.1,by omega⟩,Y⟩) (bF)
   rw[e,ak];exact⟨true,y,rfl,E,D,C,y4,Y.up⟩
 |false=>
 rw[au];cases a.kind==(3:Int)with
 | true=>
  have hg:=(vR h.rk).1;have ha:=fy.v7 h.ar;rw[aq,Q3,ak];cases c1:dz c.config.ax a.addr with
  |false=>exact no _
  |true=>
  rw[bB,au,dN,ak];cases c2:aN a.yA 0 10 with
  |false=>exact no _
  |true=>
  unfold xH;rw[bB,au,dN];cases c3:aN a.n 0 15 with
  |false=>exact no _
  | true=>
   have b2:=bA.1 c2;have b3:=bA.1 c3;obtain⟨k,hkc⟩:=fz b2.1;have hl:=ha.lt c1;obtain⟨i1,i2⟩:=Lt c1;have hs:=ha.syms _ (cR hl);have hkl:k<c.array.cells[ic c.config.ax a.addr].symbols.length:=by rw[hs.1];omega
   have U:=X5 (hs.get hkl) b3;have ha2:fy c.config.ax 100000 ⟨c.array.cells.set (ic c.config.ax a.addr) ⟨c.array.cells[ic c.config.ax a.addr].symbols.set k (bits .xor .i64 c.array.cells[ic c.config.ax a.addr].symbols[k] a.n),c.array.cells[ic c.config.ax a.addr].jm⟩,c.array.bC,c.array.bw⟩:=ha.CZ _ (c:=⟨_,_⟩) (hs.set ⟨U.1,U.2.1⟩);refine⟨true,cP c ⟨c.array.cells.set (ic c.config.ax a.addr) ⟨c.array.cells[ic c.config.ax a.addr].symbols.set k (bits .xor .i64 c.array.cells[ic c.config.ax a.addr].symbols[k] a.n),c.array.cells[ic c.config.ax a.addr].jm⟩,c.array.bC,c.array.bw⟩,?_,⟨Z,z2,z3,v8 ha2,z6,z7,z8,z9,gQ,jx,jR,jS,jy,mq⟩,Ck.ok ⟨h.f1,h.f2,h.nw,h.rk,h.rd,yo hg ha2,h.sp,h.se,h.rf,(show gv (cP c _)from ⟨p.dl,p.tl,p.gl,p.t,p.g,p.pd,p.u⟩).ok,h.qu,h.sh,h.sl,h.dr,h.pw,h.ps,h.si,h.s1,h.s2,h.s3,h.er,h.tr,h.rp⟩,rfl,⟨O.1,by show c.now<=c.now+500;omega⟩,L.up⟩;simp[Q4,i1,hl,hkc,hkl,cP]
 |false=>
 rw[au];cases a.kind==(4:Int)with
 | true=>
  rw[aq,dN,ak];cases U:aN a.n 0 1 with
  |false=>exact no _
  | true=>
   obtain⟨y,e,E,D⟩:=aCm h.rf (a.n==(1:Int));rw[bB,au,e,ak];exact⟨true,qD c y,rfl,⟨Z,z2,z3,z5,z6,by unfold AG at z7 ⊢;show y.aJ.length<=_;omega,z8,z9,gQ,jx,jR,jS,jy,mq⟩,Ck.ok ⟨h.f1,h.f2,h.nw,h.rk,h.rd,h.ar,h.sp,h.se,E,(show gv (qD c y)from ⟨by show (y.aJ.length:Int)=_;rw[D];exact p.dl,p.tl,p.gl,p.t,p.g,p.pd,p.u⟩).ok,h.qu,h.sh,h.sl,h.dr,h.pw,h.ps,h.si,h.s1,h.s2,h.s3,h.er,h.tr,h.rp⟩,rfl,⟨O.1,by show c.now<=c.now+500;omega⟩,L.up⟩
 |false=>
 rw[au];cases a.kind==(5:Int)with
 | true=>
  rw[aq,Rz _ _ (by omega),ak];cases hf:mY c.config a.n7 with
  |false=>exact no _
  | true=>
   have hp:=(FW (by omega) hf).2;rw[bB,au,aCn c.box Z a.n7 hw,ak,hp,aq];exact⟨true,⟨c.config,⟨c.box.bT,a.n7,true⟩,c.now,c.aY,c.ready,c.array,c.spare,c.aS,c.bI,c.guard,c.pending,c.queue,c.shares,c.drain,c.aT,c.cU,c.errors,c.trace,c.cr⟩,rfl,⟨⟨Z.1,hw⟩,z2,z3,z5,z6,z7,z8,z9,gQ,jx,jR,jS,jy,mq⟩,Ck.ok ⟨h.f1,hf,h.nw,h.rk,h.rd,h.ar,h.sp,h.se,h.rf,(show gv ⟨c.config,⟨c.box.bT,a.n7,true⟩,c.now,c.aY,c.ready,c.array,c.spare,c.aS,c.bI,c.guard,c.pending,c.queue,c.shares,c.drain,c.aT,c.cU,c.errors,c.trace,c.cr⟩from ⟨p.dl,p.tl,p.gl,p.t,p.g,p.pd,p.u⟩).ok,h.qu,h.sh,h.sl,h.dr,h.pw,h.ps,h.si,h.s1,h.s2,h.s3,h.er,h.tr,h.rp⟩,rfl,⟨O.1,by show c.now<=c.now+500;omega⟩,L.up⟩
 |false=>
 rw[au];cases a.kind==(6:Int)with
 | true=>
  obtain⟨t,y,e,E,D,C⟩:=aCf T I a.addr;rw[aq,e,ak];exact⟨t,y,rfl,E,D,C.2.1,⟨by rw[C.1];exact O.1,by rw[C.1];omega⟩,(L.nx I C).up⟩
 |false=>exact no _
def aCr{c:fm}{p:dY}(L:vS c)(T:ya p){aU:aa jV}(hw:∀ a∈aU,LZ a)(hl:aU.length<=60):∃ y n,P8 c p aU=some (y,n)/\dK y/\dH y=true/\y.config=c/\(0<=y.now/\y.now<=30000)/\Tq y aU.length:=by
 have hiv:200<=c.interval/\c.interval<=259:=L.2.2.2.2.1;have hz:=aB6 L T;have hk:=aB7 L T;unfold P8 br;rw[aCl L T,ak];dsimp only;rw[bB,au,aX (show ¬ (aU.length:Int) > 60 by omega),au];generalize (⟨⟨⟨(0:Int),(0:Int),(0:Int),(0:Int)⟩,⟨(0:Int),(0:Int),(0:Int),(0:Int),(0:Int),(0:Int),(0:Int),(0:Int),(0:Int),(0:Int),(0:Int),(0:Int),(0:Int),(0:Int),(0:Int),(0:Int),(0:Int)⟩,⟨(0:Int),false⟩,(0:Int),(0:Int),(0:Int),⟨(0:Int),(0:Int)⟩⟩,⟨⟨(0:Int),(0:Int),(0:Int),(0:Int),(0:Int),([]:aa Int),⟨(0:Int),(0:Int)⟩⟩,⟨(0:Int),(0:Int),(0:Int),(0:Int),(0:Int),([]:aa Int),⟨(0:Int),(0:Int)⟩⟩,false⟩,(0:Int),⟨([]:aa di),(0:Int)⟩,⟨([]:aa Int),([]:aa Int)⟩,⟨([]:aa cq),([]:aa Int),([]:aa Int)⟩,⟨(0:Int),([]:aa Int)⟩,⟨([]:aa Int),(0:Int),false⟩,([]:aa cx),([]:aa Int),([]:aa aM),([]:aa aZ),([]:aa cE),⟨false,(0:Int),(0:Int)⟩,⟨(0:Int),(0:Int),(0:Int)⟩,⟨(0:Int),(0:Int),(0:Int)⟩,([]:aa cA),([]:aa bW),([]:aa fK)⟩:av)=Z;obtain⟨z,e,y,n,rfl,D,E,C,O,I⟩:=XS (step:=Kk) aU.length (λk x=>∃ (y:av) (n:Int),x=((aU,(),(),n,(k:Int),()),(Z,y,()))/\dK y/\dH y=true/\y.config=c/\(0<=y.now/\y.now<=500*(k:Int))/\Tq y k) (λz=>∃ (y:av) (n:Int),z = .inl (((),(),n,()),(Z,y,()))/\dK y/\dH y=true/\y.config=c/\(0<=y.now/\y.now<=30000)/\Tq y aU.length) aP (x:=((aU,(),(),(0:Int),(0:Int),()),(Z,ta c p,()))) ⟨ta c p,0,rfl,hz,hk,rfl,⟨Int.le_refl _,Int.le_refl _⟩,yx.new _ _,dx _⟩ (by
  rintro k hkk x ⟨y,n,rfl,D,E,C,O,I⟩;have w1:=hw _ (cR hkk);obtain⟨t,v,f1,f2,U,Y,f5,f6⟩:=aCq D E (by rw[C];omega) (by omega) I (a:=aU[k]) w1;unfold Kk az xG xI;dsimp only;rw[aQ (show (k:Int)<(aU.length:Int) by omega),aq,aB ⟨by omega,by omega⟩];simp only[bu];rw[f1,ak,bz (i:=k)];dsimp only;cases t with
  |true=>exact⟨_,rfl,v,_,rfl,f2,U,Y.trans C,⟨f5.1,by omega⟩,f6⟩
  |false=>exact⟨_,rfl,v,_,rfl,f2,U,Y.trans C,⟨f5.1,by omega⟩,f6⟩) (by
  rintro x ⟨y,n,rfl,D,E,C,O,I⟩;unfold Kk az xG xI;dsimp only;rw[aX (show ¬ (aU.length:Int)<(aU.length:Int) by omega),au];exact⟨_,rfl,y,n,rfl,D,E,C,⟨O.1,by omega⟩,I⟩) (bF)
 refine⟨y,n,?_,D,E,C,O,I⟩
 refine(bq (λo=>Option.bind o _) e).trans ?_
 rw[ak];simp only[dX];rw[azv y D,ak]
def L0(c:av)(x:aE):Prop:=cQ c.config.ax x=true/\x.kind≠2/\x.kind≠3
def Zy{c:av}{x:aE}(h:L0 c x)(D:dc c x=true)(E:¬ (c.trace.length:Int) >= 2000):m9 c x (-1)=true/\x.kind≠0:=by
 obtain⟨C,I,L⟩:=h;have O:=(sQ C).2.1;refine⟨?_,by omega⟩;unfold m9;rw[C,D,aX E,jg I,jg L];rfl
def Zz{c:av}(h:Pq c){b:Int}(hb:0<=b/\b<aR c.config.ax){x:aE}(C:L0 c x):L0 c (we c b x):=by
 refine⟨LV h hb C.1,?_⟩;unfold we;cases (iY c.aY b).open_ with
 |true=>exact⟨(by decide:(4:Int)≠2),(by decide:(4:Int)≠3)⟩
 |false=>exact C.2
def aCs{c:av}(h:Pq c):∀ x∈pQ c++qI c c.pending.length,L0 c x:=λx hx=>by
 rcases List.mem_append.1 hx with hx|hx
 ·obtain⟨b,hb,rfl⟩:=List.mem_map.1 hx;have C:=(Zn h hb).1;exact Zz h C ⟨vW h.p.R.pL (.inr rfl) C,by dsimp only;omega,by dsimp only;omega⟩
 ·obtain⟨i,hi,rfl⟩:=List.mem_map.1 hx;obtain⟨o,D,_,_,E⟩:=Sf h (fk.1 (List.mem_filter.1 hi).1);exact Zz h ⟨D,E⟩ ⟨ajR o,by dsimp only;omega,by dsimp only;omega⟩
def aCt{c:av}(h:Pq c):∀ x∈s9 c++(pR c++mA c),L0 c x:=λx hx=>by
 have T:=F3 c;have I:=h.p.R.pL;rcases List.mem_append.1 hx with hx|hx
 ·have U:=h.dl;have hb:-1<=fS c/\fS c<c.aS.aJ.length:=Sg _ _;unfold s9 at hx;by_cases C:fS c >= 0
  ·have D:0<=fS c/\fS c<aR c.config.ax:=by omega
   rw[aQ C,bZ]at hx;cases hu:m8 c (fS c)with
   |true=>rw[hu]at hx;cases hx
   | false=>
    rw[hu]at hx;rw[kI.1 hx];exact Zz h D ⟨vW I (.inr rfl) D,by dsimp only;omega,by dsimp only;omega⟩
  ·rw[aX C]at hx;cases hx
 ·have L:=(akU h).2;have O:=(akT h).2;rcases List.mem_append.1 hx with hx | hx
  ·refine⟨L x hx,?_⟩;unfold pR at hx;cases C:decide (gV c >= 0)with
   |false=>rw[C]at hx;cases hx
   |true=>rw[C]at hx;rw[kI.1 hx];exact⟨by dsimp only;omega,by dsimp only;omega⟩
  ·refine⟨O x hx,?_⟩;unfold mA at hx;cases C:cz c==8&&decide (((opens 0 c.aY.aA).length:Int) > 0)with
   |true=>rw[C]at hx;rw[kI.1 hx];exact⟨by dsimp only;omega,by dsimp only;omega⟩
   | false=>
    rw[C,au]at hx;cases E:cz c != 0 with
    |false=>rw[E]at hx;cases hx
    |true=>rw[E]at hx;rw[kI.1 hx];exact⟨by dsimp only;omega,by dsimp only;omega⟩
def aCu{old hit dm:Nat->Bool}{n:Nat}:qF old hit dm n = -1\/∃ j:Nat,j<n/\qF old hit dm n=(j:Int)/\dm j=true:=by
 unfold qF;rcases qE (λi=>dm i&&old i) n with ⟨E,_⟩|⟨j,E,I,C,_⟩
 ·rw[E,aQ,aq];rcases qE (λi=>dm i&&hit i) n with ⟨C,_⟩ | ⟨j,C,L,D,_⟩
  ·rw[C,aQ,aq];rcases qE dm n with ⟨D,_⟩ | ⟨j,D,O,T,_⟩
   ·exact .inl D
   ·exact .inr ⟨j,D,O,T⟩
  ·rw[L,aX,au];exact .inr ⟨j,C,rfl,(aO _ _ ▸ D).1⟩
 ·rw[I,aX,au];exact .inr ⟨j,E,rfl,(aO _ _ ▸ C).1⟩
def aCv{c:av}(h:Pq c)(I:¬ (c.trace.length:Int) >= 2000)(T:c.cr.length<400):((pP c).1.kind=0/\(pP c).2 = -1)\/m9 c (pP c).1 (pP c).2=true/\(pP c).1.kind≠0:=by
 unfold pP;rcases aCu (old:=nc c) (hit:=dW c) (dm:=pO c (qG c)) (n:=c.queue.length)with e|⟨j,C,e,D⟩
 ·rw[show ng c = -1 from e];exact .inl ⟨rfl,rfl⟩
 ·rw[show ng c=(j:Int)from e,aX,au];dsimp only;rw[bu];simp only[pO,kG,aO]at D;have E:=Zf h C;have U:=(sQ E).2.1;refine .inr ⟨?_,by omega⟩;have L:AK c.aY (gB c (c.queue.getD (j:Int).toNat rY).line) (c.queue.getD (j:Int).toNat rY).write=jz c j:=by
   unfold jz;rw[bu,kV _ C,AP C,<-AQ (by rw[sY];exact C),akf C]
  have hi:aN (j:Int) 0 ((c.queue.length:Int)-1)=true:=bA.2 ⟨by omega,by omega⟩;have O:LS (jz c j) (jz c j)=true:=by
   unfold LS;simp only[jj,Bool.and_self]
  unfold m9 F0;rw[E,D.1.2.2.1,aX I,L,O,hi,aQ (show (c.cr.length:Int)<400 by omega),Bool.or_true];cases (jz c j).kind==2 ||(jz c j).kind==3<;>rfl
def aCw{c:av}(h:Pq c)(C:¬ (c.trace.length:Int) >= 2000)(I:c.cr.length<400):((uM c).1.kind=0/\(uM c).2 = -1)\/m9 c (uM c).1 (uM c).2=true/\(uM c).1.kind≠0:=by
 have L:=F3 c;unfold uM;cases c.aT.state != 0 with
 | true=>
  rw[aq];by_cases D:cz c=0
  ·rw[D];exact .inl ⟨rfl,rfl⟩
  ·rw[fO D,aq];cases hb:dc c ⟨cz c,0,0,0⟩with
   |false=>exact .inl ⟨rfl,rfl⟩
   |true=>exact .inr (Zy ⟨LI h.p.R.pL (by omega),by show cz c≠2;omega,by show cz c≠3;omega⟩ hb C)
 | false=>
  rw[au];cases hu:LW c with
  | some x=>
   unfold LW at hu;exact .inr (Zy (aCs h x (List.mem_of_find?_eq_some hu)) (List.find?_some hu) C)
  | none=>
   dsimp only;cases O:decide ((pP c).2 >= 0)with
   |true=>exact aCv h C I
   | false=>
    rw[au];unfold r3;cases E:(s9 c++(pR c++mA c)).find? (dc c)with
    |none=>exact .inl ⟨rfl,rfl⟩
    |some x=>exact .inr (Zy (aCt h x (List.mem_of_find?_eq_some E)) (List.find?_some E) C)
def aCx{c:av}{x:aE}{i:Int}(D:1<=x.kind/\x.kind<=9)(C:x.kind=2\/x.kind=3->i.toNat<c.queue.length):(oJ c x i).trace=c.trace++[⟨c.now,x⟩]/\((((oJ c x i).queue.length:Nat):Int)==(c.queue.length:Int)-1)=(x.kind==2 || x.kind==3):=by
 have acc:∀ i:Nat,i<c.queue.length->(oH (dw c x) i).trace=c.trace++[⟨c.now,x⟩]/\((((oH (dw c x) i).queue.length:Nat):Int)==(c.queue.length:Int)-1)=true:=λi hi=>by
  have e:(oH (dw c x) i).trace=c.trace++[⟨c.now,x⟩]/\(oH (dw c x) i).queue=c.queue.take i++c.queue.drop (i+1):=by
   have E:(dw c x).queue.getD i rY=c.queue[i]:=kV _ hi;unfold oH;rw[E];dsimp only;cases c.queue[i].write<;>exact⟨rfl,rfl⟩
  refine⟨e.1,?_⟩;rw[e.2,mC,fU,List.length_drop,fI];omega
 have no:(((c.queue.length:Nat):Int)==(c.queue.length:Int)-1)=false:=jg (by omega);unfold oJ;rcases kinds D with q|q|q|q|q|q|q|q|q<;>rw[q]<;>simp only[Int.reduceBEq,Int.reduceBNe,aq,au,Bool.or_true,Bool.or_false,Bool.true_or,Bool.false_or,Bool.or_self]
 ·exact⟨rfl,no⟩
 ·exact acc _ (C (.inl q))
 ·exact acc _ (C (.inr q))
 ·exact⟨rfl,no⟩
 ·exact⟨rfl,no⟩
 ·exact⟨rfl,no⟩
 ·exact⟨rfl,no⟩
 ·exact⟨rfl,no⟩
 ·exact⟨rfl,no⟩
def aCy{c:av}(C:dK c)(E:dH c=true)(I:c.cr.length<400):∃ x i,sM c=some (x,i)/\Qv c=some (x,i)/\(x.kind=0/\i = -1\/m9 c x i=true/\x.kind≠0):=by
 have h:=Pq.of C E;unfold sM Qv;rw[RB c C,ay8 c C,ak,ak,E,bB,au,au,akV h,ak,aBG h];by_cases D:(c.trace.length:Int) >= 2000
 ·rw[aQ D];exact⟨_,_,rfl,rfl,.inl ⟨rfl,rfl⟩⟩
 ·rw[aX D];exact⟨_,_,rfl,rfl,aCw h D I⟩
def kW(c:av):av:=(awZ c).getD c
def aCz(l:aa Int)(h:l.length<=1073741823):∃ y,P9 l=some y/\dK y/\dH y=true/\(0<=y.now/\y.now<=30000)/\Tq y 13:=by
 unfold P9 Xp;obtain⟨O,T⟩:=aw0 l h;have U:=aw1 l O h;obtain⟨x,k,Y,C,D⟩:=azd U;obtain⟨p,k2,Z,E,hp⟩:=ajr C;obtain⟨aU,k3,e3,tU,I,hw⟩:=aCc E D 12 (by decide);obtain⟨y,n,e4,y1,y2,y3,y4,L⟩:=aCr D hp (λa I=>(hw a I).1) (by omega);refine⟨y,?_,y1,y2,y4,L.1,Nat.le_trans L.2 (by omega)⟩;rw[T,ak,Y,ak];dsimp only;rw[C.eta,Z,ak];dsimp only;rw[E.eta]
 refine(bq (λo=>Option.bind (Option.bind o _) _) e3).trans ?_
 rw[ak];dsimp only;rw[e4];rfl
def aCA(l:aa Int)(h:l.length<=maxLen):XO l=some true:=by
 unfold XO Ww;rw[ak];by_cases U:(l.length:Int) > 1048576
 ·rw[aQ U];rfl
 ·rw[aX U,au];obtain⟨c,e1,C,D,hn,ht,hq⟩:=aCz l (by omega);have O:=Pq.of C D;have hql:=O.ql;have LQ:c.trace.length<=1048576:=C.2.2.2.2.2.2.2.2.2.2.2.2.1;obtain⟨x,i,f1,f2,f3⟩:=aCy C D (by omega);rw[e1,ak,f1,ak];dsimp only;rcases f3 with ⟨E,rfl⟩ | ⟨I,E⟩
  ·rw[E,jj,aq,f2,ak];dsimp only;rw[E];rfl
  ·obtain⟨hb,T,L,hr⟩:=Zh C O I;have Y:=(CS T).2.2.1;have e5:rK c x i=some (oJ c x i,true):=by
    rw[aA4 C O,I,aq,aAT hb T L];rfl
   have Z:=akt C hb hr T L;have k2:=(Ck.iss C (Ck.of D) I).ok;have t2:=(Tq.nx ⟨ht,hq⟩ D (akY I Y λq=>(L q).1.i)).1.saf;obtain⟨e6,e7⟩:=aCx (i:=i) Y λq=>(L q).1.i
   have e8:((oJ c x i).trace.length:Int)=W6 ((c.trace.length:Int)+1):=by
    rw[e6,aV,mC,jk];rfl
   have e9:W6 ((c.queue.length:Int)-1)=(c.queue.length:Int)-1:=aV;rw[jg E,au,e5,ak];dsimp only;rw[bB,au,RB _ Z,ak,k2,bB,au,e8,bne_self_eq_false,au,azG _ Z,ak,k2,t2,Bool.and_self,aq,e9,e7];cases decide (i<0)with
   |true=>rfl
   | false=>
    rw[au];cases x.kind==2<;>cases x.kind==3<;>rfl
def aCB(C:Value)(w:World)(D:RdL .u8 (λx:Int=>0<=x/\x<=255) w C):Calls Tryz.prog 5 #[C] w λe w'=>e = .returned (.bool true)/\Below w.heap.size w w':=by
 obtain⟨l,hl,_,E⟩:=D;exact apG awS (apH (ai:=[(false,.sl .u8)]) (x:=(l,())) (by kernel_rfl) (aCA l hl)) (apI E)
end Go.Proofs.YtgjfmljpdnnihaaGreat
