/-
  Plain laws. Nothing here is a claim.
-/
import Derived.Test.YthmgjjfedieljaaGreatPYAnswered
namespace Go.Proofs.YthmgjjfedieljaaGreat
set_option linter.defProp false
open Go.RowKit
set_option linter.unusedVariables false
set_option linter.unusedSimpArgs false
set_option maxRecDepth 100000
def Rt(c:au)(b r:Int)(y:au):Prop:=∃(C R:Nat) (i:Int) (n:Nat),Sp c.config.aq c.spare C R/\ef (dG c.config.aq c.spare) ⟨b,r,0⟩=true/\y.spare=⟨c.spare.cc,c.spare.map.set (b.toNat*R+r.toNat) i⟩/\(∀k,k<R->c.spare.map.getD (b.toNat*R+k) 0≠i)/\c.config.aq.aW=(n:Int)/\(0<=i/\i<c.config.aq.rows)/\Ib c.config.aq b (c.spare.map.getD (b.toNat*R+r.toNat) 0) i n c.array.cells y.array.cells
def aip{c:au}(Z:bR c)(C:bM c=true)(b r:Int):∃ t y,LV c b r=some (t,(y,()))/\bR y/\bM y=true/\(t=false->y=c)/\(∃ l s,y=⟨c.config,c.box,c.now,c.aG,c.ready,⟨l,c.array.bx,c.array.bg⟩,s,c.ay,c.bF,c.guard,c.pending,c.queue,c.shares,c.drain,c.aS,c.dJ,c.errors,c.trace,c.aZ⟩)/\(t=true->Rt c b r y):=by
 have h:=Ck.of C;obtain⟨bn,R,E⟩:=Sp.of h.sp;obtain⟨hg,wN,eg,eb,h8,qy,mB,hc,Q7,T0⟩:=E.yf;obtain⟨f,e1,hf⟩:=aio E b r;obtain⟨y,t,e2,T,BH,ht⟩:=awy E b r;unfold LV bZ xL;rw[e1,az,e2,az];cases t with
 |false=>exact⟨false,c,rfl,Z,C,λ_=>rfl,⟨_,_,rfl⟩,λh=>(by cases h)⟩
 | true=>
  obtain⟨U,i,hyi,nB⟩:=ht rfl;obtain⟨⟨a1,a2⟩,a3,a4⟩:=(E.ex b r).1 U;have iw:=(zj h.rk).2.1;have L2:=E.hb;have hR:=E.hR;obtain⟨⟨f1,f2⟩,f3⟩:=hf U;have egy:dG c.config.aq y=dG c.config.aq c.spare:=by
   unfold dG;rw[T.ok,h.sp,BH]
  obtain⟨q,e3,I⟩:=aio T b r;obtain⟨I,hq3⟩:=I (by rw[egy];exact U);have r6:b.toNat*R+r.toNat<c.spare.map.length:=by
   have hle:=(E.lens (b:=b.toNat) (by omega)).1;rw[jv]at hle;omega
  have hqi:q=i:=by
   rw[hq3,hyi];exact oD _ r6
  have hfq:f≠q:=by
   rw[f3,hqi];exact nB _ (by omega)
  rw[bI,ax,aP ⟨a1,by omega⟩,aP];dsimp only;cases c.aG.aO[b.toNat].open_ with
  |true=>exact⟨false,c,rfl,Z,C,λ_=>rfl,⟨_,_,rfl⟩,λh=>(by cases h)⟩
  | false=>
   rw[ax,e3,az];obtain⟨n,hn⟩:=dN (show 0<=c.config.aq.aW by omega);have gb:=gV hg;have Y:∀(row:Int) (k:Nat),0<=row->row<c.config.aq.rows->k<n->ef c.config.aq ⟨b,row,(k:Int)⟩=true:=λrow k r1 r2 C=>xN hg a1 (by rw[L2];exact a2) r1 r2 (by dsimp only;omega) (by dsimp only;omega)
   obtain⟨z,e,vr⟩:=QL (step:=Hv) n (λk x=>∃ a:c9,fH c.config.aq 100000 a/\(a.bx=c.array.bx/\a.bg=c.array.bg)/\Ib c.config.aq b f q k c.array.cells a.cells/\x=(((),b,(),f,(),q,(k:Int),()),(eY c a,(c.config.aq.cN,c.config.aq.aO,c.config.aq.rows,c.config.aq.aW,()),(y.cc,(),()),y.map,())))
    (λz=>∃a:c9,fH c.config.aq 100000 a/\(a.bx=c.array.bx/\a.bg=c.array.bg)/\Ib c.config.aq b f q n c.array.cells a.cells/\z = .inl (((),(),()),(eY c a,(y.cc,(),()),y.map,()))) bC (x:=(((),b,(),f,(),q,(0:Int),()),(c,(c.config.aq.cN,c.config.aq.aO,c.config.aq.rows,c.config.aq.aW,()),(y.cc,(),()),y.map,()))) ⟨c.array,fH.uP h.ar,⟨rfl,rfl⟩,⟨rfl,λ_ _=>rfl,λk C=>absurd C (Nat.not_lt_zero _)⟩,rfl⟩ (by
    rintro k C x ⟨a,D,Y0,O,rfl⟩;have at1:=Y q k I.1 I.2 C;have at2:=Y f k f1 f2 C;obtain⟨i1,_⟩:=EU at1;obtain⟨i2,_⟩:=EU at2;have l1:=D.lt at1;have l2:=D.lt at2;have Fg:=D.syms _ (cX l2);have st:Hv (((),b,(),f,(),q,(k:Int),()),(eY c a,(c.config.aq.cN,c.config.aq.aO,c.config.aq.rows,c.config.aq.aW,()),(y.cc,(),()),y.map,()))=some (.inl (((),b,(),f,(),q,((k+1:Nat):Int),()),(eY c ⟨a.cells.set (eI c.config.aq ⟨b,q,(k:Int)⟩) a.cells[eI c.config.aq ⟨b,f,(k:Int)⟩],a.bx,a.bg⟩,(c.config.aq.cN,c.config.aq.aO,c.config.aq.rows,c.config.aq.aW,()),(y.cc,(),()),y.map,()))):=by
     unfold Hv aM xG xL xM;dsimp only;rw[uI,bf (show (k:Int)<c.config.aq.aW by omega),av,Hy,az,Hy,az,i1,i2];have c1:0<=(eI c.config.aq ⟨b,f,(k:Int)⟩:Int)/\(eI c.config.aq ⟨b,f,(k:Int)⟩:Int).toNat<(eY c a).array.cells.length:=⟨by omega,by simpa [eY]using l2⟩
     have c2:0<=(eI c.config.aq ⟨b,q,(k:Int)⟩:Int)/\(eI c.config.aq ⟨b,q,(k:Int)⟩)<(eY c a).array.cells.length:=⟨by omega,by simpa [eY]using l1⟩
     rw[aP c1,aP c1.2,aP c1.2];simp only[bD];rw[agv _ (by simp only[eY];rw[Fg.1];omega),az,aP c2,aP c2.2,cC];rfl
    exact⟨_,st,_,D.EV _ Fg,Y0,O.step hfq (λm hm=>⟨Y q m I.1 I.2 (by omega),Y f m f1 f2 (by omega)⟩) l1 l2,rfl⟩) (by
    rintro x ⟨a,D,Y0,O,rfl⟩;unfold Hv aM xG xL xM;dsimp only;rw[bz (show ¬ (n:Int)<c.config.aq.aW by omega),ax];exact⟨_,rfl,a,D,Y0,O,rfl⟩) (cM)
   rw[e,az];obtain⟨a,D,⟨ha1,R1⟩,O,rfl⟩:=vr;have p:=fV.of h.pa;obtain⟨z1,z2,z3,z5,z6,z7,z8,z9,lZ,nJ,ow,mO,ox,rG⟩:=Z;have hml:y.map.length<=128:=by
    rw[T.hl];exact Nat.mul_le_mul h8 qy
   refine⟨true,⟨c.config,c.box,c.now,c.aG,c.ready,a,y,c.ay,c.bF,c.guard,c.pending,c.queue,c.shares,c.drain,c.aS,c.dJ,c.errors,c.trace,c.aZ⟩,rfl,⟨z1,z2,z3,zw D,by show y.map.length<=1048576;omega,z7,z8,z9,lZ,nJ,ow,mO,ox,rG⟩,Ck.ok ⟨h.f1,h.f2,h.nw,h.rk,h.rd,Bc hg D,T.ok,BH.trans h.se,h.rf,(show fV ⟨c.config,c.box,c.now,c.aG,c.ready,a,y,c.ay,c.bF,c.guard,c.pending,c.queue,c.shares,c.drain,c.aS,c.dJ,c.errors,c.trace,c.aZ⟩from ⟨p.dl,p.tl,p.gl,p.t,p.g,p.pd,p.u⟩).ok,?_,h.sh,h.sl,h.dr,h.pw,h.ps,h.si,h.s1,h.s2,h.s3,h.er,h.tr,h.rp⟩,λh=>(by cases h),⟨a.cells,y,by rw[<-ha1,<-R1]⟩,λ_=>⟨bn,R,i,n,E,U,hyi,nB,hn,by omega,by rw[<-f3,<-hqi];exact O⟩⟩
   show gS (ck (dG c.config.aq y)) c.queue=true;rw[egy];exact h.qu
def awz{c:au}(C:bR c)(D:bM c=true)(b r:Int):∃ t y,LV c b r=some (t,(y,()))/\bR y/\bM y=true/\(t=false->y=c)/\∃ l s,y=⟨c.config,c.box,c.now,c.aG,c.ready,⟨l,c.array.bx,c.array.bg⟩,s,c.ay,c.bF,c.guard,c.pending,c.queue,c.shares,c.drain,c.aS,c.dJ,c.errors,c.trace,c.aZ⟩:=by
 obtain⟨t,y,E,I,O,T,U,_⟩:=aip C D b r;exact⟨t,y,E,I,O,T,U⟩
def Ic:dc:=⟨List.replicate 16 (-1),List.replicate 16 0,0⟩
def awA:GJ 16=some (Ic,true):=by kernel_rfl
def aiq:Cs 0=some (List.replicate 11 0):=by kernel_rfl
def Ie:cw:=⟨List.replicate 11 0,false⟩
def Bg(g:aK):c9:=⟨List.replicate (ck g).toNat Ie,List.replicate (iB g).toNat 0,List.replicate (iB g).toNat 0⟩
def awB{g:aK}(D:cJ g=true):Pj g=some (Bg g):=by
 have E:=rz g;have O:=xK g;have er:aE g*g.rows=iB g:=by simp[iB,D]
 obtain⟨n,C⟩:=dN E.1;unfold Pj bZ;rw[vO,az,D,bI,ax,l6,az,er,bh (n:=iB g),aV ⟨by omega,by omega,by omega⟩,aV ⟨by omega,by omega,by omega⟩];generalize I:List.replicate (iB g).toNat (0:Int)=A;have e:=gf (step:=KM) n (λi=>(((),(),(),(i:Int),()),((g.cN,g.aO,g.rows,g.aW,()),((),(),(),()),((),(),(),()),([]:aa cw),([]:aa Int),([]:aa Int),List.replicate i Ie,A,A,())))
  (.inl (((),(),()),(((),(),(),()),((),(),(),()),([]:aa cw),([]:aa Int),([]:aa Int),List.replicate n Ie,A,A,()))) bC (λk h=>by
  unfold KM aM xG;dsimp only;rw[uI,CB,az,C,bf,av,aiq,az,fR (by simp;omega),av,cC,List.replicate_succ' (n:=k)];rfl) (by
  unfold KM aM xG;dsimp only;rw[uI,CB,az,C,bz,ax]) (cM)
 rw[eM,List.replicate_zero]at e;rw[e,az];unfold Bg;rw[C,I,bD];rfl
def sN(c:fB)(p:fA):au:=⟨c,⟨p,p,false⟩,0,CH c.aq,HO c.aq,Bg c.aq,(zf c.aq c.cc).1,⟨List.replicate (aE c.aq).toNat 0,c.interval,false⟩,List.replicate (aE c.aq).toNat Ic,List.replicate (aE c.aq).toNat p.dx,[],[],p.weights.map rC,⟨false,p.low,p.high⟩,⟨0,0,0⟩,⟨0,10,10⟩,[],[],[]⟩
def Ig{p:fA}(h:zl p):vS p=true/\ki (p.weights.map rC)=true/\p.weights.length=4:=by
 have⟨⟨⟨D,E⟩,⟨I,O⟩,⟨T,U⟩,⟨Y,Z⟩,⟨i,w,hi,Ff,R0,hw⟩,⟨h9,HJ⟩,CI,sj⟩,tN,zh⟩:=h;have hl:p.weights.length=4:=by rw[hw,jg];rfl
 have C:ki (p.weights.map rC)=true:=by
  rw[hw];rcases(by omega:i=0 \/ i=1 \/ i=2 \/ i=3)with rfl|rfl|rfl|rfl<;>rcases(by omega:w=1 \/ w=2 \/ w=3 \/ w=4)with rfl|rfl|rfl|rfl<;>rfl
 refine⟨?_,C,hl⟩;unfold vS tJ HE;rw[C,hl];simp only[aT,aH,ij]
 grind
def awC{n:Int}(C:8<=n)(D:n<=17):yX n=some (2*n+2):=by
 unfold yX;rw[cP,az,bu.2 ⟨by omega,by omega⟩,bI,ax,bh (n:=2*n),bh]
def Ih{g:aK}(h:Md g):cJ g=true:=by
 have⟨⟨C,D⟩,⟨E,I⟩,⟨O,T⟩,U,Y⟩:=h;simp[cJ,aT,aH,ij];omega
def awD:∀ r∈[(1:Int),2,3,4],∀ w∈[(4:Int),5,6,7,8],nG (gZ r w)=true/\decide (HC (gZ r w) <= 200)=true:=by
 intro r C w D;simp at C D;rcases C with rfl|rfl|rfl|rfl<;>rcases D with rfl|rfl|rfl|rfl|rfl<;>exact⟨by kernel_rfl,by kernel_rfl⟩
def awE{c:fB}(h:gB c):tH c=true:=by
 have⟨C,⟨r,w,T,U,Y,Z,E⟩,⟨J3,oZ⟩,⟨I7,Y1⟩,⟨hi1,hi2⟩,I,hl⟩:=h;have O:=Ih C;have⟨t1,D⟩:=awD r (by simp;omega) w (by simp;omega);have D:=ja D;have⟨⟨h1,h2⟩,⟨h3,h4⟩,⟨h5,h6⟩,h7,h8⟩:=C;unfold tH qB;rw[O,E,t1,hl,I];rw[bh];simp only[aT,aH,ij,true_and];omega
def air{c:fB}{p:fA}(C:gB c)(D:zl p):tE c p=some true:=by
 have I:=awE C;have⟨O,_,h3⟩:=Ig D;have⟨hg,⟨r,w,C0,ua,Ff,R0,E⟩,⟨J3,oZ⟩,⟨I7,Y1⟩,⟨hi1,hi2⟩,T,hl⟩:=C;have⟨_,U,Y⟩:=D;have Z:c.bP.lM=7:=by rw[E];rfl
 have e2:c.bP.rp=3:=by rw[E];rfl
 unfold tE;rw[L3,az,I,av,EP _ (by omega),az,O,av,awC U Y,az,hl,T,Z,e2,bh (n:=2*p.dx+2+2)];dsimp only;rw[bf,av,bh (n:=7+3),aX,bh (n:=5*c.interval),uU (by omega),bh (n:=16+1),bh (n:=(16+1)*p.dx),bh (n:=5*c.interval / (7+3)),bh,bf]
def awF{p:fA}(h:p.weights.length=4):vJ p=some p:=by
 unfold vJ xA xZ;rw[fR (by simp[h]),av,List.nil_append]
def awG{p:fA}(C:zl p):Pn p=some (⟨p,p,false⟩,true):=by
 obtain⟨D,_,E⟩:=Ig C;unfold Pn;rw[EP _ (by omega),az,D,bI,ax,awF E,az,az]
def grow(x:au)(l:Int)(i:Nat):au:=⟨x.config,x.box,x.now,x.aG,x.ready,x.array,x.spare,x.ay,x.bF++List.replicate i Ic,x.guard++List.replicate i l,x.pending,x.queue,x.shares,x.drain,x.aS,x.dJ,x.errors,x.trace,x.aZ⟩
def awH(Z C:au)(c:fB)(p:fA)(n:Nat)(D:aE c.aq=(n:Int))(U:n<=8)(E:c.jj=16)(I:C.bF=[])(O:C.guard=[]):
  iter GK bC (((),(),(),(),(),(0:Int),()),(Z,C,c,(p.gA,p.cap,p.dx,p.low,p.high,p.weights,p.eT.down,p.eT.sleep,()),(c.aq.cN,c.aq.aO,c.aq.rows,c.aq.aW,()),()))=some (.inl (((),(),()),(Z,grow C p.dx n,()))):=by
 have e:=gf (step:=GK) n (λi=>(((),(),(),(),(),(i:Int),()),(Z,grow C p.dx i,c,(p.gA,p.cap,p.dx,p.low,p.high,p.weights,p.eT.down,p.eT.sleep,()),(c.aq.cN,c.aq.aO,c.aq.rows,c.aq.aW,()),()))) (.inl (((),(),()),(Z,grow C p.dx n,()))) bC (λk h=>by
  unfold GK grow aM xG;dsimp only;rw[uI,l6,az,D,bf,av,E,awA,az,I,O,fR (by simp;omega),av,fR (by simp;omega),av,cC,List.replicate_succ' (n:=k),List.replicate_succ' (n:=k),List.append_assoc,List.append_assoc]) (by
  unfold GK aM xG;dsimp only;rw[uI,l6,az,D,bz,ax]) (cM)
 have T:grow C p.dx 0=C:=by
  unfold grow;simp only[List.replicate_zero,List.append_nil]
 rw[eM,T]at e;exact e
def awI{c:fB}{p:fA}(C:gB c)(D:zl p):Pp c p=some (sN c p,true):=by
 have E:=Ih C.1;have hb:=dZ c.aq;have Vn:=EH E;obtain⟨h2,O,h3⟩:=Ig D;obtain⟨n,I⟩:=dN hb.1;have T:c.jj=16:=C.2.2.2.2.2.1;have Bh:200<=c.interval/\c.interval<=259:=C.2.2.2.2.1;have U:Po (aE c.aq) c.interval=some (⟨List.replicate (aE c.aq).toNat 0,c.interval,false⟩,true):=by
  unfold Po;rw[cP,az,bu.2 ⟨by omega,by omega⟩,bI,ax,cP,az,bu.2 ⟨by omega,by omega⟩,bI,ax,aV ⟨by omega,by omega,by omega⟩]
 have Y:WU 10=some (⟨0,10,10⟩,true):=rfl;have Z:EO p.weights=(p.weights.map rC,true):=by unfold EO;rw[O,av]
 unfold Pp bZ;rw[air C D,az,bI,ax,atx,az,atO E,az,awB E,az,awG D,az,XS,az,l6,az,U,az,XT _ (by omega),az,Y,az,Z];dsimp only;rw[awH _ _ c p n I (by omega) T rfl rfl,az];unfold sN grow;rw[I];rfl
def Y2(g:aK)(sp:Int):aK:=⟨g.cN,g.aO,g.rows-sp,g.aW⟩
def R2(g:aK)(sp:Int):Bool:=om g (CH g)&&(kX g (HO g)&&(pz g (Bg g)&&(ot g (zf g sp).1&&((zf g sp).1.cc==sp&&(cJ (Y2 g sp)&&(decide (0<ck (Y2 g sp))&&(W6 (W6 ((ck g).tdiv g.rows)*W6 (g.rows-sp))==ck (Y2 g sp)&&(decide (1<=ck g)&&decide ((zf g sp).1.map.length<=1048576)))))))))
def awJ:(([1,2]:aa Int).all λG=>([1,2]:aa Int).all λB=>([4,5,6]:aa Int).all λR=>([1,2]:aa Int).all λC=>([0,1,2]:aa Int).all λsp=>R2 ⟨G,B,R,C⟩ sp)=true:=by kernel_rfl
def ais{g:aK}{sp:Int}(h:Md g)(C:0 <= sp)(D:sp <= 2):R2 g sp=true:=by
 have⟨⟨a1,a2⟩,⟨E,I⟩,⟨O,T⟩,d1,d2⟩:=h;have e:=awJ;simp only[cm]at e;exact e _ (by simp;omega) _ (by simp;omega) _ (by simp;omega) _ (by simp;omega) sp (by simp;omega)
def awK:oq Ic=true:=by kernel_rfl
def awL{c:fB}{p:fA}(C:gB c)(I:zl p):bR (sN c p):=by
 have hb:=dZ c.aq;have hl:=rz c.aq;have O:=xK c.aq;have⟨_,_,T⟩:=Ig I;have E:=ais C.1 C.2.2.2.1.1 C.2.2.2.1.2;simp only[R2,aH,ij]at E
 refine⟨⟨?_,?_⟩,?_,⟨?_,?_⟩,⟨⟨?_,λy D=>?_⟩,?_,?_⟩,E.2.2.2.2.2.2.2.2.2,?_,⟨?_,λy D=>?_⟩,?_,?_,?_,?_,?_,?_,?_⟩
 ·show p.weights.length <= _;omega
 ·show p.weights.length <= _;omega
 ·show (List.replicate _ _).length <= _;rw[oF];omega
 ·show (List.replicate _ _).length <= _;rw[oF];omega
 ·exact Nat.zero_le _
 ·show (List.replicate _ _).length <= _;rw[oF];omega
 ·obtain rfl:=List.eq_of_mem_replicate D;exact cH rfl
 ·show (List.replicate _ _).length <= _;rw[oF];omega
 ·show (List.replicate _ _).length <= _;rw[oF];omega
 ·show (List.replicate _ _).length <= _;rw[oF];omega
 ·show (List.replicate _ _).length <= _;rw[oF];omega
 ·obtain rfl:=List.eq_of_mem_replicate D;exact⟨cH rfl,cH rfl⟩
 ·show (List.replicate _ _).length <= _;rw[oF];omega
 ·exact Nat.zero_le _
 ·exact Nat.zero_le _
 ·show (p.weights.map rC).length <= _;rw[fN];omega
 ·exact Nat.zero_le _
 ·exact Nat.zero_le _
 ·exact Nat.zero_le _
def awM{c:fB}{p:fA}(C:gB c)(D:zl p):bM (sN c p)=true:=by
 have hb:=dZ c.aq;have Vn:=EH (Ih C.1);have hl:=rz c.aq;obtain⟨_,O,T⟩:=Ig D;have E:=ais C.1 C.2.2.2.1.1 C.2.2.2.1.2;simp only[R2,aH,ij]at E;obtain⟨U,Y,Z,g4,g5,g6,g7,g8,g9,g10⟩:=E;have I:ov c p=true:=by unfold ov;rw[air C D];rfl
 have Bh:200<=c.interval/\c.interval<=259:=C.2.2.2.2.1;obtain⟨⟨_,_,⟨l1,l2⟩,⟨l3,l4⟩,_⟩,p1,p2⟩:=D;have e1:fS (sN c p).ay=true:=by
  unfold fS;simp only[sN,oF,aT,aH,ij,List.all_replicate];refine⟨?_,by omega,bf,bf⟩;split<;>rfl
 have e2:vU (sN c p)=true:=by
  unfold vU;simp only[sN,oF,aH,dO,List.length_nil,List.range_zero,List.all_nil];refine⟨by omega,by omega,by omega,rfl,?_,trivial⟩;rw[cm];intro i hi;have hi:i<(aE c.aq).toNat:=gq.1 hi;unfold partAt;simp only[List.getElem?_replicate,hi,if_true,awK,dn];exact bu.2 ⟨by omega,by omega⟩
 have e3:tJ (sN c p).drain=true:=by
  unfold tJ;simp only[sN,aH];exact⟨bf l1,bf l3,bf⟩
 have e4:aT 0 0 (W6 (ck c.aq-1))=true:=by
  rw[bh];exact bu.2 ⟨by omega,by omega⟩
 have e5:((p.weights.map rC).length:Int)==4:=by rw[fN,T];rfl
 unfold bM;simp only[aH];exact⟨I,I,rfl,U,Y,Z,g4,g5,⟨e1,e2⟩,rfl,O,e5,e3,rfl,rfl,rfl,rfl,rfl,e4,rfl,rfl,rfl⟩
def awN{g:aK}{a:c9}(h:pz g a=true)(t:aN)(D n:Int):∃ y,Hu g a t D n=some y/\pz g y=true/\((ef g t&&(aT D 0 10&&aT n 0 15))=false->y=a)/\y.bx=a.bx/\y.bg=a.bg:=by
 have T:cJ g=true:=(Ye h).1;have C:=fH.uP h;by_cases E:(ef g t&&(aT D 0 10&&aT n 0 15))=true
 ·simp only[aH]at E;obtain⟨I,U,Y⟩:=E;have b2:=bu.1 U;have Z:=bu.1 Y;obtain⟨k,rfl⟩:=dN b2.1;have hl:=C.lt I;have O:=C.syms _ (cX hl);have hk:k<a.cells[eI g t].symbols.length:=by rw[O.1];omega
  have hx:=XP (O.get hk) Z
  refine⟨_,at3 C (dU _) I hl (by omega) hk Z,Bc T (C.EV _ (c:=⟨_,_⟩) (O.set ⟨hx.1,hx.2.1⟩)),λhe=>?_,rfl,rfl⟩
  rw[I,U,Y]at he;cases he
 ·refine⟨a,?_,h,λ_=>rfl,rfl,rfl⟩
  unfold Hu vI xC xL xM;rw[C.copy,az,C.ok T (dU _),az,av,EI,az];cases e1:ef g t with
  |false=>rfl
  | true=>
   rw[av,cP,az];cases e2:aT D 0 10 with
   |false=>rfl
   | true=>
    rw[av,cP,az,az];cases e3:aT n 0 15 with
    |false=>rfl
    |true=>exact absurd (by rw[e1,e2,e3];rfl) E
def ait(b:lO)(C:HR b)(p:fA)(D:p.weights.length<=1048576):QC b p=some (bif vS p then ⟨b.bW,p,true⟩else b,vS p):=by
 unfold QC;rw[Rh b C,az,EP _ (by omega),az];cases vS p with
 |false=>rfl
 | true=>
  unfold vJ xA xZ;rw[bI,ax,qD _,av,List.nil_append];rfl
def awO{c:au}(C:bM c=true)(r:aR):bM (kY c r).1=true/\((kY c r).2=false -> (kY c r).1=c):=by
 have h:=Ck.of C;have p:=fV.of h.pa;unfold kY;cases hb:((!bM c) ||((!(pO c r).2) ||(c.aZ.any λx=>x.id==r.id)))with
 |true=>simp_all
 | false=>
  refine⟨?_,λh=>by cases h⟩
  rw[ax];simp only[qM,Bool.not_eq_false']at hb;have D:gS (ck (dG c.config.aq c.spare)) (pO c r).1=true:=by
   have E:=hb.2.1;unfold pO EY at E ⊢
   grind
  exact Ck.ok ⟨h.f1,h.f2,h.nw,h.rk,h.rd,h.ar,h.sp,h.se,h.rf,(show fV { c with queue:=(pO c r).1 } from ⟨p.dl,p.tl,p.gl,p.t,p.g,p.pd,p.u⟩).ok,D,h.sh,h.sl,h.dr,h.pw,h.ps,h.si,h.s1,h.s2,h.s3,h.er,h.tr,h.rp⟩
def awP{b:aa Int}{c:bH}(E:l8 b c):Dr b (O3 c) λ_=>True:=by
 unfold O3;rw[E.eq]
 refine(gw E 4).bind λx T U D=>?_
 rw[D.eta];cases hb:(x==0)with
 | true=>
  refine(QT D _ (by decide)).bind λy I _ C=>?_
  rw[C.eta];exact Dr.pure C trivial
 | false=>
  cases Y:(x==1)with
  | true=>
   refine(gw D 200).bind λy I _ C=>?_
   rw[C.eta];exact Dr.pure C trivial
  | false=>
   refine(gw D 65536).bind λy I _ C=>?_
   rw[C.eta]
   refine(gw C 65536).bind λy Z _ O=>?_
   rw[O.eta];exact Dr.pure O trivial
def awQ{b:aa Int}{c:bH}(D:l8 b c)(n:Int):Dr b (O4 c n) λ_=>True:=by
 unfold O4;rw[D.eq]
 refine(gw D 60).bind λZ k1 h1 E=>?_
 dsimp only;rw[E.eta]
 refine(gw E 3).bind λx2 k2 h2 I=>?_
 dsimp only;rw[I.eta]
 refine(gw I n).bind λx3 k3 h3 O=>?_
 dsimp only;rw[O.eta]
 refine(gw O 50).bind λx4 k4 h4 T=>?_
 dsimp only;rw[T.eta]
 refine(QU T 2).bind λY k5 h5 C=>?_
 dsimp only;rw[C.eta];cases Y with
 | true=>
  refine(awP C).bind λx6 k6 h6 U=>?_
  rw[U.eta];exact Dr.pure U trivial
 |false=>exact Dr.pure C trivial
def Tq(c:au)(u:Nat):Prop:=Ia c/\c.queue.length+c.aZ.length<=u
def Tq.up{c:au}{u:Nat}(h:Tq c u):Tq c (u+1):=⟨h.1,Nat.le_succ_of_le h.2⟩
def Tq.adv{c y:au}{u:Nat}{n:Int}(h:Tq c u)(E:bM c=true)(I:0<=n/\n<=1000000)(D:y.config=c.config)(O:Adv n c y)(hl:y.queue.length+y.aZ.length=c.queue.length+c.aZ.length):Tq y u:=by
 have k:=Ck.of E;have C:=h.1;unfold Ia at C;refine⟨?_,by rw[hl];exact h.2⟩;unfold Ia;rcases O with ⟨a1,a2,a3⟩|⟨x,a1,a2,a3,a4,T,U⟩
 ·rw[D,a1,a2,a3];exact C
 ·rw[D,a1,a2,a3];exact C.add k.rk k.rd a4 T U I
def Tq.nx{c y:au}{u:Nat}(h:Tq c u)(D:bM c=true)(C:Nx c y):Tq y u:=h.adv D (bu.1 (Ck.of D).nw) C.2.1 C.2.2.2.2.1 C.2.2.2.2.2
def awR{c:au}{u:Nat}(h:Tq c u)(r:aR):Tq (kY c r).1 (u+1)/\(kY c r).1.now=c.now/\(kY c r).1.config=c.config:=by
 unfold kY;cases hb:((!bM c) ||((!(pO c r).2) ||(c.aZ.any λx=>x.id==r.id)))with
 |true=>exact⟨h.up,rfl,rfl⟩
 | false=>
  have C:=h.2;refine⟨⟨h.1,?_⟩,rfl,rfl⟩;show (pO c r).1.length+c.aZ.length<=u+1;unfold pO EY;cases (gS (ck (dG c.config.aq c.spare)) c.queue&&gS (ck (dG c.config.aq c.spare)) (ko (λx=>gp (iG c r) x) c.queue (iG c r)))with
  |false=>exact Nat.le_succ_of_le C
  | true=>
   rw[av];dsimp only;rw[Yf];omega
def Mx(c:au)(x:aQ):Prop:=cD c.config.aq x=true/\x.kind≠2/\x.kind≠3
def Y3{c:au}{x:aQ}(h:Mx c x)(D:cq c x=true)(E:¬ (c.trace.length:Int) >= 2000):lu c x (-1)=true/\x.kind≠0:=by
 obtain⟨C,I,O⟩:=h;have T:=(xQ C).2.1;refine⟨?_,by omega⟩;unfold lu;rw[C,D,bz E,dy I,dy O];rfl
def Y4{c:au}(h:Pq c){b:Int}(hb:0<=b/\b<aE c.config.aq){x:aQ}(C:Mx c x):Mx c (qG c b x):=by
 refine⟨RO h hb C.1,?_⟩;unfold qG;cases (cK c.aG b).open_ with
 |true=>exact⟨(by decide:(4:Int)≠2),(by decide:(4:Int)≠3)⟩
 |false=>exact C.2
def awS{c:au}(h:Pq c):∀ x∈H7 c++H8 c c.pending.length,Mx c x:=λx hx=>by
 rcases gE.1 hx with hx|hx
 ·obtain⟨b,hb,rfl⟩:=iZ.1 hx;have C:=(YS h hb).1;exact Y4 h C ⟨A8 h.p.R.vX (.inr rfl) C,by dsimp only;omega,by dsimp only;omega⟩
 ·obtain⟨i,hi,rfl⟩:=iZ.1 hx;obtain⟨o,D,_,_,E⟩:=YR h (gq.1 (List.mem_filter.1 hi).1);exact Y4 h ⟨D,E⟩ ⟨ahz o,by dsimp only;omega,by dsimp only;omega⟩
def awT{c:au}(h:Pq c):∀ x∈sK c++(oC c++pZ c),Mx c x:=λx hx=>by
 have U:=Fe c;have I:=h.p.R.vX;rcases gE.1 hx with hx|hx
 ·have Y:=h.dl;have hb:-1<=fL c/\fL c<c.ay.aB.length:=RQ _ _;unfold sK at hx;by_cases C:fL c >= 0
  ·have D:0<=fL c/\fL c<aE c.config.aq:=by omega
   rw[bf C,dn]at hx;cases hu:kz c (fL c)with
   |true=>rw[hu]at hx;cases hx
   | false=>
    rw[hu]at hx;rw[gz.1 hx];exact Y4 h D ⟨A8 I (.inr rfl) D,by dsimp only;omega,by dsimp only;omega⟩
  ·rw[bz C]at hx;cases hx
 ·have O:=(av9 h).2;have T:=(av8 h).2;rcases gE.1 hx with hx | hx
  ·refine⟨O x hx,?_⟩;unfold oC at hx;cases C:decide (rL c >= 0)with
   |false=>rw[C]at hx;cases hx
   |true=>rw[C]at hx;rw[gz.1 hx];exact⟨by dsimp only;omega,by dsimp only;omega⟩
  ·refine⟨T x hx,?_⟩;unfold pZ at hx;cases C:cL c==8&&decide (((opens 0 c.aG.aO).length:Int) > 0)with
   |true=>rw[C]at hx;rw[gz.1 hx];exact⟨by dsimp only;omega,by dsimp only;omega⟩
   | false=>
    rw[C,ax]at hx;cases E:cL c != 0 with
    |false=>rw[E]at hx;cases hx
    |true=>rw[E]at hx;rw[gz.1 hx];exact⟨by dsimp only;omega,by dsimp only;omega⟩
def R3{old hit eJ:Nat->Bool}{n:Nat}:wh old hit eJ n = -1\/∃ j:Nat,j<n/\wh old hit eJ n=(j:Int)/\eJ j=true:=by
 unfold wh;rcases qF (λi=>eJ i&&old i) n with ⟨E,_⟩|⟨j,E,I,C,_⟩
 ·rw[E,bf,av];rcases qF (λi=>eJ i&&hit i) n with ⟨C,_⟩ | ⟨j,C,O,D,_⟩
  ·rw[C,bf,av];rcases qF eJ n with ⟨D,_⟩ | ⟨j,D,T,U,_⟩
   ·exact .inl D
   ·exact .inr ⟨j,D,T,U⟩
  ·rw[O,bz,ax];exact .inr ⟨j,C,rfl,(aH _ _ ▸ D).1⟩
 ·rw[I,bz,ax];exact .inr ⟨j,E,rfl,(aH _ _ ▸ C).1⟩
def awU{c:au}(h:Pq c)(I:¬ (c.trace.length:Int) >= 2000)(U:c.aZ.length<400):((pW c).1.kind=0/\(pW c).2 = -1)\/lu c (pW c).1 (pW c).2=true/\(pW c).1.kind≠0:=by
 unfold pW;rcases R3 (old:=sJ c) (hit:=ez c) (eJ:=kA c (nK c)) (n:=c.queue.length)with e|⟨j,C,e,D⟩
 ·rw[show jT c = -1 from e];exact .inl ⟨rfl,rfl⟩
 ·rw[show jT c=(j:Int)from e,bz,ax];dsimp only;rw[bD];simp only[kA,gC,aH]at D;have E:=ahX h C;have Y:=(xQ E).2.1;refine .inr ⟨?_,by omega⟩;have O:kZ c.aG (dM c (c.queue.getD (j:Int).toNat pU).line) (c.queue.getD (j:Int).toNat pU).write=cG c j:=by
   unfold cG;rw[bD,fU _ C,RG C,<-E5 (by rw[Bb];exact C),ahN C]
  have hi:aT (j:Int) 0 ((c.queue.length:Int)-1)=true:=bu.2 ⟨by omega,by omega⟩;have T:Mq (cG c j) (cG c j)=true:=by
   unfold Mq;simp only[gu,Bool.and_self]
  unfold lu Mr;rw[E,D.1.2.2.1,bz I,O,T,hi,bf (show (c.aZ.length:Int)<400 by omega),Bool.or_true];cases (cG c j).kind==2 ||(cG c j).kind==3<;>rfl
def awV{c:au}(h:Pq c)(C:¬ (c.trace.length:Int) >= 2000)(I:c.aZ.length<400):((gJ c).1.kind=0/\(gJ c).2 = -1)\/lu c (gJ c).1 (gJ c).2=true/\(gJ c).1.kind≠0:=by
 have O:=Fe c;unfold gJ;cases c.aS.state != 0 with
 | true=>
  rw[av];by_cases D:cL c=0
  ·rw[D];exact .inl ⟨rfl,rfl⟩
  ·rw[iW D,av];cases hb:cq c ⟨cL c,0,0,0⟩with
   |false=>exact .inl ⟨rfl,rfl⟩
   |true=>exact .inr (Y3 ⟨Ru h.p.R.vX (by omega),by show cL c≠2;omega,by show cL c≠3;omega⟩ hb C)
 | false=>
  rw[ax];cases hu:H9 c with
  | some x=>
   unfold H9 at hu;exact .inr (Y3 (awS h x (sR hu)) (List.find?_some hu) C)
  | none=>
   dsimp only;cases T:decide ((pW c).2 >= 0)with
   |true=>exact awU h C I
   | false=>
    rw[ax];unfold uQ;cases E:(sK c++(oC c++pZ c)).find? (cq c)with
    |none=>exact .inl ⟨rfl,rfl⟩
    |some x=>exact .inr (Y3 (awT h x (sR E)) (List.find?_some E) C)
def Ii{c:au}{x:aQ}{i:Int}(D:1<=x.kind/\x.kind<=9)(C:x.kind=2\/x.kind=3->i.toNat<c.queue.length):(br c x i).trace=c.trace++[⟨c.now,x⟩]/\((((br c x i).queue.length:Nat):Int)==(c.queue.length:Int)-1)=(x.kind==2 || x.kind==3):=by
 have acc:∀ i:Nat,i<c.queue.length->(gx (cg c x) i).trace=c.trace++[⟨c.now,x⟩]/\((((gx (cg c x) i).queue.length:Nat):Int)==(c.queue.length:Int)-1)=true:=λi hi=>by
  have e:(gx (cg c x) i).trace=c.trace++[⟨c.now,x⟩]/\(gx (cg c x) i).queue=c.queue.take i++c.queue.drop (i+1):=by
   have E:(cg c x).queue.getD i pU=c.queue[i]:=fU _ hi;unfold gx;rw[E];dsimp only;cases c.queue[i].write<;>exact⟨rfl,rfl⟩
  refine⟨e.1,?_⟩;rw[e.2,jh,jK,List.length_drop,dO];omega
 have no:(((c.queue.length:Nat):Int)==(c.queue.length:Int)-1)=false:=dy (by omega);unfold br;rcases kinds D with q|q|q|q|q|q|q|q|q<;>rw[q]<;>simp only[Int.reduceBEq,Int.reduceBNe,av,ax,Bool.or_true,Bool.or_false,Bool.true_or,lK,Bool.or_self]
 ·exact⟨rfl,no⟩
 ·exact acc _ (C (.inl q))
 ·exact acc _ (C (.inr q))
 ·exact⟨rfl,no⟩
 ·exact⟨rfl,no⟩
 ·exact⟨rfl,no⟩
 ·exact⟨rfl,no⟩
 ·exact⟨rfl,no⟩
 ·exact⟨rfl,no⟩
def Mc(l C:aa cw)(e D:aa cY):Prop:=(C=l/\D=e)\/∃(n:Nat) (h:n<l.length),C=l.set n (oz l[n])/\D=bif ld l[n] != 0 then wg e (n:Int) (ld l[n])else e
def Qs(s j:au):Prop:=∃l e,j=⟨s.config,s.box,s.now,s.aG,s.ready,⟨l,s.array.bx,s.array.bg⟩,s.spare,s.ay,s.bF,s.guard,s.pending,s.queue,s.shares,s.drain,s.aS,s.dJ,e,s.trace,s.aZ⟩/\Mc s.array.cells l s.errors e
def Fn(j y:au):Prop:=((gJ j).1.kind=0/\y=j)\/(lu j (gJ j).1 (gJ j).2=true/\y=br j (gJ j).1 (gJ j).2)
def Ke(j:au)(o:ah au):Prop:=∃y,o=some y/\bR y/\bM y=true/\bR j/\bM j=true/\Fn j y
def Kf(s:au)(o:ah au):Prop:=∃j,Qs s j/\Ke j o
def Y5{x:au}(C:bR x)(D:bM x=true)(Z:x.trace.length<2000)(O:x.aZ.length<400):Ke x (RT x):=by
 have h:=Pq.of C D;have T:¬ (x.trace.length:Int) >= 2000:=by omega
 have e:vM x=some (gJ x):=by
  unfold vM;rw[sE x C,az,D,bI,ax,awc h,bz T];rfl
 unfold RT;rw[e,az];rcases awV h T O with ⟨E,_⟩|⟨I,E⟩
 ·rw[E];exact⟨x,rfl,C,D,C,D,.inl ⟨E,rfl⟩⟩
 ·obtain⟨hb,U,Y,O⟩:=CZ C h I;rw[iW E,av,avD C h,I,av,avt hb U Y];exact⟨_,rfl,avA C hb O U Y,(Ck.YW C (Ck.of D) I).ok,C,D,.inr ⟨I,rfl⟩⟩
def aiu{x:au}(Z:bR x)(h:bM x=true)(I:x.trace.length<2000)(O:x.aZ.length<400){n:Int}(hn:n<ck x.config.aq):Kf x (RU x n):=by
 unfold RU;by_cases T:n >= 0
 ·have C:=Ck.of h;have U:=fH.uP C.ar;have hg:=(zj C.rk).1;have hl:=U.cells;have hb:=rz x.config.aq;obtain⟨j,rfl⟩:=dN T;have D:j<x.array.cells.length:=by omega
  have Y:=U.syms _ (cX D);have hec:=YH Y;have E:fH x.config.aq 100000 ⟨x.array.cells.set j (oz x.array.cells[j]),x.array.bx,x.array.bg⟩:=U.EV _ (YC Y);have p:=fV.of C.pa;have jq:=(Ek.of C.er).l;rw[bf T,av,ahJ D Y,az];dsimp only;rw[ahP (c:=zq x j (oz x.array.cells[j])) C.er ⟨by omega,by omega⟩ hec,az];dsimp only;obtain⟨z1,z2,z3,z5,z6,z7,z8,z9,lZ,nJ,ow,mO,ox,rG⟩:=Z;have V1:bR (zq x j (oz x.array.cells[j])):=⟨z1,z2,z3,zw E,z6,z7,z8,z9,lZ,nJ,ow,mO,ox,rG⟩
  have DO:Ck (zq x j (oz x.array.cells[j])):=⟨C.f1,C.f2,C.nw,C.rk,C.rd,Bc hg E,C.sp,C.se,C.rf,(show fV (zq x j (oz x.array.cells[j]))from ⟨p.dl,p.tl,p.gl,p.t,p.g,p.pd,p.u⟩).ok,C.qu,C.sh,C.sl,C.dr,C.pw,C.ps,C.si,C.s1,C.s2,C.s3,C.er,C.tr,C.rp⟩
  unfold RK;by_cases e:ld x.array.cells[j]=0
  ·rw[e];exact⟨_,⟨_,_,rfl,.inr ⟨j,D,rfl,by rw[e];rfl⟩⟩,Y5 V1 DO.ok I O⟩
  ·rw[iW e,av];have he:=ah7 (l:=x.errors) C.er (n:=(j:Int)) ⟨by omega,by omega⟩ (code:=ld x.array.cells[j]) (by omega);have hle:=ahV (l:=x.errors) (j:Int) (ld x.array.cells[j]);exact⟨_,⟨_,_,rfl,.inr ⟨j,D,rfl,by rw[iW e,av]⟩⟩,(Y5 (x:=RJ (zq x j (oz x.array.cells[j])) (wg x.errors (j:Int) (ld x.array.cells[j]))) ⟨z1,z2,z3,zw E,z6,z7,z8,z9,lZ,nJ,ow,by show (wg x.errors (j:Int) (ld x.array.cells[j])).length<=_;omega,ox,rG⟩ (Ck.ok ⟨C.f1,C.f2,C.nw,C.rk,C.rd,Bc hg E,C.sp,C.se,C.rf,(show fV (RJ (zq x j (oz x.array.cells[j])) (wg x.errors (j:Int) (ld x.array.cells[j])))from ⟨p.dl,p.tl,p.gl,p.t,p.g,p.pd,p.u⟩).ok,C.qu,C.sh,C.sl,C.dr,C.pw,C.ps,C.si,C.s1,C.s2,C.s3,he,C.tr,C.rp⟩) I O)⟩
 ·rw[bz T,ax];exact⟨_,⟨_,_,rfl,.inl ⟨rfl,rfl⟩⟩,Y5 Z h I O⟩
def Y6(w:Bool)(i:Int):Int:=bif w then 0 else if 1000000<i+1 then 1000000 else i+1
def awW{p:jM}(h:nH p=true)(w:Bool):∃ y,G3 p w=some y/\nH y=true/\y.state=p.state/\y.since=p.since/\y.idle=Y6 w p.idle:=by
 unfold G3 Y6;rw[QZ,az,h,bI,ax];simp only[nH,aH,bu]at h;cases w with
 |true=>exact⟨_,rfl,by simp only[nH,aH,bu];omega,rfl,rfl,rfl⟩
 | false=>
  rw[bh (n:=p.idle+1)];refine⟨_,rfl,?_,rfl,rfl,rfl⟩;simp only[nH,aH,bu];split<;>omega
structure Pr (c j:au):Prop where
 pN:j.now=c.now+1
 pC:j.config=c.config
 pK:j.aG=c.aG
 pR:j.ready=c.ready
 pH:j.array.bg=c.array.bg
 pA:j.array.bx=bif c.aG.aS != 2 then c.array.bx.map (qA 1)else c.array.bx
 pF:j.ay=bif c.aG.aS != 2 then zy c.ay c.config.interval else c.ay
 pT:j.bF=c.bF
 pG:j.guard=c.guard
 pP:j.pending=c.pending
 pQ:j.queue=c.queue
 pS:j.aS.state=c.aS.state
 pE:j.trace=c.trace
 pY:j.aZ=c.aZ
 pI:j.aS.idle=Y6 (sG j) c.aS.idle
 pB:j.box=c.box\/j.box=⟨c.box.next,c.box.next,false⟩
 pV:j.spare=c.spare
 pM:Mc c.array.cells j.array.cells c.errors j.errors
 pX:c.queue≠[]->j.box=c.box/\j.shares=c.shares/\j.drain=sM c.drain ((c.queue.countP λr=>r.write==true:Nat):Int)
def awX(b:lO)(h:HR b):Et b false=some (b,false):=by
 unfold Et;rw[Rh b h,az];rfl
def aiv{c:au}(hz:bR c)(h:Ck c)(hn:c.now<1000000)(Z:c.trace.length<2000)(F7:c.aZ.length<400){r:eC}{a:c9}(hr:fS r=true)(UL:r.aB.length=c.ay.aB.length)(ha:pz c.config.aq a=true)
  (e1:r=bif c.aG.aS != 2 then zy c.ay c.config.interval else c.ay) (e2:a.bx=bif c.aG.aS != 2 then c.array.bx.map (qA 1)else c.array.bx) (e3:a.bg=c.array.bg) (e4:a.cells=c.array.cells):∃j y,stepT c r a=some y/\bR y/\bM y=true/\bR j/\bM j=true/\Pr c j/\Fn j y:=by
 obtain⟨C,z2,z3,z5,z6,z7,z8,z9,lZ,nJ,ow,mO,ox,rG⟩:=hz;have p:=fV.of h.pa;have hg:=(zj h.rk).1;have yb:=bu.1 h.nw;have hb:=rz c.config.aq;have hLp:1<=ck c.config.aq:=by
  have:=bu.1 h.s3;rw[bh (n:=ck c.config.aq-1)]at this;omega
 have w1:c.box.bW.weights.length<=1048576:=C.1;have w2:c.box.next.weights.length<=1048576:=C.2
 have f1:=awe c.queue true (by omega);obtain⟨f2,D⟩:=awf h.dr ((c.queue.countP λr=>r.write==true:Nat):Int);generalize hn0:((c.queue.countP λr=>r.write==true:Nat):Int)=n at f1 f2 D;generalize uz:sM c.drain n=d at f2 D;have f3:Cv (ye c c.box a r c.shares d c.aS c.dJ)=some (sG (ye c c.box a r c.shares d c.aS c.dJ)):=ahw (c:=ye c c.box a r c.shares d c.aS c.dJ) hr;obtain⟨pw,f4,Wn,AD,hp3,hp4⟩:=awW h.pw (sG (ye c c.box a r c.shares d c.aS c.dJ));obtain⟨t,E⟩:=awg c.box C ((c.queue.length:Int)==(0:Int));obtain⟨u,m,f6,TA,n6,My,hm⟩:=awi h.s1 h.s2 h.s3 ⟨hLp,by omega⟩;have O:W6 (c.now+1)=c.now+1:=bh;have key:∀ (b:lO) (s:aa dz) (d:m0),HR b->ov c.config b.bW=true->ov c.config b.next=true->ki s=true->(s.length:Int)=4->tJ d=true->bR (ye c b a r s d pw u)/\bM (ye c b a r s d pw u)=true:=λb s d xF iu Y7 I7 Y1 D=>by
  refine⟨⟨xF,z2,z3,zw (fH.uP ha),z6,by have:=z7;unfold EX at this ⊢;show r.aB.length<=_;omega,z8,z9,lZ,nJ,by show s.length<=_;omega,mO,ox,rG⟩,Ck.ok ⟨iu,Y7,?_,h.rk,h.rd,ha,h.sp,h.se,hr,(show fV (ye c b a r s d pw u)from ⟨by show (r.aB.length:Int)=_;rw[UL];exact p.dl,p.tl,p.gl,p.t,p.g,p.pd,p.u⟩).ok,h.qu,I7,Y1,D,Wn,AD.trans h.ps,?_,TA,n6,My,h.er,h.tr,h.rp⟩⟩
  ·show aT (W6 (c.now+1)) 0 1000000=true;rw[O];exact bu.2 ⟨by omega,by omega⟩
  ·show pw.since<=W6 (c.now+1);have:=h.si;rw[O,hp3];omega
 have xk:∀ (b:lO) (s:aa dz) (d:m0) (o:ah au),(b=c.box\/b=⟨c.box.next,c.box.next,false⟩)->(c.queue≠[]->b=c.box/\s=c.shares/\d=sM c.drain n)->Kf (ye c b a r s d pw u) o->∃ j y,o=some y/\bR y/\bM y=true/\bR j/\bM j=true/\Pr c j/\Fn j y:=λb s d o hb hX ho=>by
  obtain⟨j,⟨l,e,rfl,I⟩,y,g1,g2,g3,g4,g5,g6⟩:=ho;have I:Mc a.cells l c.errors e:=I;rw[e4]at I;exact⟨_,y,g1,g2,g3,g4,g5,⟨O,rfl,rfl,rfl,e3,e2,e1,rfl,rfl,rfl,rfl,AD,rfl,rfl,hp4,hb,rfl,I,λT=>by rw[hn0];exact hX T⟩,g6⟩
 unfold stepT;rw[f1,az,f2,az,f3,az,f4,az,E,az];dsimp only;cases t with
 | false=>
  rw[ax,ax,CB,az,f6,az];obtain⟨U,Y⟩:=key c.box c.shares d C h.f1 h.f2 h.sh h.sl D;exact xk _ _ _ _ (.inl rfl) (λ_=>⟨rfl,rfl,uz.symm⟩) (aiu U Y Z F7 hm)
 | true=>
  obtain⟨l,t2,f7,yD,lT,hl3⟩:=awh (p:=c.box.next) (by omega) h.f2;rw[av,av];dsimp only;rw[f7,az,CB,az,f6,az];obtain⟨U,Y⟩:=key ⟨c.box.next,c.box.next,false⟩ l ⟨false,c.box.next.low,c.box.next.high⟩ ⟨C.2,C.2⟩ h.f2 h.f2 yD lT hl3
  refine xk _ _ _ _ (.inr rfl) (λT=>absurd T (Classical.not_not.2 ?_)) (aiu U Y Z F7 hm)
  by_cases h0:c.queue.length=0
  ·exact uS h0
  ·exfalso;rw[dy (show ¬ (c.queue.length:Int)=0 by omega),awX c.box C]at E;injection E with E;exact absurd (show false=true from bE Prod.snd E) (by decide)
def awY{c:au}(C:bR c)(E:bM c=true)(I:c.now<1000000)(O:c.trace.length<2000)(T:c.aZ.length<400):∃ j y,tF c=some y/\bR y/\bM y=true/\bR j/\bM j=true/\Pr c j/\Fn j y:=by
 have h:=Ck.of E;have w1:c.box.bW.weights.length<=1048576:=C.1.1;have hi:=awk (by omega) h.f1;unfold tF;rw[sF c C,az,sE c C,az,E,bI,ax,dy (show ¬ c.now=1000000 by omega),ax];cases D:c.aG.aS != (2:Int)with
 | true=>
  obtain⟨U,Y⟩:=awl h.rf hi;rw[av,awm h.rf hi,az,awo h.ar,az];exact aiv C h I O T U Y (awn h.ar) (by rw[D];rfl) (by rw[D];rfl) rfl rfl
 | false=>
  rw[ax];exact aiv C h I O T h.rf rfl h.ar (by rw[D];rfl) (by rw[D];rfl) rfl rfl
def Why(c:au)(x:aQ):Prop:=
 (c.aS.state≠0/\(x=zx/\(cL c=0\/cq c ⟨cL c,0,0,0⟩=false)\/x=⟨cL c,0,0,0⟩))\/
 (c.aS.state=0/\((∃ b∈bV 0 c.ay.aB,x=fI c b)\/(∀ b∈bV 0 c.ay.aB,cq c (fI c b)=false)/\
  ((∃k,k<c.pending.length/\rK c k=true/\x=jG c k)\/(∃j,j<c.queue.length/\gC c j=true/\x=cG c j)\/x∈sK c++(oC c++pZ c)\/x=zx)))
def Mz{c:au}(h:Pq c):Why c (gJ c).1:=by
 unfold gJ;by_cases D:c.aS.state=0
 ·refine .inr ⟨D,?_⟩;rw[D,bne_self_eq_false,ax];unfold H9;rw[List.find?_append];cases I:(H7 c).find? (cq c)with
  | some y=>
   obtain⟨b,hb,rfl⟩:=iZ.1 (sR I);exact .inl ⟨b,hb,rfl⟩
  | none=>
   refine .inr ⟨λb hb=>nN.2 (List.find?_eq_none.1 I _ (List.mem_map_of_mem hb)),?_⟩
   rw[Option.none_or];cases T:(H8 c c.pending.length).find? (cq c)with
   | some y=>
    obtain⟨k,U,rfl⟩:=iZ.1 (sR T);obtain⟨Y,Z⟩:=List.mem_filter.1 U;exact .inl ⟨k,gq.1 Y,Z,rfl⟩
   | none=>
    refine .inr ?_;dsimp only;cases C:decide ((pW c).2 >= 0)with
    | true=>
     rw[av];have C:(pW c).2 >= 0:=ja C;unfold pW at C ⊢;rcases R3 (old:=sJ c) (hit:=ez c) (eJ:=kA c (nK c)) (n:=c.queue.length)with e|⟨j,hj,e,E⟩
     ·rw[show jT c = -1 from e]at C;exact absurd (show (-1:Int) >= 0 from C) (by decide)
     ·rw[show jT c=(j:Int)from e,bz,ax];dsimp only;rw[bD];unfold kA at E;rw[aH]at E;exact .inl ⟨j,hj,E.1,rfl⟩
    | false=>
     rw[ax];unfold uQ;cases hf:(sK c++(oC c++pZ c)).find? (cq c)with
     |none=>exact .inr (.inr rfl)
     |some x=>exact .inr (.inl (sR hf))
 ·refine .inl ⟨D,?_⟩;rw[iW D,av];by_cases O:cL c=0
  ·rw[O];exact .inl ⟨rfl,.inl rfl⟩
  ·rw[iW O,av];cases hb:cq c ⟨cL c,0,0,0⟩with
   |false=>exact .inl ⟨rfl,.inr rfl⟩
   |true=>exact .inr rfl
def R4{c:au}(h:Pq c){b:Int}(hb:b∈bV 0 c.ay.aB):0<=b/\b<aE c.config.aq/\c.ay.aB.getD b.toNat 0 >= 4:=by
 have C:=(YS h hb).1;have D:=h.dl;refine⟨C.1,C.2,?_⟩;rw[show b=((0:Nat):Int)+b by omega]at hb;exact(YJ C.1 (by omega) 0).1 hb
def C1{c:au}(h:Pq c){b:Int}(C:0<=b)(E:b<aE c.config.aq)(D:c.ay.aB.getD b.toNat 0 >= 4):b∈bV 0 c.ay.aB:=by
 have hl:=h.dl;have:=(YJ (l:=c.ay.aB) C (by omega) 0).2 D;rw[show ((0:Nat):Int)+b=b by omega]at this;exact this
def yg(c:au)(b:Int)(x:aQ):qG c b x=⟨4,b,0,0⟩\/qG c b x=x/\(cK c.aG b).open_=false:=by
 unfold qG;cases (cK c.aG b).open_ with
 |true=>exact .inl rfl
 |false=>exact .inr ⟨rfl,rfl⟩
def Y8(r:cr)(a:aN)(w:Bool):(kZ r a w).aA=a.aA/\((kZ r a w).kind=1/\(kZ r a w).row=a.row\/(kZ r a w).kind=4\/(kZ r a w).kind=3\/(kZ r a w).kind=2):=by
 unfold kZ;cases (cK r a.aA).open_ with
 |false=>exact⟨rfl,.inl ⟨rfl,rfl⟩⟩
 | true=>
  rw[bI,ax];cases (cK r a.aA).row != a.row with
  |true=>exact⟨rfl,.inr (.inl rfl)⟩
  | false=>
   cases w with
   |true=>exact⟨rfl,.inr (.inr (.inl rfl))⟩
   |false=>exact⟨rfl,.inr (.inr (.inr rfl))⟩
def Y9{c:au}(h:Pq c){x:aQ}(hx:x∈sK c++(oC c++pZ c)):(x=⟨5,fL c,0,0⟩/\0<=fL c/\c.ay.aB.getD (fL c).toNat 0 > 0/\bV 0 c.ay.aB=[]/\kB c (fL c).toNat=true)\/x.kind=4\/(x=⟨cL c,0,0,0⟩/\cL c≠0):=by
 rcases gE.1 hx with hx|hx
 ·unfold sK at hx;have T:=h.dl;have hb:-1<=fL c/\fL c<c.ay.aB.length:=RQ _ _;by_cases C:fL c >= 0
  ·have U:0<=fL c/\fL c<aE c.config.aq:=by omega
   rw[bf C,dn]at hx;cases E:kz c (fL c)with
   |true=>rw[E]at hx;cases hx
   | false=>
    rw[E]at hx;have hx:=gz.1 hx;have D:=(A7 (wj (decide (((bV 0 c.ay.aB).length:Int) > 0)) c.ay.aB (kB c)) (λi=>c.ay.aB.getD i 0) c.ay.aB.length).resolve_left (λe=>by have e:fL c = -1:=e;omega);have D:wj (decide (((bV 0 c.ay.aB).length:Int) > 0)) c.ay.aB (kB c) (fL c).toNat=true:=D;unfold wj at D;unfold kz at E;have E:¬ c.ay.aB.getD (fL c).toNat 0 >= 4:=of_decide_eq_false E;by_cases O:((bV 0 c.ay.aB).length:Int) > 0
    ·rw[bf O,av]at D;exact absurd (ja D) E
    ·rw[bz O,ax,aH]at D;have I:bV 0 c.ay.aB=[]:=uS (by omega);rcases yg c (fL c) ⟨5,fL c,0,0⟩with e | ⟨e,_⟩
     ·exact .inr (.inl (by rw[hx];unfold fI;rw[e]))
     ·exact .inl ⟨by rw[hx];unfold fI;rw[e],C,ja D.1,I,D.2⟩
  ·rw[bz C]at hx;cases hx
 ·refine .inr ?_;rcases gE.1 hx with hx | hx
  ·unfold oC at hx;cases C:decide (rL c >= 0)with
   |false=>rw[C]at hx;cases hx
   |true=>rw[C]at hx;rw[gz.1 hx];exact .inl rfl
  ·unfold pZ at hx;cases C:cL c==8&&decide (((opens 0 c.aG.aO).length:Int) > 0)with
   |true=>rw[C]at hx;rw[gz.1 hx];exact .inl rfl
   | false=>
    rw[C,ax]at hx;by_cases I:cL c=0
    ·rw[I]at hx;cases hx
    ·rw[iW I]at hx;exact .inr ⟨gz.1 hx,I⟩
def aiw{c:au}(h:Pq c)(C:(gJ c).1.kind=5):c.ay.aB.getD (gJ c).1.aA.toNat 0 >= 1/\(c.ay.aB.getD (gJ c).1.aA.toNat 0 >= 4\/bV 0 c.ay.aB=[]):=by
 have I:=Fe c;rcases Mz h with ⟨_,⟨e,_⟩|e⟩|⟨_,⟨b,hb,e⟩|⟨_,⟨k,_,_,e⟩|⟨j,_,_,e⟩|e|e⟩⟩
 ·rw[e]at C;exact absurd C (by decide)
 ·rw[e]at C;dsimp only at C;omega
 ·rw[e]at C ⊢;unfold fI at C ⊢;rcases yg c b ⟨5,b,0,0⟩with e | ⟨e,_⟩
  ·rw[e]at C;exact absurd C (show ¬ (4:Int)=5 by decide)
  ·rw[e];have:=(R4 h hb).2.2;exact⟨by dsimp only;omega,.inl (by dsimp only;omega)⟩
 ·rw[e]at C;unfold jG at C;rcases yg c (js c k).aA ⟨1,(js c k).aA,(js c k).row,0⟩with e | ⟨e,_⟩ <;>rw[e]at C
  ·exact absurd C (show ¬ (4:Int)=5 by decide)
  ·exact absurd C (show ¬ (1:Int)=5 by decide)
 ·rw[e]at C;have:=(Y8 c.aG (ey c j) (mU c.queue j)).2;unfold cG at C;omega
 ·rcases Y9 h e with ⟨e,_,D,E,_⟩ | e | ⟨e,_⟩
  ·rw[e];exact⟨D,.inr E⟩
  ·omega
  ·rw[e]at C;dsimp only at C;omega
 ·rw[e]at C;exact absurd C (by decide)
def Ij(l:aa Int)(i k:Nat):(l.set i 0).getD k 0=if i=k then 0 else l.getD k 0:=by
 rw[cQ,List.getElem?_set];split
 ·split<;>rfl
 ·rw[<-cQ]
def aix(l:aa Int){i:Nat}(x:Int)(k:Nat)(h:i<l.length):(l.set i x).getD k 0=if i=k then x else l.getD k 0:=by
 rw[cQ,List.getElem?_set,aV h];split
 ·rfl
 ·rw[<-cQ]
def MA(f:Int->Int)(l:aa Int){k:Nat}(h:k<l.length):(l.map f).getD k 0=f (l.getD k 0):=by
 rw[cQ,fz,bL h,cQ,bL h];rfl
def aiy(l:aa Int)(k:Nat):(l.map (qA 1)).getD k 0<=l.getD k 0+1:=by
 by_cases h:k<l.length
 ·rw[MA _ _ h];unfold qA;split<;>omega
 ·rw[cQ,cQ,qL (by rw[fN];omega),qL (by omega)];decide
def Ik(c:au){x:aQ}(i:Int)(h:x.kind=1):br c x i=uN (cg c x) x:=by
 unfold br;rw[h];rfl
def Il(c:au){x:aQ}(i:Int)(h:x.kind=5):br c x i=CV (cg c x) x.aA:=by
 unfold br;rw[h];rfl
def Fh(c:au){x:aQ}(i:Int)(h:x.kind=9):br c x i=jR (E9 (cg c x) 9) c.bF.length []:=by
 unfold br;rw[h];rfl
def zz{c:au}{x:aQ}{i:Int}(C:1<=x.kind/\x.kind<=9)(D:x.kind≠1)(E:x.kind≠5)(I:x.kind≠9):(br c x i).array.bx=c.array.bx/\(br c x i).array.bg=c.array.bg/\(br c x i).ay=c.ay/\(br c x i).bF=c.bF/\(br c x i).guard=c.guard/\(br c x i).pending=c.pending:=by
 have acc:∀ i:Nat,(gx (cg c x) i).array.bx=c.array.bx/\(gx (cg c x) i).array.bg=c.array.bg/\(gx (cg c x) i).ay=c.ay/\(gx (cg c x) i).bF=c.bF/\(gx (cg c x) i).guard=c.guard/\(gx (cg c x) i).pending=c.pending:=λi=>by
  unfold gx;dsimp only;cases ((cg c x).queue.getD i pU).write<;>exact⟨rfl,rfl,rfl,rfl,rfl,rfl⟩
 unfold br;rcases kinds C with q|q|q|q|q|q|q|q|q<;>rw[q]<;>simp only[Int.reduceBEq,Int.reduceBNe,av,ax,Bool.or_true,Bool.or_false,Bool.true_or,lK,Bool.or_self]
 ·exact absurd q D
 ·exact acc _
 ·exact acc _
 ·exact⟨rfl,rfl,rfl,rfl,rfl,rfl⟩
 ·exact absurd q E
 ·exact⟨rfl,rfl,rfl,rfl,rfl,rfl⟩
 ·exact⟨rfl,rfl,rfl,rfl,rfl,rfl⟩
 ·exact⟨rfl,rfl,rfl,rfl,rfl,rfl⟩
 ·exact absurd q I
def R5(g:aK)(l:lN)(a:c9)(b:Int):∀ n k:Nat,(gN g l a b n).bx.getD k 0=a.bx.getD k 0\/(gN g l a b n).bx.getD k 0=0
 |0,k=>.inl rfl
 | n+1,k=>by
  unfold gN;rw[rJ];show ((gN g l a b n).bx.set _ 0).getD k 0=_\/((gN g l a b n).bx.set _ 0).getD k 0=0;rw[Ij];split
  ·exact .inr rfl
  ·exact R5 g l a b n k
def Za(g:aK)(l:lN)(a:c9)(b:Int):∀ n r:Nat,r<n->(gN g l a b n).bx.getD (b*g.rows+(r:Int)).toNat 0=0
 | n+1,r,h=>by
  unfold gN;rw[rJ];show ((gN g l a b n).bx.set (b*g.rows+(n:Int)).toNat 0).getD _ 0=0;rw[Ij];split
  ·rfl
  ·rename_i C;exact Za g l a b n r (by
    by_cases e:r=n
    ·subst e;exact absurd rfl C
    ·omega)
def rN(g:aK)(l:lN)(a:c9)(k:Nat):c9:=(List.range k).foldl (λa (b:Nat)=>gN g l a (b:Int) g.rows.toNat) a
def aiz(g:aK)(l:lN)(a:c9):∀ n b r:Nat,b<n->r<g.rows.toNat->(rN g l a n).bx.getD ((b:Int)*g.rows+(r:Int)).toNat 0=0
 | n+1,b,r,hb,C=>by
  unfold rN;rw[rJ];by_cases e:b=n
  ·subst e;exact Za g l _ _ _ r C
  ·rcases R5 g l (rN g l a n) (n:Int) g.rows.toNat ((b:Int)*g.rows+(r:Int)).toNat with e2 | e2
   ·exact e2.trans (aiz g l a n b r (by omega) C)
   ·exact e2
def Zb(l:aa Int):∀ n k:Nat,((List.range n).foldl (λd b=>d.set b 0) l).getD k 0=if k<n then 0 else l.getD k 0
 |0,k=>rfl
 | n+1,k=>by
  rw[rJ,Ij,Zb l n k];by_cases e:n=k
  ·subst e;rw[aV rfl,aV]
  ·rw[aX e];by_cases C:k<n
   ·rw[aV C,aV]
   ·rw[aX C,aX]
def R6(r:eC){b:Int}(hb:b.toNat<r.aB.length)(k:Nat)(h:r.aB.getD b.toNat 0 >= 1):(oy r b).aB.getD k 0=(if b.toNat=k then r.aB.getD k 0-1 else r.aB.getD k 0)/\(oy r b).wait=r.wait/\(oy r b).bO=r.bO:=by
 unfold oy;rw[bz (show ¬ r.aB.getD b.toNat 0 = -2 by omega),ax];refine⟨?_,rfl,rfl⟩;dsimp only;rw[aix _ _ _ hb];split
 next e=>rw[e]
 ·rfl
def jU(r:eC):Int:=bif r.bO then 2*r.wait-1 else r.wait
def tS(c:au):Prop:=jU c.ay<=c.config.interval/\∀b r:Nat,(b:Int)<aE c.config.aq->r<c.config.aq.rows.toNat->0<=c.ay.aB.getD b 0/\c.array.bx.getD ((b:Int)*c.config.aq.rows+(r:Int)).toNat 0+jU c.ay<=(c.ay.aB.getD b 0+1)*c.config.interval
def R7{d I w:Int}(C:0<=d)(E:w<=I)(D:0<=I):0+w<=(d+1)*I:=by
 have:=Int.mul_nonneg C D;rw[Int.add_mul,Int.one_mul];omega
def tS.pr{c j:au}(h:tS c)(p:Pr c j)(hi:2<=c.config.interval/\c.config.interval<=10000)(hw:1<=c.ay.wait/\c.ay.wait<=10000)(hl:(c.ay.aB.length:Int)=aE c.config.aq)(O:∀ b:Nat,c.ay.aB.getD b 0<=4):tS j:=by
 unfold tS at h ⊢;rw[p.pC,p.pA,p.pF];cases hp:c.aG.aS != 2 with
 |false=>exact h
 | true=>
  rw[av,av];obtain⟨h1,D⟩:=h;unfold zy;by_cases E:0<c.ay.wait-1
  ·rw[aV E];have T:jU ⟨c.ay.aB,c.ay.wait-1,c.ay.bO⟩<=jU c.ay-1:=by
    unfold jU;dsimp only;cases c.ay.bO with
    |true=>rw[av,av];omega
    |false=>rw[ax,ax];omega
   refine⟨by omega,λb r hb C=>?_⟩
   obtain⟨I,U⟩:=D b r hb C;have:=aiy c.array.bx ((b:Int)*c.config.aq.rows+(r:Int)).toNat;exact⟨I,by dsimp only;omega⟩
  ·rw[aX E];have T:jU c.ay=1:=by
    unfold jU;cases c.ay.bO with
    |true=>rw[av];omega
    |false=>rw[ax];omega
   have Y:jU ⟨c.ay.aB.map sL,bif c.ay.bO then c.config.interval / 2 else c.config.interval,c.ay.bO⟩<=c.config.interval:=by
    unfold jU;dsimp only;cases c.ay.bO with
    |true=>rw[av,av];omega
    |false=>rw[ax,ax];omega
   refine⟨Y,λb r hb C=>?_⟩
   obtain⟨I,U⟩:=D b r hb C;have Z:b<c.ay.aB.length:=by omega
   have hm:=O b;have ht:(c.ay.aB.map sL).getD b 0=c.ay.aB.getD b 0+1:=by
    rw[MA _ _ Z];unfold sL;rw[bh,aX]
   have:=aiy c.array.bx ((b:Int)*c.config.aq.rows+(r:Int)).toNat;dsimp only;rw[ht];refine⟨by omega,?_⟩;rw[Int.add_mul (c.ay.aB.getD b 0+1) 1,Int.one_mul];omega
def tS.YW{c:au}(h:tS c)(hq:Pq c){x:aQ}{i:Int}(hc:cD c.config.aq x=true)(h5:x.kind=5->c.ay.aB.getD x.aA.toNat 0 >= 1)(hi:0<=c.config.interval)(CX:(c.bF.length:Int)=aE c.config.aq):tS (br c x i):=by
 obtain⟨hg,O,hb,_⟩:=xQ hc;have Be:=hq.dl;obtain⟨D,E⟩:=h;have gb:=gV hg;by_cases T:x.kind=1
 ·rw[Ik c i T]
  refine⟨D,λb r hb C=>?_⟩
  have hb:(b:Int)<aE c.config.aq:=hb;have C:r<c.config.aq.rows.toNat:=C;obtain⟨a1,a2⟩:=E b r hb C;refine⟨a1,?_⟩;show (c.array.bx.set (x.aA*c.config.aq.rows+x.row).toNat 0).getD ((b:Int)*c.config.aq.rows+(r:Int)).toNat 0+jU c.ay<=(c.ay.aB.getD b 0+1)*c.config.interval;rw[Ij];split
  ·exact R7 a1 D hi
  ·exact a2
 ·by_cases I:x.kind=5
  ·have U:=h5 I;obtain⟨b0,b1⟩:=hb (by omega);have Y:x.aA.toNat<c.ay.aB.length:=by omega
   obtain⟨_,w1,w2⟩:=R6 c.ay Y 0 U;have Z:jU (oy c.ay x.aA)=jU c.ay:=by unfold jU;rw[w1,w2]
   rw[Il c i I]
   refine⟨by show jU (oy c.ay x.aA)<=_;rw[Z];exact D,λb r hb C=>?_⟩
   have hb:(b:Int)<aE c.config.aq:=hb;have C:r<c.config.aq.rows.toNat:=C;obtain⟨a1,a2⟩:=E b r hb C;show 0<=(oy c.ay x.aA).aB.getD b 0/\(gN c.config.aq c.config.dX c.array x.aA c.config.aq.rows.toNat).bx.getD ((b:Int)*c.config.aq.rows+(r:Int)).toNat 0+jU (oy c.ay x.aA)<=((oy c.ay x.aA).aB.getD b 0+1)*c.config.interval;rw[(R6 c.ay Y b U).1,Z];by_cases e:x.aA.toNat=b
   ·subst e;rw[aV rfl,Int.toNat_of_nonneg b0,Za _ _ _ _ _ r C];exact⟨by omega,R7 (by omega) D hi⟩
   ·rw[aX e];refine⟨a1,?_⟩;rcases R5 c.config.aq c.config.dX c.array x.aA c.config.aq.rows.toNat ((b:Int)*c.config.aq.rows+(r:Int)).toNat with e2 | e2
    ·rw[e2];exact a2
    ·rw[e2];exact R7 a1 D hi
  ·by_cases k9:x.kind=9
   ·rw[Fh c i k9]
    refine⟨D,λb r hb C=>?_⟩
    have hb:(b:Int)<aE c.config.aq:=hb;have C:r<c.config.aq.rows.toNat:=C;show 0<=((List.range c.bF.length).foldl (λd b=>d.set b 0) c.ay.aB).getD b 0/\(rN c.config.aq c.config.dX c.array c.bF.length).bx.getD ((b:Int)*c.config.aq.rows+(r:Int)).toNat 0+jU c.ay<=(((List.range c.bF.length).foldl (λd b=>d.set b 0) c.ay.aB).getD b 0+1)*c.config.interval;rw[Zb,aV,aiz _ _ _ _ _ _ (by omega) C];exact⟨dU _,R7 (dU _) D hi⟩
   ·obtain⟨e1,_,e3,_⟩:=zz (c:=c) (i:=i) O T I k9;have e4:(br c x i).config=c.config:=by
     unfold br;rcases kinds O with q|q|q|q|q|q|q|q|q<;>rw[q]<;>first|rfl|(unfold gx;dsimp only;cases ((cg c x).queue.getD i.toNat pU).write<;>rfl)
    unfold tS;rw[e1,e3,e4];exact⟨D,E⟩
def La(q:fj)(b k:Nat):Int:=q.last.getD (9*b+k-1) (-1)
def Zc{g:aK}{r w:Int}(D:1<=r/\r<=4)(E:4<=w/\w<=8){a:aQ}(C:1<=a.kind/\a.kind<=9)(B:Int):eH g (gZ r w) a ⟨4,B,0,0⟩<=16/\(a.kind=7->eH g (gZ r w) a ⟨4,B,0,0⟩<=4)/\(a.kind≠7->a.kind≠9->(a.aA≠B\/4<=a.kind)->eH g (gZ r w) a ⟨4,B,0,0⟩<=1):=by
 unfold eH sD ou mP qC gZ;dsimp only;rcases kinds C with h|h|h|h|h|h|h|h|h<;>rw[h]<;>cases hb:a.aA==B<;>simp[aT]at *<;>omega
def aiA{g:aK}{r w:Int}(O:1<=r/\r<=4)(T:4<=w/\w<=8){a:aQ}(C:1<=a.kind/\a.kind<=9)(B:Int):eH g (gZ r w) a ⟨5,B,0,0⟩<=16/\(a.kind=7->eH g (gZ r w) a ⟨5,B,0,0⟩<=4)/\(a.kind=4->eH g (gZ r w) a ⟨5,B,0,0⟩<=3)/\(a.kind=5->a.aA≠B->eH g (gZ r w) a ⟨5,B,0,0⟩<=3)/\(a.kind≠7->a.kind≠9->a.kind≠5->a.aA≠B\/5<a.kind->eH g (gZ r w) a ⟨5,B,0,0⟩<=1):=by
 have D:W6 (r+3)=r+3:=bh;have E:W6 (w+3)=w+3:=bh;have I:W6 (7+3)=10:=by decide
 unfold eH sD ou mP qC gZ;dsimp only;rw[D,E,I];rcases kinds C with h|h|h|h|h|h|h|h|h<;>rw[h]<;>cases hb:a.aA==B<;>simp[aT]at *<;>omega
def awZ{g:aK}{r w:Int}{a:aQ}(C:1<=a.kind/\a.kind<=9):eH g (gZ r w) a ⟨7,0,0,0⟩<=16:=by
 unfold eH sD ou mP qC gZ;dsimp only;rcases kinds C with h|h|h|h|h|h|h|h|h<;>rw[h]<;>simp[aT]<;>omega
def Zd(g:aK)(t:dw)(l:aa Int)(c:aQ){n:Int}(C:0<=n)(h:∀ (i:Nat) (hi:i<l.length),0<=l[i]->l[i]+eH g t (ku i) c<=n):∀ k,k<=l.length->uM g t l c k<=n
 |0,_=>C
 | k+1,I=>by
  have E:=Zd g t l c C h k (by omega);rw[Rk,Ro (by omega)];by_cases D:l[k]<0
  ·rw[bf D];exact E
  ·rw[bz D,ax];have:=h k (by omega) (by omega);unfold uL;split<;>omega
def Im{c:au}(h:Pq c){x:aQ}(U:x.kind=1->c.ready.bq.length≠4)(Y:kj c.aG x=true)(Z:∀ (b k:Nat),1<=k->k<=9->((k<=5/\(b:Int)<aE c.config.aq)\/(5<k/\(b:Int)=aE c.config.aq))->0<=La c.ready b k->La c.ready b k+eH c.config.aq c.config.bP ⟨(k:Int),if k<=5 then (b:Int)else 0,0,0⟩ x<=c.now):cq c x=true:=by
 have hn:=h.nw;have hl:=(HL h.p.Yp).2.1;have ha:me c.config.aq c.config.bP c.ready x<=c.now:=by
  unfold me;have e4:(x.kind==1&&(c.ready.bq.length:Int)==4)=false:=by
   by_cases E:x.kind=1
   ·rw[dy (show ¬ (c.ready.bq.length:Int)=4 from λe=>U E (by omega)),Bool.and_false]
   ·rw[dy E,Bool.false_and]
  rw[e4,ax]
  refine Zd _ _ _ _ hn.1 (λi hi h0=>?_) _ (dg _)
  have C:=((h.p.R.last i hi).2).resolve_left (by omega);unfold tL at C;have C:=dO.1 C;obtain⟨b,k,rfl,k1,k9⟩:∃b k:Nat,i=9*b+k-1/\1<=k/\k<=9:=⟨i / 9,i % 9+1,by omega,by omega,by omega⟩
  have I:((9*b+k-1:Nat):Int) % 9+1=(k:Int):=by omega
  have O:((9*b+k-1:Nat):Int) / 9=(b:Int):=by omega
  rw[I,O]at C;have T:La c.ready b k=c.ready.last[9*b+k-1]:=fU _ hi;have e3:ku (9*b+k-1)=⟨(k:Int),if k<=5 then (b:Int)else 0,0,0⟩:=by
   unfold ku;rw[I,O];by_cases D:k<=5
   ·rw[aV,aV D]
   ·rw[aX,aX D]
  rw[e3,<-T];refine Z b k k1 k9 ?_ (by rw[T];exact h0);by_cases D:k<=5
  ·refine .inl ⟨D,?_⟩;rw[bf (show (k:Int)<=5 by omega)]at C;exact ja C
  ·refine .inr ⟨by omega,?_⟩;rw[bz (show ¬ (k:Int)<=5 by omega)]at C;have:=of_decide_eq_false C;omega
 unfold cq;rw[Y,bf ha,bf (show me c.config.aq c.config.bP c.ready x<=1000000 by omega)];rfl
def nL{q:fj}{n:Int}(h:∀i:Nat,q.last.getD i (-1)<=n)(b k:Nat):La q b k<=n:=h _
def C2(g:aK)(q:fj)(e:eB)(C:cD g e.cmd=true)(b k:Nat)(I:1<=k/\k<=9):La (iF g q e) b k=La q b k\/(La (iF g q e) b k=e.at_/\(k:Int)=e.cmd.kind/\(b:Int)=if k<=5 then e.cmd.aA else aE g):=by
 obtain⟨_,D,E,_⟩:=xQ C;obtain⟨O,_⟩:=HK C;unfold iF La;cases kX g q&&(cD g e.cmd&&(aT e.at_ 0 1000000 && !(e.cmd.kind==1&&vV q e.at_)))with
 |false=>exact .inl rfl
 | true=>
  rw[av];dsimp only;rw[cQ,List.getElem?_set,cQ];by_cases hi:(iL g e.cmd).toNat=9*b+k-1
  ·rw[aV hi];by_cases hl:(iL g e.cmd).toNat<q.last.length
   ·rw[aV hl];refine .inr ⟨rfl,?_⟩;have hi:iL g e.cmd=9*(b:Int)+(k:Int)-1:=by omega
    unfold iL at hi;cases hu:aT e.cmd.kind 1 5 with
    | true=>
     rw[hu,av]at hi;have:=bu.1 hu;have:=E this.2;refine⟨by omega,?_⟩;rw[aV];omega
    | false=>
     rw[hu,ax]at hi;have T:¬ e.cmd.kind<=5:=λh=>by rw[bu.2 ⟨D.1,h⟩]at hu;cases hu
     refine⟨by omega,?_⟩;rw[aX];omega
   ·rw[aX hl];refine .inl ?_;rw[<-hi,qL (by omega)]
  ·rw[aX hi];exact .inl rfl
def aiB(g:aK)(q:fj)(e:eB){n:Int}(h:∀ i:Nat,q.last.getD i (-1)<=n)(C:e.at_<=n)(i:Nat):(iF g q e).last.getD i (-1)<=n:=by
 unfold iF;cases kX g q&&(cD g e.cmd&&(aT e.at_ 0 1000000 && !(e.cmd.kind==1&&vV q e.at_)))with
 |false=>exact h i
 | true=>
  rw[av];dsimp only;rw[cQ,List.getElem?_set];have:=h i;rw[cQ]at this;split
  ·split
   ·exact C
   next D E=>rw[<-D,qL (by omega)]at this;exact this
  ·exact this
def count_le{p q:Nat->Bool}:∀ n,(∀ b,b<n->q b=true->p b=true)->(List.range n).countP q<=(List.range n).countP p
 |0,_=>dg _
 | n+1,h=>by
  have E:=count_le (p:=p) (q:=q) n λb hb=>h b (by omega)
  have e:=h n (by omega);rw[List.range_succ,List.countP_append,List.countP_append,List.countP_singleton,List.countP_singleton];cases C:q n<;>cases D:p n<;>simp[C,D]at e ⊢<;>omega
def Io{p q:Nat->Bool}{b:Nat}:∀ n,b<n->(∀ b,b<n->q b=true->p b=true)->p b=true->q b=false->(List.range n).countP q+1<=(List.range n).countP p
 | n+1,hb,h,C,D=>by
  rw[List.range_succ,List.countP_append,List.countP_append,List.countP_singleton,List.countP_singleton];by_cases e:b=n
  ·subst e;have:=count_le (p:=p) (q:=q) b λb hb=>h b (by omega)
   rw[C,D,aV rfl,aX (by decide)];omega
  ·have O:=Io (p:=p) (q:=q) (b:=b) n (by omega) (λb hb=>h b (by omega)) C D;have e:=h n (by omega);cases E:q n<;>cases I:p n<;>simp[E,I]at e ⊢<;>omega
def Ze{p:Nat->Bool}{b n:Nat}(hb:b<n)(h:p b=true):1<=(List.range n).countP p:=List.countP_pos_iff.2 ⟨b,gq.2 hb,h⟩
def Zf(p:Nat->Bool)(n:Nat):(List.range n).countP p<=n:=by
 have:=List.countP_le_length (p:=p) (l:=List.range n)
 rwa [fO]at this
def qI(r:eC):Int:=bif r.bO then r.wait else (r.wait+1) / 2
def uB(d:aa Int)(b:Nat):Bool:=decide (d.getD b 0 >= 4)
def oB(r:cr)(b:Nat):Bool:=(cK r (b:Int)).open_
def cU(g:aK)(d:aa Int):Int:=((List.range (aE g).toNat).countP (uB d):Nat)
def cO(g:aK)(r:cr)(d:aa Int):Int:=((List.range (aE g).toNat).countP (λb=>uB d b&&oB r b):Nat)
structure Du (n t:Int) (g:aK) (r:cr) (q:fj) (d:List Int) (B:Nat):Prop where
 u1:r.aS≠2
 u2:La q (aE g).toNat 7<=t+16/\La q (aE g).toNat 9<=t
 u3:r.aS=1->n<=t+15/\∀i:Nat,q.last.getD i (-1)<=t
 u4:La q B 1<=t/\La q B 2<=t/\La q B 3<=t/\La q B 5<=t/\La q B 4<=t+48
 u5:oB r B=true->n+cU g d+cO g r d<=t+48
 u6:n+3*cU g d<=t+90
 u7:∀b:Nat,(b:Int)<aE g->La q b 5+3*cU g d<=t+88
structure Dx (n t:Int) (c:au):Prop where
 d1:∀i:Nat,c.ready.last.getD i (-1)<=n
 d2:0<=t/\t<=c.now
 d3:100<=qI c.ay+(c.now-t)
 d4:∀b:Nat,c.ay.aB.getD b 0<=4
 d5:∀B:Nat,(B:Int)<aE c.config.aq->uB c.ay.aB B=true->Du n t c.config.aq c.aG c.ready c.ay.aB B
def Fi(g:aK)(d:aa Int):0<=cU g d/\cU g d<=aE g:=by
 have C:=dZ g;have:=Zf (uB d) (aE g).toNat;unfold cU;omega
def Fj(g:aK)(r:cr)(d:aa Int):0<=cO g r d/\cO g r d<=aE g:=by
 have C:=dZ g;have:=Zf (λb=>uB d b&&oB r b) (aE g).toNat;unfold cO;omega
def MB{g:aK}{d:aa Int}{B:Nat}(hB:(B:Int)<aE g)(h:uB d B=true):1<=cU g d:=by
 have:=Ze (p:=uB d) (n:=(aE g).toNat) (b:=B) (by omega) h;unfold cU;omega
def R8{g:aK}{r:cr}{d:aa Int}{B:Nat}(hB:(B:Int)<aE g)(h:uB d B=true)(C:oB r B=true):1<=cO g r d:=by
 have:=Ze (p:=λb=>uB d b&&oB r b) (n:=(aE g).toNat) (b:=B) (by omega) (by rw[h,C];rfl);unfold cO;omega
def Dx.pr{c j:au}{t:Int}(h:Dx c.now t c)(p:Pr c j)(O:bM c=true)(hi:200<=c.config.interval/\c.config.interval<=10000):∃ T,Dx c.now T j:=by
 have k:=Ck.of O;have Y:=bu.1 k.nw;have E:=k.rf;have Z:=(fV.of k.pa).dl;simp only[fS,aH,bu]at E;have hw:=E.2.2;have pN:=p.pN;have b1:=dZ c.config.aq;have d2:=h.d2;have d3:=h.d3;have pF:=p.pF;cases D:c.aG.aS != 2 with
 | false=>
  rw[D,ax]at pF;refine⟨t,⟨by rw[p.pR];exact h.d1,by omega,by rw[pF];omega,by rw[pF];exact h.d4,?_⟩⟩;rw[p.pC,p.pK,p.pR,pF];exact h.d5
 | true=>
  rw[D,av]at pF;unfold zy at pF;by_cases I:0<c.ay.wait-1
  ·rw[aV I]at pF;have hg:qI c.ay<=qI ⟨c.ay.aB,c.ay.wait-1,c.ay.bO⟩+1:=by
    unfold qI;dsimp only;cases c.ay.bO with
    |true=>rw[av,av];omega
    |false=>rw[ax,ax];omega
   refine⟨t,⟨by rw[p.pR];exact h.d1,by omega,by rw[pF];omega,by rw[pF];exact h.d4,?_⟩⟩;rw[p.pC,p.pK,p.pR,pF];exact h.d5
  ·rw[aX I]at pF;have h1:qI c.ay<=1:=by
    unfold qI;cases c.ay.bO with
    |true=>rw[av];omega
    |false=>rw[ax];omega
   have U:∀ b:Nat,c.ay.aB.getD b 0<=3:=λb=>by
    by_cases hb:b<c.ay.aB.length
    ·by_cases C:c.ay.aB.getD b 0 >= 4
     ·have C:uB c.ay.aB b=true:=bf C;have hB:(b:Int)<aE c.config.aq:=by omega
      have:=(h.d5 b hB C).u6;have:=MB hB C;omega
     ·omega
    ·rw[cQ,qL (by omega)];decide
   have wN:100<=qI ⟨c.ay.aB.map sL,bif c.ay.bO then c.config.interval / 2 else c.config.interval,c.ay.bO⟩:=by
    unfold qI;dsimp only;cases c.ay.bO with
    |true=>rw[av,av];omega
    |false=>rw[ax,ax];omega
   refine⟨c.now+1,⟨by rw[p.pR];exact h.d1,by omega,by rw[pF];omega,λb=>?_,λB hB C=>?_⟩⟩
   ·rw[pF];dsimp only;by_cases hb:b<c.ay.aB.length
    ·rw[MA _ _ hb];have:=U b;have:=E1 k.rf _ (cX hb);rw[<-fU 0 hb]at this;unfold sL;rw[bh];split<;>omega
    ·rw[cQ,qL (by rw[fN];omega)];decide
   ·rw[p.pC]at hB ⊢;rw[p.pK,p.pR];have a1:=Fi c.config.aq j.ay.aB;have a2:=Fj c.config.aq c.aG j.ay.aB;have l:=nL h.d1;have l1:=l B 1;have l2:=l B 2;have l3:=l B 3;have l4:=l B 4;have l5:=l B 5;have l7:=l (aE c.config.aq).toNat 7;have l9:=l (aE c.config.aq).toNat 9
    refine⟨bne_iff_ne.1 D,by omega,λ_=>⟨by omega,λi=>by have:=h.d1 i;omega⟩,by omega,λ_=>by omega,by omega,λb hb=>?_⟩
    have:=l b 5;omega
def ia{c:au}{x:aQ}{i:Int}(C:1<=x.kind/\x.kind<=9):(br c x i).aG=cZ c.aG x/\(br c x i).ready=iF c.config.aq c.ready ⟨c.now,x⟩/\(br c x i).now=c.now/\(br c x i).config=c.config:=by
 have acc:∀ i:Nat,(gx (cg c x) i).aG=cZ c.aG x/\(gx (cg c x) i).ready=iF c.config.aq c.ready ⟨c.now,x⟩/\(gx (cg c x) i).now=c.now/\(gx (cg c x) i).config=c.config:=λi=>by
  unfold gx;dsimp only;cases ((cg c x).queue.getD i pU).write<;>exact⟨rfl,rfl,rfl,rfl⟩
 unfold br;rcases kinds C with q|q|q|q|q|q|q|q|q<;>rw[q]<;>simp only[Int.reduceBEq,Int.reduceBNe,av,ax,Bool.or_true,Bool.or_false,Bool.true_or,lK,Bool.or_self]
 ·exact⟨rfl,rfl,rfl,rfl⟩
 ·exact acc _
 ·exact acc _
 ·exact⟨rfl,rfl,rfl,rfl⟩
 ·exact⟨rfl,rfl,rfl,rfl⟩
 ·exact⟨rfl,rfl,rfl,rfl⟩
 ·exact⟨rfl,rfl,rfl,rfl⟩
 ·exact⟨rfl,rfl,rfl,rfl⟩
 ·exact⟨rfl,rfl,rfl,rfl⟩
def mX{c:au}{x:aQ}{i:Int}(O:1<=x.kind/\x.kind<=9)(hb:x.kind=5->x.aA.toNat<c.ay.aB.length)(E:x.kind=5->c.ay.aB.getD x.aA.toNat 0 >= 1):(br c x i).ay.wait=c.ay.wait/\(br c x i).ay.bO=c.ay.bO/\(x.kind≠5->x.kind≠9->(br c x i).ay.aB=c.ay.aB)/\(x.kind=5->∀ b,(br c x i).ay.aB.getD b 0=if x.aA.toNat=b then c.ay.aB.getD b 0-1 else c.ay.aB.getD b 0)/\(x.kind=9->∀ b,b<c.bF.length->(br c x i).ay.aB.getD b 0=0)/\∀ b,(br c x i).ay.aB.getD b 0<=max 0 (c.ay.aB.getD b 0):=by
 by_cases C:x.kind=5
 ·have e:∀ b,(oy c.ay x.aA).aB.getD b 0=if x.aA.toNat=b then c.ay.aB.getD b 0-1 else c.ay.aB.getD b 0:=λb=>(R6 c.ay (hb C) b (E C)).1
  obtain⟨_,w1,T⟩:=R6 c.ay (hb C) 0 (E C);rw[Il c i C]
  refine⟨w1,T,λh=>absurd C h,λ_=>e,λh=>by omega,λb=>?_⟩
  show (oy c.ay x.aA).aB.getD b 0<=_;rw[e b];split<;>omega
 ·by_cases D:x.kind=9
  ·have e:∀ b,(br c x i).ay.aB.getD b 0=if b<c.bF.length then 0 else c.ay.aB.getD b 0:=λb=>by
    rw[Fh c i D];exact Zb c.ay.aB c.bF.length b
   refine⟨by rw[Fh c i D];rfl,by rw[Fh c i D];rfl,λ_ h=>absurd D h,λh=>absurd h C,λ_ b hb=>by rw[e b,aV hb],λb=>?_⟩
   rw[e b];split<;>omega
  ·have e:(br c x i).ay=c.ay:=by
    by_cases I:x.kind=1
    ·rw[Ik c i I];rfl
    ·exact(zz O I C D).2.2.1
   rw[e];exact⟨rfl,rfl,λ_ _=>rfl,λh=>absurd h C,λh=>absurd h D,λb=>by omega⟩
def zB{r:cr}{x:aQ}{b:Nat}(h:b≠x.aA.toNat):cK (cZ r x) (b:Int)=cK r (b:Int):=by
 have key:∀ v:ji,cK ⟨r.aO.set x.aA.toNat v,r.aS⟩ (b:Int)=cK r (b:Int):=λv=>by
  unfold cK;rw[bD,cQ,List.getElem?_set_ne (λe=>h e.symm),<-cQ]
 unfold cZ;cases x.kind==1 with
 |true=>exact key _
 | false=>
  cases x.kind==4 with
  |true=>exact key _
  |false=>cases x.kind==6<;>cases x.kind==8<;>cases (x.kind==7 ||x.kind==9)<;>rfl
def Ip{r:cr}{x:aQ}{b:Nat}(C:x.kind=4)(h:b=x.aA.toNat):(cK (cZ r x) (b:Int)).open_=false:=by
 unfold cZ cK;rw[C];show ((r.aO.set x.aA.toNat (⟨false,0⟩:ji)).getD (b:Int).toNat ⟨false,0⟩).open_=false;rw[bD,h,cQ,List.getElem?_set,aV rfl];split<;>rfl
def aw0{r:cr}{x:aQ}(C:x.kind≠1)(D:x.kind≠4)(b:Int):cK (cZ r x) b=cK r b:=by
 unfold cZ;rw[dy C,dy D];cases x.kind==6<;>cases x.kind==8<;>cases (x.kind==7 ||x.kind==9)<;>rfl
def kC(t:dw):Prop:=∃r w:Int,1<=r/\r<=4/\4<=w/\w<=8/\t=gZ r w
def aw1{j:au}{n t:Int}(E:Pq j)(I:kC j.config.bP)(hn:n=j.now-1)(d1:∀ i:Nat,j.ready.last.getD i (-1)<=n){B:Nat}(u:Du n t j.config.aq j.aG j.ready j.ay.aB B)(O:j.aG.aS=0)(T:oB j.aG B=true)(hT:t+33<=j.now):cq j ⟨4,(B:Int),0,0⟩=true:=by
 obtain⟨r,w,U,Y,w1,Z,et⟩:=I
 refine Im E (λh=>absurd (show (4:Int)=1 from h) (by decide)) ?_ λb k k1 k9 hu h0=>?_
 ·show (j.aG.aS==0&&(cK j.aG (B:Int)).open_)=true;rw[O,show (cK j.aG (B:Int)).open_=true from T];rfl
 ·rw[et];obtain⟨g1,C,D⟩:=Zc (g:=j.config.aq) (a:=⟨(k:Int),if k<=5 then (b:Int)else 0,0,0⟩) ⟨U,Y⟩ ⟨w1,Z⟩ ⟨by dsimp only;omega,by dsimp only;omega⟩ (B:Int);dsimp only at C D;have hl:=nL d1 b k;have n6:=u.u2;have Zg:=u.u4;by_cases h7:k=7
  ·obtain rfl:b=(aE j.config.aq).toNat:=by omega
   have:=C (by omega);subst h7;omega
  ·by_cases h9:k=9
   ·obtain rfl:b=(aE j.config.aq).toNat:=by omega
    subst h9;omega
   ·by_cases hb:b=B/\k<=3
    ·obtain⟨rfl,h3⟩:=hb;have:k=1\/k=2\/k=3:=by omega
     rcases this with rfl|rfl|rfl<;>omega
    ·have:=D (by omega) (by omega) (by
      by_cases h5:k<=5
      ·rw[aV h5];omega
      ·exact .inr (by omega))
     omega
def aw2{j:au}{n t:Int}(T:Pq j)(U:kC j.config.bP)(hn:n=j.now-1)(d1:∀ i:Nat,j.ready.last.getD i (-1)<=n){B:Nat}(u:Du n t j.config.aq j.aG j.ready j.ay.aB B)(Y:j.aG.aS=0)(Z:oB j.aG B=false)(hT:t+67<=j.now)(C:∀ b:Nat,(b:Int)<aE j.config.aq->La j.ready b 5+3<=j.now):cq j ⟨5,(B:Int),0,0⟩=true:=by
 obtain⟨r,w,r1,r2,w1,w2,et⟩:=U
 refine Im T (λh=>absurd (show (5:Int)=1 from h) (by decide)) ?_ λb k k1 k9 hu h0=>?_
 ·show (j.aG.aS==0 && !(cK j.aG (B:Int)).open_)=true;rw[Y,show (cK j.aG (B:Int)).open_=false from Z];rfl
 ·rw[et];obtain⟨g1,D,E,I,O⟩:=aiA (g:=j.config.aq) (a:=⟨(k:Int),if k<=5 then (b:Int)else 0,0,0⟩) ⟨r1,r2⟩ ⟨w1,w2⟩ ⟨by dsimp only;omega,by dsimp only;omega⟩ (B:Int);dsimp only at D E I O;have hl:=nL d1 b k;have n6:=u.u2;have Zg:=u.u4;by_cases h7:k=7
  ·obtain rfl:b=(aE j.config.aq).toNat:=by omega
   have:=D (by omega);subst h7;omega
  ·by_cases h9:k=9
   ·obtain rfl:b=(aE j.config.aq).toNat:=by omega
    subst h9;omega
   ·by_cases hb:b=B/\k<=5
    ·obtain⟨rfl,h3⟩:=hb;have:k=1\/k=2\/k=3\/k=4\/k=5:=by omega
     rcases this with rfl|rfl|rfl|rfl|rfl
     ·omega
     ·omega
     ·omega
     ·have:=E rfl;omega
     ·omega
    ·by_cases e5:k=5
     ·subst e5;have:=I rfl (by rw[aV];omega);have:=C b (by omega);omega
     ·have:=O (by omega) (by omega) (by omega) (by
       by_cases C:k<=5
       ·rw[aV C];exact .inl (by omega)
       ·exact .inr (by omega))
      omega
def aw3{j:au}{t:Int}(C:Pq j)(D:kC j.config.bP)(E:j.aG.aS=1)(hl:∀ i:Nat,j.ready.last.getD i (-1)<=t)(O:t+16<=j.now):cq j ⟨7,0,0,0⟩=true:=by
 obtain⟨r,w,T,U,w1,Y,I⟩:=D
 refine Im C (λh=>absurd (show (7:Int)=1 from h) (by decide)) ?_ λb k Z k9 hu h0=>?_
 ·show (j.aG.aS==1)=true;rw[E];rfl
 ·rw[I];have:=awZ (g:=j.config.aq) (r:=r) (w:=w) (a:=⟨(k:Int),if k<=5 then (b:Int)else 0,0,0⟩) ⟨by dsimp only;omega,by dsimp only;omega⟩;have:=nL hl b k;omega
def aw4{g:aK}{x:aQ}(h:cD g x=true)(C:x.kind=4):x=⟨4,x.aA,0,0⟩:=by
 simp only[cD,aH]at h;obtain⟨_,_,_,D,E⟩:=h;rw[C]at D E;have I:x.row=0:=dO.1 D;have O:x.cu=0:=dO.1 E;clear D E;obtain⟨k,b,r,c⟩:=x;dsimp only at C I O;subst C I O;rfl
def R9{c:au}(h:sG c=true):cL c=bif c.aS.state==1 then 7 else bif c.aS.state==2 then 9 else 0:=by
 unfold cL A6;rw[h];rfl
def aiC{c:au}{b:Int}(h:b∈bV 0 c.ay.aB):sG c=true:=by
 have:0<(bV 0 c.ay.aB).length:=List.length_pos_of_mem h;unfold sG;rw[bf (show ((bV 0 c.ay.aB).length:Int) > 0 by omega),Bool.or_true,Bool.or_true]
def Dx.core{j:au}{t:Int}(h:Dx (j.now-1) t j)(E:Pq j)(T:kC j.config.bP)(U:j.aG.aS=0)(Z:∀ b∈bV 0 j.ay.aB,cq j (fI j b)=false){B:Nat}(hB:(B:Int)<aE j.config.aq)(I:uB j.ay.aB B=true):(oB j.aG B=true->j.now+cU j.config.aq j.ay.aB+cO j.config.aq j.aG j.ay.aB<=t+48)/\j.now+3*cU j.config.aq j.ay.aB<=t+90:=by
 have u:=h.d5 B hB I;have b1:=dZ j.config.aq;have a1:=Fi j.config.aq j.ay.aB;have a2:=Fj j.config.aq j.aG j.ay.aB;have C:=Z _ (C1 E (b:=(B:Int)) (by omega) hB (ja I));unfold fI qG at C
 refine⟨λD=>?_,?_⟩
 ·rw[show (cK j.aG (B:Int)).open_=true from D,av]at C;by_cases O:t+33<=j.now
  ·rw[aw1 E T rfl h.d1 u U D O]at C;cases C
  ·omega
 ·by_cases O:t+67<=j.now
  ·cases D:oB j.aG B with
   | true=>
    have:=u.u5 D;have:=R8 hB I D;omega
   | false=>
    rw[show (cK j.aG (B:Int)).open_=false from D,ax]at C;by_cases Y:∀b:Nat,(b:Int)<aE j.config.aq->La j.ready b 5+3<=j.now
    ·rw[aw2 E T rfl h.d1 u U D O Y]at C;cases C
    ·obtain⟨b,hb⟩:=Classical.not_forall.1 Y;obtain⟨hb,iu⟩:=Classical.not_imp.1 hb;have:=u.u7 b hb;omega
  ·omega
def Du.stay{n n' t:Int}{g:aK}{r r':cr}{q D:fj}{d:aa Int}{B:Nat}(u:Du n t g r q d B)(hB:(B:Int)<aE g)(hp:r'.aS=0)
  (C:∀b k:Nat,1<=k->k<=9->(b=B/\k<=5\/k=5\/k=7\/k=9)->La D b k=La q b k) (E:oB r' B=true->n'+cU g d+cO g r' d<=t+48) (I:n'+3*cU g d<=t+90):Du n' t g r' D d B:=by
 have O:=C B 1 (by omega) (by omega) (by omega);have T:=C B 2 (by omega) (by omega) (by omega);have U:=C B 3 (by omega) (by omega) (by omega);have Y:=C B 4 (by omega) (by omega) (by omega);have Z:=C B 5 (by omega) (by omega) (by omega);have e7:=C (aE g).toNat 7 (by omega) (by omega) (by omega);have e9:=C (aE g).toNat 9 (by omega) (by omega) (by omega)
 refine⟨by omega,by rw[e7,e9];exact u.u2,λh=>by omega,by rw[O,T,U,Y,Z];exact u.u4,E,I,λb hb=>?_⟩
 rw[C b 5 (by omega) (by omega) (by omega)];exact u.u7 b hb
def Dx.fn{j y:au}{t:Int}(h:Dx (j.now-1) t j)(hz:bR j)(hk:bM j=true)(ht:kC j.config.bP)(hf:Fn j y):Dx j.now t y:=by
 have D:=Pq.of hz hk;have b1:=dZ j.config.aq;have ps:=D.ps;have Be:=D.dl;have CX:=(fV.of (Ck.of hk).pa).tl;have C3:=(zj D.p.rk).2.2.1;have up:∀{B:Nat},(B:Int)<aE j.config.aq->uB j.ay.aB B=true->(B:Int)∈bV 0 j.ay.aB:=λhB U=>C1 D (by omega) hB (ja U)
 have b8:aE j.config.aq<=8:=by have:=D.rf;have:=xV this;omega
 rcases hf with ⟨k0,rfl⟩|⟨hm,rfl⟩
 ·refine⟨λi=>by have:=h.d1 i;omega,h.d2,h.d3,h.d4,λB hB U=>?_⟩
  have u:=h.d5 B hB U;have a1:=Fi y.config.aq y.ay.aB;have a2:=Fj y.config.aq y.aG y.ay.aB;have O:=R9 (aiC (up hB U));rcases Mz D with ⟨hs,Y⟩|⟨hs,⟨b,hb,e⟩|⟨gG,_⟩⟩
  ·have I:y.aG.aS=1:=by have:=u.u1;omega
   rw[ps,I]at O;have O:cL y=7:=O;have My:=u.u3 I;have hT:¬ t+16<=y.now:=λhT=>by
    have hr:=aw3 D ht I My.2 hT;rcases Y with ⟨_,e|e⟩|e
    ·omega
    ·rw[O,hr]at e;cases e
    ·rw[e]at k0;dsimp only at k0;omega
   exact⟨u.u1,u.u2,λ_=>⟨by omega,My.2⟩,u.u4,λ_=>by omega,by omega,u.u7⟩
  ·exfalso;rw[e]at k0;unfold fI at k0;rcases yg y b ⟨5,b,0,0⟩with e|⟨e,_⟩<;>rw[e]at k0<;>dsimp only at k0<;>omega
  ·have I:y.aG.aS=0:=by omega
   obtain⟨c1,c2⟩:=h.core D ht I gG hB U;exact u.stay hB I (λ_ _ _ _ _=>rfl) c1 c2
 ·have aiD:=Mz D;have hpr:=aiw D;generalize hX:(gJ j).1=x at hm aiD hpr ⊢;generalize (gJ j).2=i at hm ⊢;obtain⟨_,ha,_,_⟩:=CZ hz D hm;obtain⟨_,_,Y,rM⟩:=zg ha;simp only[lu,cq,aH]at hm;have hc:=hm.1;have C4:=hm.2.1.1;have oO:cq j x=true:=by
   simp only[cq,aH];exact hm.2.1
  obtain⟨e1,e2,e3,e4⟩:=ia (c:=j) (x:=x) (i:=i) Y;have hb5:x.kind=5->x.aA.toNat<j.ay.aB.length:=λk=>by have:=rM (by omega);have:=D.p.bl;omega
  obtain⟨w1,w2,w3,w4,w5,w6⟩:=mX (c:=j) (x:=x) (i:=i) Y hb5 λk=>(hpr k).1
  refine⟨by rw[e2];exact aiB _ _ _ (λi=>by have:=h.d1 i;omega) (dU _),by rw[e3];exact h.d2,?_,λb=>by have:=w6 b;have:=h.d4 b;omega,λB hB U=>?_⟩
  ·have:qI (br j x i).ay=qI j.ay:=by unfold qI;rw[w1,w2]
   rw[this,e3];exact h.d3
  ·rw[e4]at hB ⊢;rw[e1,e2];have r7:uB j.ay.aB B=true:=bf (by have:=ja U;have:=w6 B;omega);have u:=h.d5 B hB r7;have a1:=Fi j.config.aq j.ay.aB;have a2:=Fj j.config.aq j.aG j.ay.aB;have O:=R9 (aiC (up hB r7));have la:=C2 j.config.aq j.ready ⟨j.now,x⟩ hc;have hBb:∀ {b k:Nat},(k:Int)=x.kind->k<=5->(b:Int)=(if k<=5 then x.aA else aE j.config.aq)->b=x.aA.toNat:=λZ T h3=>by rw[aV T]at h3;omega
   rcases aiD with ⟨hs,hx7⟩|⟨hs,⟨b,hb,e⟩|⟨gG,aw5⟩⟩
   ·-- the power comes back
    have I:j.aG.aS=1:=by have:=u.u1;omega
    rw[ps,I]at O;have O:cL j=7:=O;have ex:x=⟨7,0,0,0⟩:=by
     rcases hx7 with ⟨e,_⟩|e
     ·rw[e]at Y;exact absurd Y.1 (by decide)
     ·rw[e,O]
    have k7:x.kind=7:=by rw[ex]
    have My:=u.u3 I;rw[w3 (by omega) (by omega)];have C:∀ b k:Nat,1<=k->k<=9->k≠7->La (iF j.config.aq j.ready ⟨j.now,x⟩) b k=La j.ready b k:=λb k Z h9 hk=>by
     rcases la b k ⟨Z,h9⟩with e|⟨_,e,_⟩
     ·exact e
     ·dsimp only at e;omega
    have I8:(cZ j.aG x).aS=0:=by rw[ex];rfl
    have l7:La (iF j.config.aq j.ready ⟨j.now,x⟩) (aE j.config.aq).toNat 7<=t+16:=by
     have:=nL (aiB j.config.aq j.ready ⟨j.now,x⟩ (n:=j.now) (λi=>by have:=h.d1 i;omega) (dU _)) (aE j.config.aq).toNat 7;omega
    refine⟨by omega,⟨l7,by rw[C _ 9 (by omega) (by omega) (by omega)];exact u.u2.2⟩,λh=>by omega,?_,λ_=>?_,by omega,λb hb=>by rw[C b 5 (by omega) (by omega) (by omega)];exact u.u7 b hb⟩
    ·rw[C B 1 (by omega) (by omega) (by omega),C B 2 (by omega) (by omega) (by omega),C B 3 (by omega) (by omega) (by omega),C B 4 (by omega) (by omega) (by omega),C B 5 (by omega) (by omega) (by omega)];exact u.u4
    ·have:=Fj j.config.aq (cZ j.aG x) j.ay.aB;omega
   ·-- an urgent bank
    have I:j.aG.aS=0:=by omega
    obtain⟨v1,v2,v3⟩:=R4 D hb;have qJ:uB j.ay.aB b.toNat=true:=bf v3;have L2:((b.toNat:Nat):Int)=b:=Int.toNat_of_nonneg v1;unfold fI at e;rcases yg j b ⟨5,b,0,0⟩with e5|⟨e5,e6⟩
    ·-- it closes
     have ho:oB j.aG b.toNat=true:=by
      unfold qG at e5;unfold oB;rw[L2];cases E:(cK j.aG b).open_ with
      |true=>rfl
      |false=>rw[E]at e5;cases e5
     have ex:x=⟨4,b,0,0⟩:=e.trans e5;have k4:x.kind=4:=by rw[ex]
     have xb:x.aA=b:=by rw[ex]
     have I8:(cZ j.aG x).aS=0:=by rw[ex];exact I
     have hu5:=(h.d5 b.toNat (by omega) qJ).u5 ho;have cu1:=MB (g:=j.config.aq) (by omega) qJ;have co1:=R8 (g:=j.config.aq) (by omega) qJ ho;have MC:cO j.config.aq (cZ j.aG x) j.ay.aB+1<=cO j.config.aq j.aG j.ay.aB:=by
      have:=Io (p:=λb=>uB j.ay.aB b&&oB j.aG b) (q:=λb=>uB j.ay.aB b&&oB (cZ j.aG x) b) (b:=b.toNat) (aE j.config.aq).toNat (by omega) (λb' _ uZ=>by
       rw[aH]at uZ ⊢;refine⟨uZ.1,?_⟩;by_cases eb:b'=x.aA.toNat
       ·have:=Ip (r:=j.aG) k4 eb;have T:=uZ.2;unfold oB at T;rw[this]at T;cases T
       ·have:=zB (r:=j.aG) eb;have T:=uZ.2;unfold oB at T ⊢;rw[this]at T;exact T) (by rw[qJ,ho];rfl) (by
       have:=Ip (r:=j.aG) (b:=b.toNat) k4 (by rw[xb]);unfold oB;rw[this,Bool.and_false])
      unfold cO;omega
     rw[w3 (by omega) (by omega)];have C:∀ b k:Nat,1<=k->k<=9->k≠4->La (iF j.config.aq j.ready ⟨j.now,x⟩) b k=La j.ready b k:=λb k Z h9 hk=>by
      rcases la b k ⟨Z,h9⟩with e|⟨_,e,_⟩
      ·exact e
      ·dsimp only at e;omega
     have l4:La (iF j.config.aq j.ready ⟨j.now,x⟩) B 4<=t+48:=by
      rcases la B 4 ⟨by omega,by omega⟩with e|⟨e,_,_⟩
      ·rw[e];exact u.u4.2.2.2.2
      ·rw[e];dsimp only;omega
     refine⟨by omega,by rw[C _ 7 (by omega) (by omega) (by omega),C _ 9 (by omega) (by omega) (by omega)];exact u.u2,λh=>by omega,?_,λhB'=>by omega,by omega,λb hb=>by rw[C b 5 (by omega) (by omega) (by omega)];exact u.u7 b hb⟩
     rw[C B 1 (by omega) (by omega) (by omega),C B 2 (by omega) (by omega) (by omega),C B 3 (by omega) (by omega) (by omega),C B 5 (by omega) (by omega) (by omega)];exact⟨u.u4.1,u.u4.2.1,u.u4.2.2.1,u.u4.2.2.2.1,l4⟩
    ·-- it is refreshed
     have ex:x=⟨5,b,0,0⟩:=e.trans e5;have k5:x.kind=5:=by rw[ex]
     have xb:x.aA=b:=by rw[ex]
     have w4:=w4 k5;rw[xb]at w4;have er:cZ j.aG x=j.aG:=by rw[ex];rfl
     have F6:=h.d4 b.toNat;have bQ:B≠b.toNat:=λeb=>by
      have:=ja U;rw[w4 B,aV eb.symm,eb]at this;omega
     have Tt:∀ b',uB (br j x i).ay.aB b'=true->uB j.ay.aB b'=true:=λb' E=>bf (by
      have:=ja E;have:=w6 b';omega)
     have MD:uB (br j x i).ay.aB b.toNat=false:=bz (by rw[w4 b.toNat,aV rfl];omega);have JA:cU j.config.aq (br j x i).ay.aB+1<=cU j.config.aq j.ay.aB:=by
      have:=Io (p:=uB j.ay.aB) (q:=uB (br j x i).ay.aB) (b:=b.toNat) (aE j.config.aq).toNat (by omega) (λb' _ E=>Tt b' E) qJ MD;unfold cU;omega
     have MC:cO j.config.aq j.aG (br j x i).ay.aB<=cO j.config.aq j.aG j.ay.aB:=by
      have:=count_le (p:=λb=>uB j.ay.aB b&&oB j.aG b) (q:=λb=>uB (br j x i).ay.aB b&&oB j.aG b) (aE j.config.aq).toNat λb' _ E=>by
       rw[aH]at E ⊢;exact⟨Tt b' E.1,E.2⟩
      unfold cO;omega
     rw[er];have C:∀ b' k:Nat,1<=k->k<=9->(k≠5\/b'≠b.toNat)->La (iF j.config.aq j.ready ⟨j.now,x⟩) b' k=La j.ready b' k:=λb' k Z h9 hk=>by
      rcases la b' k ⟨Z,h9⟩with e|⟨_,e,e'⟩
      ·exact e
      ·dsimp only at e e';have:=hBb e (by omega) e';rw[xb]at this;omega
     have hu6:=u.u6;have hu7:=u.u7
     refine⟨by omega,by rw[C _ 7 (by omega) (by omega) (by omega),C _ 9 (by omega) (by omega) (by omega)];exact u.u2,λh=>by omega,?_,λhB'=>by have:=u.u5 hB';omega,by omega,λb' s8=>?_⟩
     ·rw[C B 1 (by omega) (by omega) (by omega),C B 2 (by omega) (by omega) (by omega),C B 3 (by omega) (by omega) (by omega),C B 4 (by omega) (by omega) (by omega),C B 5 (by omega) (by omega) (by omega)];exact u.u4
     ·rcases la b' 5 ⟨by omega,by omega⟩with e | ⟨e,_,_⟩
      ·rw[e];have:=hu7 b' s8;omega
      ·rw[e];dsimp only;omega
   ·-- another command
    have I:j.aG.aS=0:=by omega
    obtain⟨c1,c2⟩:=h.core D ht I gG hB r7;have hwn:cL j=0:=by
     rw[hs]at O;exact O
    have Zh:x.kind<=4/\uB j.ay.aB x.aA.toNat=false:=by
     have cl:∀ (b:Int) (z:aQ),z.kind=1->z.aA=b->uB j.ay.aB b.toNat=false->x=qG j b z->x.kind<=4/\uB j.ay.aB x.aA.toNat=false:=λb z z1 z2 z3 z4=>by
      rcases yg j b z with e|⟨e,_⟩
      ·rw[z4,e];exact⟨by dsimp only;omega,z3⟩
      ·rw[z4,e,z1,z2];exact⟨by omega,z3⟩
     rcases aw5 with ⟨k,zC,iV,e⟩|⟨k,zC,wm,e⟩|e|e
     ·unfold rK at iV;rw[aH,ff]at iV;exact cl (js j k).aA ⟨1,(js j k).aA,(js j k).row,0⟩ rfl rfl iV.1 e
     ·unfold gC at wm;simp only[aH,ff]at wm;obtain⟨n1,n2⟩:=Y8 j.aG (ey j k) (mU j.queue k);rw[e];unfold cG;rw[n1];exact⟨by omega,wm.2.1⟩
     ·rcases Y9 D e with ⟨_,_,_,Zi,_⟩ | k4 | ⟨_,e⟩
      ·have:=up hB r7;rw[Zi]at this;cases this
      ·refine⟨by omega,?_⟩;cases qJ:uB j.ay.aB x.aA.toNat with
       |false=>rfl
       | true=>
        obtain⟨x0,x1⟩:=rM (by omega);have iw:=D.p.bl;have oZ:=gG _ (C1 D (b:=x.aA) x0 (by omega) (ja qJ));have mE:(cK j.aG x.aA).open_=true:=by
         unfold kj at C4;rw[k4]at C4;have C4:(j.aG.aS==0&&(cK j.aG x.aA).open_)=true:=C4;rw[aH]at C4;exact C4.2
        unfold fI qG at oZ;rw[mE,av,<-aw4 hc k4,oO]at oZ;cases oZ
      ·exact absurd hwn e
     ·rw[e]at Y;exact absurd Y.1 (by decide)
    rw[w3 (by omega) (by omega)];have Sa:∀ b',uB j.ay.aB b'=true->oB (cZ j.aG x) b'=oB j.aG b':=λb' E=>by
     unfold oB;rw[zB (λeb=>by rw[eb,Zh.2]at E;cases E)]
    have MC:cO j.config.aq (cZ j.aG x) j.ay.aB<=cO j.config.aq j.aG j.ay.aB:=by
     have:=count_le (p:=λb=>uB j.ay.aB b&&oB j.aG b) (q:=λb=>uB j.ay.aB b&&oB (cZ j.aG x) b) (aE j.config.aq).toNat λb' _ E=>by
      rw[aH]at E ⊢;exact⟨E.1,by rw[<-Sa b' E.1];exact E.2⟩
     unfold cO;omega
    have I8:(cZ j.aG x).aS=0:=(YT (by omega)).trans I
    refine u.stay hB I8 (λb' k Z h9 hk=>?_) (λho=>?_) c2
    ·rcases la b' k ⟨Z,h9⟩with e | ⟨_,e,e'⟩
     ·exact e
     ·dsimp only at e e';exfalso;rcases hk with ⟨hk,xu⟩ | hk | hk | hk
      ·have:=hBb e xu e';rw[<-this,hk]at Zh;rw[Zh.2]at r7;cases r7
      ·omega
      ·omega
      ·omega
    ·have:=c1 (by rw[<-Sa B r7];exact ho);omega
structure rO (R:Nat) (t:dc) (f:Nat->Nat):Prop where
 tr:t.rows.length=16
 tc:t.counts.length=16
 ts:t.gj=0
 te:∀i,i<16->(t.rows.getD i (-1) = -1/\t.counts.getD i 0=0)\/∃r,r<R/\t.rows.getD i (-1)=(r:Int)/\t.counts.getD i 0=(f r:Int)/\1<=f r
 tf:∀r,r<R->1<=f r->∃i,i<16/\t.rows.getD i (-1)=(r:Int)
 td:∀i j,i<16->j<16->t.rows.getD i (-1)=t.rows.getD j (-1)->t.rows.getD i (-1) ≠ -1->i=j
def rO.new(R:Nat):rO R (rI 16) λ_=>0:=by
 have C:∀i,i<16->(rI 16).rows.getD i (-1) = -1/\(rI 16).counts.getD i 0=0:=by decide
 exact⟨by decide,by decide,rfl,λi hi=>.inl (C i hi),λr _ h=>absurd h (by decide),λi j hi _ _ h=>absurd (C i hi).1 h⟩
def rO.aiE{R:Nat}{t:dc}{f:Nat->Nat}(h:rO R t f)(hR:R<=16)(T:∀ r,r<R->f r<=100000):oq t=true:=by
 have U:=h.tr;have Y:=h.tc;unfold oq;rw[U,Y,h.ts];simp only[aH];refine⟨by decide,by decide,by decide,?_⟩;rw[cm];intro i hi;have hi:=gq.1 hi;have D:t.rows.getD i (-1)=t.rows[i]:=fU _ (by omega);have Z:t.counts.getD i 0=t.counts[i]:=fU _ (by omega);rw[Q2 (by omega) (by omega),h.ts];have O:=h.te i hi;rw[D,Z]at O;rcases O with ⟨C,E⟩|⟨r,hr,C,E,e3⟩
 ·rw[C,E];rfl
 ·have:=T r hr;rw[C,E,bu.2 ⟨by omega,by omega⟩,bu.2 ⟨by omega,by omega⟩,iW (show ¬ (r:Int) = -1 by omega),dy (show ¬ (r:Int) = -1 by omega)];have hn:((t.rows.take i).any λx=>(r:Int)==x)=false:=by
   rw[jV];intro x hx I;obtain⟨j,hj,rfl⟩:=List.mem_take_iff_getElem.1 hx;have I:=dO.1 I;have g3:t.rows.getD j (-1)=t.rows[j]:=fU _ (by omega);have:=h.td i j hi (by omega) (by rw[D,g3,C];exact I) (by rw[D,C];omega);omega
  rw[hn];rfl
def rO.room{R:Nat}{t:dc}{f:Nat->Nat}(h:rO R t f)(hR:R<16):∃ i,i<16/\t.counts.getD i 0=0:=by
 refine Classical.byContradiction λT=>?_
 have I:∀ i,i<16->∃ r,r<R/\t.rows.getD i (-1)=(r:Int):=λi hi=>by
  rcases h.te i hi with ⟨_,D⟩|⟨r,E,C,_⟩
  ·exact absurd ⟨i,hi,D⟩ T
  ·exact⟨r,E,C⟩
 have:=RM R ((List.range 16).map λi=>(t.rows.getD i (-1)).toNat) (λx U=>by
  obtain⟨i,hi,rfl⟩:=iZ.1 U;obtain⟨r,E,e⟩:=I i (gq.1 hi);rw[e,bD];exact E) (by
  rw[sU];intro i j hi O Y e;rw[fN,fO]at hi O;rw[List.getElem_map,List.getElem_map,qb,qb]at e;obtain⟨r,E,C⟩:=I i hi;obtain⟨Z,ua,D⟩:=I j O;rw[C,D,bD,bD]at e;have:=h.td i j hi O (by rw[C,D,e]) (by rw[C];omega);omega)
 rw[fN,fO]at this;omega
def rO.trk{R:Nat}{t:dc}{f:Nat->Nat}(h:rO R t f)(hR:R<16){row:Nat}(hr:row<R):rO R (jQ t (row:Int)) (λr=>if r=row then f r+1 else f r)/\∃ i,tQ t (row:Int)=some i/\(jQ t (row:Int)).counts.getD i 0=((f row+1:Nat):Int):=by
 have h1:=h.tr;have h2:=h.tc;unfold jQ tQ;cases hf:t.rows.findIdx? (λe=>e==(row:Int))with
 | some i=>
  obtain⟨hi,hp⟩:=CR hf;have T:i<16:=by omega
  have er:t.rows.getD i (-1)=(row:Int):=(fU _ hi).trans (dO.1 hp);have ec:t.counts.getD i 0=(f row:Int):=by
   rcases h.te i T with ⟨C,_⟩|⟨r,_,C,I,_⟩
   ·omega
   ·rw[I];congr 1;congr 1;omega
  have U:(t.counts.set i (t.counts.getD i 0+1)).getD i 0=((f row+1:Nat):Int):=by
   rw[oD _ (by omega),ec];rfl
  dsimp only
  refine⟨⟨h1,by rw[jg];exact h2,h.ts,λj D=>?_,λr ua O=>?_,h.td⟩,i,rfl,U⟩
  ·dsimp only;by_cases e:i=j
   ·subst e;exact .inr ⟨row,hr,er,by rw[aV rfl];exact U,by rw[aV rfl];omega⟩
   ·rw[getD_set_ne _ e];rcases h.te j D with C | ⟨r,k1,Y,k3,k4⟩
    ·exact .inl C
    ·have Z:r≠row:=λE=>e (h.td i j T D (by rw[er,Y,E]) (by rw[er];omega))
     exact .inr ⟨r,k1,Y,by rw[aX Z];exact k3,by rw[aX Z];exact k4⟩
  ·by_cases e:r=row
   ·subst e;exact⟨i,T,er⟩
   ·rw[aX e]at O;exact h.tf r ua O
 | none=>
  have hn:∀ i,i<16->t.rows.getD i (-1)≠(row:Int):=λi hi e=>by
   have g1:t.rows.getD i (-1)=t.rows[i]:=fU _ (by omega);have:=List.findIdx?_eq_none_iff.1 hf t.rows[i] (cX _);rw[<-g1,e,gu]at this;cases this
  have f0:f row=0:=by
   cases hz:f row with
   |zero=>rfl
   | succ k=>
    obtain⟨i,hi,e⟩:=h.tf row hr (by omega);exact absurd e (hn i hi)
  cases O:t.counts.findIdx? (λe=>e==t.gj)with
  | none=>
   obtain⟨i,hi,e⟩:=h.room hR;have g2:t.counts.getD i 0=t.counts[i]:=fU _ (by omega);have:=List.findIdx?_eq_none_iff.1 O t.counts[i] (cX _);rw[<-g2,e,h.ts,gu]at this;cases this
  | some i=>
   obtain⟨hi,hp⟩:=CR O;have T:i<16:=by omega
   have ec:t.counts.getD i 0=0:=(fU _ hi).trans (by rw[dO.1 hp];exact h.ts);have er:t.rows.getD i (-1) = -1:=by
    rcases h.te i T with ⟨C,_⟩|⟨r,_,_,I,e3⟩
    ·exact C
    ·omega
   have U:(t.counts.set i (t.gj+1)).getD i 0=((f row+1:Nat):Int):=by
    rw[oD _ (by omega),h.ts,f0];rfl
   have jx:(t.rows.set i (row:Int)).getD i (-1)=(row:Int):=oD _ (by omega);dsimp only
   refine⟨⟨by rw[jg];exact h1,by rw[jg];exact h2,h.ts,λj D=>?_,λr ua O=>?_,λj k D hk=>?_⟩,i,rfl,U⟩
   ·dsimp only;by_cases e:i=j
    ·subst e;exact .inr ⟨row,hr,jx,by rw[aV rfl];exact U,by rw[aV rfl];omega⟩
    ·rw[getD_set_ne _ e,getD_set_ne _ e];rcases h.te j D with C | ⟨r,k1,Y,k3,k4⟩
     ·exact .inl C
     ·have Z:r≠row:=λE=>hn j D (by rw[Y,E])
      exact .inr ⟨r,k1,Y,by rw[aX Z];exact k3,by rw[aX Z];exact k4⟩
   ·by_cases e:r=row
    ·subst e;exact⟨i,T,jx⟩
    ·rw[aX e]at O;obtain⟨j,D,ej⟩:=h.tf r ua O;exact⟨j,D,(getD_set_ne _ (λE=>by subst E;omega)).trans ej⟩
   ·dsimp only;by_cases C:i=j
    ·subst C;by_cases I:i=k
     ·exact λ_ _=>I
     ·rw[jx,getD_set_ne _ I];exact λE=>absurd E.symm (hn k hk)
    ·by_cases I:i=k
     ·subst I;rw[jx,getD_set_ne _ C];exact λE=>absurd E (hn j D)
     ·rw[getD_set_ne _ C,getD_set_ne _ I];exact h.td j k D hk
def rO.step{R:Nat}{t:dc}{f:Nat->Nat}(h:rO R t f)(hR:R<16){row:Nat}(C:row<R){L:Nat}(Y:2<=L)(Z:L<=1000)(D:∀ r,r<R->f r<100000):qE t (row:Int) (L:Int)=(jQ t (row:Int),decide ((f row+1) % L=0))/\rO R (jQ t (row:Int)) (λr=>if r=row then f r+1 else f r):=by
 obtain⟨E,i,I,O⟩:=h.trk hR C;refine⟨?_,E⟩;have T:=h.aiE (by omega) λr C=>by have:=D r C;omega
 have U:=E.aiE (by omega) λr C=>by
  have:=D r C;split<;>omega
 unfold qE;rw[T,U,bu.2 ⟨by omega,by omega⟩,bu.2 ⟨by omega,by omega⟩,I];show (jQ t (row:Int),((jQ t (row:Int)).counts.getD i 0).tmod (L:Int)==0)=_;rw[O,uT (by omega),<-Int.natCast_emod];congr 1;rw[Bool.eq_iff_iff,dO,ij];omega
def kL(b r:Nat)(a:aN):Bool:=eG ⟨(b:Int),(r:Int),0⟩ a
def Fk{b r:Nat}{a:aN}:kL b r a=true ↔ (⟨(b:Int),(r:Int),0⟩:aN)=a:=E3
def aiF{b r C D:Nat}{a:aN}(h:kL b r a=true)(E:kL C D a=true):b=C/\r=D:=by
 have e:=(Fk.1 h).trans (Fk.1 E).symm;simp only[aN.mk.injEq]at e;omega
def p6(P:aa aN)(b r:Nat):Bool:=P.any (kL b r)
def qK(P:aa aN)(b n r:Nat):Bool:=(P.takeWhile λa=>!kL b r a).any (kL b n)
def wT(c L:Nat):Nat:=if c % L=0/\0<c then L else c % L
def wH(f:Nat->Nat)(L:Nat)(P:aa aN)(b n r:Nat):Nat:=if p6 P b r=true/\qK P b n r=false then wT (f n) L else f n % L
def wS(R:Nat)(f:Nat->Nat)(L:Nat)(P:aa aN)(b r:Nat):Nat:=(if 0<r then wH f L P b (r-1) r else 0)+(if r+1<R then wH f L P b (r+1) r else 0)
def aw6(c:Nat){L:Nat}(h:0<L):c % L<=wT c L/\wT c L<=L:=by
 have:=Nat.mod_lt c h;unfold wT;split<;>omega
def aw7(c:Nat){L:Nat}(h:0<L):wT (c+1) L=c % L+1/\((c+1) % L≠0->(c+1) % L=c % L+1):=by
 have e:(c+1) % L=(c % L+1) % L:=(Nat.mod_add_mod c L 1).symm;have:=Nat.mod_lt c h;by_cases E:c % L+1=L
 ·have C:(c+1) % L=0:=by rw[e,E,Nat.mod_self]
  unfold wT;rw[aV ⟨C,by omega⟩];exact⟨by omega,λI=>absurd C I⟩
 ·have D:(c+1) % L=c % L+1:=by rw[e];exact Nat.mod_eq_of_lt (by omega)
  unfold wT;rw[aX];exact⟨D,λ_=>D⟩
def Zj(f:Nat->Nat){L:Nat}(h:0<L)(P:aa aN)(b n r:Nat):f n % L<=wH f L P b n r/\wH f L P b n r<=L:=by
 have:=aw6 (f n) h;have:=Nat.mod_lt (f n) h;unfold wH;split<;>omega
def aw8(R:Nat)(f:Nat->Nat){L:Nat}(h:0<L)(P:aa aN)(b r:Nat):wS R f L P b r<=2*L:=by
 have:=(Zj f h P b (r-1) r).2;have:=(Zj f h P b (r+1) r).2;unfold wS;split<;>split<;>omega
def aiG{f f':Nat->Nat}{L:Nat}(D:0<L){P P':aa aN}{b n r:Nat}(C:f' n=f n)(E:p6 P b r=true->p6 P' b r=true)(I:p6 P b r=true->qK P' b n r=true->qK P b n r=true):wH f L P b n r<=wH f' L P' b n r:=by
 by_cases c:p6 P b r=true/\qK P b n r=false
 ·have O:p6 P' b r=true/\qK P' b n r=false:=⟨E c.1,nN.2 λh=>by rw[I c.1 h]at c;exact absurd c.2 (by decide)⟩
  unfold wH;rw[aV c,aV O,C];exact dg _
 ·have:=(Zj f' D P' b n r).1;unfold wH at this ⊢;rw[aX c,<-C];exact this
def aiH{p:aN->Bool}{b r:Nat}(D:∀ a,kL b r a=true->p a=true){P:aa aN}(new:aa aN)(h:p6 P b r=true):p6 (P.filter p++new) b r=true:=by
 unfold p6 at h ⊢;obtain⟨a,E,C⟩:=List.any_eq_true.1 h;exact List.any_eq_true.2 ⟨a,List.mem_append_left _ (List.mem_filter.2 ⟨E,D a C⟩),C⟩
def Sb{p:aN->Bool}{b n r:Nat}(D:∀ a,kL b r a=true->p a=true)(new:aa aN):∀ (P:aa aN),p6 P b r=true->qK (P.filter p++new) b n r=true->qK P b n r=true
 |[],h,_=>by cases h
 | a :: l,h,hb=>by
  unfold qK at hb ⊢;by_cases C:kL b r a=true
  ·rw[List.filter_cons_of_pos (D a C),List.cons_append,List.takeWhile_cons,C]at hb;cases hb
  ·have C:=nN.2 C;have hl:p6 l b r=true:=by
    unfold p6 at h ⊢;rw[List.any_cons,C,lK]at h;exact h
   rw[List.takeWhile_cons,C];show ((a::l.takeWhile λa=>!kL b r a).any (kL b n))=true;rw[List.any_cons];by_cases pa:p a=true
   ·rw[List.filter_cons_of_pos pa,List.cons_append,List.takeWhile_cons,C]at hb;have hb:((a :: (l.filter p++new).takeWhile λa=>!kL b r a).any (kL b n))=true:=hb;rw[List.any_cons]at hb;cases E:kL b n a with
    |true=>rfl
    | false=>
     rw[E,lK]at hb;exact Sb D new l hl hb
   ·rw[List.filter_cons_of_neg pa]at hb;have:=Sb D new l hl hb;unfold qK at this;rw[this,Bool.or_true]
def aiI{b row r:Nat}(O:row≠r):∀ (P:aa aN) (k:Nat) (D:k<P.length),kL b row P[k]=true->((P.take k).any λa=>a.aA==(b:Int))=false->qK P b row r=true
 | a :: l,0,D,h,_=>by
  unfold qK;have E:kL b r a=false:=nN.2 λI=>O (aiF h I).2
  have h:kL b row a=true:=h;rw[List.takeWhile_cons,E];show ((a::l.takeWhile λa=>!kL b r a).any (kL b row))=true;rw[List.any_cons,h];rfl
 | a :: l,k+1,D,h,C=>by
  have C:((a :: l.take k).any λa=>a.aA==(b:Int))=false:=C;rw[List.any_cons,qM]at C;have T:=aiI O l k (by simpa using D) h C.2;unfold qK at T ⊢;have E:kL b r a=false:=nN.2 λI=>by
   rw[<-Fk.1 I]at C;dsimp only at C;rw[gu]at C;exact absurd C.1 (by decide)
  rw[List.takeWhile_cons,E];show ((a::l.takeWhile λa=>!kL b r a).any (kL b row))=true;rw[List.any_cons,T,Bool.or_true]
def Zk(b:Int):∀ (ns:aa Int) (P:aa aN),∃ new,ns.foldl (iX b) P=P++new/\(∀ a∈new,∃ n∈ns,a=⟨b,n,0⟩)/\∀ n∈ns,(ns.foldl (iX b) P).any (eG ⟨b,n,0⟩)=true
 |[],P=>⟨[],(List.append_nil P).symm,λa h=>(by cases h),λn h=>(by cases h)⟩
 | n :: ns,P=>by
  obtain⟨new,C,D,E⟩:=Zk b ns (iX b P n);have key:∃ m,iX b P n=P++m/\(∀ a∈m,a=⟨b,n,0⟩)/\(iX b P n).any (eG ⟨b,n,0⟩)=true:=by
   unfold iX;cases h:P.any (eG ⟨b,n,0⟩)with
   |true=>exact⟨[],(List.append_nil P).symm,λa h=>(by cases h),h⟩
   |false=>exact⟨[⟨b,n,0⟩],rfl,λa h=>gz.1 h,by rw[ax,List.any_append,h];simp[eG]⟩
  obtain⟨m,I,O,T⟩:=key
  refine⟨m++new,?_,λa ha=>?_,λx hx=>?_⟩
  ·rw[List.foldl_cons,C,I,List.append_assoc]
  ·rcases gE.1 ha with ha | ha
   ·exact⟨n,.head _,O a ha⟩
   ·obtain⟨x,hx,e⟩:=D a ha;exact⟨x,.tail _ hx,e⟩
  ·rw[List.foldl_cons];rcases ig.1 hx with rfl | hx
   ·rw[C,List.any_append,T,Bool.true_or]
   ·exact E x hx
def aiJ(k m:Nat)(h:aa Int):(rA k h).getD m 0<=if k=m then h.getD m 0+1 else h.getD m 0:=by
 unfold rA;by_cases e:k=m
 ·subst e;rw[aV rfl];by_cases C:k<h.length
  ·rw[aix _ _ _ C,aV rfl];unfold qA;split<;>omega
  ·rw[cQ,cQ,qL (by rw[jg];omega),qL (by omega)];decide
 ·rw[aX e,getD_set_ne _ e];exact dU _
def Sc{b B r s R:Nat}(h:b≠B)(C:r<R)(D:s<R):b*R+r≠B*R+s:=λe=>by
 rcases Nat.lt_or_gt_of_ne h with h|h
 ·have:=ju R h;rw[jv]at this;omega
 ·have:=ju R h;rw[jv]at this;omega
def Sd{R B row b r:Nat}(Z:row<R)(U:r<R)(h:aa Int):(rB (R:Int) (row:Int) (B*R+row) h).getD (b*R+r) 0<=if b=B/\r=row then 0 else if b=B/\(r+1=row\/r=row+1)then h.getD (b*R+r) 0+1 else h.getD (b*R+r) 0:=by
 have Y:=Ij h (B*R+row) (b*R+r);have I:(ze (row:Int) (B*R+row) h).getD (b*R+r) 0<=if b=B/\r=row then 0 else if b=B/\r+1=row then h.getD (b*R+r) 0+1 else h.getD (b*R+r) 0:=by
  unfold ze;by_cases c:0<row
  ·rw[bf (show 0<(row:Int) by omega),av];have D:=aiJ (B*R+row-1) (b*R+r) (h.set (B*R+row) 0);by_cases hb:b=B
   ·subst hb;by_cases E:r=row
    ·subst E;rw[aV ⟨rfl,rfl⟩];rw[aX,Y,aV rfl]at D;exact D
    ·rw[aX (λC=>E C.2)];rw[Y,aX (show ¬ b*R+row=b*R+r by omega)]at D;by_cases O:r+1=row
     ·rw[aV ⟨rfl,O⟩];rw[aV]at D;exact D
     ·rw[aX (λC=>O C.2)];rw[aX]at D;exact D
   ·have T:=Sc hb U Z;have n2:=Sc (s:=row-1) hb U (by omega);rw[aX (λC=>hb C.1),aX (λC=>hb C.1)];rw[aX,Y,aX (λC=>T C.symm)]at D;exact D
  ·rw[bz (show ¬ 0<(row:Int) by omega),ax,Y];by_cases hb:b=B
   ·subst hb;by_cases E:r=row
    ·subst E;rw[aV rfl,aV ⟨rfl,rfl⟩];exact dU _
    ·rw[aX,aX (λC=>E C.2),aX];exact dU _
   ·have T:=Sc hb U Z;rw[aX (λC=>T C.symm),aX (λC=>hb C.1),aX (λC=>hb C.1)];exact dU _
 unfold rB;by_cases c:row+1<R
 ·rw[bf (show (row:Int)<(R:Int)-1 by omega),av];have D:=aiJ (B*R+row+1) (b*R+r) (ze (row:Int) (B*R+row) h);by_cases hb:b=B
  ·subst hb;by_cases E:r=row
   ·subst E;rw[aV ⟨rfl,rfl⟩]at I ⊢;rw[aX]at D;omega
   ·rw[aX (λC=>E C.2)]at I ⊢;by_cases O:r+1=row
    ·rw[aV ⟨rfl,O⟩]at I;rw[aV ⟨rfl,.inl O⟩];rw[aX]at D;omega
    ·rw[aX (λC=>O C.2)]at I;by_cases k3:r=row+1
     ·rw[aV ⟨rfl,.inr k3⟩];rw[aV]at D;omega
     ·rw[aX];rw[aX]at D;omega
  ·have T:=Sc (s:=row+1) hb U c;rw[aX (λC=>hb C.1),aX (λC=>hb C.1)]at I ⊢;rw[aX (λC=>T (by omega))]at D;omega
 ·rw[bz (show ¬ (row:Int)<(R:Int)-1 by omega),ax];refine Int.le_trans I ?_;split
  ·exact dU _
  ·split
   next C=>rw[aV ⟨C.1,.inl C.2⟩];exact dU _
   ·split<;>omega
def Se{g:aK}{R:Nat}(I:g.rows=(R:Int))(l:lN)(a:c9)(B:Nat):∀ n,n<=R->∀ b r,r<R->(b≠B->(gN g l a (B:Int) n).bg.getD (b*R+r) 0<=a.bg.getD (b*R+r) 0)/\(b=B->r<n->(gN g l a (B:Int) n).bg.getD (b*R+r) 0<=if r+1=n then 0 else 1)
 |0,_,b,r,_=>⟨λ_=>dU _,λ_ h=>absurd h (Nat.not_lt_zero _)⟩
 | n+1,hn,b,r,T=>by
  obtain⟨Y,E⟩:=Se I l a B n (by omega) b r T;unfold gN;rw[rJ];show (b≠B->(rB g.rows (n:Int) ((B:Int)*g.rows+(n:Int)).toNat (gN g l a (B:Int) n).bg).getD (b*R+r) 0<=a.bg.getD (b*R+r) 0)/\(b=B->r<n+1->(rB g.rows (n:Int) ((B:Int)*g.rows+(n:Int)).toNat (gN g l a (B:Int) n).bg).getD (b*R+r) 0<=if r+1=n+1 then 0 else 1);have Z:((B:Int)*g.rows+(n:Int)).toNat=B*R+n:=by
   rw[I,<-Int.natCast_mul];omega
  rw[Z,I];have C:=Sd (R:=R) (B:=B) (row:=n) (b:=b) (r:=r) (by omega) T (gN g l a (B:Int) n).bg
  refine⟨λhb=>?_,λhb hrn=>?_⟩
  ·rw[aX (λD=>hb D.1),aX (λD=>hb D.1)]at C;exact Int.le_trans C (Y hb)
  ·by_cases U:r=n
   ·rw[aV ⟨hb,U⟩]at C;rw[aV];exact C
   ·have E:=E hb (by omega);rw[aX (λD=>U D.2)]at C;rw[aX];by_cases O:r+1=n
    ·rw[aV O]at E;rw[aV ⟨hb,.inl O⟩]at C;omega
    ·rw[aX O]at E;rw[aX]at C;omega
def aiK(g:aK)(l:lN)(a:c9)(n:Nat):rN g l a (n+1)=gN g l (rN g l a n) (n:Int) g.rows.toNat:=rJ _ _ _
def aiL{g:aK}{R:Nat}(D:g.rows=(R:Int))(l:lN)(a:c9):∀ n b r,b<n->r<R->(rN g l a n).bg.getD (b*R+r) 0<=1
 | n+1,b,r,hb,C=>by
  rw[aiK,show g.rows.toNat=R by omega];obtain⟨E,I⟩:=Se D l (rN g l a n) n R (dg _) b r C;by_cases e:b=n
  ·have:=I e C;refine Int.le_trans this ?_;split<;>omega
  ·exact Int.le_trans (E e) (aiL D l a n b r (by omega) C)
def Hb(R:Nat)(cT now:Int)(t:dc)(gd:Int)(P:aa aN)(bg:aa Int)(b:Nat):Prop:=∃(f:Nat->Nat) (L:Nat),rO R t f/\(∀r,r<R->(f r:Int)<=now)/\gd=(L:Int)/\3<=L/\L<=1000/\2*(L:Int)+4<=cT/\∀r,r<R->bg.getD (b*R+r) 0<=1+((wS R f L P b r:Nat):Int)
def Ht(n:Int)(c:au):Prop:=∀b:Nat,(b:Int)<aE c.config.aq->Hb c.config.aq.rows.toNat c.config.dX.bg n (c.bF.getD b zT) (c.guard.getD b 0) c.pending c.array.bg b
def aiM{R:Nat}{f f':Nat->Nat}{L:Nat}{P P':aa aN}{b r:Nat}(h:∀ n,n+1=r\/n=r+1->wH f L P b n r<=wH f' L P' b n r):wS R f L P b r<=wS R f' L P' b r:=by
 unfold wS;refine Nat.add_le_add ?_ ?_
 ·split
  ·exact h _ (by omega)
  ·exact dg _
 ·split
  ·exact h _ (by omega)
  ·exact dg _
def Hb.kF{R:Nat}{cT n n':Int}{t:dc}{gd:Int}{P:aa aN}{bg Zl:aa Int}{b:Nat}(h:Hb R cT n t gd P bg b)(E:n<=n'){p:aN->Bool}(new:aa aN)(I:∀ a:aN,a.aA=(b:Int)->p a=true)(O:∀ r,r<R->Zl.getD (b*R+r) 0<=bg.getD (b*R+r) 0):Hb R cT n' t gd (P.filter p++new) Zl b:=by
 obtain⟨f,L,T,U,Y,Z,h5,h6,h7⟩:=h
 refine⟨f,L,T,λr C=>Int.le_trans (U r C) E,Y,Z,h5,h6,λr C=>?_⟩
 have D:∀a,kL b r a=true->p a=true:=λa ha=>I a (by rw[<-Fk.1 ha])
 have:=aiM (R:=R) (f:=f) (f':=f) (L:=L) (P:=P) (P':=P.filter p++new) (b:=b) (r:=r) λn _=>aiG (by omega) rfl (aiH D new) (Sb D new P)
 have:=O r C;have:=h7 r C;omega
def Hb.same{R:Nat}{cT n n':Int}{t:dc}{gd:Int}{P:aa aN}{bg:aa Int}{b:Nat}(h:Hb R cT n t gd P bg b)(C:n<=n'):Hb R cT n' t gd P bg b:=by
 have:=h.kF (Zl:=bg) C (p:=λ_=>true) [] (λ_ _=>rfl) λr _=>dU _
 rwa [List.append_nil,List.filter_eq_self.2 λ_ _=>rfl]at this
def Hb.new{R:Nat}{cT n L:Int}{P:aa aN}{bg:aa Int}{b:Nat}(C:0<=n)(I:3<=L/\L<=1000)(hl:2*L+4<=cT)(D:∀ r,r<R->bg.getD (b*R+r) 0<=1):Hb R cT n (rI 16) L P bg b:=by
 refine⟨λ_=>0,L.toNat,rO.new R,λr _=>C,by omega,by omega,by omega,by omega,λr E=>?_⟩
 have:=D r E;omega
def Ht.pr{c j:au}{n:Int}(h:Ht n c)(p:Pr c j):Ht n j:=by
 unfold Ht at h ⊢;rw[p.pC,p.pT,p.pG,p.pP,p.pH];exact h
def aw9{f f':Nat->Nat}{L:Nat}(D:0<L){P P':aa aN}{b row r:Nat}(E:f' row=f row+1)(I:p6 P b r=true->qK P b row r=true)(O:(f row+1) % L=0->p6 P' b r=true)(T:qK P' b row r=false):wH f L P b row r+1<=wH f' L P' b row r:=by
 obtain⟨w1,U⟩:=aw7 (f row) D;have Y:wH f L P b row r=f row % L:=by
  unfold wH;exact aX λC=>by
   rw[I C.1]at C;exact absurd C.2 (by decide)
 rw[Y];unfold wH;rw[E];cases hm:p6 P' b r with
 | true=>
  rw[aV ⟨rfl,T⟩,w1];exact dg _
 | false=>
  rw[aX (λC=>absurd C.1 (by decide)),U (λZ=>by rw[O Z]at hm;cases hm)];exact dg _
def Hb.YU{R:Nat}(hR:R<16){cT n:Int}{t:dc}{gd:Int}{P:aa aN}{bg:aa Int}{B row:Nat}(Y:row<R)(h:Hb R cT n t gd P bg B)(hn:n+1<100000)(Sf:∀ r,r≠row->p6 P B r=true->qK P B row r=true):
  Hb R cT (n+1) (qE t (row:Int) gd).1 gd (bif (qE t (row:Int) gd).2 then (je (R:Int) (row:Int)).foldl (iX (B:Int)) (P.filter λa=>!eG ⟨(B:Int),(row:Int),0⟩ a)else P.filter λa=>!eG ⟨(B:Int),(row:Int),0⟩ a) (rB (R:Int) (row:Int) (B*R+row) bg) B:=by
 obtain⟨f,L,h1,Z,rfl,h4,h5,h6,h7⟩:=h;obtain⟨k1,k2⟩:=h1.step hR Y (L:=L) (by omega) h5 λr C=>by have:=Z r C;omega
 have hL:0<L:=by omega
 -- the pending rows behind it
 obtain⟨new,e1,e2,e3⟩:∃ new,(bif (qE t (row:Int) (L:Int)).2 then (je (R:Int) (row:Int)).foldl (iX (B:Int)) (P.filter λa=>!eG ⟨(B:Int),(row:Int),0⟩ a)else P.filter λa=>!eG ⟨(B:Int),(row:Int),0⟩ a)=(P.filter λa=>!eG ⟨(B:Int),(row:Int),0⟩ a)++new/\(∀ a∈new,∃ m∈je (R:Int) (row:Int),a=⟨(B:Int),m,0⟩)/\((f row+1) % L=0->∀ m∈je (R:Int) (row:Int),((P.filter λa=>!eG ⟨(B:Int),(row:Int),0⟩ a)++new).any (eG ⟨(B:Int),m,0⟩)=true):=by
  rw[k1];by_cases D:(f row+1) % L=0
  ·rw[bf D,av];obtain⟨new,q1,q2,q3⟩:=Zk (B:Int) (je (R:Int) (row:Int)) (P.filter λa=>!eG ⟨(B:Int),(row:Int),0⟩ a);exact⟨new,q1,q2,λ_ m hm=>by rw[<-q1];exact q3 m hm⟩
  ·rw[bz D,ax];exact⟨[],(List.append_nil _).symm,λa ha=>(by cases ha),λE=>absurd E D⟩
 rw[e1,k1];have nb:∀ m∈je (R:Int) (row:Int),m≠(row:Int):=λm hm=>by
  unfold je at hm;rcases gE.1 hm with hm|hm
  ·cases I:decide (0<(row:Int))with
   |false=>rw[I]at hm;cases hm
   |true=>rw[I]at hm;rw[gz.1 hm];omega
  ·cases I:decide ((row:Int)<(R:Int)-1)with
   |false=>rw[I]at hm;cases hm
   |true=>rw[I]at hm;rw[gz.1 hm];omega
 refine⟨_,L,k2,λr C=>?_,rfl,h4,h5,h6,λr C=>?_⟩
 ·have:=Z r C;split<;>omega
 ·have O:=Sd (R:=R) (B:=B) (row:=row) (b:=B) (r:=r) Y C bg;have h8:=h7 r C;by_cases er:r=row
  ·rw[aV ⟨rfl,er⟩]at O;omega
  ·rw[aX (λE=>er E.2)]at O;have hp:∀ a,kL B r a=true->(!eG ⟨(B:Int),(row:Int),0⟩ a)=true:=λa ha=>by
    rw[ff];exact nN.2 λT=>er (aiF ha (T:kL B row a=true)).2
   have U:∀m,m≠row->wH f L P B m r<=wH (λr=>if r=row then f r+1 else f r) L ((P.filter λa=>!eG ⟨(B:Int),(row:Int),0⟩ a)++new) B m r:=λm hm=>aiG hL (aX hm) (aiH hp new) (Sb hp new P)
   by_cases en:r+1=row\/r=row+1
   ·rw[aV ⟨rfl,en⟩]at O;have zW:(r:Int)∈je (R:Int) (row:Int):=by
     unfold je;rcases en with en|en
     ·rw[bf (show 0<(row:Int) by omega)];exact List.mem_append_left _ (gz.2 (by omega))
     ·rw[bf (show (row:Int)<(R:Int)-1 by omega)];exact List.mem_append_right _ (gz.2 (by omega))
    have Y7:qK ((P.filter λa=>!eG ⟨(B:Int),(row:Int),0⟩ a)++new) B row r=false:=by
     refine jV.2 λa ha T=>?_
     have ha:=(List.takeWhile_sublist _).subset ha;rcases gE.1 ha with ha|ha
     ·have:=(List.mem_filter.1 ha).2;rw[show eG ⟨(B:Int),(row:Int),0⟩ a=true from T]at this;cases this
     ·obtain⟨m,hm,rfl⟩:=e2 a ha;have:=Fk.1 T;simp only[aN.mk.injEq]at this;exact nb m hm this.2.1.symm
    have hw:=aw9 (f:=f) (f':=λr=>if r=row then f r+1 else f r) hL (P:=P) (P':=(P.filter λa=>!eG ⟨(B:Int),(row:Int),0⟩ a)++new) (b:=B) (r:=r) (aV rfl) (Sf r er) (λD=>e3 D _ zW) Y7;have ayH:wS R f L P B r+1<=wS R (λr=>if r=row then f r+1 else f r) L ((P.filter λa=>!eG ⟨(B:Int),(row:Int),0⟩ a)++new) B r:=by
     unfold wS;rcases en with en|en
     ·rw[aV (show r+1<R by omega),aV (show r+1<R by omega),en];have:=U (r-1) (by omega);split<;>omega
     ·rw[aV (show 0<r by omega),aV (show 0<r by omega),show r-1=row by omega];have:=U (r+1) (by omega);split<;>omega
    omega
   ·rw[aX (λE=>en E.2)]at O;have:=aiM (R:=R) (f:=f) (f':=λr=>if r=row then f r+1 else f r) (L:=L) (P:=P) (P':=(P.filter λa=>!eG ⟨(B:Int),(row:Int),0⟩ a)++new) (b:=B) (r:=r) λm hm=>U m (by omega)
    omega
def axa{c:fB}{p:fA}(hl:p.weights.length<1073741823)(h:ov c p=true):2*p.dx+4<=c.dX.bg:=by
 have hb:=Ms hl h;obtain⟨C,D⟩:=zm hl h;have e:=A4 c p hl;rw[h]at e;have E:yX p.dx=some (2*p.dx+2):=by
  unfold yX;rw[cP,az,bu.2 hb,bI,ax,bh (n:=2*p.dx),bh]
 unfold tE at e;simp only[L3,EP _ hl,E,az,C,D,av]at e;rw[bh (n:=2*p.dx+2+2)]at e;by_cases I:2*p.dx+2+2<=c.dX.bg
 ·omega
 ·rw[bz I]at e;exact absurd e (by simp)
def Sg{T:Type}(x d:T)(l:aa T):∀ n k:Nat,k<n->k<l.length->((List.range n).foldl (λd b=>d.set b x) l).getD k d=x
 | n+1,k,h,hl=>by
  have hlen:=zo x l n;rw[rJ];by_cases e:n=k
  ·subst e;exact oD _ (by omega)
  ·rw[getD_set_ne _ e];exact Sg x d l n k (by omega) hl
def axb{c:au}(h:Pq c)(hu:c.pending.Pairwise (λx y=>x≠y))(Z:∀ a∈c.pending,a.cu=0)(C:(gJ c).1.kind=1){B row:Nat}(hB:(gJ c).1.aA=(B:Int))(D:(gJ c).1.row=(row:Int)):∀ r,r≠row->p6 c.pending B r=true->qK c.pending B row r=true:=λr hr Y=>by
 have hw:=Fe c;rcases Mz h with ⟨_,⟨e,_⟩|e⟩|⟨_,⟨b,hb,e⟩|⟨_,⟨k,E,O,e⟩|⟨j,hj,I,e⟩|e|e⟩⟩
 ·rw[e]at C;exact absurd C (by decide)
 ·rw[e]at C;dsimp only at C;omega
 ·rw[e]at C;unfold fI at C;rcases yg c b ⟨5,b,0,0⟩with e|⟨e,_⟩<;>rw[e]at C<;>dsimp only at C<;>omega
 ·rw[e]at C hB D;unfold jG at C hB D;rcases yg c (js c k).aA ⟨1,(js c k).aA,(js c k).row,0⟩with T | ⟨T,_⟩
  ·rw[T]at C;dsimp only at C;omega
  ·rw[T]at hB D;have hB:(js c k).aA=(B:Int):=hB;have D:(js c k).row=(row:Int):=D;unfold rK at O;rw[aH,ff,ff,hB]at O
   refine aiI (λe=>hr e.symm) c.pending k E ?_ O.2
   rw[Fk,Mt E];have oR:(js c k).cu=0:=by rw[<-Mt E];exact Z _ (cX E)
   rw[<-hB,<-D,<-oR]
 ·have hB2:(ey c j).aA=(B:Int):=by
   rw[e]at hB;unfold cG at hB;rw[(Y8 c.aG (ey c j) (mU c.queue j)).1]at hB;exact hB
  rw[e]at C;unfold gC at I;rw[C]at I;simp only[aH,ff,gu,Bool.true_or,dn]at I;have U:=I.2.2.2.1;unfold xY at U;rw[hB2]at U;unfold p6 at Y;obtain⟨a,ha,h1⟩:=List.any_eq_true.1 Y;have:=jV.1 U a ha;rw[<-Fk.1 h1]at this;exact absurd (gu _) this
 ·rcases Y9 h e with ⟨e,_⟩ | e | ⟨e,_⟩
  ·rw[e]at C;dsimp only at C;omega
  ·omega
  ·rw[e]at C;dsimp only at C;omega
 ·rw[e]at C;exact absurd C (by decide)
def Ht.fn{j y:au}(h:Ht (j.now-1) j)(Y:bR j)(hk:bM j=true)(Sh:j.config.jj=16)(hR:j.config.aq.rows<16)(hn:1<=j.now/\j.now<50000)(hf:Fn j y):Ht j.now y:=by
 have O:=Pq.of Y hk;have k:=Ck.of hk;have p:=fV.of k.pa;have b1:=dZ j.config.aq;have hw:j.box.bW.weights.length<1073741823:=by
  have:=Y.1.1;unfold HP at this;omega
 have Ca:=axa hw k.f1;have NI:=Ms hw k.f1;rcases hf with ⟨k0,rfl⟩|⟨E,rfl⟩
 ·exact λb hb=>(h b hb).same (by omega)
 ·have Sf:=λB row=>axb O p.u (λa Z=>(p.pd a Z).2) (B:=B) (row:=row)
  generalize hX:(gJ j).1=x at E Sf ⊢;generalize (gJ j).2=i at E ⊢;obtain⟨_,Z,_,_⟩:=CZ Y O E;obtain⟨hg,_,hx,rM⟩:=zg Z;simp only[lu,aH]at E;have hc:=E.1;have gb:=gV hg;obtain⟨R,Zm⟩:=dN (show 0<=j.config.aq.rows by omega);have Zn:j.config.aq.rows.toNat=R:=by omega
  have CX:=p.tl;have hgl:=p.gl;by_cases T:x.kind=1
  ·obtain⟨Ns,xF⟩:=rM (by omega);obtain⟨r0,r1⟩:=CW hc T;have iw:=O.p.bl;obtain⟨B,hB⟩:=dN Ns;obtain⟨row,Si⟩:=dN r0;have D:=Sf B row T hB Si;have ei:((B:Int)*(R:Int)+(row:Int)).toNat=B*R+row:=by rw[<-Int.natCast_mul];omega
   rw[Ik j i T];intro b hb;have hb:(b:Int)<aE j.config.aq:=hb;have hold:=h b hb;show Hb j.config.aq.rows.toNat j.config.dX.bg j.now ((j.bF.set x.aA.toNat (qE (j.bF.getD x.aA.toNat zT) x.row (j.guard.getD x.aA.toNat 0)).1).getD b zT) (j.guard.getD b 0) (bif (qE (j.bF.getD x.aA.toNat zT) x.row (j.guard.getD x.aA.toNat 0)).2 then (je j.config.aq.rows x.row).foldl (iX x.aA) (j.pending.filter λa=>!eG ⟨x.aA,x.row,0⟩ a)else j.pending.filter λa=>!eG ⟨x.aA,x.row,0⟩ a) (rB j.config.aq.rows x.row (x.aA*j.config.aq.rows+x.row).toNat j.array.bg) b;rw[Zn]at hold ⊢;rw[hB,Si,Zm,ei,bD];by_cases e:B=b
   ·subst e;rw[oD _ (by omega)];have:=Hb.YU (R:=R) (by omega) (row:=row) (by omega) hold (by omega) D;rw[show j.now-1+1=j.now by omega]at this;exact this
   ·rw[getD_set_ne _ e];have I:∀ r,r<R->(rB (R:Int) (row:Int) (B*R+row) j.array.bg).getD (b*R+r) 0<=j.array.bg.getD (b*R+r) 0:=λr C=>by
     have:=Sd (R:=R) (B:=B) (row:=row) (b:=b) (r:=r) (by omega) C j.array.bg;rw[aX (λD=>e D.1.symm),aX (λD=>e D.1.symm)]at this;exact this
    have hkp:∀ a:aN,a.aA=(b:Int)->(!eG ⟨(B:Int),(row:Int),0⟩ a)=true:=λa U=>by
     rw[ff]
     refine nN.2 λh9=>e ?_
     have:=E3.1 h9;rw[<-this]at U;dsimp only at U;omega
    cases (qE (j.bF.getD B zT) (row:Int) (j.guard.getD B 0)).2 with
    | true=>
     rw[av];obtain⟨new,q1,_,_⟩:=Zk (B:Int) (je (R:Int) (row:Int)) (j.pending.filter λa=>!eG ⟨(B:Int),(row:Int),0⟩ a);rw[q1];exact hold.kF (by omega) new hkp I
    | false=>
     rw[ax];have:=hold.kF (n':=j.now) (by omega) [] hkp I
     rwa [List.append_nil]at this
  ·by_cases k5:x.kind=5
   ·obtain⟨Ns,xF⟩:=rM (by omega);have iw:=O.p.bl;obtain⟨B,hB⟩:=dN Ns;rw[Il j i k5];intro b hb;have hb:(b:Int)<aE j.config.aq:=hb;have hold:=h b hb;show Hb j.config.aq.rows.toNat j.config.dX.bg j.now ((j.bF.set x.aA.toNat (rI j.config.jj)).getD b zT) ((j.guard.set x.aA.toNat j.box.bW.dx).getD b 0) (j.pending.filter λa=>!(a.aA==x.aA)) (gN j.config.aq j.config.dX j.array x.aA j.config.aq.rows.toNat).bg b;rw[Zn]at hold ⊢;rw[hB,Sh,bD];have I:=λr C=>Se Zm j.config.dX j.array B R (dg _) b r C
    by_cases e:B=b
    ·subst e;rw[oD _ (by omega),oD _ (by omega)]
     refine Hb.new (by omega) NI Ca λr C=>?_
     refine Int.le_trans ((I r C).2 rfl C) ?_;split<;>omega
    ·rw[getD_set_ne _ e,getD_set_ne _ e];have:=hold.kF (n':=j.now) (by omega) (p:=λa=>!(a.aA==(B:Int))) [] (λa U=>by
      rw[U,dy (show ¬ (b:Int)=(B:Int) by omega)];rfl) λr C=>(I r C).1 (λD=>e D.symm)
     rwa [List.append_nil]at this
   ·by_cases k9:x.kind=9
    ·rw[Fh j i k9];intro b hb;have hb:(b:Int)<aE j.config.aq:=hb;show Hb j.config.aq.rows.toNat j.config.dX.bg j.now (((List.range j.bF.length).foldl (λd b=>d.set b (rI j.config.jj)) j.bF).getD b zT) (((List.range j.bF.length).foldl (λd b=>d.set b j.box.bW.dx) j.guard).getD b 0) [] (rN j.config.aq j.config.dX j.array j.bF.length).bg b;rw[Zn,Sg _ _ _ _ _ (by omega) (by omega),Sg _ _ _ _ _ (by omega) (by omega),Sh];exact Hb.new (by omega) NI Ca λr C=>aiL Zm j.config.dX j.array j.bF.length b r (by omega) C
    ·obtain⟨_,e2,_,e4,e5,e6⟩:=zz (c:=j) (i:=i) hx T k5 k9;have e7:=(ia (c:=j) (x:=x) (i:=i) hx).2.2.2;unfold Ht;rw[e2,e4,e5,e6,e7];exact λb hb=>(h b hb).same (by omega)
structure Iv (u:Nat) (c:au):Prop where
 iT:Tq c u
 iA:tS c
 iD:∃t,Dx c.now t c
 iH:Ht c.now c
 iE:(c.trace.length:Int)<=c.now
def Iv.up{u:Nat}{c:au}(h:Iv u c):Iv (u+1) c:=⟨h.iT.up,h.iA,h.iD,h.iH,h.iE⟩
def Sj{c:fB}(h:gB c):kC c.bP:=by
 obtain⟨r,w,C,D,E,I,O⟩:=h.2.1;exact⟨r,w,C,D,E,I,O⟩
def Fn.nx{j y:au}(C:bR j)(E:bM j=true)(h:Fn j y):Nx j y:=by
 rcases h with ⟨_,rfl⟩|⟨D,rfl⟩
 ·exact Nx.refl _
 ·obtain⟨_,I,O,_⟩:=CZ C (Pq.of C E) D;exact awd D (zg I).2.2.1 λq=>(O q).1.i
def Bi(j:au):Prop:=tS j/\(∀b:Nat,j.ay.aB.getD b 0<=4)/\Ht (j.now-1) j
def Zo{c:au}{u:Nat}(h:Iv u c)(hz:bR c)(O:bM c=true)(I:gB c.config)(hn:c.now<4000)(ht:c.trace.length<2000)(hu:u<400):∃ y,tF c=some y/\bR y/\bM y=true/\Iv u y/\y.config=c.config/\y.now=c.now+1/\∃ j,bR j/\bM j=true/\Pr c j/\Fn j y/\Bi j:=by
 have k:=Ck.of O;have yb:=bu.1 k.nw;have wQ:=h.iT.2;have hE:=h.iE;obtain⟨j,y,e,z1,k1,D,C,p,E⟩:=awY hz O (by omega) (by omega) (by omega);have pN:=p.pN;have Bh:200<=c.config.interval/\c.config.interval<=259:=I.2.2.2.2.1;have Sh:c.config.jj=16:=I.2.2.2.2.2.1;have Zp:c.config.aq.rows<=6:=I.1.2.2.1.2;have nx:=E.nx D C;have sO:y.config=c.config:=nx.2.1.trans p.pC;have yh:y.now=c.now+1:=nx.1.trans pN;have Z:=k.rf;simp only[fS,aH,bu]at Z;have hqj:=Pq.of D C;obtain⟨t,hD⟩:=h.iD;have hTj:Tq j u:=by
  refine⟨?_,by rw[p.pQ,p.pY];exact wQ⟩;have:=h.iT.1;unfold Ia at this ⊢;rw[p.pC,p.pE,p.pK,p.pR];exact this
 have T:tS j:=h.iA.pr p ⟨by omega,by omega⟩ Z.2.2 (fV.of k.pa).dl hD.d4;obtain⟨t',U⟩:=hD.pr p O ⟨by omega,by omega⟩;rw[show c.now=j.now-1 by omega]at U;have hHj:Ht (j.now-1) j:=by
  have:=h.iH.pr p
  rwa [show c.now=j.now-1 by omega]at this
 have hAy:tS y:=by
  rcases E with ⟨_,rfl⟩|⟨hm,rfl⟩
  ·exact T
  ·simp only[lu,aH]at hm;exact T.YW hqj hm.1 (λh5=>(aiw hqj h5).1) (by rw[p.pC];omega) (fV.of (Ck.of C).pa).tl
 refine⟨y,e,z1,k1,⟨hTj.nx C nx,hAy,⟨t',?_⟩,?_,?_⟩,sO,yh,j,D,C,p,E,T,U.d4,hHj⟩
 ·have:=U.fn D C (by rw[p.pC];exact Sj I) E
  rwa [show j.now=y.now by omega]at this
 ·have:=hHj.fn D C (by rw[p.pC];exact Sh) (by rw[p.pC];omega) ⟨by omega,by omega⟩ E
  rwa [show j.now=y.now by omega]at this
 ·rcases nx.2.2.2.2.1 with ⟨Y,_⟩ | ⟨x,Y,_⟩
  ·rw[Y,p.pE];omega
  ·rw[Y,p.pE,jh,mj];omega
def aiN{c:au}{u:Nat}(h:Iv u c)(D:bR c)(C:bM c=true)(E:gB c.config)(O:c.now<1900)(I:u<400):∃ y,tF c=some y/\bR y/\bM y=true/\Iv u y/\y.config=c.config/\y.now=c.now+1/\∃ j,bR j/\bM j=true/\Pr c j/\Fn j y/\Bi j:=
 Zo h D C E (by omega) (by have:=h.iE;have:=bu.1 (Ck.of C).nw;omega) I
def axc{c:au}{u:Nat}(h:Iv u c)(C:bR c)(D:bM c=true)(E:gB c.config)(I:c.now<1900)(O:u<400):∃ y,tF c=some y/\bR y/\bM y=true/\Iv u y/\y.config=c.config/\y.now=c.now+1:=by
 obtain⟨y,T,U,Y,Z,h5,h6,_⟩:=aiN h C D E I O;exact⟨y,T,U,Y,Z,h5,h6⟩
def aiO{J:au->Prop}{c:au}{u:Nat}(h:Iv u c)(hJ:J c)(U:bR c)(Y:bM c=true)(hc:gB c.config)(hu:u<400){n:Int}(h0:0<=n)(hn:c.now+n<=1900)(hs:∀ x y,bR x->bM x=true->Iv u x->x.config=c.config->c.now<=x.now->x.now<c.now+n->J x->tF x=some y->J y):∃ y,Hs c n=some y/\bR y/\bM y=true/\Iv u y/\y.config=c.config/\y.now=c.now+n/\J y:=by
 have yb:=bu.1 (Ck.of Y).nw;obtain⟨m,rfl⟩:=dN h0;have h5:aT (m:Int) 0 5000=true:=bu.2 ⟨by omega,by omega⟩;unfold Hs bZ;rw[sF c U,az];generalize (⟨⟨⟨(0:Int),(0:Int),(0:Int),(0:Int)⟩,⟨(0:Int),(0:Int),(0:Int),(0:Int),(0:Int),(0:Int),(0:Int),(0:Int),(0:Int),(0:Int),(0:Int),(0:Int),(0:Int),(0:Int),(0:Int),(0:Int),(0:Int)⟩,⟨(0:Int),false⟩,(0:Int),(0:Int),(0:Int),⟨(0:Int),(0:Int)⟩⟩,_,_,_,_,_,_,_,_,_,_,_,_,_,_,_,_,_,_⟩:au)=Z;obtain⟨z,e,y,rfl,D,E,I,C,T,O⟩:=QL (step:=LR) m (λk x=>∃ y:au,x=(((m:Int),(),(),(k:Int),()),(Z,y,()))/\bR y/\bM y=true/\Iv u y/\y.config=c.config/\y.now=c.now+(k:Int)/\J y) (λz=>∃ y:au,z = .inl (((),(),()),(Z,y,()))/\bR y/\bM y=true/\Iv u y/\y.config=c.config/\y.now=c.now+(m:Int)/\J y) bC (x:=(((m:Int),(),(),(0:Int),()),(Z,c,()))) ⟨c,rfl,U,Y,h,rfl,(Int.add_zero _).symm,hJ⟩ (by
  rintro k hkk x ⟨y,rfl,D,E,I,C,T,O⟩;obtain⟨v,f1,f2,f3,f4,f5,f6⟩:=axc I D E (by rw[C];exact hc) (by omega) hu;unfold LR aM xG;dsimp only;rw[bf (show (k:Int)<(m:Int) by omega),av,cP,az,h5,av,f1,az,cC];exact⟨_,rfl,v,rfl,f2,f3,f4,f5.trans C,by omega,hs y v D E I C (by omega) (by omega) O f1⟩) (by
  rintro x ⟨y,rfl,D,E,I,C,T,O⟩;unfold LR aM xG;dsimp only;rw[bz (show ¬ (m:Int)<(m:Int) by omega),ax];exact⟨_,rfl,y,rfl,D,E,I,C,T,O⟩) (cM)
 rw[e,az];exact⟨y,rfl,D,E,I,C,T,O⟩
def axd{c:au}{u:Nat}(h:Iv u c)(C:bR c)(D:bM c=true)(E:gB c.config)(I:u<400){n:Int}(O:0<=n)(T:c.now+n<=1900):∃ y,Hs c n=some y/\bR y/\bM y=true/\Iv u y/\y.config=c.config/\y.now=c.now+n:=by
 obtain⟨y,e,U,Y,Z,y4,y5,_⟩:=aiO (J:=λ_=>True) h trivial C D E I O T λ_ _ _ _ _ _ _ _ _ _=>trivial
 exact⟨y,e,U,Y,Z,y4,y5⟩
def aiP{r:eC}(h:fS r=true)(C:jU r<=10000)(x:Bool):∃ y,QB r x=some y/\fS y=true/\y.aB=r.aB/\jU y<=jU r/\qI y=qI r:=by
 have hl:=xV h;have E:=h;simp only[fS,aH,bu]at h;have mk:∀ (w:Int) (b:Bool),1<=w/\w<=10000->fS ⟨r.aB,w,b⟩=true:=λw b I=>by
  simp only[fS,aH,bu];exact⟨h.1,h.2.1,I⟩
 have O:W6 ((W6 (r.wait+1)).tdiv 2)=(r.wait+1) / 2:=by
  rw[bh (n:=r.wait+1),uU (by omega)];exact bh
 have T:W6 (W6 (2*r.wait)-1)=2*r.wait-1:=by
  rw[bh (n:=2*r.wait)];exact bh
 unfold QB AP xA xZ;rw[fR (by simp;omega),av,List.nil_append,az,HF _ (by omega),az,E,bI,ax];dsimp only;rw[O,T];unfold jU qI at *
 cases x with
 | true=>
  cases D:r.bO with
  | false=>
   rw[D]at C;exact⟨_,rfl,mk _ _ (by omega),rfl,by show 2*((r.wait+1) / 2)-1<=r.wait;omega,rfl⟩
  |true=>exact⟨_,rfl,mk _ _ h.2.2,rfl,dU _,rfl⟩
 | false=>
  cases D:r.bO with
  |false=>exact⟨_,rfl,mk _ _ h.2.2,rfl,dU _,rfl⟩
  | true=>
   rw[D]at C;have C:2*r.wait-1<=10000:=C;have key:∀ v:Int,v=2*r.wait-1->jU ⟨r.aB,v,false⟩<=jU ⟨r.aB,r.wait,true⟩/\qI ⟨r.aB,v,false⟩=qI ⟨r.aB,r.wait,true⟩:=λv U=>by
    subst U;exact⟨dU _,by show (2*r.wait-1+1) / 2=r.wait;omega⟩
   refine⟨_,rfl,mk _ _ (by split<;>omega),rfl,(key _ ?_).1,(key _ ?_).2⟩<;>exact aX
def aiQ{r w:Int}(I:1<=r/\r<=4)(O:4<=w/\w<=8)(a b:Int):0<=mP (gZ r w) a b/\mP (gZ r w) a b<=16:=by
 have C:W6 (r+3)=r+3:=bh;have D:W6 (w+3)=w+3:=bh;have E:W6 (7+3)=10:=by decide
 unfold mP gZ;dsimp only;rw[C,D,E];cases a==1<;>cases a==2<;>cases a==3<;>cases a==4<;>cases a==5<;>cases b==4<;>cases (b==2 ||b==3)<;>cases (b==1 ||b==5)<;>simp only[av,ax]<;>omega
def axe{r w:Int}(C:1<=r/\r<=4)(D:4<=w/\w<=8)(a b:Int)(n:Bool):qC (gZ r w) a b n<=16:=by
 have E:=aiQ C D a 1;unfold qC;show (bif _ then (4:Int)else bif _ then (16:Int)else bif _ then (3:Int)else bif _ then (bif n then (3:Int)else 2)else bif _ then (bif n then (3:Int)else 2)else bif _ then (bif n then (5:Int)else 4)else bif _ then (4:Int)else bif _ then (3:Int)else bif _ then r else bif _ then w else bif _ then mP (gZ r w) a 1 else (0:Int))<=16;refine(jF (a:=0) ⟨by omega,by omega⟩ (jF ⟨by omega,by omega⟩ (jF ⟨by omega,by omega⟩ (jF (jF ⟨by omega,by omega⟩ ⟨by omega,by omega⟩) (jF (jF ⟨by omega,by omega⟩ ⟨by omega,by omega⟩) (jF (jF ⟨by omega,by omega⟩ ⟨by omega,by omega⟩) (jF ⟨by omega,by omega⟩ (jF ⟨by omega,by omega⟩ (jF ⟨by omega,by omega⟩ (jF ⟨by omega,by omega⟩ (jF ⟨by omega,by omega⟩ ⟨by omega,by omega⟩))))))))))).2
def axf{g:aK}{t:dw}(I:kC t)(a b:aQ):eH g t a b<=16:=by
 obtain⟨r,w,C,D,w1,E,rfl⟩:=I;have O:=axe ⟨C,D⟩ ⟨w1,E⟩ a.kind b.kind (sD g a b);have T:=(aiQ ⟨C,D⟩ ⟨w1,E⟩ a.kind b.kind).2;unfold eH;cases ou a b&&a.aA==b.aA with
 |true=>rw[av];omega
 |false=>rw[ax];omega
def axg{c:au}(h:Pq c)(C:kC c.config.bP){x:aQ}(D:x.kind=1->c.ready.bq.length≠4)(E:kj c.aG x=true){n:Int}(hl:∀ i:Nat,c.ready.last.getD i (-1)<=n)(I:n+16<=c.now):cq c x=true:=
 Im h D E λb k _ _ _ _=>by
  have:=axf (g:=c.config.aq) C ⟨(k:Int),if k<=5 then (b:Int)else 0,0,0⟩ x;have:=nL hl b k;omega
def Sk(p:jM)(k n:Int):(A9 p k n).idle=p.idle:=by
 unfold A9;cases nH p&&aT n p.since 1000000 with
 |false=>rfl
 | true=>
  rw[av];cases (k==6)&&(p.state==0)<;>cases (k==8)&&(p.state==0)<;>cases (k==7)&&(p.state==1)<;>cases (k==9)&&(p.state==2)<;>rfl
def axh(g:aK)(q:fj)(e:eB)(h:e.cmd.kind≠1):(iF g q e).bq=q.bq:=by
 unfold iF;cases kX g q&&(cD g e.cmd&&(aT e.at_ 0 1000000 && !(e.cmd.kind==1&&vV q e.at_)))with
 |false=>rfl
 |true=>rw[av,dy h];rfl
def axi{l:aa dz}(w:aa Bool)(hl:l.length<1073741823)(O:ki l=true)(hw:l.length=w.length){i:Nat}(hi:i<w.length)(T:w.getD i false=true):∃ y t,pg l w=some (y,t)/\0<=t/\w.getD t.toNat false=true:=by
 unfold pg xA xC bZ xL xZ;have hb:=tP (λi=>w.getD i false) (λi=>(l.getD i ⟨0,0⟩).eS) (min l.length w.length);have U:(fq l).length=l.length:=by simp[fq]
 have Y:=tP (λi=>w.getD i false) (λi=>((fq l).getD i ⟨0,0⟩).eS) (min (fq l).length w.length);have Z:=A7 (λi=>w.getD i false) (λi=>(l.getD i ⟨0,0⟩).eS) (min l.length w.length);have oZ:=A7 (λi=>w.getD i false) (λi=>((fq l).getD i ⟨0,0⟩).eS) (min (fq l).length w.length);have h0:=EZ (may:=λi=>w.getD i false) (λi=>(l.getD i ⟨0,0⟩).eS) (i:=i) T (min l.length w.length) (by omega);rw[List.nil_append,CP l w (by omega),az,HD _ (by omega),az,O,bI,ax,List.length_nil,gy,fR,av];unfold jf;generalize hr:lJ (λi=>w.getD i false) (λi=>(l.getD i ⟨0,0⟩).eS) (min l.length w.length)=b at *
 have I:=Z.resolve_left (by omega);have C:b.toNat<l.length:=by omega
 rw[bz,ax,aP ⟨by omega,C⟩,aP C];dsimp only;cases l[b.toNat].eS==0 with
 | false=>
  rw[ax,aP ⟨by omega,C⟩,aP C,aP ⟨by omega,C⟩,aP C];exact⟨_,_,rfl,h0,I⟩
 | true=>
  rw[av,Rq l w (by omega),az];simp only[iJ];rw[CP _ w (by omega),az];have E:0<=jf (fq l) w:=EZ _ (i:=b.toNat) I _ (by rw[U];omega);have hq:jf (fq l) w<((min (fq l).length w.length:Nat):Int):=Y.2;have D:(jf (fq l) w).toNat<(fq l).length:=by omega
  rw[aP ⟨E,D⟩,aP D,aP ⟨E,D⟩,aP D];exact⟨_,_,rfl,E,oZ.resolve_left (λe=>by have e:jf (fq l) w = -1:=e;omega)⟩
def Bd(N:Int)(q:aR)(rs:aa cI)(c:au):Prop:=c.queue=[]/\∃r,c.aZ=rs++[r]/\r.at_<=N+33/\r.id=q.id
def aiR(a k:Nat)(O:a<4294967296)(C:k<8):Ba (a:Int) k=((a / 16 ^ k % 16:Nat):Int):=by
 have D:(2:Nat) ^ (4*k)=16 ^ k:=by rw[Nat.pow_mul]
 have E:(a:Int).fdiv (2 ^ (4*k))=((a / 16 ^ k:Nat):Int):=by
  have I:(2:Int) ^ (4*k)=((2 ^ (4*k):Nat):Int):=by push_cast;rfl
  rw[I,Int.fdiv_eq_ediv_of_nonneg _ (Int.natCast_nonneg _),D];rfl
 unfold Ba;rw[YD k C,E,ahH _ (Nat.lt_of_le_of_lt (Nat.div_le_self _ _) (by omega))]
def Zq(x:Int):∀ n k,k<n->(mS x n).getD k 0=Ba x k
 | n+1,k,h=>by
  show (mS x n++[Ba x n]).getD k 0=_;have hl:=RB x n;by_cases e:k=n
  ·subst e;rw[cQ,List.getElem?_append_right (by omega),hl,Nat.sub_self];rfl
  ·rw[cQ,List.getElem?_append_left (by omega),<-cQ];exact Zq x n k (by omega)
def axj{a b:Nat}(D:a<4294967296)(hb:b<4294967296)(h:mS (a:Int) 8=mS (b:Int) 8):a=b:=by
 have key:∀ k,k<8->a / 16 ^ k % 16=b / 16 ^ k % 16:=λk C=>by
  have e:(mS (a:Int) 8).getD k 0=(mS (b:Int) 8).getD k 0:=by rw[h]
  rw[Zq _ 8 k C,Zq _ 8 k C,aiR a k D C,aiR b k hb C]at e;exact Int.ofNat_inj.1 e
 have E:=key 0 (by omega);have I:=key 1 (by omega);have O:=key 2 (by omega);have T:=key 3 (by omega);have U:=key 4 (by omega);have Y:=key 5 (by omega);have Z:=key 6 (by omega);have k7:=key 7 (by omega);simp only[Nat.reducePow,Nat.div_one]at E I O T U Y Z k7;omega
def wo(x:Int):cw:=⟨E4 x,false⟩
def Zr{x:Int}(D:0<=x)(E:x<=4294967295):Sy (wo x).symbols/\ld (wo x)=0/\oz (wo x)=wo x/\CS (wo x)=x:=by
 obtain⟨_,I,w,U,e2,Y,Z,e5⟩:=Mn D E;have en:nw (wo x)=w:=by
  obtain⟨n1,_,_⟩:=Rz (c:=wo x) I;exact avf (n1.trans U)
 have C:lI (nw (wo x))=(w,0,-1):=by rw[en];exact aud e5
 refine⟨I,?_,?_,?_⟩
 ·unfold ld;rw[C];rfl
 ·unfold oz;rw[C];rfl
 ·unfold CS Ry;rw[C];show wv (cx (w.drop 3)) 8=x;obtain⟨O,hl⟩:jE (w.drop 3)/\(w.drop 3).length=8:=⟨λy hy=>Y y (List.mem_of_mem_drop hy),by rw[List.length_drop];omega⟩
  obtain⟨b0,b1⟩:=avi O hl;have hb:=avh O hl;obtain⟨a,ha⟩:=dN D;obtain⟨b,T⟩:=dN b0;rw[T,Z]at hb;rw[T]at b1 ⊢;rw[ha]at hb E ⊢;rw[axj (by omega) (by omega) hb]
def aiS(c:au)(r:aR):∃ l,(kY c r).1 = { c with queue:=l }:=by
 unfold kY;cases ((!bM c) ||((!(pO c r).2) ||(c.aZ.any λx=>x.id==r.id)))with
 |true=>exact⟨c.queue,rfl⟩
 |false=>exact⟨_,rfl⟩
def Sv(u:Nat)(c:au)(o:ah (au×Bool)):Prop:=∃y t,o=some (y,t)/\bR y/\bM y=true/\(t=false->y=c)/\Iv (u+1) y/\y.config=c.config/\c.now<=y.now/\y.now<=c.now+40
def axk{c:au}{u:Nat}(D:Iv u c)(hz:bR c)(T:bM c=true)(hc:gB c.config)(hu:u<400)(hn9:c.now<=1800)(a:jk)(hw:a.jl.weights.length<=1048576)(zD:a.kind=2->a.n<=40):Sv u c (nE c a):=by
 have h:=Ck.of T;have p:=fV.of h.pa;have E:=hz;have yb:=bu.1 h.nw;obtain⟨I,C⟩:=D.iD;obtain⟨z1,z2,z3,z5,z6,z7,z8,z9,lZ,nJ,ow,mO,ox,rG⟩:=hz;have no:∀t:Bool,t=false->Sv u c (some (c,t)):=λt ht=>⟨c,t,rfl,E,T,λ_=>rfl,D.up,rfl,dU _,by omega⟩
 unfold nE;rw[sF c E,az,sE c E,az,T,bI,ax];cases a.kind==(1:Int)with
 | true=>
  obtain⟨q1,q2⟩:=awO T a.request;rw[av,aht c a.request E,az];obtain⟨v1,v2,v3⟩:=awR D.iT a.request;obtain⟨l,el⟩:=aiS c a.request;refine⟨_,_,rfl,auz c a.request E,q1,q2,⟨v1,?_,?_,?_,?_⟩,v3,Int.le_of_eq v2.symm,by rw[v2];omega⟩
  ·rw[el];exact D.iA
  ·rw[el];exact⟨I,C.d1,C.d2,C.d3,C.d4,C.d5⟩
  ·rw[el];exact D.iH
  ·rw[el];exact D.iE
 |false=>
 rw[ax];cases h2:a.kind==(2:Int)with
 | true=>
  rw[av,cP,az];cases hn:aT a.n 0 500 with
  |false=>exact no _ rfl
  | true=>
   have hb:=bu.1 hn;have Zs:=zD (dO.1 h2);obtain⟨y,e,U,Y,O,y4,y5⟩:=axd D E T hc hu hb.1 (by omega);rw[av,e,az];exact⟨y,true,rfl,U,Y,λh=>(by cases h),O.up,y4,by omega,by omega⟩
 |false=>
 rw[ax];cases a.kind==(3:Int)with
 | true=>
  obtain⟨x,e,hx,MD,xa,xh⟩:=awN h.ar a.addr a.Bk a.n;have Zt:bR (eY c x):=⟨z1,z2,z3,zw (fH.uP hx),z6,z7,z8,z9,lZ,nJ,ow,mO,ox,rG⟩
  have Zu:bM (eY c x)=true:=Ck.ok ⟨h.f1,h.f2,h.nw,h.rk,h.rd,hx,h.sp,h.se,h.rf,(show fV (eY c x)from ⟨p.dl,p.tl,p.gl,p.t,p.g,p.pd,p.u⟩).ok,h.qu,h.sh,h.sl,h.dr,h.pw,h.ps,h.si,h.s1,h.s2,h.s3,h.er,h.tr,h.rp⟩;have Z:Iv (u+1) (eY c x):=⟨D.iT.up,by
   have:=D.iA;unfold tS at this ⊢;rw[show (eY c x).array.bx=c.array.bx from xa];exact this,⟨I,C.d1,C.d2,C.d3,C.d4,C.d5⟩,by
   have:=D.iH;unfold Ht at this ⊢;rw[show (eY c x).array.bg=c.array.bg from xh];exact this,D.iE⟩
  rw[av,EI,az];cases e1:ef c.config.aq a.addr with
  | false=>
   rw[ax,e,az]
   refine⟨eY c x,false,rfl,Zt,Zu,λ_=>?_,Z,rfl,dU _,(by show c.now<=c.now+40;omega)⟩
   rw[MD (by rw[e1];rfl)];rfl
  | true=>
   rw[av,cP,az];cases e2:aT a.Bk 0 10 with
   | false=>
    rw[ax,e,az]
    refine⟨eY c x,false,rfl,Zt,Zu,λ_=>?_,Z,rfl,dU _,(by show c.now<=c.now+40;omega)⟩
    rw[MD (by rw[e1,e2];rfl)];rfl
   | true=>
    unfold vI;rw[av,cP,az,az,e,az]
    refine⟨eY c x,aT a.n 0 15,rfl,Zt,Zu,λh3=>?_,Z,rfl,dU _,(by show c.now<=c.now+40;omega)⟩
    rw[MD (by rw[e1,e2,h3];rfl)];rfl
 |false=>
 rw[ax];cases a.kind==(4:Int)with
 | true=>
  rw[av,cP,az];cases hn:aT a.n 0 1 with
  |false=>exact no _ rfl
  | true=>
   have Bh:200<=c.config.interval/\c.config.interval<=259:=hc.2.2.2.2.1;obtain⟨y,e,U,Sl,O,y4⟩:=aiP h.rf (by have:=D.iA.1;omega) (a.n==(1:Int));have Y:y.aB.length=c.ay.aB.length:=by rw[Sl]
   have Z:Iv (u+1) (HZ c y):=⟨D.iT.up,by
    obtain⟨g1,g2⟩:=D.iA
    refine⟨Int.le_trans O g1,λb r hb hr=>?_⟩
    obtain⟨g3,g4⟩:=g2 b r hb hr;show 0<=y.aB.getD b 0/\c.array.bx.getD ((b:Int)*c.config.aq.rows+(r:Int)).toNat 0+jU y<=(y.aB.getD b 0+1)*c.config.interval;rw[Sl];exact⟨g3,by omega⟩,⟨I,C.d1,C.d2,by show 100<=qI y+(c.now-I);rw[y4];exact C.d3,by show ∀b:Nat,y.aB.getD b 0<=4;rw[Sl];exact C.d4,by
    show ∀B:Nat,(B:Int)<aE c.config.aq->uB y.aB B=true->Du c.now I c.config.aq c.aG c.ready y.aB B;rw[Sl];exact C.d5⟩,D.iH,D.iE⟩
   rw[av,e,az]
   refine⟨HZ c y,true,rfl,⟨z1,z2,z3,z5,z6,by unfold EX at z7 ⊢;show y.aB.length<=_;omega,z8,z9,lZ,nJ,ow,mO,ox,rG⟩,Ck.ok ⟨h.f1,h.f2,h.nw,h.rk,h.rd,h.ar,h.sp,h.se,U,(show fV (HZ c y)from ⟨by show (y.aB.length:Int)=_;rw[Y];exact p.dl,p.tl,p.gl,p.t,p.g,p.pd,p.u⟩).ok,h.qu,h.sh,h.sl,h.dr,h.pw,h.ps,h.si,h.s1,h.s2,h.s3,h.er,h.tr,h.rp⟩,λh=>(by cases h),Z,rfl,dU _,(by show c.now<=c.now+40;omega)⟩
 |false=>
 rw[ax];cases a.kind==(5:Int)with
 | true=>
  rw[av,A4 _ _ (by omega),az];cases hf:ov c.config a.jl with
  |false=>exact no _ rfl
  | true=>
   have hp:=(zm (by omega) hf).2;rw[av,ait c.box z1 a.jl hw,az,hp,av]
   refine⟨⟨c.config,⟨c.box.bW,a.jl,true⟩,c.now,c.aG,c.ready,c.array,c.spare,c.ay,c.bF,c.guard,c.pending,c.queue,c.shares,c.drain,c.aS,c.dJ,c.errors,c.trace,c.aZ⟩,true,rfl,⟨⟨z1.1,hw⟩,z2,z3,z5,z6,z7,z8,z9,lZ,nJ,ow,mO,ox,rG⟩,Ck.ok ⟨h.f1,hf,h.nw,h.rk,h.rd,h.ar,h.sp,h.se,h.rf,(show fV ⟨c.config,⟨c.box.bW,a.jl,true⟩,c.now,c.aG,c.ready,c.array,c.spare,c.ay,c.bF,c.guard,c.pending,c.queue,c.shares,c.drain,c.aS,c.dJ,c.errors,c.trace,c.aZ⟩from ⟨p.dl,p.tl,p.gl,p.t,p.g,p.pd,p.u⟩).ok,h.qu,h.sh,h.sl,h.dr,h.pw,h.ps,h.si,h.s1,h.s2,h.s3,h.er,h.tr,h.rp⟩,λh=>(by cases h),⟨D.iT.up,D.iA,⟨I,C.d1,C.d2,C.d3,C.d4,C.d5⟩,D.iH,D.iE⟩,rfl,dU _,(by show c.now<=c.now+40;omega)⟩
 |false=>
 rw[ax];cases a.kind==(6:Int)with
 | true=>
  obtain⟨t,y,e,U,Y,O⟩:=awz E T a.addr.aA a.addr.row;rw[av,e,az];obtain⟨O,l,s,rfl⟩:=O;exact⟨_,t,rfl,U,Y,O,⟨D.iT.up,D.iA,⟨I,C.d1,C.d2,C.d3,C.d4,C.d5⟩,D.iH,D.iE⟩,rfl,dU _,(by show c.now<=c.now+40;omega)⟩
 |false=>exact no _ rfl
def Iv.new{c:fB}{p:fA}(E:gB c)(O:zl p):Iv 0 (sN c p):=by
 have Y:=Ih E.1;have Z:=dZ c.aq;have Bh:200<=c.interval/\c.interval<=259:=E.2.2.2.2.1;have hl:c.dX=⟨6*c.interval,40⟩:=E.2.2.2.2.2.2;have C:∀ (n k:Nat),(List.replicate n (0:Int)).getD k 0=0:=λn k=>by
  rw[cQ,List.getElem?_replicate];split<;>rfl
 have I:(Bg c.aq).bx=List.replicate (iB c.aq).toNat 0/\(Bg c.aq).bg=List.replicate (iB c.aq).toNat 0:=⟨rfl,rfl⟩
 refine⟨⟨Bf.new _ _,dg _⟩,⟨dU _,λb r _ _=>?_⟩,⟨0,λi=>?_,⟨dU _,dU _⟩,?_,λb=>?_,λB _ D=>?_⟩,λb hb=>?_,dU _⟩
 ·show 0<=(List.replicate (aE c.aq).toNat (0:Int)).getD b 0/\(Bg c.aq).bx.getD ((b:Int)*c.aq.rows+(r:Int)).toNat 0+c.interval<=((List.replicate (aE c.aq).toNat (0:Int)).getD b 0+1)*c.interval;rw[I.1,C,C];exact⟨dU _,by omega⟩
 ·show (List.replicate (9*(aE c.aq+1)).toNat (-1:Int)).getD i (-1)<=0;rw[cQ,List.getElem?_replicate];split<;>decide
 ·show 100<=(c.interval+1) / 2+((0:Int)-0)
  omega
 ·show (List.replicate (aE c.aq).toNat (0:Int)).getD b 0<=4;rw[C];decide
 ·have D:(List.replicate (aE c.aq).toNat (0:Int)).getD B 0 >= 4:=ja D;rw[C]at D;exact absurd D (by decide)
 ·have hb:(b:Int)<aE c.aq:=hb;show Hb c.aq.rows.toNat c.dX.bg 0 ((List.replicate (aE c.aq).toNat Ic).getD b zT) ((List.replicate (aE c.aq).toNat p.dx).getD b 0) [] (Bg c.aq).bg b;have T:(List.replicate (aE c.aq).toNat Ic).getD b zT=rI 16:=by
   rw[cQ,List.getElem?_replicate,aV];rfl
  have U:(List.replicate (aE c.aq).toNat p.dx).getD b 0=p.dx:=by
   rw[cQ,List.getElem?_replicate,aV];rfl
  have AD:=O.2;rw[T,U,hl,I.2];exact Hb.new (dU _) ⟨by omega,by omega⟩ (by dsimp only;omega) λr _=>by rw[C];decide
def Mm(m:Nat->Int)(l:aa cw):Prop:=∀(i:Nat) (h:i<l.length),l[i]=wo (m i)/\0<=m i/\m i<=4294967295
def Mm.oz{m:Nat->Int}{l:aa cw}(h:Mm m l){n:Nat}(C:n<l.length):Proofs.YthmgjjfedieljaaGreat.oz l[n]=l[n]/\ld l[n]=0/\CS l[n]=m n:=by
 obtain⟨e,D,E⟩:=h n C;obtain⟨_,I,O,T⟩:=Zr D E;rw[e];exact⟨O,I,T⟩
def Mm.mc{m:Nat->Int}{l D:aa cw}{e E:aa cY}(h:Mm m l)(C:Mc l D e E):D=l/\E=e:=by
 rcases C with C|⟨n,T,I,O⟩
 ·exact C
 ·obtain⟨U,Y,_⟩:=h.oz T;rw[U,List.set_getElem_self]at I;rw[Y]at O;exact⟨I,O⟩
def Fl(m:Nat->Int)(n:Nat)(x:Int)(i:Nat):Int:=if i=n then x else m i
def Mm.put{m:Nat->Int}{l:aa cw}(h:Mm m l){n:Nat}{x:Int}(C:0<=x/\x<=4294967295):Mm (Fl m n x) (l.set n (wo x)):=λi hi=>by
 rw[jg]at hi;rw[List.getElem_set];by_cases e:n=i
 ·subst e;rw[aV rfl,show Fl m n x n=x from aV rfl];exact⟨rfl,C⟩
 ·rw[aX e,show Fl m n x i=m i from aX λD=>e D.symm];exact h i hi
def Zv(g:aK)(l:lN)(R:Nat)(a:c9):Prop:=∀b r:Nat,(b:Int)<aE g->r<R->a.bx.getD (b*R+r) 0<=l.bx/\a.bg.getD (b*R+r) 0+1<=l.bg
def aiT{g:aK}{l:lN}{R:Nat}(C:g.rows=(R:Int)){a:c9}{b r:Nat}(E:a.bx.getD (b*R+r) 0<=l.bx)(I:a.bg.getD (b*R+r) 0<=l.bg):(vW g l a (b:Int) (r:Int)).cells=a.cells:=by
 have D:((b:Int)*g.rows+(r:Int)).toNat=b*R+r:=by rw[C,<-Int.natCast_mul];omega
 unfold vW;dsimp only;rw[D];have:CC l a (b*R+r)=false:=by
  unfold CC;rw[bz,bz];rfl
 rw[this];rfl
def Zw{g:aK}{l:lN}{R:Nat}(C:g.rows=(R:Int)){a:c9}{B:Nat}(h:∀ r,r<R->a.bx.getD (B*R+r) 0<=l.bx/\a.bg.getD (B*R+r) 0+1<=l.bg)(O:0<=l.bx):∀ n,n<=R->(gN g l a (B:Int) n).cells=a.cells/\∀ r,n<=r->r<R->(gN g l a (B:Int) n).bx.getD (B*R+r) 0<=l.bx/\(gN g l a (B:Int) n).bg.getD (B*R+r) 0<=a.bg.getD (B*R+r) 0+if r=n then 1 else 0
 |0,_=>⟨rfl,λr _ D=>⟨(h r D).1,by show a.bg.getD (B*R+r) 0<=_;split<;>omega⟩⟩
 | n+1,hn=>by
  obtain⟨Z,T⟩:=Zw C h O n (by omega);have e:gN g l a (B:Int) (n+1)=vW g l (gN g l a (B:Int) n) (B:Int) (n:Int):=rJ _ _ _;have U:=T n (dg _) (by omega);rw[aV rfl]at U;have hk:=h n (by omega)
  refine⟨by rw[e,aiT C U.1 (by omega)];exact Z,λr h1 D=>?_⟩
  have Y:=T r (by omega) D;rw[aX]at Y;have ei:((B:Int)*g.rows+(n:Int)).toNat=B*R+n:=by rw[C,<-Int.natCast_mul];omega
  rw[e];refine⟨?_,?_⟩
  ·show ((gN g l a (B:Int) n).bx.set ((B:Int)*g.rows+(n:Int)).toNat 0).getD (B*R+r) 0<=l.bx;rw[Ij];split
   ·exact O
   ·exact Y.1
  ·show (rB g.rows (n:Int) ((B:Int)*g.rows+(n:Int)).toNat (gN g l a (B:Int) n).bg).getD (B*R+r) 0<=_;rw[ei,C];have E:=Sd (R:=R) (B:=B) (row:=n) (b:=B) (r:=r) (by omega) D (gN g l a (B:Int) n).bg;rw[aX]at E;by_cases I:r=n+1
   ·rw[aV ⟨rfl,.inr I⟩]at E;rw[aV I];omega
   ·rw[aX]at E;rw[aX I];omega
def aiU{g:aK}{l:lN}{R:Nat}(D:g.rows=(R:Int)){a:c9}(h:Zv g l R a)(E:0<=l.bx):∀ n:Nat,(n:Int)<=aE g->(rN g l a n).cells=a.cells/\∀ b r:Nat,n<=b->(b:Int)<aE g->r<R->(rN g l a n).bx.getD (b*R+r) 0<=l.bx/\(rN g l a n).bg.getD (b*R+r) 0+1<=l.bg
 |0,_=>⟨rfl,λb r _ hb C=>h b r hb C⟩
 | n+1,Y=>by
  obtain⟨O,I⟩:=aiU D h E n (by omega);have er:g.rows.toNat=R:=by omega
  rw[aiK,er];have T:=Zw D (a:=rN g l a n) (B:=n) (λr C=>I n r (dg _) (by omega) C) E R (dg _)
  refine⟨T.1.trans O,λb r Z hb C=>?_⟩
  have U:=I b r (by omega) hb C;have hh:=(Se D l (rN g l a n) n R (dg _) b r C).1 (by omega);refine⟨?_,by omega⟩;rcases R5 g l (rN g l a n) (n:Int) R (b*R+r)with e|e
  ·rw[e];exact U.1
  ·rw[e];exact E
def axl{c:au}{n:Int}(I:bM c=true)(C:gB c.config)(O:tS c)(T:∀ b:Nat,c.ay.aB.getD b 0<=4)(U:Ht n c){R:Nat}(hR:c.config.aq.rows=(R:Int)):Zv c.config.aq c.config.dX R c.array:=λb r hb Y=>by
 have k:=Ck.of I;have Bh:200<=c.config.interval/\c.config.interval<=259:=C.2.2.2.2.1;have hl:c.config.dX=⟨6*c.config.interval,40⟩:=C.2.2.2.2.2.2;have Z:=k.rf;simp only[fS,aH,bu]at Z;have hgw:1<=jU c.ay:=by
  unfold jU;cases c.ay.bO with
  |true=>rw[av];omega
  |false=>rw[ax];omega
 obtain⟨a1,a2⟩:=O.2 b r hb (by omega);rw[hR,<-Int.natCast_mul,show (((b*R:Nat):Int)+(r:Int)).toNat=b*R+r by omega]at a2;obtain⟨f,L,_,_,_,h3,_,D,E⟩:=U b hb;rw[show c.config.aq.rows.toNat=R by omega]at E;have h7:=E r Y;have h8:=aw8 R f (L:=L) (by omega) c.pending b r;have h4:=T b;have hm:(c.ay.aB.getD b 0+1)*c.config.interval<=5*c.config.interval:=Int.mul_le_mul_of_nonneg_right (by omega) (by omega);rw[hl]at D ⊢;dsimp only at D ⊢;omega
def Zx(m m':Nat->Int)(j y:au):Prop:=∃ (i:Nat) (h:i<j.queue.length),y.queue=j.queue.take i++j.queue.drop (i+1)/\
 bif j.queue[i].write then m'=Fl m (eI j.config.aq (dM j j.queue[i].line)) j.queue[i].data/\y.aZ=j.aZ++[⟨j.queue[i].id,j.now,0,0⟩]
 else m'=m/\y.aZ=j.aZ++[⟨j.queue[i].id,j.now,m (eI j.config.aq (dM j j.queue[i].line)),0⟩]
def Mm.acc{m:Nat->Int}{j:au}{x:aQ}{i:Nat}(h:Mm m j.array.cells)(C:sI j i 100000):∃ m',Mm m' (gx (cg j x) i).array.cells/\(gx (cg j x) i).errors=j.errors/\Zx m m' j (gx (cg j x) i):=by
 have hi:=C.i;obtain⟨f1,Z,D,_⟩:=C.facts (cX hi);have E:(cg j x).queue.getD i pU=j.queue[i]:=fU _ hi;have I:=C.d _ (cX hi);unfold gx;rw[E];dsimp only;cases hw:j.queue[i].write with
 | true=>
  refine⟨Fl m (eI j.config.aq (dM j j.queue[i].line)) j.queue[i].data,h.put I,rfl,i,hi,rfl,?_⟩;rw[hw];exact⟨rfl,rfl⟩
 | false=>
  obtain⟨O,T,U⟩:=h.oz D;have Y:(cg j x).array.cells.getD (eI (cg j x).config.aq (dM (cg j x) j.queue[i].line)) xU=j.array.cells[eI j.config.aq (dM j j.queue[i].line)]:=fU _ D;rw[ax,Y,O,T,U];refine⟨m,?_,rfl,i,hi,rfl,?_⟩
  ·show Mm m (j.array.cells.set (eI j.config.aq (dM j j.queue[i].line)) j.array.cells[eI j.config.aq (dM j j.queue[i].line)]);rw[List.set_getElem_self];exact h
  ·rw[hw];exact⟨rfl,rfl⟩
def Mm.fn{m:Nat->Int}{j y:au}(h:Mm m j.array.cells)(Y:bR j)(E:bM j=true){R:Nat}(hR:j.config.aq.rows=(R:Int))(O:Zv j.config.aq j.config.dX R j.array)(Z:0<=j.config.dX.bx)(hf:Fn j y):∃ m',Mm m' y.array.cells/\y.errors=j.errors/\((m'=m/\y.queue=j.queue/\y.aZ=j.aZ)\/Zx m m' j y):=by
 rcases hf with ⟨_,rfl⟩|⟨D,rfl⟩
 ·exact⟨m,h,rfl,.inl ⟨rfl,rfl,rfl⟩⟩
 ·generalize (gJ j).1=x at D ⊢;generalize (gJ j).2=i at D ⊢;have hq:=Pq.of Y E;obtain⟨_,ha,hs,_⟩:=CZ Y hq D;obtain⟨hg,hlen,hx,rM⟩:=zg ha;have hc:cD j.config.aq x=true:=by
   simp only[lu,aH]at D;exact D.1
  have CX:=(fV.of (Ck.of E).pa).tl;have C:∀z:au,z.array.cells=j.array.cells->z.errors=j.errors->z.queue=j.queue->z.aZ=j.aZ->∃m',Mm m' z.array.cells/\z.errors=j.errors/\((m'=m/\z.queue=j.queue/\z.aZ=j.aZ)\/Zx m m' j z):=λz e1 e2 e3 e4=>⟨m,by rw[e1];exact h,e2,.inl ⟨rfl,e3,e4⟩⟩
  by_cases I:x.kind=2\/x.kind=3
  ·obtain⟨s,s0⟩:=hs I;have e:br j x i=gx (cg j x) i.toNat:=by
    unfold br;rcases I with q|q<;>rw[q]<;>rfl
   rw[e];obtain⟨m',g1,g2,g3⟩:=h.acc (x:=x) s;exact⟨m',g1,g2,.inr g3⟩
  ·by_cases T:x.kind=1
   ·obtain⟨U,xF⟩:=rM (by omega);obtain⟨r0,r1⟩:=CW hc T;obtain⟨B,hB⟩:=dN U;obtain⟨row,Si⟩:=dN r0;rw[Ik j i T];refine C _ ?_ rfl rfl rfl;show (vW j.config.aq j.config.dX j.array x.aA x.row).cells=_;rw[hB,Si];have E:=O B row (by omega) (by omega);exact aiT hR E.1 (by omega)
   ·by_cases k5:x.kind=5
    ·obtain⟨U,xF⟩:=rM (by omega);obtain⟨B,hB⟩:=dN U;rw[Il j i k5];refine C _ ?_ rfl rfl rfl;show (gN j.config.aq j.config.dX j.array x.aA j.config.aq.rows.toNat).cells=_;rw[hB,show j.config.aq.rows.toNat=R by omega];exact(Zw hR (λr hr=>O B r (by omega) hr) Z R (dg _)).1
    ·by_cases k9:x.kind=9
     ·rw[Fh j i k9];refine C _ ?_ rfl rfl rfl;show (rN j.config.aq j.config.dX j.array j.bF.length).cells=_;exact(aiU hR O Z j.bF.length (by omega)).1
     ·unfold br;rcases kinds hx with q | q | q | q | q | q | q | q | q <;>rw[q] <;>simp only[Int.reduceBEq,Int.reduceBNe,av,ax,Bool.or_true,Bool.or_false,Bool.true_or,lK,Bool.or_self]
      ·exact absurd q T
      ·exact absurd (.inl q) I
      ·exact absurd (.inr q) I
      ·exact C _ rfl rfl rfl rfl
      ·exact absurd q k5
      ·exact C _ rfl rfl rfl rfl
      ·exact C _ rfl rfl rfl rfl
      ·exact C _ rfl rfl rfl rfl
      ·exact absurd q k9
def axm{c j:au}(r:Pr c j)(l:Int):dM j l=dM c l:=by
 unfold dM;rw[r.pC,r.pV]
def Mm.step{m:Nat->Int}{c j y:au}(h:Mm m c.array.cells)(T:gB c.config)(r:Pr c j)(U:bR j)(O:bM j=true)(E:Bi j)(Y:Fn j y):∃ m',Mm m' y.array.cells/\y.errors=c.errors/\((m'=m/\y.queue=c.queue/\y.aZ=c.aZ)\/
  ∃ (i:Nat) (h:i<c.queue.length),y.queue=c.queue.take i++c.queue.drop (i+1)/\
   bif c.queue[i].write then m'=Fl m (eI c.config.aq (dM c c.queue[i].line)) c.queue[i].data/\y.aZ=c.aZ++[⟨c.queue[i].id,c.now+1,0,0⟩]
   else m'=m/\y.aZ=c.aZ++[⟨c.queue[i].id,c.now+1,m (eI c.config.aq (dM c c.queue[i].line)),0⟩]):=by
 obtain⟨Z,e2⟩:=h.mc r.pM;have C:gB j.config:=by rw[r.pC];exact T
 have gb:=gV (Ih C.1);have Bh:200<=j.config.interval/\j.config.interval<=259:=C.2.2.2.2.1;have hl:j.config.dX=⟨6*j.config.interval,40⟩:=C.2.2.2.2.2.2;obtain⟨R,hR⟩:=dN (show 0<=j.config.aq.rows by omega);have hK:=axl O C E.1 E.2.1 E.2.2 hR;obtain⟨m',g1,g2,g3⟩:=Mm.fn (m:=m) (by rw[Z];exact h) U O hR hK (by rw[hl];show 0<=6*j.config.interval;omega) Y;refine⟨m',g1,g2.trans e2,?_⟩;rcases g3 with ⟨I,D,q3⟩|⟨i,hi,I,D⟩
 ·exact .inl ⟨I,D.trans r.pQ,q3.trans r.pY⟩
 ·refine .inr ⟨i,by rw[<-r.pQ];exact hi,by rw[I,r.pQ],?_⟩;have eq:∀ (h':i<c.queue.length),j.queue[i]=c.queue[i]:=λh'=>by
   have:=r.pQ;simp only[this]
  rw[eq (by rw[<-r.pQ];exact hi),r.pC,axm r,r.pY,r.pN]at D;exact D
def axn{c:au}{x:aQ}{i:Int}(C:1<=x.kind/\x.kind<=9):(br c x i).box=c.box/\(br c x i).aS.idle=c.aS.idle/\(br c x i).spare=c.spare:=by
 have acc:∀ i:Nat,(gx (cg c x) i).box=c.box/\(gx (cg c x) i).aS.idle=c.aS.idle/\(gx (cg c x) i).spare=c.spare:=λi=>by
  unfold gx;dsimp only;cases ((cg c x).queue.getD i pU).write<;>exact⟨rfl,rfl,rfl⟩
 unfold br;rcases kinds C with q|q|q|q|q|q|q|q|q<;>rw[q]<;>simp only[Int.reduceBEq,Int.reduceBNe,av,ax,Bool.or_true,Bool.or_false,Bool.true_or,lK,Bool.or_self]
 ·exact⟨rfl,rfl,rfl⟩
 ·exact acc _
 ·exact acc _
 ·exact⟨rfl,rfl,rfl⟩
 ·exact⟨rfl,rfl,rfl⟩
 ·exact⟨rfl,Sk _ _ _,rfl⟩
 ·exact⟨rfl,Sk _ _ _,rfl⟩
 ·exact⟨rfl,Sk _ _ _,rfl⟩
 ·exact⟨rfl,Sk _ _ _,rfl⟩
def Fn.sp{j y:au}(C:bR j)(E:bM j=true)(I:Fn j y):y.spare=j.spare/\y.config=j.config:=by
 rcases I with ⟨_,rfl⟩|⟨O,rfl⟩
 ·exact⟨rfl,rfl⟩
 ·obtain⟨_,T,_,_⟩:=CZ C (Pq.of C E) O;obtain⟨_,_,D,_⟩:=zg T;exact⟨(axn D).2.2,(ia D).2.2.2⟩
def axo{c:au}(C:bR c)(D:bM c=true){a:jk}(h:a.kind=1):nE c a=some (kY c a.request):=by
 unfold nE;rw[sF c C,az,sE c C,az,D,bI,ax,h,gu,av,aht c a.request C,az]
def axp{c y:au}(C:bR c)(D:bM c=true){a:jk}(h:a.kind=2)(E:0<=a.n/\a.n<=500)(e:Hs c a.n=some y):nE c a=some (y,true):=by
 unfold nE;rw[sF c C,az,sE c C,az,D,bI,ax,h,dy (show ¬ (2:Int)=1 by decide),ax,gu,av,cP,az,bu.2 E,av,e,az]
def axq:wo 0=Ie:=by
 obtain⟨e,_⟩:=Mn (x:=0) (by decide) (by decide);rw[aiq]at e;injection e with e;unfold wo Ie;rw[e]
def Mm.new(g:aK):Mm (λ_=>0) (Bg g).cells:=λi h=>by
 refine⟨?_,by dsimp only;omega,by dsimp only;omega⟩;rw[axq];have C:i<(List.replicate (ck g).toNat Ie).length:=h;exact List.getElem_replicate C
def C5(a:jk):Prop:=a.jl.weights.length<=1048576/\(a.kind=2->a.n<=40)
def axr{b:aa Int}{c:bH}(O:l8 b c){x:fB}(hx:gB x)(i:Int):Dr b (O5 c x i) C5:=by
 have T:=Ih hx.1;have gb:=gV T;unfold O5;rw[agl,az,aX,O.eq];dsimp only
 refine(gw O 12).bind λD k2 h2 C=>?_
 dsimp only;rw[C.eta];have U:∀ l:aa Int,0<l.length->(∀ x∈l,x<=40)->Dr b ((Cn k2 l).bind λE=>some ((⟨(2:Int),⟨(0:Int),(0:Int),(0:Int),false,(0:Int),(0:Int)⟩,E.1,(0:Int),⟨(0:Int),(0:Int),(0:Int)⟩,⟨(0:Int),(0:Int),(0:Int),(0:Int),(0:Int),[],⟨(0:Int),(0:Int)⟩⟩⟩:jk),((⟨b,E.2.1.i,E.2.1.h⟩:bH),()))) C5:=λl hl Zs=>by
  refine(QT C l hl).bind λy k hy Y=>?_
  dsimp only;rw[Y.eta];exact Dr.pure Y ⟨by show (0:Nat)<=1048576;omega,λ_=>Zs _ hy⟩
 cases h0:D==(0:Int)with
 | true=>
  rw[av,av];exact U _ (by simp) (by decide)
 |false=>
 rw[ax];cases h1:D==(1:Int)with
 | true=>
  rw[av];exact U _ (by simp) (by decide)
 |false=>
 rw[ax];cases D==(2:Int)with
 | true=>
  rw[av]
  refine(as4 C T).bind λy5 k5 h5 Z=>?_
  dsimp only;rw[Z.eta]
  refine(gw Z 11).bind λy6 k6 h6 CL=>?_
  dsimp only;rw[CL.eta]
  refine(gw CL 16).bind λy7 k7 h7 CM=>?_
  dsimp only;rw[CM.eta];exact Dr.pure CM ⟨by show (0:Nat)<=1048576;omega,λh=>absurd (show (3:Int)=2 from h) (by decide)⟩
 |false=>
 rw[ax];cases D==(3:Int)with
 | true=>
  rw[av]
  refine(QT C _ (by simp)).bind λy8 k8 h8 Ma=>?_
  dsimp only;rw[Ma.eta]
  refine(gw Ma 2).bind λy9 k9 h9 Mb=>?_
  rw[XK,az];dsimp only;rw[Mb.eta]
  refine(gw Mb _).bind λsy Xj CI aiV=>?_
  dsimp only;rw[aiV.eta]
  refine(gw aiV _).bind λCo Xi sj aiW=>?_
  dsimp only;rw[aiW.eta]
  refine(ahn aiW).bind λo7 G6 tN aiX=>?_
  dsimp only;rw[aiX.eta];have hl:=(Ig tN).2.2;exact Dr.pure aiX ⟨by show o7.weights.length<=1048576;omega,λ_=>by show y9<=40;have:=h9.2.2 (by decide);omega⟩
 |false=>
 rw[ax]
 refine(awQ C _).bind λru Xh zh aiY=>?_
 dsimp only;rw[aiY.eta]
 refine(QU aiY 2).bind λuH Xg zi I=>?_
 dsimp only;rw[I.eta];cases uH with
 | true=>
  rw[av]
  refine(gw I 3).bind λtD k16 qy aiZ=>?_
  dsimp only;rw[aiZ.eta];exact Dr.pure aiZ ⟨by show (0:Nat)<=1048576;omega,λh=>absurd (show (1:Int)=2 from h) (by decide)⟩
 |false=>exact Dr.pure I ⟨by show (0:Nat)<=1048576;omega,λh=>absurd (show (1:Int)=2 from h) (by decide)⟩
def axt{b:aa Int}{c:bH}(U:l8 b c){x:fB}(hx:gB x)(m:Nat)(hm:m<=100):Dr b (Pa c x (m:Int)) λl=>l.length<=m+1/\∀ a∈l,C5 a:=by
 unfold Pa bZ;rw[U.eq];obtain⟨z,e,C,bq,D,hl,E,rfl⟩:=XG (step:=Kv) (m+1) (λk s=>∃ (C:bH) (bq:aa jk),l8 b C/\bq.length=k/\(∀ a∈bq,C5 a)/\s=(((),(m:Int),(),(),(k:Int),()),(((),C.i,C.h,()),x,bq,b,())))
  (λz=>∃(C:bH) (bq:aa jk),l8 b C/\bq.length<=m+1/\(∀a∈bq,C5 a)/\z = .inl (((),()),(bq,((),C.i,C.h,()),b,()))) bC (x:=(((),(m:Int),(),(),(0:Int),()),(((),c.i,c.h,()),x,([]:aa jk),b,()))) ⟨c,[],U,rfl,λa ha=>(by cases ha),rfl⟩ (by
  rintro k hk s ⟨C,bq,D,hl,E,rfl⟩;unfold Kv aM xG;dsimp only;rw[D.eta,bh (n:=(m:Int)+1)];obtain⟨Y,O,T,I,Z⟩:=gw D ((m:Int)+1);rw[T,az];dsimp only;by_cases dA:(k:Int)<Y
  ·obtain⟨y2,k2,e2,kU,h2⟩:=axr I hx (W6 ((k:Int)+1));rw[bf dA,av,I.eta,e2,az];dsimp only;rw[fR (by rw[mj];omega),av,cC]
   refine .inl ⟨_,rfl,k2,bq++[y2],kU,by rw[jh,mj,hl],λa ha=>?_,rfl⟩
   rcases gE.1 ha with ha|ha
   ·exact E a ha
   ·rw[gz.1 ha];exact h2
  ·rw[bz dA,ax];exact .inr ⟨_,rfl,O,bq,I,by omega,E,rfl⟩) (by
  rintro s ⟨C,bq,D,hl,E,rfl⟩;unfold Kv aM xG;dsimp only;rw[D.eta,bh (n:=(m:Int)+1)];obtain⟨Y,O,T,I,Z⟩:=gw D ((m:Int)+1);have h31:=Z.2.2 (by omega);rw[T,az];dsimp only;rw[bz,ax];exact⟨_,rfl,O,bq,I,by omega,E,rfl⟩) (cM)
 rw[e,az];simp only[iJ];rw[D.eta];exact Dr.pure D ⟨hl,E⟩
def axu{c:au}(D:bR c)(E:bM c=true):2<=ck (dG c.config.aq c.spare):=by
 have I:=Pq.of D E;obtain⟨O,Y,C,Z,s1,s2,s3,s4⟩:=HW I.sp;have gb:=gV C;have hb:=EH C;have T:2<=(dG c.config.aq c.spare).rows:=by rw[O];exact s3
 have U:=Int.mul_le_mul (show 1<=aE (dG c.config.aq c.spare) by omega) T (by decide) (by omega);have h2:=Int.mul_le_mul U (show 1<=(dG c.config.aq c.spare).aW by omega) (by decide) (by omega);unfold ck;rw[C,av];omega
def ai0{c:au}{t:Nat}:∀ n,(oA c n).getD t false=true->∃ i,i<n/\gC c i=true/\(gI c i).cS.toNat=t
 | 0,h=>by
  exfalso;have h:(List.replicate 4 false).getD t false=true:=h;rw[cQ,List.getElem?_replicate]at h;split at h<;>cases h
 | n+1,h=>by
  have e:oA c (n+1)=bif gC c n then (oA c n).set (gI c n).cS.toNat true else oA c n:=rfl;rw[e]at h;have D:(oA c n).getD t false=true->∃ i,i<n+1/\gC c i=true/\(gI c i).cS.toNat=t:=λh=>by
   obtain⟨i,T,I,O⟩:=ai0 n h;exact⟨i,by omega,I,O⟩
  cases C:gC c n with
  |false=>rw[C]at h;exact D h
  | true=>
   rw[C,av]at h;by_cases E:(gI c n).cS.toNat=t
   ·exact⟨n,by omega,C,E⟩
   ·rw[getD_set_ne _ E]at h;exact D h
def Iq{c:au}{i:Nat}(C:gC c i=true)(I:(gI c i).cS.toNat<4):∀ n,i<n->(oA c n).getD (gI c i).cS.toNat false=true
 | n+1,h=>by
  have e:oA c (n+1)=bif gC c n then (oA c n).set (gI c n).cS.toNat true else oA c n:=rfl;have hl:=CY c n;rw[e];by_cases O:i=n
  ·subst O;rw[C,av,oD _ (by omega)]
  ·have D:=Iq C I n (by omega);cases hb:gC c n with
   |false=>rw[ax];exact D
   | true=>
    rw[av];by_cases E:(gI c n).cS.toNat=(gI c i).cS.toNat
    ·rw[E,oD _ (by omega)]
    ·rw[getD_set_ne _ E];exact D
def axv{old hit eJ:Nat->Bool}{n k:Nat}(I:k<n)(E:eJ k=true):wh old hit eJ n ≠ -1:=λh=>by
 have key:∀p:Nat->Bool,gT p n<0\/0<=gT p n:=λp=>by omega
 have T:0<=gT eJ n:=by
  rcases qF eJ n with ⟨e,O⟩|⟨j,e,_⟩
  ·rw[O k I]at E;cases E
  ·omega
 unfold wh at h;cases C:decide (gT (λi=>eJ i&&old i) n<0)with
 | false=>
  have:=of_decide_eq_false C;rw[C,ax]at h;omega
 | true=>
  rw[C,av]at h;cases D:decide (gT (λi=>eJ i&&hit i) n<0)with
  | false=>
   have:=of_decide_eq_false D;rw[D,ax]at h;omega
  | true=>
   rw[D,av]at h;omega
def axw{c:au}(C:Pq c){i:Nat}(hi:i<c.queue.length)(O:gC c i=true):∃ k:Nat,k<c.queue.length/\gC c k=true/\jT c=(k:Int):=by
 have E:∀ k,k<c.queue.length->0<=(gI c k).cS/\(gI c k).cS<=3:=λk D=>by
  have e:gI c k=c.queue[k]:=fU _ D;rw[e];exact(C.q _ (cX D)).2.1
 have ht:=E i hi;have T:=Iq O (by omega) c.queue.length hi;obtain⟨y,t,e,t0,U⟩:=axi (l:=c.shares) (oA c c.queue.length) (by have:=C.shl;omega) C.sh (by rw[CY,C.shl]) (i:=(gI c i).cS.toNat) (by rw[CY];omega) T;have Y:nK c=t:=by unfold nK;rw[e]
 obtain⟨k,I,Z,k3⟩:=ai0 _ U;have D:=E k I;have wm:kA c (nK c) k=true:=by
  unfold kA;rw[Z,Y,dn,dO];omega
 rcases R3 (old:=sJ c) (hit:=ez c) (eJ:=kA c (nK c)) (n:=c.queue.length)with e|⟨j,hj,e,hb⟩
 ·exact absurd e (axv I wm)
 ·unfold kA at hb;rw[aH]at hb;exact⟨j,hj,hb.1,e⟩
def Zy{c:au}{i:Nat}(h:gC c i=true):cq c (cG c i)=true/\jS c i=true:=by
 simp only[gC,aH]at h;exact⟨h.2.2.1,h.1⟩
def axx{q:aa aR}{r:aR}(E:r∈q):∃ i,∃ h:i<q.length,q[i].line=r.line/\mW q i=true:=by
 obtain⟨n,C,e⟩:=jL.1 E;have key:∀ n,∀ C:n<q.length,q[n].line=r.line->∃ i,∃ h:i<q.length,q[i].line=r.line/\mW q i=true:=by
  intro n
  induction n using Nat.strongRecOn with
  | ind n I=>
   intro C D;cases hb:CT q n with
   |false=>exact⟨n,C,D,by unfold mW;rw[hb];rfl⟩
   | true=>
    rw[ahK C]at hb;obtain⟨x,O,hl⟩:=List.any_eq_true.1 hb;obtain⟨m,T,e⟩:=jL.1 O;rw[jK]at T;rw[List.getElem_take]at e;exact I m (by omega) (by omega) (by rw[e,dO.1 hl];exact D)
 exact key n C (by rw[e])
def axy{g:aK}{t:dw}(D:kC t)(a b:aQ)(E:a.kind≠9):eH g t a b<=12:=by
 obtain⟨r,w,Y,Z,w1,w2,rfl⟩:=D;have I:W6 (r+3)=r+3:=bh;have O:W6 (w+3)=w+3:=bh;have T:W6 (7+3)=10:=by decide
 have C:∀ x y:Int,mP (gZ r w) x y<=12/\0<=mP (gZ r w) x y:=λx y=>by
  unfold mP gZ;dsimp only;rw[I,O,T];cases x==1<;>cases x==2<;>cases x==3<;>cases x==4<;>cases x==5<;>cases y==4<;>cases (y==2 ||y==3)<;>cases (y==1 ||y==5)<;>simp only[av,ax]<;>omega
 have U:∀ (y:Int) (n:Bool),qC (gZ r w) a.kind y n<=12:=λy n=>by
  have hb:=C a.kind 1;unfold qC;show (bif a.kind==7 then (4:Int)else bif a.kind==9 then (16:Int)else bif _ then (3:Int)else bif _ then (bif n then (3:Int)else 2)else bif _ then (bif n then (3:Int)else 2)else bif _ then (bif n then (5:Int)else 4)else bif _ then (4:Int)else bif _ then (3:Int)else bif _ then r else bif _ then w else bif _ then mP (gZ r w) a.kind 1 else (0:Int))<=12;rw[dy E,ax];refine(jF (a:=0) ⟨by omega,by omega⟩ (jF ⟨by omega,by omega⟩ (jF (jF ⟨by omega,by omega⟩ ⟨by omega,by omega⟩) (jF (jF ⟨by omega,by omega⟩ ⟨by omega,by omega⟩) (jF (jF ⟨by omega,by omega⟩ ⟨by omega,by omega⟩) (jF ⟨by omega,by omega⟩ (jF ⟨by omega,by omega⟩ (jF ⟨by omega,by omega⟩ (jF ⟨by omega,by omega⟩ (jF ⟨hb.2,hb.1⟩ ⟨by omega,by omega⟩)))))))))).2
 have h2:=C a.kind b.kind;have h3:=U b.kind (sD g a b);unfold eH;cases ou a b&&a.aA==b.aA with
 |true=>rw[av];omega
 |false=>rw[ax];omega
def Sn{c:au}(h:Pq c){x:aQ}(I:x.kind=1->c.ready.bq.length=4->c.ready.bq.getD 0 0+c.config.bP.nR<=c.now)(O:kj c.aG x=true)(T:∀ (b k:Nat),1<=k->k<=9->0<=La c.ready b k->La c.ready b k+eH c.config.aq c.config.bP ⟨(k:Int),if k<=5 then (b:Int)else 0,0,0⟩ x<=c.now):cq c x=true:=by
 have U:=h.nw;have C:uM c.config.aq c.config.bP c.ready.last x c.ready.last.length<=c.now:=by
  refine Zd _ _ _ _ U.1 (λi hi Y=>?_) _ (dg _)
  obtain⟨b,k,rfl,Z,k9⟩:∃b k:Nat,i=9*b+k-1/\1<=k/\k<=9:=⟨i / 9,i % 9+1,by omega,by omega,by omega⟩
  have e1:((9*b+k-1:Nat):Int) % 9+1=(k:Int):=by omega
  have e2:((9*b+k-1:Nat):Int) / 9=(b:Int):=by omega
  have D:La c.ready b k=c.ready.last[9*b+k-1]:=fU _ hi;have e3:ku (9*b+k-1)=⟨(k:Int),if k<=5 then (b:Int)else 0,0,0⟩:=by
   unfold ku;rw[e1,e2];by_cases E:k<=5
   ·rw[aV,aV E]
   ·rw[aX,aX E]
  rw[e3,<-D];exact T b k Z k9 (by rw[D];exact Y)
 have C:me c.config.aq c.config.bP c.ready x<=c.now:=by
  unfold me;cases hb:x.kind==1&&(c.ready.bq.length:Int)==4 with
  |false=>rw[ax];exact C
  | true=>
   rw[aH,dO,dO]at hb;have:=I hb.1 (by omega);rw[av];unfold uL;split<;>omega
 unfold cq;rw[O,bf C,bf (show me c.config.aq c.config.bP c.ready x<=1000000 by omega)];rfl
def fM(f:Nat->Int):Nat->Int
 |0=>0
 |n+1=>fM f n+f n
def Zz{f f':Nat->Int}:∀ n,(∀ b,b<n->f b=f' b)->fM f n=fM f' n
 |0,_=>rfl
 | n+1,h=>by
  show fM f n+f n=fM f' n+f' n;rw[Zz n λb hb=>h b (by omega),h n (by omega)]
def Ir{f f':Nat->Int}{B:Nat}{d:Int}:∀ n,B<n->(∀ b,b<n->b≠B->f' b=f b)->f' B=f B+d->fM f' n=fM f n+d
 | n+1,hB,h,C=>by
  show fM f' n+f' n=fM f n+f n+d;by_cases e:B=n
  ·subst e;rw[Zz (f:=f') (f':=f) B λb hb=>h b (by omega) (by omega),C];omega
  ·rw[Ir n (by omega) (λb hb D=>h b (by omega) D) C,h n (by omega) (λh=>e h.symm)];omega
def Fm{f:Nat->Int}{lo hi:Int}:∀ n:Nat,(∀ b,b<n->lo<=f b/\f b<=hi)->lo*n<=fM f n/\fM f n<=hi*n
 |0,_=>⟨by show lo*((0:Nat):Int)<=0;simp,by show 0<=hi*((0:Nat):Int);simp⟩
 | n+1,h=>by
  obtain⟨C,D⟩:=Fm n λb hb=>h b (by omega)
  obtain⟨E,I⟩:=h n (by omega);show lo*((n+1:Nat):Int)<=fM f n+f n/\fM f n+f n<=hi*((n+1:Nat):Int)
  rw[Int.natCast_add,Int.mul_add,Int.mul_add];omega
def cW(c:au):Nat:=(aE c.config.aq).toNat
def ai1{g:aK}{q:fj}{e:eB}{a:Int}(h:a∈(iF g q e).bq):a∈q.bq\/a=e.at_:=by
 unfold iF at h;revert h;cases kX g q&&(cD g e.cmd&&(aT e.at_ 0 1000000 && !(e.cmd.kind==1&&vV q e.at_)))with
 |false=>exact λh=>.inl h
 | true=>
  rw[av];dsimp only;cases e.cmd.kind==1 with
  |false=>exact λh=>.inl h
  | true=>
   rw[av];intro h;unfold CJ at h;rcases gE.1 (List.mem_of_mem_drop h)with h|h
   ·exact .inl h
   ·exact .inr (gz.1 h)
def ZA{g:aK}(h:Md g):aE g<=4:=by
 obtain⟨C,D,_⟩:=h;unfold aE;cases cJ g with
 |false=>rw[ax];decide
 | true=>
  rw[av];exact(QN (a:=g.cN) (b:=g.aO) (A:=2) (B:=2) (by omega) (by omega) (by omega) (by omega)).2
def yc(c:au):au:=(tF c).getD c
def ai2{may:Nat->Bool}(v:Nat->Int){i:Nat}(h:may i=true):∀ n,i<n->∃ k:Nat,lJ may v n=(k:Int)/\k<n/\v i<=v k/\(i<k->v i<v k)
 | n+1,U=>by
  rw[HV];unfold CO;by_cases e:i=n
  ·subst e;rw[h,dn];have hb:=tP may v i;by_cases C:lJ may v i<0
   ·rw[bf C,Bool.true_or,av];exact⟨i,rfl,by omega,dU _,λD=>by omega⟩
   ·rw[bz C,lK];by_cases E:v i > v (lJ may v i).toNat
    ·rw[bf E,av];exact⟨i,rfl,by omega,dU _,λD=>by omega⟩
    ·rw[bz E,ax];exact⟨(lJ may v i).toNat,by omega,by omega,by omega,λD=>by omega⟩
  ·obtain⟨k,I,Y,O,T⟩:=ai2 v h n (by omega);rw[I,bz (show ¬ (k:Int)<0 by omega),lK,bD];cases hm:may n&&decide (v n > v k)with
   |false=>exact⟨k,rfl,by omega,O,T⟩
   | true=>
    rw[aH]at hm;have:=ja hm.2;exact⟨n,rfl,by omega,by omega,λ_=>by omega⟩
def ai3{l:aa dz}(w:aa Bool)(hl:l.length<1073741823)(O:ki l=true)(hw:l.length=w.length){i:Nat}(hi:i<w.length)(T:w.getD i false=true):∃ y,pg l w=some (y,if (l.getD (jf l w).toNat ⟨0,0⟩).eS=0 then jf (fq l) w else jf l w):=by
 unfold pg xA xC bZ xL xZ;have hb:=tP (λi=>w.getD i false) (λi=>(l.getD i ⟨0,0⟩).eS) (min l.length w.length);have U:(fq l).length=l.length:=by simp[fq]
 have Y:=tP (λi=>w.getD i false) (λi=>((fq l).getD i ⟨0,0⟩).eS) (min (fq l).length w.length);have Z:=A7 (λi=>w.getD i false) (λi=>(l.getD i ⟨0,0⟩).eS) (min l.length w.length);have h0:=EZ (may:=λi=>w.getD i false) (λi=>(l.getD i ⟨0,0⟩).eS) (i:=i) T (min l.length w.length) (by omega);rw[List.nil_append,CP l w (by omega),az,HD _ (by omega),az,O,bI,ax,List.length_nil,gy,fR,av];have jw:0<=jf l w:=h0;have C0:jf l w<((min l.length w.length:Nat):Int):=hb.2;have C4:w.getD (jf l w).toNat false=true:=Z.resolve_left (λe=>by have e:jf l w = -1:=e;omega);have C:(jf l w).toNat<l.length:=by omega
 rw[bz,ax,aP ⟨by omega,C⟩,aP C];dsimp only;rw[fU _ C];by_cases D:l[(jf l w).toNat].eS=0
 ·rw[aV D,D];show ∃ y,(bif (0:Int)==0 then _ else _)=_;rw[show ((0:Int)==0)=true from rfl,av,Rq l w (by omega),az];simp only[iJ];rw[CP _ w (by omega),az];have I:0<=jf (fq l) w:=EZ _ (i:=(jf l w).toNat) C4 _ (by rw[U];omega);have hq:jf (fq l) w<((min (fq l).length w.length:Nat):Int):=Y.2;have E:(jf (fq l) w).toNat<(fq l).length:=by omega
  rw[aP ⟨I,E⟩,aP E,aP ⟨I,E⟩,aP E];exact⟨_,rfl⟩
 ·rw[aX D,dy D,ax,aP ⟨by omega,C⟩,aP C,aP ⟨by omega,C⟩,aP C];exact⟨_,rfl⟩
def Tb(l:aa dz)(x y:Nat):Prop:=∀(w:aa Bool) (z:aa dz) (t:Int),l.length=w.length->w.getD x false=true->w.getD y false=true->pg l w=some (z,t)->t≠(y:Int)
def axz{l:aa dz}(C:ki l=true)(k:Nat):0<=(l.getD k ⟨0,0⟩).eS:=by
 by_cases D:k<l.length
 ·rw[fU _ D];simp only[ki,aH,cm]at C;have:=C.1 _ (cX D);simp only[sB,aH,bu]at this;omega
 ·rw[cQ,qL (by omega)];decide
def Is{l:aa dz}{w:aa Bool}(O:l.length=w.length){i:Nat}(hi:w.getD i false=true):∃ k:Nat,jf l w=(k:Int)/\k<l.length/\w.getD k false=true/\(l.getD i ⟨0,0⟩).eS<=(l.getD k ⟨0,0⟩).eS/\(i<k->(l.getD i ⟨0,0⟩).eS<(l.getD k ⟨0,0⟩).eS):=by
 have T:i<w.length:=Classical.byContradiction λh=>by
  rw[cQ,qL (by omega)]at hi;cases hi
 obtain⟨k,C,U,E,I⟩:=ai2 (may:=λi=>w.getD i false) (λi=>(l.getD i ⟨0,0⟩).eS) hi (min l.length w.length) (by omega);have D:=A7 (λi=>w.getD i false) (λi=>(l.getD i ⟨0,0⟩).eS) (min l.length w.length);rw[C,bD]at D;exact⟨k,C,by omega,D.resolve_left (by omega),E,I⟩
def axA{l:aa dz}{w:aa Bool}{z:aa dz}(hl:l.length<1073741823)(O:ki l=true)(T:l.length=w.length){x y:Nat}(h:pg l w=some (z,(x:Int)))(U:w.getD x false=true)(hy:w.getD y false=true)(hxy:x≠y):Tb l x y:=by
 have hlr:(fq l).length=l.length:=by simp[fq]
 have dA:∀ {w:aa Bool} {k:Nat},w.getD k false=true->k<w.length:=λ{w k} hi=>Classical.byContradiction λh=>by
  rw[cQ,qL (by omega)]at hi;cases hi
 have c0:=axz O;intro w' z' t Y I Dw h' e;subst e;obtain⟨a1,C⟩:=ai3 w hl O T (dA U) U;obtain⟨a2,E⟩:=ai3 w' hl O Y (dA I) I;rw[h]at C;rw[h']at E;injection C with C;injection E with E;have C:=bE Prod.snd C;have E:=bE Prod.snd E;dsimp only at C E;obtain⟨B,b1,b2,b3,b4,b5⟩:=Is T hy;obtain⟨Z,bx1,_,_,bx4,bx5⟩:=Is T U;obtain rfl:Z=B:=by rw[b1]at bx1;omega
 obtain⟨D,d1,d2,d3,d4,d5⟩:=Is Y I;obtain⟨D2,dy1,_,_,dy4,dy5⟩:=Is Y Dw;obtain rfl:D2=D:=by rw[d1]at dy1;omega
 obtain⟨B',f1,f2,f3,f4,f5⟩:=Is (l:=fq l) (w:=w) (by omega) hy;obtain⟨D',g1,g2,g3,g4,g5⟩:=Is (l:=fq l) (w:=w') (by omega) I;rw[b1,bD]at C;rw[d1,bD]at E;have q1:=c0 x;have q2:=c0 y;split at C<;>split at E
 ·rw[f1]at C;rw[g1]at E;obtain rfl:x=B':=by omega
  obtain rfl:y=D':=by omega
  rcases Nat.lt_or_gt_of_ne hxy with hh|hh
  ·have:=g5 hh;omega
  ·have:=f5 hh;omega
 ·have E:y=D2:=by omega
  subst E;omega
 ·have C:x=Z:=by omega
  subst C;omega
 ·have C:x=Z:=by omega
  have E:y=D2:=by omega
  subst C E;rcases Nat.lt_or_gt_of_ne hxy with hh|hh
  ·have:=d5 hh;omega
  ·have:=b5 hh;omega
def yj(c:au):Prop:=∀a b:Nat,a<=b->b<c.queue.length->(gI c a).at_<=(gI c b).at_
def It(c:au)(i k:Nat):Prop:=((gI c i).cS≠(gI c k).cS/\Tb c.shares (gI c i).cS.toNat (gI c k).cS.toNat)\/((gI c i).cS=(gI c k).cS/\i<k)
def So{c:au}(D:Pq c){k:Nat}(C:k<c.queue.length):0<=(gI c k).cS/\(gI c k).cS<=3:=by
 have e:gI c k=c.queue[k]:=fU _ C;rw[e];exact(D.q _ (cX C)).2.1
def ME{c:au}{i:Nat}(h:jT c=(i:Int)):gC c i=true/\(gI c i).cS=nK c:=by
 rcases R3 (old:=sJ c) (hit:=ez c) (eJ:=kA c (nK c)) (n:=c.queue.length)with e|⟨j,C,e,hb⟩
 ·have e:jT c = -1:=e;omega
 ·have e:jT c=(j:Int):=e;obtain rfl:i=j:=by omega
  unfold kA at hb;rw[aH,dO]at hb;exact hb
def MF{c:au}{i:Nat}(h:jT c=(i:Int)):i<c.queue.length:=by
 have:=aia c;omega
def ai4{c:au}(C:yj c){a b:Nat}(D:a<=b)(hb:b<c.queue.length)(h:sJ c b=true):sJ c a=true:=by
 have:=C a b D hb;have:=ja h;exact bf
def axB{c:au}(C:Pq c)(hs:yj c){i k:Nat}(h:jT c=(i:Int))(O:k<c.queue.length)(T:gC c k=true)(bQ:k≠i)(FA:ez c i=false):It c i k:=by
 obtain⟨ai,U⟩:=ME h;have hi:=MF h;have ti4:=So C hi;have tk4:=So C O;by_cases D:(gI c i).cS=(gI c k).cS
 ·refine .inr ⟨D,?_⟩;have Y:kA c (nK c) k=true:=by unfold kA;rw[T,<-D,U];simp
  unfold jT wh at h;rcases qF (λi=>kA c (nK c) i&&sJ c i) c.queue.length with ⟨E,Z⟩|⟨j,hj,E,p1,Z⟩
  ·rw[E,bf,av]at h;rcases qF (λi=>kA c (nK c) i&&ez c i) c.queue.length with ⟨I,n2⟩ | ⟨j,hj,I,p2,n2⟩
   ·rw[I,bf,av]at h;rcases qF (kA c (nK c)) c.queue.length with ⟨e3,n3⟩ | ⟨j,hj,e3,p3,n3⟩
    ·omega
    ·obtain rfl:i=j:=by omega
     refine Classical.byContradiction λhh=>?_
     have:=n3 k (by omega);rw[Y]at this;cases this
   ·rw[I,bz,ax]at h;obtain rfl:i=j:=by omega
    rw[FA,Bool.and_false]at p2;cases p2
  ·rw[E,bz,ax]at h;obtain rfl:i=j:=by omega
   refine Classical.byContradiction λhh=>?_
   rw[aH]at p1;have:=Z k (by omega);rw[Y,ai4 hs (a:=k) (b:=i) (by omega) hi p1.2]at this;cases this
 ·refine .inl ⟨D,?_⟩;obtain⟨z,e⟩:=YO C;have wi:=Iq ai (by omega) c.queue.length hi;have wk:=Iq T (by omega) c.queue.length O;refine axA (w:=oA c c.queue.length) (z:=z) (by have:=C.shl;omega) C.sh (by rw[CY,C.shl]) ?_ wi wk (by omega);rw[e,<-U,Int.toNat_of_nonneg ti4.1]
def axC{c:au}(C:Pq c)(hs:yj c){i k:Nat}(p:It c i k)(hi:i<c.queue.length)(ai:gC c i=true)(hh:ez c i=true)(h:jT c=(k:Int))(hk:ez c k=false):False:=by
 obtain⟨ak,I⟩:=ME h;have D:=MF h;have ti4:=So C hi;have tk4:=So C D;rcases p with ⟨O,tb⟩|⟨O,hik⟩
 ·obtain⟨z,e⟩:=YO C;have wi:=Iq ai (by omega) c.queue.length hi;have wk:=Iq ak (by omega) c.queue.length D;have:=tb _ z _ (by rw[CY,C.shl]) wi wk e;rw[<-I]at this;omega
 ·have T:kA c (nK c) i=true:=by unfold kA;rw[ai,O,I];simp
  unfold jT wh at h;rcases qF (λi=>kA c (nK c) i&&sJ c i) c.queue.length with ⟨E,U⟩|⟨j,hj,E,Y,U⟩
  ·rw[E,bf,av]at h;rcases qF (λi=>kA c (nK c) i&&ez c i) c.queue.length with ⟨Z,n2⟩ | ⟨j,hj,Z,p2,n2⟩
   ·have:=n2 i hi;rw[T,hh]at this;cases this
   ·rw[Z,bz,ax]at h;obtain rfl:k=j:=by omega
    rw[hk,Bool.and_false]at p2;cases p2
  ·rw[E,bz,ax]at h;obtain rfl:k=j:=by omega
   rw[aH]at Y;have:=U i hik;rw[T,ai4 hs (a:=i) (b:=k) (by omega) D Y.2]at this;cases this
def ai5{c:au}{x:aQ}(D:cq c x=true){b k:Nat}(Z:1<=k)(k9:k<=9)(C:0<=La c.ready b k):La c.ready b k+eH c.config.aq c.config.bP ⟨(k:Int),if k<=5 then (b:Int)else 0,0,0⟩ x<=c.now:=by
 simp only[cq,aH]at D;have ha:=ja D.2.2;have hi:9*b+k-1<c.ready.last.length:=Classical.byContradiction λh=>by
  unfold La at C;rw[cQ,qL (by omega)]at C;exact absurd C (by decide)
 have E:La c.ready b k=c.ready.last[9*b+k-1]:=fU _ hi;have O:=YY c.config.aq c.config.bP c.ready.last x c.ready.last.length (dg _) (9*b+k-1) hi hi (by rw[<-E];exact C);have h2:=aim c.config.aq c.config.bP c.ready x;have T:((9*b+k-1:Nat):Int) % 9+1=(k:Int):=by omega
 have U:((9*b+k-1:Nat):Int) / 9=(b:Int):=by omega
 have Y:ku (9*b+k-1)=⟨(k:Int),if k<=5 then (b:Int)else 0,0,0⟩:=by
  unfold ku;rw[T,U];by_cases I:k<=5
  ·rw[aV,aV I]
  ·rw[aX,aX I]
 rw[Y,<-E]at O;omega
def mY{c:au}{x:aQ}{i:Int}(C:1<=x.kind/\x.kind<=9)(D:x.kind≠2)(E:x.kind≠3):(br c x i).queue=c.queue/\(br c x i).aZ=c.aZ/\(br c x i).shares=c.shares/\(br c x i).drain=c.drain/\(br c x i).spare=c.spare/\(br c x i).box=c.box:=by
 unfold br;rcases kinds C with q|q|q|q|q|q|q|q|q
 ·rw[q];exact⟨rfl,rfl,rfl,rfl,rfl,rfl⟩
 ·exact absurd q D
 ·exact absurd q E
 ·rw[q];exact⟨rfl,rfl,rfl,rfl,rfl,rfl⟩
 ·rw[q];exact⟨rfl,rfl,rfl,rfl,rfl,rfl⟩
 ·rw[q];exact⟨rfl,rfl,rfl,rfl,rfl,rfl⟩
 ·rw[q];exact⟨rfl,rfl,rfl,rfl,rfl,rfl⟩
 ·rw[q];exact⟨rfl,rfl,rfl,rfl,rfl,rfl⟩
 ·rw[q];exact⟨rfl,rfl,rfl,rfl,rfl,rfl⟩
def MG{c:au}{x:aQ}{i:Nat}(hi:i<c.queue.length)(C:x.kind=2\/x.kind=3):(br c x (i:Int)).queue=c.queue.take i++c.queue.drop (i+1)/\(br c x (i:Int)).aZ.length=c.aZ.length+1/\(br c x (i:Int)).spare=c.spare/\(br c x (i:Int)).box=c.box:=by
 have D:(cg c x).queue.getD i pU=c.queue[i]:=fU _ hi;have acc:(gx (cg c x) i).queue=c.queue.take i++c.queue.drop (i+1)/\(gx (cg c x) i).aZ.length=c.aZ.length+1/\(gx (cg c x) i).spare=c.spare/\(gx (cg c x) i).box=c.box:=by
  have hl:∀r:cI,(c.aZ++[r]).length=c.aZ.length+1:=λr=>by rw[jh,mj]
  unfold gx;rw[D];dsimp only;cases c.queue[i].write
  ·exact⟨rfl,hl _,rfl,rfl⟩
  ·exact⟨rfl,hl _,rfl,rfl⟩
 unfold br;rcases C with q|q<;>rw[q]<;>exact acc
def axD{c:au}(h:Pq c)(D:c.aS.state=0)(T:sG c=true):
  (∃b∈bV 0 c.ay.aB,cq c (fI c b)=true/\gJ c=(fI c b,-1))\/
  ((∀ b∈bV 0 c.ay.aB,cq c (fI c b)=false)/\
    ((∃k,k<c.pending.length/\rK c k=true/\cq c (jG c k)=true/\gJ c=(jG c k,-1))\/
    (∃i:Nat,jT c=(i:Int)/\gJ c=(cG c i,(i:Int)))\/
    ((∀i,i<c.queue.length->gC c i=false)/\((∃x,x∈sK c++oC c/\cq c x=true/\gJ c=(x,-1))\/gJ c=(zx,-1))))):=by
 have U:cL c=0:=by
  have:=R9 T;rw[D]at this;exact this
 have Y:pZ c=[]:=by
  unfold pZ;rw[U];rfl
 unfold gJ;rw[D,bne_self_eq_false,ax];unfold H9;rw[List.find?_append];cases C:(H7 c).find? (cq c)with
 | some y=>
  obtain⟨b,hb,rfl⟩:=iZ.1 (sR C);exact .inl ⟨b,hb,List.find?_some C,rfl⟩
 | none=>
  refine .inr ⟨λb hb=>nN.2 (List.find?_eq_none.1 C _ (List.mem_map_of_mem hb)),?_⟩
  rw[Option.none_or];cases E:(H8 c c.pending.length).find? (cq c)with
  | some y=>
   obtain⟨k,Z,rfl⟩:=iZ.1 (sR E);obtain⟨k1,k2⟩:=List.mem_filter.1 Z;exact .inl ⟨k,gq.1 k1,k2,List.find?_some E,rfl⟩
  | none=>
   refine .inr ?_;dsimp only;by_cases hc:0<=jT c
   ·obtain⟨i,I⟩:=dN hc;refine .inl ⟨i,I,?_⟩;unfold pW;rw[I,bz (show ¬ (i:Int)<0 by omega),ax];dsimp only;rw[bf (show (i:Int) >= 0 by omega),av,bD]
   ·refine .inr ⟨λi hi=>nN.2 λha=>?_,?_⟩
    ·obtain⟨k,_,_,e⟩:=axw h hi ha;omega
    ·have e:(pW c).2 = -1:=by
      unfold pW;rw[bf (show jT c<0 by omega)];rfl
     rw[e,show decide ((-1:Int) >= 0)=false from rfl,ax,Y,List.append_nil];unfold uQ;cases O:(sK c++oC c).find? (cq c)with
     |none=>exact .inr rfl
     |some x=>exact .inl ⟨x,sR O,List.find?_some O,rfl⟩
def axE{c:au}(h:Pq c){x:aQ}(hx:x∈sK c++oC c):∃ b:Nat,(b:Int)<aE c.config.aq/\((x=⟨5,(b:Int),0,0⟩/\c.ay.aB.getD b 0 >= 1/\kB c b=true/\bV 0 c.ay.aB=[])\/(x=⟨4,(b:Int),0,0⟩/\qH (iQ c) c.aG b=false)):=by
 have hdn:=h.dl;rcases gE.1 hx with hx|hx
 ·have OG:=hx;unfold sK at hx;have hb:-1<=fL c/\fL c<c.ay.aB.length:=RQ _ _;by_cases D:fL c >= 0
  ·rw[bf D,dn]at hx;cases hu:kz c (fL c)with
   |true=>rw[hu]at hx;cases hx
   | false=>
    rw[hu]at hx;have hx:=gz.1 hx;obtain⟨b,Y⟩:=dN (show 0<=fL c by omega);have C:=(A7 (wj (decide (((bV 0 c.ay.aB).length:Int) > 0)) c.ay.aB (kB c)) (λi=>c.ay.aB.getD i 0) c.ay.aB.length).resolve_left (λe=>by have e:fL c = -1:=e;omega);have C:wj (decide (((bV 0 c.ay.aB).length:Int) > 0)) c.ay.aB (kB c) (fL c).toNat=true:=C;rw[Y]at C hu hx;rw[bD]at C;unfold wj at C;have E:=hu;unfold kz at E;rw[bD]at E;have E:¬ c.ay.aB.getD b 0 >= 4:=of_decide_eq_false E;have hi:kB c b=true/\c.ay.aB.getD b 0 >= 1/\bV 0 c.ay.aB=[]:=by
     by_cases O:((bV 0 c.ay.aB).length:Int) > 0
     ·rw[bf O,av]at C;exact absurd (ja C) E
     ·rw[bz O,ax,aH]at C;have:=ja C.1;exact⟨C.2,by omega,uS (by omega)⟩
    refine⟨b,by omega,?_⟩;unfold fI at hx;rcases yg c (b:Int) ⟨5,(b:Int),0,0⟩with e|⟨e,_⟩
    ·refine .inr ⟨hx.trans e,?_⟩;have:=hi.1;unfold kB at this;rw[ff]at this;unfold qH
     refine jV.2 λa Z T=>?_
     rw[aH]at T;exact absurd T.1 (jV.1 this a Z)
    ·exact .inl ⟨hx.trans e,hi.2.1,hi.1,hi.2.2⟩
  ·rw[bz D]at hx;cases hx
 ·unfold oC at hx;by_cases D:rL c >= 0
  ·rw[bf D]at hx;have hx:=gz.1 hx;unfold rL Fb at D hx;cases U:c.box.bW.gA != 1 with
   |true=>rw[U,av]at D;exact absurd D (by decide)
   | false=>
    rw[U,ax]at D hx;rcases qF (yd (iQ c) c.aG) c.aG.aO.length with ⟨e,_⟩|⟨b,hb,e,I,_⟩
    ·omega
    ·have iw:=h.p.bl;rw[e]at hx;unfold yd at I;rw[aH,ff]at I;exact⟨b,by omega,.inr ⟨hx,I.2⟩⟩
  ·rw[bz D]at hx;cases hx
def ai6{g:aK}{t:dw}(C:kC t){a x:aQ}(D:1<=a.kind/\a.kind<=9)(hx:x.kind=2\/x.kind=3):eH g t a x<=16/\(a.kind≠9->eH g t a x<=5)/\(a.kind=4\/a.kind=5\/a.kind=6\/a.kind=8\/(a.kind=1/\a.aA≠x.aA)->eH g t a x<=1):=by
 obtain⟨r,w,E,I,O,T,rfl⟩:=C;unfold eH ou mP qC gZ;dsimp only;generalize sD g a _=nb;rcases hx with hx|hx<;>rw[hx]<;>rcases kinds D with h|h|h|h|h|h|h|h|h<;>rw[h]<;>cases nb<;>cases hb:a.aA==x.aA<;>simp[aT]at *<;>omega
def axF{g:aK}{t:dw}(C:kC t)(x:aQ):16<=eH g t ⟨9,0,0,0⟩ x:=by
 obtain⟨r,w,D,E,I,O,rfl⟩:=C;have hb:ou ⟨9,0,0,0⟩ x=false:=rfl;have e:qC (gZ r w) 9 x.kind (sD g ⟨9,0,0,0⟩ x)=16:=rfl;unfold eH;rw[hb,Bool.false_and,ax];dsimp only;rw[e];omega
def axG{g:aK}{t:dw}(C:kC t)(B:Int):7<=eH g t ⟨1,B,0,0⟩ ⟨4,B,0,0⟩:=by
 obtain⟨r,w,D,E,I,O,rfl⟩:=C;unfold eH sD ou mP qC gZ;simp[aT];omega
def ai7{r:cr}{x:aQ}(C:x.kind=1)(hl:x.aA.toNat<r.aO.length):cK (cZ r x) x.aA=⟨true,x.row⟩:=by
 unfold cZ cK;rw[C];show (r.aO.set x.aA.toNat (⟨true,x.row⟩:ji)).getD x.aA.toNat ⟨false,0⟩=_;exact oD _ hl
def wq(c:au):Int:=((c.queue.countP λr=>r.write==true:Nat):Int)
def ai8(d:m0)(n:Int):sM (sM d n) n=sM d n:=by
 unfold sM;cases C:decide (n >= d.high)with
 |true=>rw[av];dsimp only;rw[C,av]
 | false=>
  rw[ax];cases D:decide (n<=d.low)with
  |true=>rw[av];dsimp only;rw[C,ax,D,av]
  |false=>rw[ax,C,ax,D,ax]
structure mg (c:au) (b i:Nat) (e:Int):Prop where
 fi:i<c.queue.length
 fa:(ey c i).aA=(b:Int)
 fh:ez c i=true
 fd:jS c i=true
 fp:∀k,k<c.queue.length->k≠i->jS c k=true->(ey c k).aA=(b:Int)->It c i k
 fe:0<=e/\La c.ready b 1=e
 fl:∀b':Nat,La c.ready b' 2<=e/\La c.ready b' 3<=e/\La c.ready b' 7<=e/\(0<=La c.ready b' 9->La c.ready b' 9+16<=e)
 fs:c.drain=sM c.drain (wq c)
def ai9{c j:au}(C:j.queue=c.queue)(D:j.config=c.config)(E:j.spare=c.spare)(k:Nat):ey j k=ey c k:=by
 unfold ey iQ dM;rw[C,D,E]
def aja{c j:au}(C:j.queue=c.queue)(D:j.drain=c.drain)(k:Nat):jS j k=jS c k:=by
 unfold jS;rw[C,D]
def ajb{c j:au}(C:j.queue=c.queue)(D:j.shares=c.shares){i k:Nat}(h:It c i k):It j i k:=by
 unfold It gI at h ⊢;rw[C,D];exact h
def ajc{c j:au}(C:j.queue=c.queue)(h:yj c):yj j:=by
 unfold yj gI at h ⊢;rw[C];exact h
def mg.tr{c j:au}{b i:Nat}{e:Int}(h:mg c b i e)(C:j.queue=c.queue)(Y:j.shares=c.shares)(Z:j.config=c.config)(q4:j.spare=c.spare)(E:j.drain=c.drain)(q6:cK j.aG (b:Int)=cK c.aG (b:Int))(D:∀ b' k:Nat,(k=2\/k=3\/k=7\/k=9\/(k=1/\b'=b))->La j.ready b' k=La c.ready b' k):mg j b i e:=by
 have eA:=ai9 C Z q4;have I:=aja C E
 refine⟨by rw[C];exact h.fi,by rw[eA];exact h.fa,?_,by rw[I];exact h.fd,λk O bQ T U=>?_,?_,λb'=>?_,?_⟩
 ·have:=h.fh;unfold ez sH at this ⊢;rw[eA];rw[h.fa]at this ⊢;rw[q6];exact this
 ·rw[C]at O;rw[I]at T;rw[eA]at U;exact ajb C Y (h.fp k O bQ T U)
 ·rw[D b 1 (by omega)];exact h.fe
 ·rw[D b' 2 (by omega),D b' 3 (by omega),D b' 7 (by omega),D b' 9 (by omega)];exact h.fl b'
 ·have:=h.fs;unfold wq at this ⊢;rw[E,C];exact this
def mg.pr{c j:au}{b i:Nat}{e:Int}(h:mg c b i e)(r:Pr c j):mg j b i e:=by
 obtain⟨_,D,E⟩:=r.pX λI=>by have:=h.fi;rw[I]at this;exact absurd this (Nat.not_lt_zero _)
 have C:=h.fs;unfold wq at C;exact h.tr r.pQ D r.pC r.pV (E.trans C.symm) (by rw[r.pK]) λ_ _ _=>by rw[r.pR]
def mg.abl{j:au}{b i:Nat}{e:Int}(h:mg j b i e)(Y:Pq j)(Z:kC j.config.bP)(hp:j.aG.aS=0)(hn:e+5<=j.now)(hu:kz j (b:Int)=false)(hl:∀ k:Nat,j.ready.last.getD k (-1)<=j.now-1):gC j i=true:=by
 have D:=h.fh;unfold ez sH at D;rw[aH,dO]at D;obtain⟨C,h2⟩:=D;have hx:((cG j i).kind=2\/(cG j i).kind=3)/\(cG j i).aA=(b:Int):=by
  unfold cG kZ;rw[C,bI,ax,h2,bne_self_eq_false,ax,h.fa];cases mU j.queue i
  ·exact⟨.inl rfl,rfl⟩
  ·exact⟨.inr rfl,rfl⟩
 have hr:cq j (cG j i)=true:=by
  rw[h.fa]at C;generalize cG j i=x at hx;obtain⟨hx,O⟩:=hx
  refine Sn Y (λC=>by omega) ?_ λb' k T U h0=>?_
  ·unfold kj;rcases hx with hx|hx<;>rw[hx,O]<;>show (j.aG.aS==0&&(cK j.aG (b:Int)).open_)=true<;>rw[hp,C]<;>rfl
  ·obtain⟨g1,E,I⟩:=ai6 (g:=j.config.aq) Z (a:=⟨(k:Int),if k<=5 then (b':Int)else 0,0,0⟩) ⟨by dsimp only;omega,by dsimp only;omega⟩ hx;dsimp only at g1 E I;have hL:=nL hl b' k;obtain⟨f2,f3,f7,f9⟩:=h.fl b';obtain⟨f0,fe⟩:=h.fe;by_cases U:k=9
   ·subst U;have:=f9 h0;omega
   ·by_cases kk:k=4\/k=5\/k=6\/k=8
    ·have:=I (by omega);omega
    ·have E:=E (by omega);by_cases T:k=1
     ·subst T;by_cases eb:b'=b
      ·subst eb;omega
      ·have:=I (.inr (.inr (.inr (.inr ⟨rfl,by rw[aV (by decide),O];omega⟩))));omega
     ·have:k=2\/k=3\/k=7:=by omega
      rcases this with rfl|rfl|rfl<;>omega
 have n1:¬ (cG j i).kind=1:=by have:=hx.1;omega
 have n4:¬ (cG j i).kind=4:=by have:=hx.1;omega
 unfold gC;rw[h.fd,h.fa,hu,hr,dy n1,dy n4];rfl
def mg.nw{j:au}{b i:Nat}{e:Int}(h:mg j b i e)(Z:Pq j)(hs:yj j)(ht:kC j.config.bP)(hl:∀ k:Nat,j.ready.last.getD k (-1)<=j.now-1){k:Nat}(T:jT j=(k:Int))(C:(cG j k).kind=4)(hb:(ey j k).aA=(b:Int)):False:=by
 obtain⟨D,_⟩:=ME T;have zC:=MF T;obtain⟨E,BX⟩:=Zy D;have hx:cG j k=⟨4,(b:Int),0,0⟩/\ez j k=false:=by
  unfold cG kZ at C ⊢;unfold ez sH;cases ho:(cK j.aG (ey j k).aA).open_ with
  |false=>rw[ho,Bool.not_false,av]at C;exact absurd C (show ¬ (1:Int)=4 by decide)
  | true=>
   rw[ho,bI,ax]at C;cases U:(cK j.aG (ey j k).aA).row != (ey j k).row with
   | true=>
    rw[bI,ax,av,hb];rw[hb]at U;exact⟨rfl,by rw[dn];exact beq_eq_false_iff_ne.2 (bne_iff_ne.1 U)⟩
   | false=>
    rw[U,ax]at C;cases hw:mU j.queue k with
    |true=>rw[hw]at C;exact absurd C (show ¬ (3:Int)=4 by decide)
    |false=>rw[hw]at C;exact absurd C (show ¬ (2:Int)=4 by decide)
 obtain⟨ex,I⟩:=hx;rw[ex]at E;have hu:kz j (b:Int)=false:=by
  unfold gC at D;simp only[aH,ff]at D;rw[hb]at D;exact D.2.1
 have hp:j.aG.aS=0:=by
  simp only[cq,aH]at E;have O:=E.1;have O:(j.aG.aS==0&&(cK j.aG (b:Int)).open_)=true:=O;rw[aH,dO]at O;exact O.1
 obtain⟨f0,fe⟩:=h.fe;have Y:=ai5 E (b:=b) (k:=1) (by decide) (by decide) (by omega);rw[aV (by decide)]at Y;have:=axG (g:=j.config.aq) ht (b:Int);have Y:La j.ready b 1+eH j.config.aq j.config.bP ⟨1,(b:Int),0,0⟩ ⟨4,(b:Int),0,0⟩<=j.now:=Y;have wm:=h.abl Z ht hp (by omega) hu hl;exact axC Z hs (h.fp k zC (λe=>by rw[e]at I;rw[h.fh]at I;cases I) BX hb) h.fi wm h.fh T I
def mg.nu{j:au}(Y:Pq j)(hs:yj j)(ht:kC j.config.bP){i:Nat}(Z:jT j=(i:Int))(I:(cK j.aG (ey j i).aA).open_=false)(iK:j.drain=sM j.drain (wq j))(hT:Ia (br j (cG j i) (i:Int)))(hl:∀ k:Nat,(br j (cG j i) (i:Int)).ready.last.getD k (-1)<=j.now){b:Nat}(hb:(ey j i).aA=(b:Int)):mg (br j (cG j i) (i:Int)) b i j.now:=by
 obtain⟨ai,_⟩:=ME Z;have Fp:=MF Z;obtain⟨oO,hdi⟩:=Zy ai;obtain⟨_,_,iw,_,_,_⟩:=E6 Y Fp;have nd:∀ k,(ey j k).aA=(b:Int)->cG j k=⟨1,(b:Int),(ey j k).row,0⟩:=λk C=>by
  unfold cG kZ;rw[hb]at I;rw[C,I];rfl
 have E:=nd i hb;have D:(cG j i).kind=1:=by rw[E]
 have kb:(cG j i).aA=(b:Int):=by rw[E]
 have kr:(cG j i).row=(ey j i).row:=by rw[E]
 have nh:∀ k,(ey j k).aA=(b:Int)->ez j k=false:=λk C=>by
  unfold ez sH;rw[hb]at I;rw[C,I];rfl
 have O:=ai;unfold gC at O;simp only[aH,ff]at O;rw[hb]at O;obtain⟨_,hu,_,T,_⟩:=O;have T:xY j (b:Int)=false:=by
  rw[D]at T;exact T
 have n0:=Y.nw;have MH:1<=(cG j i).kind/\(cG j i).kind<=9:=by rw[D];decide
 obtain⟨e1,e2,e3,e4⟩:=ia (c:=j) (x:=cG j i) (i:=(i:Int)) MH;obtain⟨s1,_,s3,s4,s5,_⟩:=mY (c:=j) (x:=cG j i) (i:=(i:Int)) MH (by rw[D];decide) (by rw[D];decide);have etr:=(Ii (c:=j) (x:=cG j i) (i:=(i:Int)) MH λ_=>by rw[bD];exact Fp).1;have eA:=ai9 s1 e4 s5;have eD:=aja s1 s4;have sP:∀ e∈(br j (cG j i) (i:Int)).trace,e.at_<=(br j (cG j i) (i:Int)).ready.last.getD (iL j.config.aq e.cmd).toNat (-1):=λe he=>by
  have:=(hT.RX e he).2
  rwa [e4]at this
 have axH:cD j.config.aq (cG j i)=true:=by
  have:=(hT.RX ⟨j.now,cG j i⟩ (by rw[etr];exact gE.2 (.inr (gz.2 rfl)))).1;rw[e4]at this;exact(agZ this).1
 refine⟨by rw[s1];exact Fp,by rw[eA];exact hb,?_,by rw[eD];exact hdi,λk C bQ hd U=>?_,⟨n0.1,?_⟩,λb'=>?_,?_⟩
 ·unfold ez sH;rw[eA,e1];have:=ai7 (r:=j.aG) D (by rw[kb,<-hb];exact iw);rw[kb]at this;rw[hb,this,kr];simp
 ·rw[s1]at C;rw[eD]at hd;rw[eA]at U;refine ajb s1 s3 (axB Y hs Z C ?_ bQ (nh i hb));have ua:cq j (cG j k)=true:=by
   rw[E]at oO;rw[nd k U];exact oO
  unfold gC;rw[hd,U,hu,ua,nd k U,T];rfl
 ·have h1:=sP ⟨j.now,cG j i⟩ (by rw[etr];exact gE.2 (.inr (gz.2 rfl)));have ep:(iL j.config.aq (cG j i)).toNat=9*b+1-1:=by
   rw[E];show (9*(b:Int)+1-1).toNat=_;omega
  dsimp only at h1;rw[ep]at h1;have h2:=hl (9*b+1-1);unfold La;omega
 ·have:=λk=>nL hl b' k
  refine⟨this 2,this 3,this 7,λh0=>?_⟩
  have h9:La (br j (cG j i) (i:Int)).ready b' 9=La j.ready b' 9:=by
   rw[e2];rcases C2 j.config.aq j.ready ⟨j.now,cG j i⟩ axH b' 9 ⟨by decide,by decide⟩with q|⟨_,q,_⟩
   ·exact q
   ·dsimp only at q;rw[D]at q;exact absurd q (by decide)
  rw[h9]at h0 ⊢;have h5:=ai5 oO (b:=b') (k:=9) (by decide) (by decide) h0;rw[aX (by decide)]at h5;have h6:=axF (g:=j.config.aq) ht (cG j i);have h5:La j.ready b' 9+eH j.config.aq j.config.bP ⟨9,0,0,0⟩ (cG j i)<=j.now:=h5;omega
 ·unfold wq at iK ⊢;rw[s4,s1];exact iK
def Fo(F:Nat->Bool)(c:au):Prop:=∀b,F b=true->∃i e,mg c b i e
def Nr(j:au):Prop:=∀b∈bV 0 j.ay.aB,cq j (fI j b)=false
def MI(j:au):Prop:=∀i,i<j.queue.length->gC j i=false
inductive Ev (F:Nat->Bool) (j:au):au->(Nat->Bool)->Prop
 |eN:Nr j->MI j->Ev F j j F
 |eA (x:aQ) (i:Nat):i<j.queue.length->(x.kind=2\/x.kind=3)->cD j.config.aq x=true->(cK j.aG x.aA).open_=true->kz j x.aA=false->Nr j->Ev F j (br j x (i:Int)) (λ_=>false)
 |eP (b:Nat) (i:Int):(b:Int)<aE j.config.aq->oB j.aG b=true->cD j.config.aq ⟨4,(b:Int),0,0⟩=true->(F b=true->kz j (b:Int)=true\/xY j (b:Int)=true)->(uB j.ay.aB b=true\/(Nr j/\uB j.ay.aB b=false))->Ev F j (br j ⟨4,(b:Int),0,0⟩ i) (λk=>F k&&(k != b))
 |eR (b:Nat):(b:Int)<aE j.config.aq->oB j.aG b=false->cD j.config.aq ⟨5,(b:Int),0,0⟩=true->j.ay.aB.getD b 0 >= 1->(uB j.ay.aB b=true\/(kB j b=true/\bV 0 j.ay.aB=[]/\MI j))->Ev F j (br j ⟨5,(b:Int),0,0⟩ (-1)) F
 |eO (b row:Nat):(b:Int)<aE j.config.aq->oB j.aG b=false->cD j.config.aq ⟨1,(b:Int),(row:Int),0⟩=true->(⟨(b:Int),(row:Int),0⟩:aN)∈j.pending->uB j.ay.aB b=false->Nr j->Ev F j (br j ⟨1,(b:Int),(row:Int),0⟩ (-1)) F
 |eQ (i b row:Nat):i<j.queue.length->(ey j i).aA=(b:Int)->(b:Int)<aE j.config.aq->oB j.aG b=false->cD j.config.aq ⟨1,(b:Int),(row:Int),0⟩=true->xY j (b:Int)=false->uB j.ay.aB b=false->Nr j->Ev F j (br j ⟨1,(b:Int),(row:Int),0⟩ (i:Int)) (λk=>F k ||(k==b))
def mg.vi{j:au}{b i:Nat}{e:Int}(h:mg j b i e){x:aQ}{n:Int}(C:cD j.config.aq x=true)(hk:x.kind=1\/x.kind=4\/x.kind=5)(hb:x.kind≠5->b≠x.aA.toNat):mg (br j x n) b i e:=by
 have D:1<=x.kind/\x.kind<=9:=by omega
 obtain⟨I,O,e3,T⟩:=ia (c:=j) (x:=x) (i:=n) D;obtain⟨s1,_,s3,U,Y,_⟩:=mY (c:=j) (x:=x) (i:=n) D (by omega) (by omega);have rM:=(iP C).2 (by omega)
 refine h.tr s1 s3 T Y U ?_ λb' k Z=>?_
 ·rw[I];by_cases h5:x.kind=5
  ·exact aw0 (by omega) (by omega) _
  ·exact zB (hb h5)
 ·rw[O];rcases C2 j.config.aq j.ready ⟨j.now,x⟩ C b' k (by omega)with q | ⟨_,q1,E⟩
  ·exact q
  ·dsimp only at q1 E;exfalso;rcases Z with h | h | h | h | ⟨h,h'⟩
   ·omega
   ·omega
   ·omega
   ·omega
   ·have:=hb (by omega);rw[aV]at E;omega
def Iu{k b r c:Int}(h:¬ k=0):(⟨k,b,r,c⟩:aQ).kind≠0:=h
def ajd{F:Nat->Bool}{j y:au}(hz:bR j)(I:bM j=true)(U:Pq j)(hs:j.aS.state=0)(bQ:j.queue≠[])(hF:Fo F j)(hS:yj j)(ht:kC j.config.bP)(hl:∀ k:Nat,j.ready.last.getD k (-1)<=j.now-1)(iK:j.drain=sM j.drain (wq j))(hT:Ia y)(lT:∀ k:Nat,y.ready.last.getD k (-1)<=j.now)(hf:Fn j y):∃ F',Ev F j y F'/\Fo F' y:=by
 have hw:sG j=true:=by
  unfold sG;rw[bf (show (j.queue.length:Int) > 0 by have:=List.length_pos_iff.2 bQ;omega)];rfl
 have iw:=U.p.bl;have Be:=U.dl;have Y:∀ {x:aQ} {i:Int},gJ j=(x,i)->x.kind≠0->lu j x i=true/\y=br j x i/\cD j.config.aq x=true/\cq j x=true:=λ{x i} e h0=>by
  rcases hf with ⟨k0,_⟩|⟨E,O⟩
  ·rw[e]at k0;exact absurd k0 h0
  ·rw[e]at E O;have oZ:=E;simp only[lu,aH]at oZ;exact⟨E,O,oZ.1,oZ.2.1⟩
 have ZB:∀ {x:aQ},cq j x=true->kj j.aG x=true:=λh=>by
  simp only[cq,aH]at h;exact h.1
 have Sq:∀ {b:Int},cq j ⟨4,b,0,0⟩=true->(cK j.aG b).open_=true:=λ{b} h=>by
  have h:(j.aG.aS==0&&(cK j.aG b).open_)=true:=ZB h;rw[aH]at h;exact h.2
 have aje:∀ {b:Int},cq j ⟨5,b,0,0⟩=true->(cK j.aG b).open_=false:=λ{b} h=>by
  have h:(j.aG.aS==0 && !(cK j.aG b).open_)=true:=ZB h;rw[aH,ff]at h;exact h.2
 have ajf:∀ {b r:Int},cq j ⟨1,b,r,0⟩=true->(cK j.aG b).open_=false:=λ{b r} h=>by
  have h:(j.aG.aS==0 && !(cK j.aG b).open_)=true:=ZB h;rw[aH,ff]at h;exact h.2
 have ub:∀ {b:Nat},kz j (b:Int)=uB j.ay.aB b:=λ{b}=>by
  unfold kz uB;rw[bD]
 have Sr:∀ {b:Nat} {n:Int},cD j.config.aq ⟨4,(b:Int),0,0⟩=true->Fo (λk=>F k&&(k != b)) (br j ⟨4,(b:Int),0,0⟩ n):=λ{b n} C k I=>by
  rw[aH,bne_iff_ne]at I;obtain⟨i,e,h⟩:=hF k I.1;exact⟨i,e,h.vi C (.inr (.inl rfl)) λ_=>by dsimp only;omega⟩
 have ajg:∀ {b:Nat} {n:Int},cD j.config.aq ⟨5,(b:Int),0,0⟩=true->Fo F (br j ⟨5,(b:Int),0,0⟩ n):=λ{b n} C k I=>by
  obtain⟨i,e,h⟩:=hF k I;exact⟨i,e,h.vi C (.inr (.inr rfl)) λZ=>absurd rfl Z⟩
 have axI:∀ {b:Nat},(cK j.aG (b:Int)).open_=false->F b=false:=λ{b} ho=>nN.2 λhb=>by
  obtain⟨i,e,h⟩:=hF b hb;have:=h.fh;unfold ez sH at this;rw[h.fa,ho]at this;cases this
 have ajh:∀ {b:Nat} {r n:Int},(cK j.aG (b:Int)).open_=false->cD j.config.aq ⟨1,(b:Int),r,0⟩=true->Fo F (br j ⟨1,(b:Int),r,0⟩ n):=λ{b r n} ho C k I=>by
  obtain⟨i,e,h⟩:=hF k I
  refine⟨i,e,h.vi C (.inl rfl) λ_ Z=>?_⟩
  dsimp only at Z;rw[bD]at Z;subst Z;rw[axI ho]at I;cases I
 have ZC:∀ {b:Nat},(b:Int)<aE j.config.aq->cq j ⟨4,(b:Int),0,0⟩=true->Nr j->Nr j/\uB j.ay.aB b=false:=λ{b} hb D hn=>⟨hn,nN.2 λhu=>by
  have:=hn _ (C1 U (b:=(b:Int)) (by omega) hb (ja hu));unfold fI qG at this;rw[Sq D,av,D]at this;cases this⟩
 rcases axD U hs hw with ⟨b,hb,D,e⟩|⟨gG,⟨k,zC,iV,D,e⟩|⟨i,C,e⟩|⟨lW,⟨x,T,D,e⟩|e⟩⟩
 ·obtain⟨v1,v2,v3⟩:=R4 U hb;obtain⟨B,rfl⟩:=dN v1;rw[bD]at v3;have hu:uB j.ay.aB B=true:=bf v3;unfold fI at D e;rcases yg j (B:Int) ⟨5,(B:Int),0,0⟩with e5 | ⟨e5,_⟩
  ·rw[e5]at D e;obtain⟨E,rfl,C,_⟩:=Y e (Iu (by decide));exact⟨_,.eP B (-1) v2 (Sq D) C (λ_=>.inl (ub.trans hu)) (.inl hu),Sr C⟩
  ·rw[e5]at D e;obtain⟨E,rfl,C,_⟩:=Y e (Iu (by decide));exact⟨_,.eR B v2 (aje D) C (by omega) (.inl hu),ajg C⟩
 ·have hp:js j k=j.pending[k]:=(Mt zC).symm;have kJ:j.pending[k]∈j.pending:=cX zC;have hao:=U.pe _ kJ;obtain⟨_,b0,b1⟩:=oh hao;have aji:=((fV.of (Ck.of I).pa).pd _ kJ).2;unfold rK at iV;unfold jG at D e;rw[aH,ff,hp]at iV;rw[hp]at D e;generalize ha:j.pending[k]=a at *
  obtain⟨ab,ar,ac⟩:=a;dsimp only at b0 b1 aji iV D e;subst aji;obtain⟨B,rfl⟩:=dN b0;have hB:(B:Int)<aE j.config.aq:=by omega
  rcases yg j (B:Int) ⟨1,(B:Int),ar,0⟩with e5|⟨e5,_⟩
  ·rw[e5]at D e;obtain⟨E,rfl,C,_⟩:=Y e (Iu (by decide));exact⟨_,.eP B (-1) hB (Sq D) C (λ_=>.inr (List.any_eq_true.2 ⟨_,kJ,gu _⟩)) (.inr (ZC hB D gG)),Sr C⟩
  ·rw[e5]at D e;obtain⟨E,rfl,C,_⟩:=Y e (Iu (by decide));obtain⟨r0,_⟩:=CW C rfl;obtain⟨R,hR⟩:=dN (show 0<=ar from r0);subst hR;exact⟨_,.eO B R hB (ajf D) C kJ (ub.symm.trans iV.1) gG,ajh (ajf D) C⟩
 ·have Fp:=MF C;obtain⟨ai,_⟩:=ME C;obtain⟨oO,hdi⟩:=Zy ai;obtain⟨ho,o1,o2,o3,o4,o5⟩:=E6 U Fp;obtain⟨B,hB⟩:=dN o1;have wm:=ai;unfold gC at wm;simp only[aH,ff]at wm;rw[hB]at wm o4;obtain⟨_,hu,_,iV,_⟩:=wm;cases mE:(cK j.aG (B:Int)).open_ with
  | false=>
   have T:cG j i=⟨1,(B:Int),(ey j i).row,0⟩:=by
    unfold cG kZ;rw[hB,mE];rfl
   obtain⟨R,hR⟩:=dN o5;rw[hR]at T;obtain⟨E,O,sP,_⟩:=Y e (by rw[T];exact(by decide:¬ (1:Int)=0));have YM:mg (br j (cG j i) (i:Int)) B i j.now:=mg.nu U hS ht C (by rw[hB];exact mE) iK (by rw[<-O];exact hT) (by rw[<-O];exact lT) hB;rw[T]at iV O sP YM
   refine⟨λk=>F k ||(k==B),?_,?_⟩
   ·rw[O];exact .eQ i B R Fp hB o4 mE sP iV (ub.symm.trans hu) gG
   ·intro k I;dsimp only at I;by_cases ek:k=B
    ·subst ek;exact⟨i,j.now,by rw[O];exact YM⟩
    ·rw[show (k==B)=false from beq_eq_false_iff_ne.2 ek,Bool.or_false]at I;rw[O];exact ajh mE sP k I
  | true=>
   by_cases fk:(cK j.aG (B:Int)).row=(ey j i).row
   ·have T:((cG j i).kind=2\/(cG j i).kind=3)/\(cG j i).aA=(B:Int):=by
     unfold cG kZ;rw[hB,mE,bI,ax,fk,bne_self_eq_false,ax];cases mU j.queue i
     ·exact⟨.inl rfl,rfl⟩
     ·exact⟨.inr rfl,rfl⟩
    obtain⟨E,rfl,sP,_⟩:=Y e (by omega);exact⟨_,.eA (cG j i) i Fp T.1 sP (by rw[T.2];exact mE) (by rw[T.2];exact hu) gG,λb hb=>by cases hb⟩
   ·have T:cG j i=⟨4,(B:Int),0,0⟩:=by
     unfold cG kZ;rw[hB,mE,bI,ax,iW fk,av]
    obtain⟨E,O,sP,hrx⟩:=Y e (by rw[T];exact(by decide:¬ (4:Int)=0));rw[T]at O sP hrx
    refine⟨λk=>F k&&(k != B),?_,?_⟩
    ·rw[O]
     refine .eP B i o4 mE sP (λMJ=>?_) (.inr (ZC o4 hrx gG))
     obtain⟨i',e',h⟩:=hF B MJ;exact absurd (h.nw U hS ht hl C (by rw[T]) hB) (λh=>h)
    ·rw[O];exact Sr sP
 ·obtain⟨b,hb,⟨rfl,h1,h2,h3⟩ | ⟨rfl,ZD⟩⟩:=axE U T
  ·obtain⟨E,rfl,C,_⟩:=Y e (Iu (by decide));exact⟨_,.eR b hb (aje D) C h1 (.inr ⟨h2,h3,lW⟩),ajg C⟩
  ·obtain⟨E,rfl,C,_⟩:=Y e (Iu (by decide))
   refine⟨_,.eP b (-1) hb (Sq D) C (λMJ=>?_) (.inr (ZC hb D gG)),Sr C⟩
   obtain⟨i',e',h⟩:=hF b MJ;exfalso;have Z:=h.fh;unfold ez sH at Z;rw[h.fa,aH,dO]at Z;unfold qH at ZD;have hlen:=Bb j;have kJ:ey j i'∈iQ j:=by
    rw[<-E5 (by rw[hlen];exact h.fi)];exact cX _
   have:=jV.1 ZD _ kJ;rw[h.fa,Z.2,gu,gu]at this;exact this rfl
 ·rcases hf with ⟨k0,rfl⟩ | ⟨E,_⟩
  ·exact⟨F,.eN gG lW,hF⟩
  ·rw[e]at E;simp only[lu,aH]at E;have:=(iP E.1).1;exact absurd this.1 (by decide)
structure Dv (n t:Int) (g:aK) (r:cr) (q:fj) (d:List Int) (B:Nat):Prop where
 v4:La q B 1<=t/\La q B 2<=t/\La q B 3<=t/\La q B 5<=t/\La q B 4<=t+16
 v5:oB r B=true->n+cU g d+cO g r d<=t+16
 v6:n+3*cU g d<=t+31
 v7:∀b:Nat,(b:Int)<aE g->La q b 5+3*cU g d<=t+29
 v8:La q (aE g).toNat 7<=t/\(0<=La q (aE g).toNat 9->La q (aE g).toNat 9+16<=t)
def tT(c:au):Int:=bif c.ay.bO then c.config.interval / 2 else c.config.interval
def ic(c:au):Int:=c.now+c.ay.wait-tT c
def Dy(n:Int)(c:au):Prop:=∀B:Nat,(B:Int)<aE c.config.aq->uB c.ay.aB B=true->Dv n (ic c) c.config.aq c.aG c.ready c.ay.aB B
def ajj{g:aK}{r w:Int}(E:1<=r/\r<=4)(I:4<=w/\w<=8){a:aQ}(C:1<=a.kind/\a.kind<=9)(D:a.kind≠9)(B:Int):eH g (gZ r w) a ⟨4,B,0,0⟩<=8:=by
 unfold eH sD ou mP qC gZ;dsimp only;rcases kinds C with h|h|h|h|h|h|h|h|h<;>rw[h]at D ⊢<;>cases hb:a.aA==B<;>simp[aT]at *<;>omega
def axJ{g:aK}{r w:Int}(C:1<=r/\r<=4)(D:4<=w/\w<=8){a:aQ}(I:1<=a.kind/\a.kind<=9)(E:a.kind≠9)(B:Int):eH g (gZ r w) a ⟨5,B,0,0⟩<=12:=axy ⟨r,w,C.1,C.2,D.1,D.2,rfl⟩ a _ E
def Dv.rp{j:au}{n t:Int}(Y:Pq j)(Z:kC j.config.bP)(hn:n=j.now-1)(d1:∀ i:Nat,j.ready.last.getD i (-1)<=n){B:Nat}(u:Dv n t j.config.aq j.aG j.ready j.ay.aB B)(hp:j.aG.aS=0)(ho:oB j.aG B=true)(hT:t+8<=j.now):cq j ⟨4,(B:Int),0,0⟩=true:=by
 obtain⟨r,w,E,I,w1,O,et⟩:=Z
 refine Im Y (λh=>absurd (show (4:Int)=1 from h) (by decide)) ?_ λb k k1 k9 hu h0=>?_
 ·show (j.aG.aS==0&&(cK j.aG (B:Int)).open_)=true;rw[hp,show (cK j.aG (B:Int)).open_=true from ho];rfl
 ·rw[et];obtain⟨g1,T,U⟩:=Zc (g:=j.config.aq) (a:=⟨(k:Int),if k<=5 then (b:Int)else 0,0,0⟩) ⟨E,I⟩ ⟨w1,O⟩ ⟨by dsimp only;omega,by dsimp only;omega⟩ (B:Int);have C:=λD=>ajj (g:=j.config.aq) (a:=⟨(k:Int),if k<=5 then (b:Int)else 0,0,0⟩) ⟨E,I⟩ ⟨w1,O⟩ ⟨by dsimp only;omega,by dsimp only;omega⟩ D (B:Int)
  dsimp only at T U C;have hl:=nL d1 b k;have n6:=u.v8;have Zg:=u.v4;by_cases h7:k=7
  ·obtain rfl:b=(aE j.config.aq).toNat:=by omega
   have:=T (by omega);subst h7;omega
  ·by_cases D:k=9
   ·obtain rfl:b=(aE j.config.aq).toNat:=by omega
    subst D;have:=n6.2 h0;omega
   ·have C:=C (by omega);by_cases hb:b=B/\k<=3
    ·obtain⟨rfl,h3⟩:=hb;have:k=1\/k=2\/k=3:=by omega
     rcases this with rfl|rfl|rfl<;>omega
    ·have:=U (by omega) (by omega) (by
      by_cases h5:k<=5
      ·rw[aV h5];omega
      ·exact .inr (by omega))
     omega
def Dv.rr{j:au}{n t:Int}(hq:Pq j)(ht:kC j.config.bP)(hn:n=j.now-1)(d1:∀ i:Nat,j.ready.last.getD i (-1)<=n){B:Nat}(u:Dv n t j.config.aq j.aG j.ready j.ay.aB B)(hp:j.aG.aS=0)(ho:oB j.aG B=false)(hT:t+19<=j.now)(C:∀ b:Nat,(b:Int)<aE j.config.aq->La j.ready b 5+3<=j.now):cq j ⟨5,(B:Int),0,0⟩=true:=by
 obtain⟨r,w,I,O,w1,T,et⟩:=ht
 refine Im hq (λh=>absurd (show (5:Int)=1 from h) (by decide)) ?_ λb k k1 k9 hu h0=>?_
 ·show (j.aG.aS==0 && !(cK j.aG (B:Int)).open_)=true;rw[hp,show (cK j.aG (B:Int)).open_=false from ho];rfl
 ·rw[et];obtain⟨g1,U,Y,Z,g5⟩:=aiA (g:=j.config.aq) (a:=⟨(k:Int),if k<=5 then (b:Int)else 0,0,0⟩) ⟨I,O⟩ ⟨w1,T⟩ ⟨by dsimp only;omega,by dsimp only;omega⟩ (B:Int);have D:=λE=>axJ (g:=j.config.aq) (a:=⟨(k:Int),if k<=5 then (b:Int)else 0,0,0⟩) ⟨I,O⟩ ⟨w1,T⟩ ⟨by dsimp only;omega,by dsimp only;omega⟩ E (B:Int)
  dsimp only at U Y Z g5 D;have hl:=nL d1 b k;have n6:=u.v8;have Zg:=u.v4;by_cases h7:k=7
  ·obtain rfl:b=(aE j.config.aq).toNat:=by omega
   have:=U (by omega);subst h7;omega
  ·by_cases E:k=9
   ·obtain rfl:b=(aE j.config.aq).toNat:=by omega
    subst E;have:=n6.2 h0;omega
   ·have D:=D (by omega);by_cases hb:b=B/\k<=5
    ·obtain⟨rfl,h3⟩:=hb;have:k=1\/k=2\/k=3\/k=4\/k=5:=by omega
     rcases this with rfl|rfl|rfl|rfl|rfl
     ·omega
     ·omega
     ·omega
     ·have:=Y rfl;omega
     ·omega
    ·by_cases e5:k=5
     ·subst e5;have:=Z rfl (by rw[aV];omega);have:=C b (by omega);omega
     ·have:=g5 (by omega) (by omega) (by omega) (by
       by_cases C:k<=5
       ·rw[aV C];exact .inl (by omega)
       ·exact .inr (by omega))
      omega
def Dy.core{j:au}(h:Dy (j.now-1) j)(I:Pq j)(lH:aE j.config.aq<=4)(T:kC j.config.bP)(U:j.aG.aS=0)(d1:∀ i:Nat,j.ready.last.getD i (-1)<=j.now-1)(Z:Nr j){B:Nat}(hB:(B:Int)<aE j.config.aq)(E:uB j.ay.aB B=true):(oB j.aG B=true->j.now+cU j.config.aq j.ay.aB+cO j.config.aq j.aG j.ay.aB<=ic j+16)/\j.now+3*cU j.config.aq j.ay.aB<=ic j+31:=by
 have u:=h B hB E;have b1:=dZ j.config.aq;have a1:=Fi j.config.aq j.ay.aB;have a2:=Fj j.config.aq j.aG j.ay.aB;have C:=Z _ (C1 I (b:=(B:Int)) (by omega) hB (ja E));unfold fI qG at C
 refine⟨λD=>?_,?_⟩
 ·rw[show (cK j.aG (B:Int)).open_=true from D,av]at C;by_cases O:ic j+8<=j.now
  ·rw[Dv.rp I T rfl d1 u U D O]at C;cases C
  ·omega
 ·by_cases O:ic j+19<=j.now
  ·cases D:oB j.aG B with
   | true=>
    have:=u.v5 D;have:=R8 hB E D;have:=MB hB E;omega
   | false=>
    rw[show (cK j.aG (B:Int)).open_=false from D,ax]at C;by_cases Y:∀b:Nat,(b:Int)<aE j.config.aq->La j.ready b 5+3<=j.now
    ·rw[Dv.rr I T rfl d1 u U D O Y]at C;cases C
    ·obtain⟨b,hb⟩:=Classical.not_forall.1 Y;obtain⟨hb,iu⟩:=Classical.not_imp.1 hb;have:=u.v7 b hb;omega
  ·omega
def Dy.none{n:Int}{c:au}(h:Dy n c)(E:Pq c)(O:ic c+29<=n):bV 0 c.ay.aB=[]:=by
 cases hu:bV 0 c.ay.aB with
 |nil=>rfl
 | cons b l=>
  obtain⟨I,D,C⟩:=R4 E (b:=b) (by rw[hu];exact .head _);obtain⟨B,rfl⟩:=dN I;rw[bD]at C;have:=(h B D (bf C)).v6;have:=MB D (bf C);omega
def Iw{c j:au}(p:Pr c j)(E:bM c=true)(D:c.aG.aS≠2):(1<c.ay.wait/\j.ay=⟨c.ay.aB,c.ay.wait-1,c.ay.bO⟩/\ic j=ic c)\/(c.ay.wait<=1/\j.ay.aB=c.ay.aB.map sL/\j.ay.bO=c.ay.bO/\j.ay.wait=tT j/\ic j=j.now):=by
 have pF:=p.pF;have pN:=p.pN;rw[iW D,av]at pF;unfold zy at pF;by_cases C:0<c.ay.wait-1
 ·rw[aV C]at pF;refine .inl ⟨by omega,pF,?_⟩;unfold ic tT;rw[pF,p.pC];dsimp only;omega
 ·rw[aX C]at pF;have e:j.ay.wait=tT j:=by
   unfold tT;rw[pF,p.pC]
  refine .inr ⟨by omega,by rw[pF],by rw[pF],e,?_⟩;unfold ic;omega
def Dy.pr{c j:au}(h:Dy c.now c\/c.ay.wait<=1)(p:Pr c j)(E:bM c=true)(U:aE c.config.aq<=4)(I:c.aG.aS≠2)(d1:∀ i:Nat,c.ready.last.getD i (-1)<=c.now)(O:0<=La c.ready (aE c.config.aq).toNat 9->La c.ready (aE c.config.aq).toNat 9+16<=c.now):Dy c.now j:=by
 intro B hB D;have pN:=p.pN;have Y:=dZ c.config.aq;rcases Iw p E I with ⟨Z,e,C⟩|⟨_,e1,e2,e3,C⟩
 ·rw[p.pC]at hB;rw[e]at D;have:=(h.resolve_right (by omega)) B hB D;rw[C,p.pC,p.pK,p.pR,e];exact this
 ·rw[p.pC]at hB;rw[C,p.pC,p.pK,p.pR];have a1:=Fi c.config.aq j.ay.aB;have a2:=Fj c.config.aq c.aG j.ay.aB;have l:=nL d1;have l1:=l B 1;have l2:=l B 2;have l3:=l B 3;have l4:=l B 4;have l5:=l B 5;have l7:=l (aE c.config.aq).toNat 7;exact⟨by omega,λ_=>by omega,by omega,λb hb=>by have:=l b 5;omega,by omega,λT=>by have:=O T;omega⟩
def Dv.stay{n n' t:Int}{g:aK}{r r':cr}{q D:fj}{d:aa Int}{B:Nat}(u:Dv n t g r q d B)(C:∀ b k:Nat,1<=k->k<=9->(b=B/\k<=5\/k=5\/k=7\/k=9)->La D b k=La q b k)(E:oB r' B=true->n'+cU g d+cO g r' d<=t+16)(I:n'+3*cU g d<=t+31):Dv n' t g r' D d B:=by
 have O:=C B 1 (by omega) (by omega) (by omega);have T:=C B 2 (by omega) (by omega) (by omega);have U:=C B 3 (by omega) (by omega) (by omega);have Y:=C B 4 (by omega) (by omega) (by omega);have Z:=C B 5 (by omega) (by omega) (by omega);have e7:=C (aE g).toNat 7 (by omega) (by omega) (by omega);have e9:=C (aE g).toNat 9 (by omega) (by omega) (by omega)
 refine⟨by rw[O,T,U,Y,Z];exact u.v4,E,I,λb hb=>?_,by rw[e7,e9];exact u.v8⟩
 rw[C b 5 (by omega) (by omega) (by omega)];exact u.v7 b hb
def Ss{j:au}{x:aQ}{i:Int}(C:1<=x.kind/\x.kind<=9)(hb:x.kind=5->x.aA.toNat<j.ay.aB.length)(D:x.kind=5->j.ay.aB.getD x.aA.toNat 0 >= 1):ic (br j x i)=ic j:=by
 obtain⟨w1,E,_⟩:=mX (c:=j) (x:=x) (i:=i) C hb D;obtain⟨_,_,I,O⟩:=ia (c:=j) (x:=x) (i:=i) C;unfold ic tT;rw[w1,E,I,O]
def Dy.Su{j:au}(h:Dy (j.now-1) j)(hq:Pq j)(lH:aE j.config.aq<=4)(ht:kC j.config.bP)(hp:j.aG.aS=0)(d1:∀ i:Nat,j.ready.last.getD i (-1)<=j.now-1)(gG:Nr j){x:aQ}{n:Int}(T:cD j.config.aq x=true)(hk:x.kind<=4)(I:uB j.ay.aB x.aA.toNat=false):Dy j.now (br j x n):=by
 obtain⟨O,rM⟩:=iP T;obtain⟨e1,e2,e3,U⟩:=ia (c:=j) (x:=x) (i:=n) O;obtain⟨w1,w2,E,_⟩:=mX (c:=j) (x:=x) (i:=n) O (λh=>by omega) (λh=>by omega);have E:=E (by omega) (by omega);have b1:=dZ j.config.aq;intro B hB D;rw[Ss O (λh=>by omega) (λh=>by omega),e1,e2,U,E];rw[U]at hB;rw[E]at D;have u:=h B hB D;obtain⟨c1,c2⟩:=h.core hq lH ht hp d1 gG hB D;have la:=C2 j.config.aq j.ready ⟨j.now,x⟩ T;have Y:∀ b',uB j.ay.aB b'=true->oB (cZ j.aG x) b'=oB j.aG b':=λb' C=>by
  unfold oB;rw[zB (λeb=>by rw[eb,I]at C;cases C)]
 have MC:cO j.config.aq (cZ j.aG x) j.ay.aB<=cO j.config.aq j.aG j.ay.aB:=by
  have:=count_le (p:=λb=>uB j.ay.aB b&&oB j.aG b) (q:=λb=>uB j.ay.aB b&&oB (cZ j.aG x) b) (aE j.config.aq).toNat λb' _ C=>by
   rw[aH]at C ⊢;exact⟨C.1,by rw[<-Y b' C.1];exact C.2⟩
  unfold cO;omega
 have hxb:=rM (by omega)
 refine u.stay (λb' k h1 h9 kU=>?_) (λho=>?_) c2
 ·rcases la b' k ⟨h1,h9⟩with e | ⟨_,e,Z⟩
  ·exact e
  ·dsimp only at e Z;exfalso;rcases kU with ⟨kU,xu⟩ | kU | kU | kU
   ·rw[aV xu]at Z;have:x.aA.toNat=B:=by omega
    rw[this,D]at I;cases I
   ·omega
   ·omega
   ·omega
 ·have:=c1 (by rw[<-Y B D];exact ho);omega
def Dy.fn{F F':Nat->Bool}{j y:au}(h:Dy (j.now-1) j)(U:Pq j)(lH:aE j.config.aq<=4)(ht:kC j.config.bP)(hp:j.aG.aS=0)(d1:∀ i:Nat,j.ready.last.getD i (-1)<=j.now-1)(F6:∀ b:Nat,j.ay.aB.getD b 0<=4)(hE:Ev F j y F'):Dy j.now y:=by
 have b1:=dZ j.config.aq;have Be:=U.dl;cases hE with
 | eN I lW=>
  intro B hB C;obtain⟨c1,c2⟩:=h.core U lH ht hp d1 I hB C;exact(h B hB C).stay (λ_ _ _ _ _=>rfl) c1 c2
 | eA x i hi O E T C I=>
  exact h.Su U lH ht hp d1 I E (by omega) C
 | eO b row hb T E hm C I=>
  exact h.Su U lH ht hp d1 I E (show (1:Int)<=4 by decide) C
 | eQ i b row hi ha hb T E iV C I=>
  exact h.Su U lH ht hp d1 I E (show (1:Int)<=4 by decide) C
 | eP b i hb T E hF hw=>
  rcases hw with Y|⟨I,C⟩
  ·obtain⟨O,rM⟩:=iP E;obtain⟨e1,e2,e3,e4⟩:=ia (c:=j) (x:=⟨4,(b:Int),0,0⟩) (i:=i) O;obtain⟨w1,w2,w3,_⟩:=mX (c:=j) (x:=⟨4,(b:Int),0,0⟩) (i:=i) O (λh=>absurd (show (4:Int)=5 from h) (by decide)) (λh=>absurd (show (4:Int)=5 from h) (by decide));have w3:=w3 (show ¬ (4:Int)=5 by decide) (show ¬ (4:Int)=9 by decide);intro B hB C;rw[Ss O (λh=>absurd (show (4:Int)=5 from h) (by decide)) (λh=>absurd (show (4:Int)=5 from h) (by decide)),e1,e2,e4,w3];rw[e4]at hB;rw[w3]at C;have u:=h B hB C;have ub:=h b hb Y;have hv5:=ub.v5 T;have a1:=MB hb Y;have a2:=R8 hb Y T;have a3:=Fi j.config.aq j.ay.aB;have la:=C2 j.config.aq j.ready ⟨j.now,⟨4,(b:Int),0,0⟩⟩ E;have MC:cO j.config.aq (cZ j.aG ⟨4,(b:Int),0,0⟩) j.ay.aB+1<=cO j.config.aq j.aG j.ay.aB:=by
    have:=Io (p:=λb=>uB j.ay.aB b&&oB j.aG b) (q:=λk=>uB j.ay.aB k&&oB (cZ j.aG ⟨4,(b:Int),0,0⟩) k) (b:=b) (aE j.config.aq).toNat (by omega) (λb' _ Z=>by
     rw[aH]at Z ⊢;refine⟨Z.1,?_⟩;by_cases eb:b'=b
     ·rw[eb];exact T
     ·have:=zB (r:=j.aG) (x:=⟨4,(b:Int),0,0⟩) (b:=b') (by dsimp only;omega);have yF:=Z.2;unfold oB at yF ⊢;rw[this]at yF;exact yF) (by rw[Y,T];rfl) (by
     have:=Ip (r:=j.aG) (x:=⟨4,(b:Int),0,0⟩) (b:=b) rfl (by dsimp only;omega);unfold oB;rw[this,Bool.and_false])
    unfold cO;omega
   have D:∀ b' k:Nat,1<=k->k<=9->¬ (k=4/\b'=b)->La (iF j.config.aq j.ready ⟨j.now,⟨4,(b:Int),0,0⟩⟩) b' k=La j.ready b' k:=λb' k h1 h9 hn=>by
    rcases la b' k ⟨h1,h9⟩with e|⟨_,e,e'⟩
    ·exact e
    ·dsimp only at e e';rw[aV]at e';exact absurd ⟨by omega,by omega⟩ hn
   have l4:La (iF j.config.aq j.ready ⟨j.now,⟨4,(b:Int),0,0⟩⟩) B 4<=ic j+16:=by
    rcases la B 4 ⟨by decide,by decide⟩with e|⟨e,_,_⟩
    ·rw[e];exact u.v4.2.2.2.2
    ·rw[e];dsimp only;omega
   have u4:=u.v4
   refine⟨⟨by rw[D B 1 (by decide) (by decide) (by omega)];exact u4.1,by rw[D B 2 (by decide) (by decide) (by omega)];exact u4.2.1,by rw[D B 3 (by decide) (by decide) (by omega)];exact u4.2.2.1,by rw[D B 5 (by decide) (by decide) (by omega)];exact u4.2.2.2.1,l4⟩,λ_=>by omega,by omega,λb' s8=>by rw[D b' 5 (by decide) (by decide) (by omega)];exact u.v7 b' s8,by rw[D _ 7 (by decide) (by decide) (by omega),D _ 9 (by decide) (by decide) (by omega)];exact u.v8⟩
  ·exact h.Su U lH ht hp d1 I E (show (4:Int)<=4 by decide) C
 | eR b hb T E hd hw=>
  obtain⟨O,rM⟩:=iP E;obtain⟨e1,e2,e3,e4⟩:=ia (c:=j) (x:=⟨5,(b:Int),0,0⟩) (i:=-1) O;have C6:b<j.ay.aB.length:=by omega
  obtain⟨w1,w2,_,w4,_,w6⟩:=mX (c:=j) (x:=⟨5,(b:Int),0,0⟩) (i:=-1) O (λ_=>C6) (λ_=>hd);have w4:=w4 rfl;intro B hB C;rw[e4]at hB;have OL:uB j.ay.aB B=true:=bf (by have:=ja C;have:=w6 B;omega);rcases hw with Y|⟨_,Zi,_⟩
  ·rw[Ss O (λ_=>C6) (λ_=>hd),e1,e2,e4];have ZE:∀ b',(br j ⟨5,(b:Int),0,0⟩ (-1)).ay.aB.getD b' 0=if b=b' then j.ay.aB.getD b' 0-1 else j.ay.aB.getD b' 0:=w4;generalize (br j ⟨5,(b:Int),0,0⟩ (-1)).ay.aB=d at C ZE ⊢;have As:uB d b=false:=bz (by
    have:=ZE b;rw[aV rfl]at this;have:=F6 b;omega)
   have bQ:B≠b:=λe=>by rw[e,As]at C;cases C
   have mono:∀ b',uB d b'=true->uB j.ay.aB b'=true:=λb' h=>bf (by
    have h:=ja h;have:=ZE b';split at this<;>omega)
   have u:=h B hB OL;have ub:=h b hb Y;have JA:cU j.config.aq d+1<=cU j.config.aq j.ay.aB:=by
    have:=Io (p:=uB j.ay.aB) (q:=uB d) (b:=b) (aE j.config.aq).toNat (by omega) (λb' _=>mono b') Y As;unfold cU;omega
   have hr:cZ j.aG ⟨5,(b:Int),0,0⟩=j.aG:=rfl;rw[hr];have MC:cO j.config.aq j.aG d<=cO j.config.aq j.aG j.ay.aB:=by
    have:=count_le (p:=λb=>uB j.ay.aB b&&oB j.aG b) (q:=λb=>uB d b&&oB j.aG b) (aE j.config.aq).toNat λb' _ Z=>by
     rw[aH]at Z ⊢;exact⟨mono b' Z.1,Z.2⟩
    unfold cO;omega
   have la:=C2 j.config.aq j.ready ⟨j.now,⟨5,(b:Int),0,0⟩⟩ E;have D:∀ b' k:Nat,1<=k->k<=9->¬ (k=5/\b'=b)->La (iF j.config.aq j.ready ⟨j.now,⟨5,(b:Int),0,0⟩⟩) b' k=La j.ready b' k:=λb' k h1 h9 hn=>by
    rcases la b' k ⟨h1,h9⟩with e|⟨_,e,e'⟩
    ·exact e
    ·dsimp only at e e';rw[aV]at e';exact absurd ⟨by omega,by omega⟩ hn
   have v6:=ub.v6;have u4:=u.v4
   refine⟨⟨by rw[D B 1 (by decide) (by decide) (by omega)];exact u4.1,by rw[D B 2 (by decide) (by decide) (by omega)];exact u4.2.1,by rw[D B 3 (by decide) (by decide) (by omega)];exact u4.2.2.1,by rw[D B 5 (by decide) (by decide) (by omega)];exact u4.2.2.2.1,by rw[D B 4 (by decide) (by decide) (by omega)];exact u4.2.2.2.2⟩,λSa=>by have:=u.v5 Sa;omega,by omega,λb' s8=>?_,by rw[D _ 7 (by decide) (by decide) (by omega),D _ 9 (by decide) (by decide) (by omega)];exact u.v8⟩
   rcases la b' 5 ⟨by decide,by decide⟩with e|⟨e,_,_⟩
   ·rw[e];have:=u.v7 b' s8;omega
   ·rw[e];dsimp only;omega
  ·have:=C1 U (b:=(B:Int)) (by omega) hB (ja OL);rw[Zi]at this;cases this
def axK{c:au}(bQ:c.queue≠[]):∃ i,i<c.queue.length/\jS c i=true:=by
 obtain⟨r,C⟩:=List.exists_mem_of_ne_nil _ bQ;obtain⟨i0,T,_,U⟩:=axx C;have Y:∀ p:Nat->Bool,(¬ ∃ i,i<c.queue.length/\p i=true)->v9 p c.queue.length=0:=λp hn=>by
  unfold v9;have:(List.range c.queue.length).countP p=0:=List.countP_eq_zero.2 λk E I=>hn ⟨k,gq.1 E,I⟩
  rw[this];rfl
 have hp:∀ (p:Nat->Bool) (i:Nat),i<c.queue.length->p i=true->1<=v9 p c.queue.length:=λp i hi I=>by
  have:=Ze hi I;unfold v9;omega
 by_cases C:∃i,i<c.queue.length/\(mW c.queue i && !mU c.queue i)=true
 ·obtain⟨i,hi,hri⟩:=C;have D:=hri;rw[aH,ff]at D;by_cases Z:∃ i,i<c.queue.length/\(mW c.queue i&&mU c.queue i)=true
  ·obtain⟨k,E,O⟩:=Z;rw[aH]at O;cases kK:c.drain.on with
   | true=>
    refine⟨k,E,?_⟩;unfold jS CU;rw[O.1,O.2,kK];rfl
   | false=>
    refine⟨i,hi,?_⟩;unfold jS CU;rw[D.1,D.2,kK];rfl
  ·refine⟨i,hi,?_⟩;unfold jS zv;rw[Y _ Z,D.1,D.2];simp
 ·refine⟨i0,T,?_⟩;have Fq:mU c.queue i0=true:=by
   cases h:mU c.queue i0 with
   |true=>rfl
   |false=>exact absurd ⟨i0,T,by rw[U,h];rfl⟩ C
  unfold jS CU zu;rw[Y _ C,U,Fq];simp
def axL{g:aK}{t:dw}(C:kC t){a x:aQ}(D:1<=a.kind/\a.kind<=9)(E:x.kind=1):(a.kind≠9->eH g t a x<=12)/\(a.kind=4->eH g t a x<=3)/\(a.kind=6\/a.kind=8\/((a.kind=4\/a.kind=5)/\a.aA≠x.aA)->eH g t a x<=1)/\(a.kind=9->eH g t a x<=16):=by
 obtain⟨r,w,U,Y,Z,R0,rfl⟩:=C;have I:W6 (r+3)=r+3:=bh;have O:W6 (w+3)=w+3:=bh;have T:W6 (7+3)=10:=by decide
 unfold eH ou mP qC gZ;dsimp only;rw[I,O,T];generalize sD g a _=nb;rw[E];rcases kinds D with h|h|h|h|h|h|h|h|h<;>rw[h]<;>cases nb<;>cases hb:a.aA==x.aA<;>simp[aT]at *<;>omega
def Pw(c:au):Prop:=∀b':Nat,(0<=La c.ready b' 7->La c.ready b' 7+16<=c.now)/\(0<=La c.ready b' 9->La c.ready b' 9+16<=c.now)
def Sw{j:au}(C:Pq j)(D:bV 0 j.ay.aB=[]){b:Int}(E:0<=b)(I:b<aE j.config.aq):kz j b=false:=by
 cases h:kz j b with
 |false=>rfl
 | true=>
  have:=C1 C E I (ja h);rw[D]at this;cases this
def axM{σ:Int}{j:au}(Z:Pq j)(ht:kC j.config.bP)(hp:j.aG.aS=0)(bQ:j.queue≠[])(d1:∀ k:Nat,j.ready.last.getD k (-1)<=j.now-1)(C3:Pw j)(a3:∀ b:Nat,La j.ready b 1<=σ/\La j.ready b 2<=σ/\La j.ready b 3<=σ/\(kB j b=false->La j.ready b 5<=σ))(a4:∀ a∈j.ready.bq,a<=σ)(hu:bV 0 j.ay.aB=[])(AE:j.pending=[])(hn:σ+12<=j.now)(lW:MI j):∃ b:Nat,j.now<=La j.ready b 4+2:=by
 obtain⟨i,hi,hd⟩:=axK bQ;have bk:∀ k,k<j.queue.length->∃ b:Nat,(ey j k).aA=(b:Int)/\(b:Int)<aE j.config.aq/\kz j (b:Int)=false/\kB j b=false:=λk hk=>by
  obtain⟨_,o1,_,_,o4,_⟩:=E6 Z hk;obtain⟨b,hb⟩:=dN o1;rw[hb]at o4;refine⟨b,hb,o4,Sw Z hu (by omega) o4,?_⟩;have hl:=Bb j;unfold kB;rw[Bool.not_eq_false'];refine List.any_eq_true.2 ⟨ey j k,?_,by rw[hb];exact gu _⟩;rw[<-E5 (by rw[hl];exact hk)];exact cX _
 have iV:∀b:Int,xY j b=false:=λb=>by unfold xY;rw[AE];rfl
 have rw':∀ k,k<j.queue.length->jS j k=true->ez j k=true->False:=λk hk BX D=>by
  obtain⟨b,hb,iu,qJ,_⟩:=bk k hk;unfold ez sH at D;rw[aH,dO]at D;have E:((cG j k).kind=2\/(cG j k).kind=3)/\(cG j k).aA=(b:Int):=by
   unfold cG kZ;rw[D.1,bI,ax,D.2,bne_self_eq_false,ax,hb];cases mU j.queue k
   ·exact⟨.inl rfl,rfl⟩
   ·exact⟨.inr rfl,rfl⟩
  have n1:¬ (cG j k).kind=1:=by have:=E.1;omega
  have n4:¬ (cG j k).kind=4:=by have:=E.1;omega
  have hr:cq j (cG j k)=true:=by
   rw[hb]at D;generalize cG j k=x at E n1 n4
   refine Sn Z (λh1=>absurd h1 n1) ?_ λb' m m1 T C=>?_
   ·unfold kj;rcases E.1 with h|h<;>rw[h,E.2]<;>show (j.aG.aS==0&&(cK j.aG (b:Int)).open_)=true<;>rw[hp,D.1]<;>rfl
   ·obtain⟨U,I,O⟩:=ai6 (g:=j.config.aq) ht (a:=⟨(m:Int),if m<=5 then (b':Int)else 0,0,0⟩) ⟨by dsimp only;omega,by dsimp only;omega⟩ E.1;dsimp only at U I O;have hL:=nL d1 b' m;obtain⟨f1,f2,f3,_⟩:=a3 b';obtain⟨p7,p9⟩:=C3 b';by_cases T:m=9
    ·subst T;have:=p9 C;omega
    ·by_cases m7:m=7
     ·subst m7;have:=p7 C;have:=I (by omega);omega
     ·by_cases mm:m=4\/m=5\/m=6\/m=8
      ·have:=O (by omega);omega
      ·have I:=I (by omega);have:m=1\/m=2\/m=3:=by omega
       rcases this with rfl|rfl|rfl<;>omega
  have:=lW k hk;unfold gC at this;rw[BX,hb,qJ,hr,dy n1,dy n4]at this;exact absurd (show true=false from this) (by decide)
 obtain⟨b,hb,iu,qJ,hid⟩:=bk i hi;have Y:=lW i hi;cases ho:(cK j.aG (b:Int)).open_ with
 | true=>
  exfalso;by_cases fk:(cK j.aG (b:Int)).row=(ey j i).row
  ·refine rw' i hi hd ?_;unfold ez sH;rw[hb,ho,fk];simp
  ·have E:cG j i=⟨4,(b:Int),0,0⟩:=by
    unfold cG kZ;rw[hb,ho,bI,ax,iW fk,av]
   have YG:E7 j j.queue.length (b:Int)=false:=by
    unfold E7
    refine jV.2 λm hm D=>?_
    rw[aH,aH]at D;exact rw' m (gq.1 hm) D.1.1 D.1.2
   have hr:cq j ⟨4,(b:Int),0,0⟩=true:=by
    refine Sn Z (λh=>absurd (show (4:Int)=1 from h) (by decide)) ?_ λb' m m1 T C=>?_
    ·show (j.aG.aS==0&&(cK j.aG (b:Int)).open_)=true;rw[hp,ho];rfl
    ·obtain⟨r,w,r1,r2,w1,w2,et⟩:=ht;rw[et];obtain⟨U,I,O⟩:=Zc (g:=j.config.aq) (a:=⟨(m:Int),if m<=5 then (b':Int)else 0,0,0⟩) ⟨r1,r2⟩ ⟨w1,w2⟩ ⟨by dsimp only;omega,by dsimp only;omega⟩ (b:Int);have g8:=λh9=>ajj (g:=j.config.aq) (a:=⟨(m:Int),if m<=5 then (b':Int)else 0,0,0⟩) ⟨r1,r2⟩ ⟨w1,w2⟩ ⟨by dsimp only;omega,by dsimp only;omega⟩ h9 (b:Int)
     dsimp only at U I O g8;have hL:=nL d1 b' m;obtain⟨f1,f2,f3,_⟩:=a3 b';obtain⟨p7,p9⟩:=C3 b';by_cases T:m=9
     ·subst T;have:=p9 C;omega
     ·by_cases m7:m=7
      ·subst m7;have:=p7 C;have:=I (by omega);omega
      ·by_cases mm:4<=m
       ·have:=O (by omega) (by omega) (.inr (by omega));omega
       ·have g8:=g8 (by omega);have:m=1\/m=2\/m=3:=by omega
        rcases this with rfl|rfl|rfl<;>omega
   unfold gC at Y;rw[hd,hb,qJ,E,hr,iV,YG]at Y;exact absurd (show true=false from Y) (by decide)
 | false=>
  have E:cG j i=⟨1,(b:Int),(ey j i).row,0⟩:=by
   unfold cG kZ;rw[hb,ho];rfl
  refine⟨b,?_⟩
  refine Classical.byContradiction λdA=>?_
  have hr:cq j ⟨1,(b:Int),(ey j i).row,0⟩=true:=by
   refine Sn Z (λ_ h4=>?_) ?_ λb' m m1 T C=>?_
   ·have C:0<j.ready.bq.length:=by omega
    have:=a4 _ (cX C);rw[fU _ C];obtain⟨r,w,_,_,_,_,et⟩:=ht;rw[et];show j.ready.bq[0]+10<=j.now;omega
   ·show (j.aG.aS==0 && !(cK j.aG (b:Int)).open_)=true;rw[hp,ho];rfl
   ·obtain⟨U,I,O,g4⟩:=axL (g:=j.config.aq) ht (a:=⟨(m:Int),if m<=5 then (b':Int)else 0,0,0⟩) (x:=⟨1,(b:Int),(ey j i).row,0⟩) ⟨by dsimp only;omega,by dsimp only;omega⟩ rfl;dsimp only at U I O g4;have hL:=nL d1 b' m;obtain⟨f1,f2,f3,f5⟩:=a3 b';obtain⟨p7,p9⟩:=C3 b';by_cases T:m=9
    ·subst T;have:=p9 C;have:=g4 (by omega);omega
    ·have U:=U (by omega);by_cases m7:m=7
     ·subst m7;have:=p7 C;omega
     ·by_cases m4:m=4
      ·subst m4;by_cases eb:b'=b
       ·subst eb;have:=I (by omega);omega
       ·have:=O (.inr (.inr ⟨.inl rfl,by rw[aV (by decide)];omega⟩));omega
      ·by_cases m5:m=5
       ·subst m5;by_cases eb:b'=b
        ·subst eb;have:=f5 hid;omega
        ·have:=O (.inr (.inr ⟨.inr rfl,by rw[aV (by decide)];omega⟩));omega
       ·by_cases m6:m=6\/m=8
        ·have:=O (by omega);omega
        ·have:m=1\/m=2\/m=3:=by omega
         rcases this with rfl|rfl|rfl<;>omega
  unfold gC at Y;rw[hd,hb,qJ,E,hr,iV]at Y;exact absurd (show true=false from Y) (by decide)
def oN(c:au):Int:=(((List.range (aE c.config.aq).toNat).countP (oB c.aG):Nat):Int)
def vv(r:cr)(F:Nat->Bool)(b:Nat):Int:=bif oB r b then (bif F b then 0 else 2)else 1
def oE(F:Nat->Bool)(c:au):Int:=fM (vv c.aG F) (cW c)
structure LvA (σ n:Int) (c:au):Prop where
 a1:n+3*oN c<=σ+27
 a2:∀b:Nat,La c.ready b 4+3*oN c<=σ+25
 a3:∀b:Nat,La c.ready b 1<=σ/\La c.ready b 2<=σ/\La c.ready b 3<=σ/\(kB c b=false->La c.ready b 5<=σ)
 a4:∀a∈c.ready.bq,a<=σ
def Lv(σ n:Int)(F:Nat->Bool)(c:au):Prop:=((∀b,F b=false)/\LvA σ n c)\/((∃b,F b=true/\La c.ready b 1<=σ+28)/\n+oE F c<=σ+39)
def ajk(r:cr)(F:Nat->Bool)(b:Nat):0<=vv r F b/\vv r F b<=2:=by
 unfold vv;cases oB r b<;>cases F b<;>decide
def ZF{c:au}(C:aE c.config.aq<=4):0<=oN c/\oN c<=4:=by
 have D:=dZ c.config.aq;have:=Zf (oB c.aG) (aE c.config.aq).toNat;unfold oN;omega
def ajl{F:Nat->Bool}{c:au}(C:aE c.config.aq<=4):0<=oE F c/\oE F c<=8:=by
 have D:=dZ c.config.aq;have:=Fm (f:=vv c.aG F) (lo:=0) (hi:=2) (cW c) λb _=>ajk _ _ _
 unfold oE;unfold cW at this ⊢;omega
def mg.ob{c:au}{b i:Nat}{e:Int}(h:mg c b i e):oB c.aG b=true:=by
 have:=h.fh;unfold ez sH at this;rw[h.fa,aH]at this;exact this.1
def mg.bb{c:au}{b i:Nat}{e:Int}(h:mg c b i e)(C:Pq c):(b:Int)<aE c.config.aq:=by
 have:=(E6 C h.fi).2.2.2.2.1;rw[h.fa]at this;exact this
def ajm{F:Nat->Bool}{c:au}(T:aE c.config.aq<=4){b:Nat}(hb:(b:Int)<aE c.config.aq)(C:oB c.aG b=true)(D:F b=true):oE F c<=6:=by
 have U:=dZ c.config.aq;have E:=Ir (f:=vv c.aG F) (f':=λk=>if k=b then 2 else vv c.aG F k) (B:=b) (d:=2) (cW c) (by unfold cW;omega) (λk _ I=>aX I) (by
  rw[aV rfl];unfold vv;rw[C,D];rfl)
 have O:=Fm (f:=λk=>if k=b then 2 else vv c.aG F k) (lo:=0) (hi:=2) (cW c) λk _=>by
  have:=ajk c.aG F k;split<;>omega
 unfold oE;unfold cW at E O ⊢;omega
def MK{j:au}{x:aQ}{n:Int}(D:cD j.config.aq x=true)(U:x.kind<=5){b' k:Nat}(E:1<=k)(I:k<=9)(O:¬ ((k:Int)=x.kind/\(b':Int)=x.aA)):La (br j x n).ready b' k=La j.ready b' k:=by
 have T:=(iP D).1;rw[(ia (c:=j) (x:=x) (i:=n) T).2.1];rcases C2 j.config.aq j.ready ⟨j.now,x⟩ D b' k ⟨E,I⟩with e|⟨_,e,C⟩
 ·exact e
 ·dsimp only at e C;rw[aV]at C;exact absurd ⟨e,C⟩ O
def ZG{j:au}{x:aQ}{n:Int}(C:cD j.config.aq x=true){b' k:Nat}(D:1<=k)(E:k<=9):La (br j x n).ready b' k=La j.ready b' k\/La (br j x n).ready b' k=j.now:=by
 have I:=(iP C).1;rw[(ia (c:=j) (x:=x) (i:=n) I).2.1];rcases C2 j.config.aq j.ready ⟨j.now,x⟩ C b' k ⟨D,E⟩with e|⟨e,_⟩
 ·exact .inl e
 ·exact .inr e
def ajn{j:au}{x:aQ}{n:Int}(C:1<=x.kind/\x.kind<=9)(D:x.kind≠1):(br j x n).ready.bq=j.ready.bq:=by
 rw[(ia (c:=j) (x:=x) (i:=n) C).2.1];exact axh _ _ _ D
def uR{c j:au}(C:j.queue=c.queue)(D:j.config=c.config)(E:j.spare=c.spare)(b:Nat):kB j b=kB c b:=by
 unfold kB iQ dM;rw[C,D,E]
def axN{j:au}{b:Nat}{n:Int}(hb:(b:Int)<aE j.config.aq)(D:oB j.aG b=true):oN (br j ⟨4,(b:Int),0,0⟩ n)+1<=oN j:=by
 obtain⟨E,_,_,I⟩:=ia (c:=j) (x:=⟨4,(b:Int),0,0⟩) (i:=n) ⟨by show (1:Int)<=4;decide,by show (4:Int)<=9;decide⟩;have T:=dZ j.config.aq;unfold oN;rw[E,I];have:=Io (p:=oB j.aG) (q:=oB (cZ j.aG ⟨4,(b:Int),0,0⟩)) (b:=b) (aE j.config.aq).toNat (by omega) (λb' _ C=>by
  by_cases O:b'=b
  ·rw[O];exact D
  ·unfold oB at C ⊢;rw[zB (by dsimp only;omega)]at C;exact C) D (by
  unfold oB;exact Ip rfl (by dsimp only;omega))
 omega
def axO{F:Nat->Bool}{j:au}{b:Nat}{n:Int}(hb:(b:Int)<aE j.config.aq)(C:oB j.aG b=true)(D:F b=false):oE (λk=>F k&&(k != b)) (br j ⟨4,(b:Int),0,0⟩ n)=oE F j-1:=by
 obtain⟨E,_,_,I⟩:=ia (c:=j) (x:=⟨4,(b:Int),0,0⟩) (i:=n) ⟨by show (1:Int)<=4;decide,by show (4:Int)<=9;decide⟩;have U:=dZ j.config.aq;unfold oE cW;rw[E,I];have:=Ir (f:=vv j.aG F) (f':=vv (cZ j.aG ⟨4,(b:Int),0,0⟩) (λk=>F k&&(k != b))) (B:=b) (d:=-1) (aE j.config.aq).toNat (by omega) (λk _ O=>by
  unfold vv oB;rw[zB (by dsimp only;omega)];dsimp only;rw[show (k != b)=true from bne_iff_ne.2 O,Bool.and_true]) (by
  have T:oB (cZ j.aG ⟨4,(b:Int),0,0⟩) b=false:=Ip rfl (by dsimp only;omega);unfold vv;rw[T,C,D];rfl)
 omega
def ZH{j:au}{b:Nat}{row:Int}(C:b<j.aG.aO.length):oB (cZ j.aG ⟨1,(b:Int),row,0⟩) b=true:=by
 have:=ai7 (r:=j.aG) (x:=⟨1,(b:Int),row,0⟩) rfl (by dsimp only;omega);unfold oB;dsimp only at this;rw[this]
def axP{F:Nat->Bool}{j:au}{b:Nat}{row n:Int}(hb:(b:Int)<aE j.config.aq)(C:b<j.aG.aO.length)(D:oB j.aG b=false):oE (λk=>F k || (k==b)) (br j ⟨1,(b:Int),row,0⟩ n)=oE F j-1:=by
 obtain⟨E,_,_,I⟩:=ia (c:=j) (x:=⟨1,(b:Int),row,0⟩) (i:=n) ⟨by show (1:Int)<=1;decide,by show (1:Int)<=9;decide⟩;have T:=dZ j.config.aq;unfold oE cW;rw[E,I];have:=Ir (f:=vv j.aG F) (f':=vv (cZ j.aG ⟨1,(b:Int),row,0⟩) (λk=>F k || (k==b))) (B:=b) (d:=-1) (aE j.config.aq).toNat (by omega) (λk _ O=>by
  unfold vv oB;rw[zB (by dsimp only;omega)];dsimp only;rw[show (k==b)=false from beq_eq_false_iff_ne.2 O,Bool.or_false]) (by
  unfold vv;rw[ZH C,D];simp)
 omega
def Lv.Sx{σ n:Int}{F:Nat->Bool}{c:au}(E:Pq c)(C:aE c.config.aq<=4)(I:Fo F c)(O:n<=σ)(hl:∀ i:Nat,c.ready.last.getD i (-1)<=n)(D:∀ a∈c.ready.bq,a<=n):Lv σ n F c:=by
 have o:=ZF C;by_cases h:∃b,F b=true
 ·obtain⟨b,hb⟩:=h;have:=ajl (F:=F) C;exact .inr ⟨⟨b,hb,by have:=nL hl b 1;omega⟩,by omega⟩
 ·refine .inl ⟨λb=>nN.2 λhb=>h ⟨b,hb⟩,by omega,λb=>by have:=nL hl b 4;omega,λb=>?_,λa h=>by have:=D a h;omega⟩
  have:=λk=>nL hl b k
  have T:=this 1;have U:=this 2;have Y:=this 3;have Z:=this 5;exact⟨by omega,by omega,by omega,λ_=>by omega⟩
def Lv.fn{σ:Int}{F F':Nat->Bool}{j y:au}(h:Lv σ (j.now-1) F j)(hq:Pq j)(lH:aE j.config.aq<=4)(ht:kC j.config.bP)(hp:j.aG.aS=0)(bQ:j.queue≠[])(hF:Fo F j)(d1:∀ i:Nat,j.ready.last.getD i (-1)<=j.now-1)(C3:Pw j)(hu:bV 0 j.ay.aB=[])(AE:j.pending=[])(hE:Ev F j y F'):y.aZ.length=j.aZ.length+1\/(y.aZ.length=j.aZ.length/\Lv σ j.now F' y):=by
 have o:=ZF lH;have iw:=hq.p.bl;have unu:∀ {b:Nat},(b:Int)<aE j.config.aq->uB j.ay.aB b=false:=λ{b} hb=>by
  have:=Sw hq hu (b:=(b:Int)) (by omega) hb;unfold kz at this
  rwa [bD]at this
 have ajo:∀ b,F b=true->La j.ready b 1<=σ+28->MI j->j.now+oE F j<=σ+39:=λb hb U Y=>by
  obtain⟨i,e,hf⟩:=hF b hb;have hm:=ajm lH (hf.bb hq) hf.ob hb;obtain⟨f0,fe⟩:=hf.fe;by_cases h5:e+5<=j.now
  ·have:=hf.abl hq ht hp h5 (Sw hq hu (by omega) (hf.bb hq)) d1;rw[Y i hf.fi]at this;cases this
  ·omega
 have wait:LvA σ (j.now-1) j->MI j->j.now+3*oN j<=σ+27:=λhA Y=>by
  by_cases sj:σ+12<=j.now
  ·obtain⟨b,hb⟩:=axM hq ht hp bQ d1 C3 hA.a3 hA.a4 hu AE sj Y;have:=hA.a2 b;omega
  ·omega
 cases hE with
 | eN gG Y=>
  refine .inr ⟨rfl,?_⟩;rcases h with ⟨h1,C⟩|⟨⟨b,hb,U⟩,_⟩
  ·exact .inl ⟨h1,wait C Y,C.a2,C.a3,C.a4⟩
  ·exact .inr ⟨⟨b,hb,U⟩,ajo b hb U Y⟩
 |eA x i hi O D ho hux gG=>exact .inl (MG hi O).2.1
 | eO b row hb ho D hm hux gG=>
  rw[AE]at hm;cases hm
 | eR b hb ho D hd hw=>
  rcases hw with qJ|⟨hid,_,Y⟩
  ·rw[unu hb]at qJ;cases qJ
  ·obtain⟨O,_⟩:=iP D;obtain⟨e1,e2,e3,e4⟩:=ia (c:=j) (x:=⟨5,(b:Int),0,0⟩) (i:=-1) O;obtain⟨s1,s2,_,_,s5,_⟩:=mY (c:=j) (x:=⟨5,(b:Int),0,0⟩) (i:=-1) O (show ¬ (5:Int)=2 by decide) (show ¬ (5:Int)=3 by decide);have er:(br j ⟨5,(b:Int),0,0⟩ (-1)).aG=j.aG:=e1;have eo:oN (br j ⟨5,(b:Int),0,0⟩ (-1))=oN j:=by unfold oN;rw[er,e4]
   have em:oE F (br j ⟨5,(b:Int),0,0⟩ (-1))=oE F j:=by unfold oE cW;rw[er,e4]
   refine .inr ⟨by rw[s2],?_⟩;have T:=λ(b' k:Nat) k1 k9 (hn:k≠5)=>MK (j:=j) (x:=⟨5,(b:Int),0,0⟩) (n:=-1) D (show (5:Int)<=5 by decide) (b':=b') (k:=k) k1 k9 (λE=>hn (by have:=E.1;dsimp only at this;omega))
   rcases h with ⟨h1,C⟩|⟨⟨I,Z,U⟩,_⟩
   ·refine .inl ⟨h1,by rw[eo];exact wait C Y,λb'=>by rw[T b' 4 (by decide) (by decide) (by decide),eo];exact C.a2 b',λb'=>?_,λa ha=>?_⟩
    ·rw[T b' 1 (by decide) (by decide) (by decide),T b' 2 (by decide) (by decide) (by decide),T b' 3 (by decide) (by decide) (by decide),uR s1 e4 s5]
     refine⟨(C.a3 b').1,(C.a3 b').2.1,(C.a3 b').2.2.1,λhi=>?_⟩
     rw[MK (j:=j) (x:=⟨5,(b:Int),0,0⟩) (n:=-1) D (show (5:Int)<=5 by decide) (b':=b') (k:=5) (by decide) (by decide) (λE=>by
      have:=E.2;dsimp only at this;obtain rfl:b'=b:=by omega
      rw[hid]at hi;cases hi)]
     exact(C.a3 b').2.2.2 hi
    ·rw[ajn O (show ¬ (5:Int)=1 by decide)]at ha;exact C.a4 a ha
   ·exact .inr ⟨⟨I,Z,by rw[T I 1 (by decide) (by decide) (by decide)];exact U⟩,by rw[em];exact ajo I Z U Y⟩
 | eP b i hb ho D Ix hw=>
  have hF0:F b=false:=nN.2 λE=>by
   rcases Ix E with h|h
   ·rw[Sw hq hu (by omega) hb]at h;cases h
   ·unfold xY at h;rw[AE]at h;cases h
  obtain⟨O,_⟩:=iP D;obtain⟨e1,e2,e3,e4⟩:=ia (c:=j) (x:=⟨4,(b:Int),0,0⟩) (i:=i) O;obtain⟨s1,s2,_,_,s5,_⟩:=mY (c:=j) (x:=⟨4,(b:Int),0,0⟩) (i:=i) O (show ¬ (4:Int)=2 by decide) (show ¬ (4:Int)=3 by decide);have eo:=axN (n:=i) hb ho;have em:=axO (n:=i) hb ho hF0;have T:=λ(b' k:Nat) k1 k9 (hn:k≠4)=>MK (j:=j) (x:=⟨4,(b:Int),0,0⟩) (n:=i) D (show (4:Int)<=5 by decide) (b':=b') (k:=k) k1 k9 (λE=>hn (by have:=E.1;dsimp only at this;omega))
  refine .inr ⟨by rw[s2],?_⟩;rcases h with ⟨h1,C⟩|⟨⟨I,Z,U⟩,hm⟩
  ·have a1:=C.a1
   refine .inl ⟨λk=>by dsimp only;rw[h1 k];rfl,by omega,λb'=>?_,λb'=>?_,λa ha=>?_⟩
   ·have a2:=C.a2 b';rcases ZG (j:=j) (x:=⟨4,(b:Int),0,0⟩) (n:=i) D (b':=b') (k:=4) (by decide) (by decide)with e|e<;>rw[e]<;>omega
   ·rw[T b' 1 (by decide) (by decide) (by decide),T b' 2 (by decide) (by decide) (by decide),T b' 3 (by decide) (by decide) (by decide),T b' 5 (by decide) (by decide) (by decide),uR s1 e4 s5];exact C.a3 b'
   ·rw[ajn O (show ¬ (4:Int)=1 by decide)]at ha;exact C.a4 a ha
  ·refine .inr ⟨⟨I,?_,by rw[T I 1 (by decide) (by decide) (by decide)];exact U⟩,by rw[em];omega⟩;have ZI:I≠b:=λE=>by rw[E,hF0]at Z;cases Z
   dsimp only;rw[Z,show (I != b)=true from bne_iff_ne.2 ZI];rfl
 | eQ i b row hi ha hb ho D iV hux gG=>
  obtain⟨O,_⟩:=iP D;obtain⟨s1,s2,_,_,s5,_⟩:=mY (c:=j) (x:=⟨1,(b:Int),(row:Int),0⟩) (i:=(i:Int)) O (show ¬ (1:Int)=2 by decide) (show ¬ (1:Int)=3 by decide);obtain⟨e1,e2,e3,e4⟩:=ia (c:=j) (x:=⟨1,(b:Int),(row:Int),0⟩) (i:=(i:Int)) O;have ajp:b<j.aG.aO.length:=by omega
  have em:=axP (F:=F) (n:=(i:Int)) (row:=(row:Int)) hb ajp ho;refine .inr ⟨by rw[s2],?_⟩;rcases h with ⟨h1,C⟩|⟨⟨I,Z,U⟩,hm⟩
  ·have a1:=C.a1;have m6:=ajm (F:=λk=>F k || (k==b)) (c:=br j ⟨1,(b:Int),(row:Int),0⟩ (i:Int)) (by rw[e4];exact lH) (b:=b) (by rw[e4];exact hb) (by rw[e1];exact ZH ajp) (by simp);refine .inr ⟨⟨b,by simp,?_⟩,by omega⟩;rcases ZG (j:=j) (x:=⟨1,(b:Int),(row:Int),0⟩) (n:=(i:Int)) D (b':=b) (k:=1) (by decide) (by decide)with e | e
   ·rw[e];have:=(C.a3 b).1;omega
   ·rw[e];omega
  ·refine .inr ⟨⟨I,by dsimp only;rw[Z];rfl,?_⟩,by rw[em];omega⟩;have ZI:I≠b:=λE=>by
    obtain⟨_,_,hf⟩:=hF I Z;have:=hf.ob;rw[E,ho]at this;cases this
   rw[MK (j:=j) (x:=⟨1,(b:Int),(row:Int),0⟩) (n:=(i:Int)) D (show (1:Int)<=5 by decide) (b':=I) (k:=1) (by decide) (by decide) (λE=>ZI (by have:=E.2;dsimp only at this;omega))];exact U
def Lv.by{σ n:Int}{F:Nat->Bool}{c:au}(h:Lv σ n F c)(C:aE c.config.aq<=4):n<=σ+39:=by
 have o:=ZF C;have m:=ajl (F:=F) C;rcases h with ⟨_,h⟩|⟨_,h⟩
 ·have:=h.a1;omega
 ·omega
def mh(t:dc)(r:Nat):Nat:=match t.rows.findIdx? λe=>e==(r:Int)with
 |some i=>(t.counts.getD i 0).toNat
 |none=>0
def ZJ{R:Nat}{t:dc}{f:Nat->Nat}(h:rO R t f){r:Nat}(D:r<R):mh t r=f r:=by
 have U:=h.tr;unfold mh;cases C:t.rows.findIdx? (λe=>e==(r:Int))with
 | some i=>
  obtain⟨hi,E⟩:=CR C;have er:t.rows.getD i (-1)=(r:Int):=(fU _ hi).trans (dO.1 E);rcases h.te i (by omega)with ⟨I,_⟩|⟨r',_,I,O,_⟩
  ·omega
  ·obtain rfl:r=r':=by omega
   dsimp only;rw[O];rfl
 | none=>
  cases Y:f r with
  |zero=>rfl
  | succ k=>
   obtain⟨i,hi,e⟩:=h.tf r D (by omega);have T:t.rows.getD i (-1)=t.rows[i]:=fU _ (by omega);have:=List.findIdx?_eq_none_iff.1 C t.rows[i] (cX _);rw[<-T,e,gu]at this;cases this
def eK(c:au)(b:Nat):Int:=((c.pending.countP λa=>a.aA==(b:Int):Nat):Int)
def gK(c:au)(b:Nat):dc:=c.bF.getD b zT
def kM(c:au)(b:Nat):Nat:=(c.guard.getD b 0).toNat
def gD(c:au):Nat:=c.config.aq.rows.toNat
def ajq(p:aN->Bool)(b:Int):∀ (ns:aa Int) (P:aa aN),(ns.foldl (iX b) P).countP p<=P.countP p+ns.length
 |[],P=>dg _
 | n :: ns,P=>by
  have h:=ajq p b ns (iX b P n);have C:(iX b P n).countP p<=P.countP p+1:=by
   unfold iX;cases P.any (eG ⟨b,n,0⟩)with
   |true=>exact Nat.le_succ _
   | false=>
    rw[ax,List.countP_append,List.countP_singleton];split<;>omega
  rw[List.foldl_cons,List.length_cons];omega
def ajr{p:aN->Bool}{b:Int}(C:∀ n,p ⟨b,n,0⟩=false):∀ (ns:aa Int) (P:aa aN),(ns.foldl (iX b) P).countP p=P.countP p
 |[],P=>rfl
 | n :: ns,P=>by
  rw[List.foldl_cons,ajr C ns];unfold iX;cases P.any (eG ⟨b,n,0⟩)with
  |true=>rfl
  |false=>rw[ax,List.countP_append,List.countP_singleton,C n];rfl
def ajs{p q:aN->Bool}:∀ P:aa aN,(P.filter q).countP p<=P.countP p
 |P=>(List.filter_sublist).countP_le
def ajt{p q:aN->Bool}(h:∀ a,p a=true->q a=true)(P:aa aN):(P.filter q).countP p=P.countP p:=by
 rw[List.countP_filter]
 refine List.countP_congr λa _=>?_
 rw[aH];exact⟨λC=>C.1,λC=>⟨C,h a C⟩⟩
def aju{p q:aN->Bool}{a:aN}(C:p a=true)(D:q a=false):∀ P:aa aN,a∈P->(P.filter q).countP p+1<=P.countP p
 | x :: l,h=>by
  rcases ig.1 h with rfl|h
  ·rw[List.filter_cons_of_neg (by rw[D];decide),List.countP_cons_of_pos C];have:=ajs (p:=p) (q:=q) l;omega
  ·have I:=aju C D l h;cases E:q x with
   | true=>
    rw[List.filter_cons_of_pos E,List.countP_cons,List.countP_cons];omega
   | false=>
    rw[List.filter_cons_of_neg (by rw[E];decide),List.countP_cons];omega
def Sz{j:au}{n m:Int}(hH:Ht m j)(hm:m<50000)(hR:j.config.aq.rows<16)(CX:(j.bF.length:Int)=aE j.config.aq){b row:Nat}(hb:(b:Int)<aE j.config.aq)(hr:row<gD j):
  (∀b',b'≠b->gK (br j ⟨1,(b:Int),(row:Int),0⟩ n) b'=gK j b'/\eK (br j ⟨1,(b:Int),(row:Int),0⟩ n) b'=eK j b')/\
  (∀r,r<gD j->mh (gK (br j ⟨1,(b:Int),(row:Int),0⟩ n) b) r=if r=row then mh (gK j b) r+1 else mh (gK j b) r)/\
  (br j ⟨1,(b:Int),(row:Int),0⟩ n).guard=j.guard/\
  (∀z:Nat,z=0\/(z=1/\(⟨(b:Int),(row:Int),0⟩:aN)∈j.pending)->eK (br j ⟨1,(b:Int),(row:Int),0⟩ n) b+(z:Int)<=eK j b+(if (mh (gK j b) row+1) % kM j b=0 then 2 else 0)):=by
 obtain⟨f,L,E,k2,I,k4,k5,_,_⟩:=hH b hb;have O:row<j.config.aq.rows.toNat:=hr;have k3':kM j b=L:=by unfold kM;rw[I];rfl
 obtain⟨q1,q2⟩:=E.step (by omega) O (L:=L) (by omega) k5 λr C=>by have:=k2 r C;omega
 have T:=λr (C:r<j.config.aq.rows.toNat)=>ZJ E C
 have ef2:=λr (C:r<j.config.aq.rows.toNat)=>ZJ q2 C
 rw[Ik j n rfl];have U:(xX (cg j ⟨1,(b:Int),(row:Int),0⟩) ⟨1,(b:Int),(row:Int),0⟩)=(jQ (gK j b) (row:Int),decide ((f row+1) % L=0)):=by
  unfold xX;show qE (j.bF.getD (b:Int).toNat zT) (row:Int) (j.guard.getD (b:Int).toNat 0)=_;rw[bD,I];exact q1
 have Y:∀ b',gK (uN (cg j ⟨1,(b:Int),(row:Int),0⟩) ⟨1,(b:Int),(row:Int),0⟩) b'=(j.bF.set b (jQ (gK j b) (row:Int))).getD b' zT:=λb'=>by
  unfold gK uN;rw[U];rfl
 have Z:(uN (cg j ⟨1,(b:Int),(row:Int),0⟩) ⟨1,(b:Int),(row:Int),0⟩).pending=bif decide ((f row+1) % L=0)then (je j.config.aq.rows (row:Int)).foldl (iX (b:Int)) (j.pending.filter λa=>!eG ⟨(b:Int),(row:Int),0⟩ a)else j.pending.filter λa=>!eG ⟨(b:Int),(row:Int),0⟩ a:=by
  unfold uN;rw[U];rfl
 refine⟨λb' bQ=>⟨?_,?_⟩,λr C=>?_,rfl,λz Gb=>?_⟩
 ·rw[Y,getD_set_ne _ (λe=>bQ e.symm)];rfl
 ·have ho:(j.pending.filter λa=>!eG ⟨(b:Int),(row:Int),0⟩ a).countP (λa=>a.aA==(b':Int))=j.pending.countP λa=>a.aA==(b':Int):=ajt (λa ha=>by
   rw[ff]
   refine nN.2 λh9=>bQ ?_
   have:=E3.1 h9;rw[<-this]at ha;have:=dO.1 ha;dsimp only at this;omega) _
  unfold eK;rw[Z];cases decide ((f row+1) % L=0)with
  | true=>
   rw[av,ajr (λn=>dy (show ¬ (b:Int)=(b':Int) by omega)),ho]
  |false=>rw[ax,ho]
 ·rw[Y,oD _ (by omega)];refine Eq.trans (ef2 r C) ?_;show (if r=row then f r+1 else f r)=if r=row then mh (gK j b) r+1 else mh (gK j b) r;rw[show mh (gK j b) r=f r from T r C]
 ·have hc:(j.pending.filter λa=>!eG ⟨(b:Int),(row:Int),0⟩ a).countP (λa=>a.aA==(b:Int))+z<=j.pending.countP λa=>a.aA==(b:Int):=by
   rcases Gb with rfl|⟨rfl,kJ⟩
   ·exact ajs _
   ·exact aju (by exact gu _) (by rw[Bool.not_eq_false'];exact E3.2 rfl) _ kJ
  unfold eK;rw[Z,show mh (gK j b) row=f row from T row O,k3'];by_cases D:(f row+1) % L=0
  ·rw[bf D,av,aV D];have h1:=ajq (λa=>a.aA==(b:Int)) (b:Int) (je j.config.aq.rows (row:Int)) (j.pending.filter λa=>!eG ⟨(b:Int),(row:Int),0⟩ a);have h2:=YA j.config.aq.rows (row:Int);omega
  ·rw[bz D,ax,aX D];omega
def ZK{j:au}{n:Int}(U:j.config.jj=16)(Y:(j.bF.length:Int)=aE j.config.aq)(Z:(j.guard.length:Int)=aE j.config.aq){b:Nat}(hb:(b:Int)<aE j.config.aq):
  (∀b',b'≠b->gK (br j ⟨5,(b:Int),0,0⟩ n) b'=gK j b'/\eK (br j ⟨5,(b:Int),0,0⟩ n) b'=eK j b'/\kM (br j ⟨5,(b:Int),0,0⟩ n) b'=kM j b')/\
  (∀r,r<gD j->mh (gK (br j ⟨5,(b:Int),0,0⟩ n) b) r=0)/\eK (br j ⟨5,(b:Int),0,0⟩ n) b=0/\(br j ⟨5,(b:Int),0,0⟩ n).guard.getD b 0=j.box.bW.dx:=by
 rw[Il j n rfl];have E:∀b',gK (CV (cg j ⟨5,(b:Int),0,0⟩) (b:Int)) b'=(j.bF.set b (rI j.config.jj)).getD b' zT:=λb'=>rfl
 have I:(CV (cg j ⟨5,(b:Int),0,0⟩) (b:Int)).guard=j.guard.set b j.box.bW.dx:=rfl;have O:(CV (cg j ⟨5,(b:Int),0,0⟩) (b:Int)).pending=j.pending.filter λa=>!(a.aA==(b:Int)):=rfl
 refine⟨λb' T=>⟨?_,?_,?_⟩,λr C=>?_,?_,?_⟩
 ·rw[E,getD_set_ne _ (λe=>T e.symm)];rfl
 ·unfold eK;rw[O,ajt (λa D=>by
   have:=dO.1 D;rw[this,dy (show ¬ (b':Int)=(b:Int) by omega)];rfl)]
 ·unfold kM;rw[I,getD_set_ne _ (λe=>T e.symm)]
 ·rw[E,oD _ (by omega),U];exact ZJ (rO.new _) C
 ·unfold eK;rw[O];have:(j.pending.filter λa=>!(a.aA==(b:Int))).countP (λa=>a.aA==(b:Int))=0:=List.countP_eq_zero.2 λa D C=>by
   have:=(List.mem_filter.1 D).2;rw[C]at this;cases this
  rw[this];rfl
 ·rw[I,oD _ (by omega)]
def ML{f f':Nat->Int}{d:Int}:∀ n:Nat,(∀ b,b<n->f' b<=f b+d)->fM f' n<=fM f n+d*n
 |0,_=>by show (0:Int)<=0+d*((0:Nat):Int);simp
 | n+1,h=>by
  have C:=ML n λb hb=>h b (by omega)
  have D:=h n (by omega);show fM f' n+f' n<=fM f n+f n+d*((n+1:Nat):Int)
  rw[Int.natCast_add,Int.mul_add];omega
def MM{f f':Nat->Int}{B:Nat}{d:Int}(n:Nat)(hB:B<n)(h:∀ b,b<n->b≠B->f' b=f b)(C:f' B<=f B+d):fM f' n<=fM f n+d:=by
 have:=Ir (f:=f) (f':=f') (B:=B) (d:=f' B-f B) n hB h (by omega);omega
def wB(F:Nat->Bool)(c:au)(b:Nat):Int:=bif oB c.aG b then (bif F b&&(!uB c.ay.aB b&&decide (eK c b=0))then 0 else 7)else 5
def nM(c:au)(b:Nat):Int:=fM (λr=>((min (mh (gK c b) r % kM c b) 6:Nat):Int)) (gD c)
def Xb(F:Nat->Bool)(c:au)(b:Nat):Int:=wB F c b+7*eK c b+3*nM c b
def kN(c:au):Int:=fM (λb=>c.ay.aB.getD b 0) (cW c)
def UN(F:Nat->Bool)(c:au):Int:=2*(c.trace.length:Int)+fM (Xb F c) (cW c)+2*kN c+30*(c.queue.length:Int)
def Fs(F:Nat->Bool)(c:au)(b:Nat):0<=wB F c b/\wB F c b<=7:=by
 unfold wB;cases F b&&(!uB c.ay.aB b&&decide (eK c b=0))<;>cases oB c.aG b<;>decide
def MN(c:au)(b:Nat):0<=eK c b:=Int.natCast_nonneg _
def ZL{c:au}{b:Nat}:xY c (b:Int)=decide (0<eK c b):=by
 unfold xY eK;rw[Bool.eq_iff_iff,ij,List.any_eq_true];have:=List.countP_pos_iff (p:=λa:aN=>a.aA==(b:Int)) (l:=c.pending);constructor
 ·intro h;have:=this.2 h;omega
 ·intro h;exact this.1 (by omega)
def SA{F F':Nat->Bool}{c y:au}{b:Nat}(C:oB y.aG b=oB c.aG b)(D:F' b=F b)(E:uB y.ay.aB b=uB c.ay.aB b)(I:eK y b=eK c b)(O:gK y b=gK c b)(T:kM y b=kM c b)(U:gD y=gD c):Xb F' y b=Xb F c b:=by
 unfold Xb wB nM;rw[C,D,E,I,O,T,U]
def ZM(c:au)(b:Nat):0<=nM c b/\nM c b<=6*gD c:=by
 have:=Fm (f:=λr=>((min (mh (gK c b) r % kM c b) 6:Nat):Int)) (lo:=0) (hi:=6) (gD c) λr _=>⟨Int.natCast_nonneg _,by have:=Nat.min_le_right (mh (gK c b) r % kM c b) 6;omega⟩
 unfold nM;omega
def axQ{f L:Nat}(I:7<=L):((min ((f+1) % L) 6:Nat):Int)<=((min (f % L) 6:Nat):Int)+(if (f+1) % L=0 then -6 else 1):=by
 have e:(f+1) % L=(f % L+1) % L:=(Nat.mod_add_mod f L 1).symm;have O:=Nat.mod_lt f (show 0<L by omega);by_cases D:f % L+1=L
 ·have C:(f+1) % L=0:=by rw[e,D,Nat.mod_self]
  rw[aV C,C];omega
 ·have E:(f+1) % L=f % L+1:=by rw[e];exact Nat.mod_eq_of_lt (by omega)
  rw[aX,E];omega
structure Gq (c:au):Prop where
 gH:∃m:Int,m<50000/\Ht m c
 gR:c.config.aq.rows<16
 gt:(c.bF.length:Int)=aE c.config.aq
 gg:(c.guard.length:Int)=aE c.config.aq
 gk:c.config.jj=16
 g7:∀b:Nat,(b:Int)<aE c.config.aq->7<=kM c b
 gb:aE c.config.aq<=4
def ajv{F F':Nat->Bool}{j:au}{n:Int}(I:Gq j)(iw:(j.aG.aO.length:Int)=aE j.config.aq){b row:Nat}(hb:(b:Int)<aE j.config.aq)(U:row<gD j)(ho:oB j.aG b=false)(hu:uB j.ay.aB b=false)(hF:∀ k,k≠b->F' k=F k)(hw:(F' b=true/\eK j b=0)\/(⟨(b:Int),(row:Int),0⟩:aN)∈j.pending):fM (Xb F' (br j ⟨1,(b:Int),(row:Int),0⟩ n)) (cW j)<=fM (Xb F j) (cW j)-2:=by
 obtain⟨m,hm,hH⟩:=I.gH;obtain⟨Y,Z,q3,q4⟩:=Sz (n:=n) hH hm I.gR I.gt hb U;have hx:1<=(⟨1,(b:Int),(row:Int),0⟩:aQ).kind/\(⟨1,(b:Int),(row:Int),0⟩:aQ).kind<=9:=⟨by show (1:Int)<=1;decide,by show (1:Int)<=9;decide⟩
 obtain⟨e1,_,_,e4⟩:=ia (c:=j) (x:=⟨1,(b:Int),(row:Int),0⟩) (i:=n) hx;obtain⟨_,_,O,_⟩:=mX (c:=j) (x:=⟨1,(b:Int),(row:Int),0⟩) (i:=n) hx (λh=>absurd (show (1:Int)=5 from h) (by decide)) (λh=>absurd (show (1:Int)=5 from h) (by decide));have O:=O (show ¬ (1:Int)=5 by decide) (show ¬ (1:Int)=9 by decide);have b1:=dZ j.config.aq;have erw:gD (br j ⟨1,(b:Int),(row:Int),0⟩ n)=gD j:=by unfold gD;rw[e4]
 have egd:∀k,kM (br j ⟨1,(b:Int),(row:Int),0⟩ n) k=kM j k:=λk=>by unfold kM;rw[q3]
 have key:=MM (f:=Xb F j) (f':=Xb F' (br j ⟨1,(b:Int),(row:Int),0⟩ n)) (B:=b) (d:=-2) (cW j) (by unfold cW;omega) (λk hk C=>SA (by
  unfold oB;rw[e1,zB (by dsimp only;omega)]) (hF k C) (by rw[O]) (Y k C).2 (Y k C).1 (egd k) erw) (by
  have hL:=I.g7 b hb;have yT:oB (br j ⟨1,(b:Int),(row:Int),0⟩ n).aG b=true:=by rw[e1];exact ZH (by omega)
  have T:nM (br j ⟨1,(b:Int),(row:Int),0⟩ n) b<=nM j b+(if (mh (gK j b) row+1) % kM j b=0 then -6 else 1):=by
   unfold nM;rw[erw,egd]
   refine MM (B:=row) _ U (λr fP C=>?_) ?_
   ·rw[Z r fP,aX C]
   ·rw[Z row U,aV rfl];exact axQ hL
  have hwb:=Fs F' (br j ⟨1,(b:Int),(row:Int),0⟩ n) b;have Fq:wB F j b=5:=by unfold wB;rw[ho];rfl
  have p0:=MN (br j ⟨1,(b:Int),(row:Int),0⟩ n) b;unfold Xb;rw[Fq];rcases hw with ⟨MJ,wX⟩|kJ
  ·have D:=q4 0 (.inl rfl);by_cases E:(mh (gK j b) row+1) % kM j b=0
   ·rw[aV E]at D T;omega
   ·rw[aX E]at D T;have Az:eK (br j ⟨1,(b:Int),(row:Int),0⟩ n) b=0:=by omega
    have hww:wB F' (br j ⟨1,(b:Int),(row:Int),0⟩ n) b=0:=by
     unfold wB;rw[yT,MJ,O,hu,Az];rfl
    rw[hww];omega
  ·have D:=q4 1 (.inr ⟨rfl,kJ⟩);by_cases E:(mh (gK j b) row+1) % kM j b=0
   ·rw[aV E]at D T;omega
   ·rw[aX E]at D T;omega)
 omega
def UN.fn{F F':Nat->Bool}{j y:au}(hq:Pq j)(hg:Gq j)(hE:Ev F j y F'):UN F' y<=UN F j:=by
 have b1:=dZ j.config.aq;have iw:=hq.p.bl;have Be:=hq.dl;have nb:∀b:Nat,b<cW j->(b:Int)<aE j.config.aq:=λb h=>by unfold cW at h;omega
 have hn4:cW j<=4:=by have:=hg.gb;unfold cW;omega
 have row:∀ {b r:Nat},cD j.config.aq ⟨1,(b:Int),(r:Int),0⟩=true->r<gD j:=λ{b r} O=>by
  have h:=CW O rfl;dsimp only at h;unfold gD;omega
 cases hE with
 |eN gG lW=>exact dU _
 | eA x i hi hk O U hu gG=>
  obtain⟨C,_⟩:=iP O;obtain⟨e1,_,_,E⟩:=ia (c:=j) (x:=x) (i:=(i:Int)) C;obtain⟨_,_,D,_⟩:=mX (c:=j) (x:=x) (i:=(i:Int)) C (λh=>by omega) (λh=>by omega);have D:=D (by omega) (by omega);obtain⟨_,_,_,t1,t2,t3⟩:=zz (c:=j) (i:=(i:Int)) C (by omega) (by omega) (by omega);have Y:=(Ii (c:=j) (x:=x) (i:=(i:Int)) C λ_=>by rw[bD];exact hi).1;obtain⟨eq,_⟩:=MG hi hk;have I:cW (br j x (i:Int))=cW j:=by unfold cW;rw[E]
  have hs:fM (Xb (λ_=>false) (br j x (i:Int))) (cW j)<=fM (Xb F j) (cW j)+7*(cW j:Int):=ML _ λb _=>by
   have h1:=Fs (λ_=>false) (br j x (i:Int)) b;have h2:=Fs F j b;have h3:eK (br j x (i:Int)) b=eK j b:=by unfold eK;rw[t3]
   have h4:nM (br j x (i:Int)) b=nM j b:=by unfold nM gK kM gD;rw[t1,t2,E]
   unfold Xb;rw[h3,h4];omega
  have Z:kN (br j x (i:Int))=kN j:=by unfold kN;rw[I,D]
  have Fa:(br j x (i:Int)).queue.length+1=j.queue.length:=by
   rw[eq,jh,jK,List.length_drop];omega
  unfold UN;rw[I,Z,Y,jh,mj];omega
 | eP b i hb U O Ix hw=>
  obtain⟨C,_⟩:=iP O;obtain⟨e1,_,_,E⟩:=ia (c:=j) (x:=⟨4,(b:Int),0,0⟩) (i:=i) C;obtain⟨_,_,D,_⟩:=mX (c:=j) (x:=⟨4,(b:Int),0,0⟩) (i:=i) C (λh=>absurd (show (4:Int)=5 from h) (by decide)) (λh=>absurd (show (4:Int)=5 from h) (by decide));have D:=D (show ¬ (4:Int)=5 by decide) (show ¬ (4:Int)=9 by decide);obtain⟨_,_,_,t1,t2,t3⟩:=zz (c:=j) (i:=i) C (show ¬ (4:Int)=1 by decide) (show ¬ (4:Int)=5 by decide) (show ¬ (4:Int)=9 by decide);have Y:=(Ii (c:=j) (x:=⟨4,(b:Int),0,0⟩) (i:=i) C λh=>by dsimp only at h;omega).1;obtain⟨s1,_⟩:=mY (c:=j) (x:=⟨4,(b:Int),0,0⟩) (i:=i) C (show ¬ (4:Int)=2 by decide) (show ¬ (4:Int)=3 by decide);have I:cW (br j ⟨4,(b:Int),0,0⟩ i)=cW j:=by unfold cW;rw[E]
  have h3:∀k,eK (br j ⟨4,(b:Int),0,0⟩ i) k=eK j k:=λk=>by unfold eK;rw[t3]
  have hs:=MM (f:=Xb F j) (f':=Xb (λk=>F k&&(k != b)) (br j ⟨4,(b:Int),0,0⟩ i)) (B:=b) (d:=-2) (cW j) (by unfold cW;omega) (λk hk T=>SA (by
   unfold oB;rw[e1,zB (by dsimp only;omega)]) (by rw[show (k != b)=true from bne_iff_ne.2 T,Bool.and_true]) (by rw[D]) (h3 k) (by unfold gK;rw[t1]) (by unfold kM;rw[t2]) (by unfold gD;rw[E])) (by
   have Ff:wB (λk=>F k&&(k != b)) (br j ⟨4,(b:Int),0,0⟩ i) b=5:=by
    have:oB (br j ⟨4,(b:Int),0,0⟩ i).aG b=false:=by
     unfold oB;rw[e1];exact Ip rfl (by dsimp only;omega)
    unfold wB;rw[this];rfl
   have Fq:wB F j b=7:=by
    have hz:(F b&&(!uB j.ay.aB b&&decide (eK j b=0)))=false:=by
     cases hf:F b with
     |false=>rfl
     | true=>
      rcases Ix hf with h|h
      ·have h:uB j.ay.aB b=true:=by
        unfold kz at h
        rwa [bD]at h
       rw[h];rfl
      ·rw[ZL]at h;rw[bz (by have:=ja h;omega),Bool.and_false,Bool.and_false]
    unfold wB;rw[U,hz];rfl
   have h4:nM (br j ⟨4,(b:Int),0,0⟩ i) b=nM j b:=by unfold nM gK kM gD;rw[t1,t2,E]
   unfold Xb;rw[Ff,Fq,h3,h4];omega)
  have Z:kN (br j ⟨4,(b:Int),0,0⟩ i)=kN j:=by unfold kN;rw[I,D]
  unfold UN;rw[I,Z,Y,s1,jh,mj];omega
 | eR b hb U O Iy hw=>
  obtain⟨C,_⟩:=iP O;obtain⟨e1,_,_,E⟩:=ia (c:=j) (x:=⟨5,(b:Int),0,0⟩) (i:=-1) C;have C6:b<j.ay.aB.length:=by omega
  obtain⟨_,_,_,w4,_⟩:=mX (c:=j) (x:=⟨5,(b:Int),0,0⟩) (i:=-1) C (λ_=>C6) (λ_=>Iy);have w4:∀k,(br j ⟨5,(b:Int),0,0⟩ (-1)).ay.aB.getD k 0=if b=k then j.ay.aB.getD k 0-1 else j.ay.aB.getD k 0:=w4 rfl;obtain⟨q1,q2,q3,_⟩:=ZK (n:=-1) hg.gk hg.gt hg.gg hb;have Y:=(Ii (c:=j) (x:=⟨5,(b:Int),0,0⟩) (i:=-1) C λh=>by dsimp only at h;omega).1;obtain⟨s1,_⟩:=mY (c:=j) (x:=⟨5,(b:Int),0,0⟩) (i:=-1) C (show ¬ (5:Int)=2 by decide) (show ¬ (5:Int)=3 by decide);have I:cW (br j ⟨5,(b:Int),0,0⟩ (-1))=cW j:=by unfold cW;rw[E]
  have er:(br j ⟨5,(b:Int),0,0⟩ (-1)).aG=j.aG:=e1;have hs:=MM (f:=Xb F j) (f':=Xb F (br j ⟨5,(b:Int),0,0⟩ (-1))) (B:=b) (d:=0) (cW j) (by unfold cW;omega) (λk hk T=>SA (by rw[er]) rfl (by
   unfold uB;rw[w4 k,aX (λe=>T e.symm)]) (q1 k T).2.1 (q1 k T).1 (q1 k T).2.2 (by unfold gD;rw[E])) (by
   have Ff:wB F (br j ⟨5,(b:Int),0,0⟩ (-1)) b=5:=by unfold wB;rw[er,U];rfl
   have Fq:wB F j b=5:=by unfold wB;rw[U];rfl
   have h4:nM (br j ⟨5,(b:Int),0,0⟩ (-1)) b=0:=by
    have erw:gD (br j ⟨5,(b:Int),0,0⟩ (-1))=gD j:=by unfold gD;rw[E]
    have:=Fm (f:=λr=>((min (mh (gK (br j ⟨5,(b:Int),0,0⟩ (-1)) b) r % kM (br j ⟨5,(b:Int),0,0⟩ (-1)) b) 6:Nat):Int)) (lo:=0) (hi:=0) (gD j) λr hr=>by
     rw[q2 r hr,Nat.zero_mod];decide
    unfold nM;rw[erw];omega
   have:=ZM j b;have:=MN j b;unfold Xb;rw[Ff,Fq,q3,h4];omega)
  have Z:kN (br j ⟨5,(b:Int),0,0⟩ (-1))<=kN j+(-1):=by
   unfold kN;rw[I];exact MM (B:=b) _ (by unfold cW;omega) (λk _ T=>by rw[w4 k,aX (λe=>T e.symm)]) (by rw[w4 b,aV rfl];omega)
  unfold UN;rw[I,Y,s1,jh,mj];omega
 | eO b r hb U O hm hu gG=>
  obtain⟨C,_⟩:=iP O;have hs:=ajv (F:=F) (F':=F) (n:=-1) hg iw hb (row O) U hu (λ_ _=>rfl) (.inr hm);obtain⟨e1,_,_,E⟩:=ia (c:=j) (x:=⟨1,(b:Int),(r:Int),0⟩) (i:=-1) C;obtain⟨_,_,D,_⟩:=mX (c:=j) (x:=⟨1,(b:Int),(r:Int),0⟩) (i:=-1) C (λh=>absurd (show (1:Int)=5 from h) (by decide)) (λh=>absurd (show (1:Int)=5 from h) (by decide));have D:=D (show ¬ (1:Int)=5 by decide) (show ¬ (1:Int)=9 by decide);have Y:=(Ii (c:=j) (x:=⟨1,(b:Int),(r:Int),0⟩) (i:=-1) C λh=>by dsimp only at h;omega).1;obtain⟨s1,_⟩:=mY (c:=j) (x:=⟨1,(b:Int),(r:Int),0⟩) (i:=-1) C (show ¬ (1:Int)=2 by decide) (show ¬ (1:Int)=3 by decide);have I:cW (br j ⟨1,(b:Int),(r:Int),0⟩ (-1))=cW j:=by unfold cW;rw[E]
  have Z:kN (br j ⟨1,(b:Int),(r:Int),0⟩ (-1))=kN j:=by unfold kN;rw[I,D]
  unfold UN;rw[I,Z,Y,s1,jh,mj];omega
 | eQ i b r hi ha hb U O iV hu gG=>
  obtain⟨C,_⟩:=iP O;have wX:eK j b=0:=by
   rw[ZL]at iV;have:=of_decide_eq_false iV;have:=MN j b;omega
  have hs:=ajv (F:=F) (F':=λk=>F k ||(k==b)) (n:=(i:Int)) hg iw hb (row O) U hu (λk T=>by rw[show (k==b)=false from beq_eq_false_iff_ne.2 T,Bool.or_false]) (.inl ⟨by simp,wX⟩);obtain⟨e1,_,_,E⟩:=ia (c:=j) (x:=⟨1,(b:Int),(r:Int),0⟩) (i:=(i:Int)) C;obtain⟨_,_,D,_⟩:=mX (c:=j) (x:=⟨1,(b:Int),(r:Int),0⟩) (i:=(i:Int)) C (λh=>absurd (show (1:Int)=5 from h) (by decide)) (λh=>absurd (show (1:Int)=5 from h) (by decide));have D:=D (show ¬ (1:Int)=5 by decide) (show ¬ (1:Int)=9 by decide);have Y:=(Ii (c:=j) (x:=⟨1,(b:Int),(r:Int),0⟩) (i:=(i:Int)) C λh=>by dsimp only at h;omega).1;obtain⟨s1,_⟩:=mY (c:=j) (x:=⟨1,(b:Int),(r:Int),0⟩) (i:=(i:Int)) C (show ¬ (1:Int)=2 by decide) (show ¬ (1:Int)=3 by decide);have I:cW (br j ⟨1,(b:Int),(r:Int),0⟩ (i:Int))=cW j:=by unfold cW;rw[E]
  have Z:kN (br j ⟨1,(b:Int),(r:Int),0⟩ (i:Int))=kN j:=by unfold kN;rw[I,D]
  unfold UN;rw[I,Z,Y,s1,jh,mj];omega
def UN.pr{F:Nat->Bool}{c j:au}(p:Pr c j)(C:bM c=true)(lH:aE c.config.aq<=4)(Y:c.aG.aS≠2):UN F j<=UN F c+(if c.ay.wait<=1 then 36 else 0):=by
 have D:cW j=cW c:=by unfold cW;rw[p.pC]
 have hn4:cW c<=4:=by unfold cW;omega
 have O:∀k,eK j k=eK c k:=λk=>by unfold eK;rw[p.pP]
 have Z:∀k,nM j k=nM c k:=λk=>by unfold nM gK kM gD;rw[p.pT,p.pG,p.pC]
 have Be:=(fV.of (Ck.of C).pa).dl;unfold UN;rw[p.pE,p.pQ,D];rcases Iw p C Y with ⟨E,e,_⟩|⟨E,e,_,_,et⟩
 ·have T:fM (Xb F j) (cW c)=fM (Xb F c) (cW c):=Zz _ λb _=>SA (by rw[p.pK]) rfl (by rw[e]) (O b) (by unfold gK;rw[p.pT]) (by unfold kM;rw[p.pG]) (by unfold gD;rw[p.pC])
  have U:kN j=kN c:=by unfold kN;rw[D,e]
  rw[T,U,aX];omega
 ·have T:fM (Xb F j) (cW c)<=fM (Xb F c) (cW c)+7*(cW c:Int):=ML _ λb _=>by
   have E:=Fs F j b;have h2:=Fs F c b;unfold Xb;rw[O,Z];omega
  have U:kN j<=kN c+1*(cW c:Int):=by
   unfold kN;rw[D,e]
   refine ML _ λb hb=>?_
   have I:b<c.ay.aB.length:=by unfold cW at hb;omega
   have:=E1 (Ck.of C).rf _ (cX I);rw[<-fU 0 I]at this;rw[MA _ _ I];unfold sL;rw[bh];split<;>omega
  rw[aV E];omega
def Aq(k:Int)(c:au):Prop:=∀b:Nat,(b:Int)<aE c.config.aq->c.ay.aB.getD b 0 >= k\/(kB c b=true/\eK c b=0)
def cA(c:au)(b:Nat):Int:=fM (λr=>((mh (gK c b) r:Nat):Int)) (gD c)
def Bq(R:Int)(F:Nat->Bool)(c:au):Prop:=(c.aZ.length:Int)-R<3->∀b:Nat,(b:Int)<aE c.config.aq->uB c.ay.aB b=true\/(eK c b=0/\(kB c b=true\/cA c b<=(c.aZ.length:Int)-R+(bif F b then 1 else 0)))
def ajw{j y:au}{i:Nat}(C:y.queue=j.queue.take i++j.queue.drop (i+1))(D:y.config=j.config)(E:y.spare=j.spare){b:Nat}(h:kB j b=true):kB y b=true:=by
 unfold kB at h ⊢;rw[ff]at h ⊢
 refine jV.2 λa I=>?_
 obtain⟨r,hr,rfl⟩:=iZ.1 I;rw[C]at hr;have O:r∈j.queue:=by
  rcases gE.1 hr with hr|hr
  ·exact List.mem_of_mem_take hr
  ·exact List.mem_of_mem_drop hr
 have:=jV.1 h (dM j r.line) (iZ.2 ⟨r,O,rfl⟩);unfold dM at this ⊢;rw[D,E];exact this
def ajx{j:au}{i b:Nat}(hi:i<j.queue.length)(hb:(ey j i).aA=(b:Int)):kB j b=false:=by
 have hl:=Bb j;unfold kB;rw[Bool.not_eq_false'];refine List.any_eq_true.2 ⟨ey j i,?_,by rw[hb];exact gu _⟩;rw[<-E5 (by rw[hl];exact hi)];exact cX _
def ajy{j:au}{b row:Nat}(h:(⟨(b:Int),(row:Int),0⟩:aN)∈j.pending):1<=eK j b:=by
 have:=List.countP_pos_iff (p:=λa:aN=>a.aA==(b:Int)) (l:=j.pending);have:=this.2 ⟨_,h,gu _⟩;unfold eK;omega
def SB{j:au}{b r:Nat}(C:cD j.config.aq ⟨1,(b:Int),(r:Int),0⟩=true):r<gD j:=by
 have h:=CW C rfl;dsimp only at h;unfold gD;omega
def SC{f:Nat->Int}:∀ n:Nat,(∀ b,b<n->0<=f b)->0<=fM f n
 |0,_=>dU _
 | n+1,h=>by
  have C:=SC n λb hb=>h b (by omega)
  have D:=h n (by omega);show 0<=fM f n+f n;omega
def ajz{f:Nat->Int}{r:Nat}:∀ n:Nat,(∀ b,b<n->0<=f b)->r<n->f r<=fM f n
 | n+1,h,C=>by
  have D:=SC n λb hb=>h b (by omega)
  have E:=h n (by omega);show f r<=fM f n+f n;by_cases e:r=n
  ·subst e;omega
  ·have:=ajz n (λb hb=>h b (by omega)) (show r<n by omega);omega
def Aq.fn{k:Int}{F F':Nat->Bool}{j y:au}(h:Aq k j)(rq:k<=3)(hq:Pq j)(T:Gq j)(hE:Ev F j y F'):Aq k y:=by
 have Be:=hq.dl;obtain⟨m,hm,hH⟩:=T.gH;cases hE with
 |eN gG lW=>exact h
 | eA x i hi hk I ho hu gG=>
  obtain⟨C,_⟩:=iP I;obtain⟨e1,_,_,D⟩:=ia (c:=j) (x:=x) (i:=(i:Int)) C;obtain⟨_,_,Y,_⟩:=mX (c:=j) (x:=x) (i:=(i:Int)) C (λh=>by omega) (λh=>by omega);obtain⟨_,_,_,t1,t2,t3⟩:=zz (c:=j) (i:=(i:Int)) C (by omega) (by omega) (by omega);obtain⟨eq,_,es,_⟩:=MG hi hk;intro b hb;rw[D]at hb;rw[Y (by omega) (by omega)]
  refine(h b hb).imp id λZ=>⟨ajw eq D es Z.1,?_⟩
  unfold eK at Z ⊢;rw[t3];exact Z.2
 | eP b i hb ho I Ix hw=>
  obtain⟨C,_⟩:=iP I;obtain⟨e1,_,_,D⟩:=ia (c:=j) (x:=⟨4,(b:Int),0,0⟩) (i:=i) C;obtain⟨_,_,Y,_⟩:=mX (c:=j) (x:=⟨4,(b:Int),0,0⟩) (i:=i) C (λh=>absurd (show (4:Int)=5 from h) (by decide)) (λh=>absurd (show (4:Int)=5 from h) (by decide));obtain⟨_,_,_,t1,t2,t3⟩:=zz (c:=j) (i:=i) C (show ¬ (4:Int)=1 by decide) (show ¬ (4:Int)=5 by decide) (show ¬ (4:Int)=9 by decide);obtain⟨s1,_,_,_,U,_⟩:=mY (c:=j) (x:=⟨4,(b:Int),0,0⟩) (i:=i) C (show ¬ (4:Int)=2 by decide) (show ¬ (4:Int)=3 by decide);intro b' E;rw[D]at E;rw[Y (show ¬ (4:Int)=5 by decide) (show ¬ (4:Int)=9 by decide),uR s1 D U];have:=h b' E;unfold eK at this ⊢;rw[t3];exact this
 | eR b hb ho I Iy hw=>
  obtain⟨C,_⟩:=iP I;obtain⟨e1,_,_,D⟩:=ia (c:=j) (x:=⟨5,(b:Int),0,0⟩) (i:=-1) C;have C6:b<j.ay.aB.length:=by omega
  obtain⟨_,_,_,w4,_⟩:=mX (c:=j) (x:=⟨5,(b:Int),0,0⟩) (i:=-1) C (λ_=>C6) (λ_=>Iy);have w4:∀k,(br j ⟨5,(b:Int),0,0⟩ (-1)).ay.aB.getD k 0=if b=k then j.ay.aB.getD k 0-1 else j.ay.aB.getD k 0:=w4 rfl;obtain⟨q1,q2,q3,_⟩:=ZK (n:=-1) T.gk T.gt T.gg hb;obtain⟨s1,_,_,_,U,_⟩:=mY (c:=j) (x:=⟨5,(b:Int),0,0⟩) (i:=-1) C (show ¬ (5:Int)=2 by decide) (show ¬ (5:Int)=3 by decide);intro b' E;rw[D]at E;by_cases O:b'=b
  ·subst O;rcases hw with qJ | ⟨hid,_⟩
   ·have:=ja qJ;rw[w4 b',aV rfl];exact .inl (by omega)
   ·exact .inr ⟨by rw[uR s1 D U];exact hid,q3⟩
  ·rw[w4 b',aX (λe=>O e.symm),uR s1 D U,(q1 b' O).2.1];exact h b' E
 | eO b r hb ho I ZN hu gG=>
  obtain⟨C,_⟩:=iP I;obtain⟨e1,_,_,D⟩:=ia (c:=j) (x:=⟨1,(b:Int),(r:Int),0⟩) (i:=-1) C;obtain⟨_,_,Y,_⟩:=mX (c:=j) (x:=⟨1,(b:Int),(r:Int),0⟩) (i:=-1) C (λh=>absurd (show (1:Int)=5 from h) (by decide)) (λh=>absurd (show (1:Int)=5 from h) (by decide));obtain⟨s1,_,_,_,U,_⟩:=mY (c:=j) (x:=⟨1,(b:Int),(r:Int),0⟩) (i:=-1) C (show ¬ (1:Int)=2 by decide) (show ¬ (1:Int)=3 by decide);obtain⟨q1,_⟩:=Sz (n:=-1) hH hm T.gR T.gt hb (SB I);intro b' E;rw[D]at E;rw[Y (show ¬ (1:Int)=5 by decide) (show ¬ (1:Int)=9 by decide),uR s1 D U];by_cases O:b'=b
  ·subst O
   refine .inl ((h b' E).resolve_right λZ=>?_)
   have:=ajy ZN;omega
  ·rw[(q1 b' O).2];exact h b' E
 | eQ i b r hi ha hb ho I iV hu gG=>
  obtain⟨C,_⟩:=iP I;obtain⟨e1,_,_,D⟩:=ia (c:=j) (x:=⟨1,(b:Int),(r:Int),0⟩) (i:=(i:Int)) C;obtain⟨_,_,Y,_⟩:=mX (c:=j) (x:=⟨1,(b:Int),(r:Int),0⟩) (i:=(i:Int)) C (λh=>absurd (show (1:Int)=5 from h) (by decide)) (λh=>absurd (show (1:Int)=5 from h) (by decide));obtain⟨s1,_,_,_,U,_⟩:=mY (c:=j) (x:=⟨1,(b:Int),(r:Int),0⟩) (i:=(i:Int)) C (show ¬ (1:Int)=2 by decide) (show ¬ (1:Int)=3 by decide);obtain⟨q1,_⟩:=Sz (n:=(i:Int)) hH hm T.gR T.gt hb (SB I);intro b' E;rw[D]at E;rw[Y (show ¬ (1:Int)=5 by decide) (show ¬ (1:Int)=9 by decide),uR s1 D U];by_cases O:b'=b
  ·subst O
   refine .inl ((h b' E).resolve_right λZ=>?_)
   rw[ajx hi ha]at Z;cases Z.1
  ·rw[(q1 b' O).2];exact h b' E
def Bq.fn{R:Int}{F F':Nat->Bool}{j y:au}(h:Bq R F j)(hR0:R<=(j.aZ.length:Int))(hq:Pq j)(Z:Gq j)(hF:Fo F j)(hE:Ev F j y F'):Bq R F' y:=by
 have Be:=hq.dl;obtain⟨m,hm,hH⟩:=Z.gH;cases hE with
 |eN gG lW=>exact h
 | eA x i hi hk D ho hu gG=>
  obtain⟨C,_⟩:=iP D;obtain⟨e1,_,_,E⟩:=ia (c:=j) (x:=x) (i:=(i:Int)) C;obtain⟨_,_,w3,_⟩:=mX (c:=j) (x:=x) (i:=(i:Int)) C (λh=>by omega) (λh=>by omega);obtain⟨_,_,_,t1,t2,t3⟩:=zz (c:=j) (i:=(i:Int)) C (by omega) (by omega) (by omega);obtain⟨eq,er,es,_⟩:=MG hi hk;intro I b hb;rw[er]at I ⊢;rw[E]at hb;rw[w3 (by omega) (by omega)]
  refine(h (by omega) b hb).imp id λO=>⟨?_,O.2.imp (ajw eq E es) λD=>?_⟩
  ·have:=O.1;unfold eK at this ⊢;rw[t3];exact this
  ·have e:cA (br j x (i:Int)) b=cA j b:=by unfold cA gK gD;rw[t1,E]
   rw[e];cases T:F b with
   |true=>rw[T]at D;simp only[av,ax]at D ⊢;omega
   |false=>rw[T]at D;simp only[av,ax]at D ⊢;omega
 | eP b i hb ho D Ix hw=>
  obtain⟨C,_⟩:=iP D;obtain⟨e1,_,_,E⟩:=ia (c:=j) (x:=⟨4,(b:Int),0,0⟩) (i:=i) C;obtain⟨_,_,w3,_⟩:=mX (c:=j) (x:=⟨4,(b:Int),0,0⟩) (i:=i) C (λh=>absurd (show (4:Int)=5 from h) (by decide)) (λh=>absurd (show (4:Int)=5 from h) (by decide));obtain⟨_,_,_,t1,t2,t3⟩:=zz (c:=j) (i:=i) C (show ¬ (4:Int)=1 by decide) (show ¬ (4:Int)=5 by decide) (show ¬ (4:Int)=9 by decide);obtain⟨s1,s2,_,_,s5,_⟩:=mY (c:=j) (x:=⟨4,(b:Int),0,0⟩) (i:=i) C (show ¬ (4:Int)=2 by decide) (show ¬ (4:Int)=3 by decide);intro I b' Y;rw[s2]at I ⊢;rw[E]at Y;have e:cA (br j ⟨4,(b:Int),0,0⟩ i) b'=cA j b':=by unfold cA gK gD;rw[t1,E]
  have ep:eK (br j ⟨4,(b:Int),0,0⟩ i) b'=eK j b':=by unfold eK;rw[t3]
  rw[w3 (show ¬ (4:Int)=5 by decide) (show ¬ (4:Int)=9 by decide),uR s1 E s5,e,ep];dsimp only;have O:=h I b' Y;by_cases U:b'=b
  ·subst U;cases hu:uB j.ay.aB b' with
   |true=>exact .inl rfl
   | false=>
    have O:=O.resolve_left (by rw[hu];decide);have T:F b'=false:=nN.2 λT=>by
     rcases Ix T with h1|h1
     ·unfold kz at h1;rw[bD]at h1;have h1:uB j.ay.aB b'=true:=h1;rw[hu]at h1;cases h1
     ·rw[ZL]at h1;have:=ja h1;omega
    rw[T]at O ⊢;exact .inr O
  ·rw[show (b' != b)=true from bne_iff_ne.2 U,Bool.and_true];exact O
 | eR b hb ho D Iy hw=>
  obtain⟨C,_⟩:=iP D;obtain⟨e1,_,_,E⟩:=ia (c:=j) (x:=⟨5,(b:Int),0,0⟩) (i:=-1) C;have C6:b<j.ay.aB.length:=by omega
  obtain⟨_,_,_,w4,_⟩:=mX (c:=j) (x:=⟨5,(b:Int),0,0⟩) (i:=-1) C (λ_=>C6) (λ_=>Iy);have w4:∀k,(br j ⟨5,(b:Int),0,0⟩ (-1)).ay.aB.getD k 0=if b=k then j.ay.aB.getD k 0-1 else j.ay.aB.getD k 0:=w4 rfl;obtain⟨q1,q2,q3,_⟩:=ZK (n:=-1) Z.gk Z.gt Z.gg hb;obtain⟨s1,s2,_,_,s5,_⟩:=mY (c:=j) (x:=⟨5,(b:Int),0,0⟩) (i:=-1) C (show ¬ (5:Int)=2 by decide) (show ¬ (5:Int)=3 by decide);have erw:gD (br j ⟨5,(b:Int),0,0⟩ (-1))=gD j:=by unfold gD;rw[E]
  intro I b' Y;rw[s2]at I ⊢;rw[E]at Y;by_cases U:b'=b
  ·subst U;refine .inr ⟨q3,.inr ?_⟩;have:cA (br j ⟨5,(b':Int),0,0⟩ (-1)) b'=0:=by
    have:=Fm (f:=λr=>((mh (gK (br j ⟨5,(b':Int),0,0⟩ (-1)) b') r:Nat):Int)) (lo:=0) (hi:=0) (gD j) λr hr=>by
     rw[q2 r hr];decide
    unfold cA;rw[erw];omega
   rw[this];cases F b'<;>simp only[av,ax]<;>omega
  ·have eu:uB (br j ⟨5,(b:Int),0,0⟩ (-1)).ay.aB b'=uB j.ay.aB b':=by
    unfold uB;rw[w4 b',aX (λe=>U e.symm)]
   have ec:cA (br j ⟨5,(b:Int),0,0⟩ (-1)) b'=cA j b':=by unfold cA;rw[(q1 b' U).1,erw]
   rw[eu,uR s1 E s5,(q1 b' U).2.1,ec];exact h I b' Y
 | eO b r hb ho D ZN hu gG=>
  obtain⟨C,_⟩:=iP D;obtain⟨s1,s2,_,_,s5,_⟩:=mY (c:=j) (x:=⟨1,(b:Int),(r:Int),0⟩) (i:=-1) C (show ¬ (1:Int)=2 by decide) (show ¬ (1:Int)=3 by decide);intro I b' Y;rw[s2]at I;rcases h I b hb with h1|h1
  ·rw[hu]at h1;cases h1
  ·have:=ajy ZN;omega
 | eQ i b r hi ha hb ho D iV hu gG=>
  obtain⟨C,_⟩:=iP D;obtain⟨e1,_,_,E⟩:=ia (c:=j) (x:=⟨1,(b:Int),(r:Int),0⟩) (i:=(i:Int)) C;obtain⟨_,_,w3,_⟩:=mX (c:=j) (x:=⟨1,(b:Int),(r:Int),0⟩) (i:=(i:Int)) C (λh=>absurd (show (1:Int)=5 from h) (by decide)) (λh=>absurd (show (1:Int)=5 from h) (by decide));obtain⟨s1,s2,_,_,s5,_⟩:=mY (c:=j) (x:=⟨1,(b:Int),(r:Int),0⟩) (i:=(i:Int)) C (show ¬ (1:Int)=2 by decide) (show ¬ (1:Int)=3 by decide);obtain⟨q1,q2,_,q4⟩:=Sz (n:=(i:Int)) hH hm Z.gR Z.gt hb (SB D);have erw:gD (br j ⟨1,(b:Int),(r:Int),0⟩ (i:Int))=gD j:=by unfold gD;rw[E]
  intro I b' Y;rw[s2]at I ⊢;rw[E]at Y;rw[w3 (show ¬ (1:Int)=5 by decide) (show ¬ (1:Int)=9 by decide),uR s1 E s5];dsimp only;have O:=h I b' Y;by_cases U:b'=b
  ·subst U;have O:=O.resolve_left (by rw[hu];decide);have hca:=O.2.resolve_left (by rw[ajx hi ha];decide);have T:F b'=false:=nN.2 λT=>by
    obtain⟨_,_,T⟩:=hF b' T;have:=T.ob;rw[ho]at this;cases this
   rw[T,ax]at hca;have C0:=SB D;have hup:cA (br j ⟨1,(b':Int),(r:Int),0⟩ (i:Int)) b'=cA j b'+1:=by
    unfold cA;rw[erw]
    refine Ir (B:=r) _ C0 (λk hk bQ=>by rw[q2 k hk,aX bQ]) ?_
    rw[q2 r C0,aV rfl];rfl
   have hle:((mh (gK j b') r:Nat):Int)<=cA j b':=ajz (f:=λr=>((mh (gK j b') r:Nat):Int)) (gD j) (λ_ _=>Int.natCast_nonneg _) C0;have h7:=Z.g7 b' hb;have h4:=q4 0 (.inl rfl);rw[aX (λhz=>by rw[Nat.mod_eq_of_lt (by omega)]at hz;omega)]at h4;have p0:=MN (br j ⟨1,(b':Int),(r:Int),0⟩ (i:Int)) b';refine .inr ⟨by omega,.inr ?_⟩;rw[hup,gu,Bool.or_true,av];omega
  ·have ec:cA (br j ⟨1,(b:Int),(r:Int),0⟩ (i:Int)) b'=cA j b':=by unfold cA;rw[(q1 b' U).1,erw]
   rw[(q1 b' U).2,ec,show (b'==b)=false from beq_eq_false_iff_ne.2 U,Bool.or_false];exact O
def axR{c:fB}{p:fA}(hl:p.weights.length<1073741823)(D:gB c)(h:ov c p=true):7<=p.dx:=by
 have hb:=Ms hl h;obtain⟨E,I⟩:=zm hl h;have e:=A4 c p hl;rw[h]at e;have O:yX p.dx=some (2*p.dx+2):=by
  unfold yX;rw[cP,az,bu.2 hb,bI,ax,bh (n:=2*p.dx),bh]
 obtain⟨_,⟨r,w,_,_,_,_,T⟩,_,_,Z,U,_⟩:=D
 refine Classical.byContradiction λdA=>?_
 unfold tE at e;simp only[L3,EP _ hl,O,az,E,I,av]at e;rw[T,U]at e;cases C:decide (W6 (2*p.dx+2+2)<=c.dX.bg)with
 |false=>rw[C,ax]at e;exact absurd e (by simp)
 | true=>
  have Y:W6 ((gZ r w).lM+(gZ r w).rp)=10:=rfl;rw[C,av,Y,aX (by decide),show W6 ((16:Int)+1)=17 from rfl,bh (n:=17*p.dx),bh (n:=5*c.interval),uU (by omega),bh (n:=5*c.interval / 10),bh (n:=5*c.interval / 10+2),bz]at e;exact absurd e (by simp)
def ajA{c:au}(h:c.queue.Pairwise λa b=>a.at_<=b.at_):yj c:=λa b C hb=>by
 unfold gI;by_cases e:a=b
 ·subst e;exact dU _
 ·rw[fU _ (show a<c.queue.length by omega),fU _ hb];exact sU.1 h a b (by omega) hb (by omega)
structure Dn (u:Nat) (W:Int) (F:Nat->Bool) (c:au):Prop where
 nI:Iv u c
 nF:Fo F c
 nS:c.queue.Pairwise λa b=>a.at_<=b.at_
 n7:∀b:Nat,(b:Int)<aE c.config.aq->7<=c.guard.getD b 0
 nP:c.aG.aS=0
 nW:Pw c
 nA:∀a∈c.ready.bq,a<=c.now
 nU:100*UN F c-36*ic c<=W
def PP(bO:Bool):Int:=bif bO then 130 else 259
def TT(bO:Bool)(q:Int):Int:=bif bO then 130*q else 259*((q+2) / 3)
def Iz(X Bd:Int)(c:au):Prop:=∃k:Nat,k<=3/\Aq k c/\c.now+c.ay.wait<=X+PP c.ay.bO*((k:Int)+1)/\X+PP c.ay.bO*4+TT c.ay.bO (c.queue.length:Int)<=Bd
def zE(Bd:Int)(F:Nat->Bool)(c:au):Prop:=∃R:Int,R<=(c.aZ.length:Int)/\Aq 3 c/\Bq R F c/\Dy c.now c/\ic c+TT c.ay.bO ((c.queue.length:Int)+(c.aZ.length:Int)-R)<=Bd/\(3<=(c.aZ.length:Int)-R\/Lv (ic c+29+40*((c.aZ.length:Int)-R)) c.now F c)
def MO(bO:Bool){a b:Int}(h:a<=b):TT bO a<=TT bO b:=by
 unfold TT;cases bO<;>simp only[av,ax]<;>omega
def SD{c:au}(C:gB c.config):100<=tT c/\tT c<=PP c.ay.bO/\(c.ay.bO=false->200<=tT c):=by
 have D:200<=c.config.interval/\c.config.interval<=259:=C.2.2.2.2.1;unfold tT PP;cases c.ay.bO<;>simp only[av,ax]<;>exact⟨by omega,by omega,λh=>by first|exact absurd h (by decide)|omega⟩
def Aq.pr{c j:au}{k:Int}(h:Aq k c)(p:Pr c j)(C:bM c=true)(O:c.aG.aS≠2)(T:∀ b:Nat,c.ay.aB.getD b 0<=4):Aq k j/\(c.ay.wait<=1->Aq (k+1) j):=by
 have Y:=(fV.of (Ck.of C).pa).dl;have E:=uR p.pQ p.pC p.pV;have I:∀b,eK j b=eK c b:=λb=>by unfold eK;rw[p.pP]
 rcases Iw p C O with ⟨U,e,_⟩|⟨U,e,_⟩
 ·refine⟨λb hb=>?_,λh=>by omega⟩
  rw[p.pC]at hb;rw[e,E,I];exact h b hb
 ·have key:∀ b:Nat,(b:Int)<aE c.config.aq->j.ay.aB.getD b 0 >= c.ay.aB.getD b 0+1:=λb hb=>by
   have D:b<c.ay.aB.length:=by omega
   have:=E1 (Ck.of C).rf _ (cX D);rw[<-fU 0 D]at this;have:=T b;rw[e,MA _ _ D];unfold sL;rw[bh];split<;>omega
  refine⟨λb hb=>?_,λ_ b hb=>?_⟩<;>rw[p.pC]at hb<;>rw[E,I]<;>have:=key b hb
  ·exact(h b hb).imp (λ_=>by omega) id
  ·exact(h b hb).imp (λ_=>by omega) id
def Bq.tick{j:au}{F:Nat->Bool}(h:Aq 4 j):Bq (j.aZ.length:Int) F j:=λ_ b hb=>by
 rcases h b hb with h|⟨C,D⟩
 ·exact .inl (bf h)
 ·exact .inr ⟨D,.inl C⟩
def Bq.pr{c j:au}{R:Int}{F:Nat->Bool}(h:Bq R F c)(p:Pr c j)(e:j.ay.aB=c.ay.aB):Bq R F j:=by
 have D:=uR p.pQ p.pC p.pV;have E:∀b,eK j b=eK c b:=λb=>by unfold eK;rw[p.pP]
 have I:∀b,cA j b=cA c b:=λb=>by unfold cA gK gD;rw[p.pT,p.pC]
 intro C b hb;rw[p.pY]at C ⊢;rw[p.pC]at hb;rw[e,D,E,I];exact h C b hb
def Lv.pr{c j:au}{σ n:Int}{F:Nat->Bool}(h:Lv σ n F c)(p:Pr c j):Lv σ n F j:=by
 have E:oN j=oN c:=by unfold oN;rw[p.pK,p.pC]
 have I:oE F j=oE F c:=by unfold oE cW;rw[p.pK,p.pC]
 have O:=uR p.pQ p.pC p.pV;rcases h with ⟨D,C⟩|⟨D,C⟩
 ·refine .inl ⟨D,by rw[E];exact C.a1,by rw[E,p.pR];exact C.a2,λb=>?_,by rw[p.pR];exact C.a4⟩
  rw[p.pR,O];exact C.a3 b
 ·exact .inr ⟨by rw[p.pR];exact D,by rw[I];exact C⟩
def axS{j:au}(D:Pq j)(h:∀ b:Nat,(b:Int)<aE j.config.aq->eK j b=0):j.pending=[]:=by
 cases E:j.pending with
 |nil=>rfl
 | cons a l=>
  have C:a∈j.pending:=by rw[E];exact .head _
  obtain⟨_,I,T⟩:=oh (D.pe _ C);obtain⟨b,hb⟩:=dN I;have O:=h b (by omega);have:=(List.countP_pos_iff (p:=λa:aN=>a.aA==(b:Int)) (l:=j.pending)).2 ⟨a,C,by rw[hb];exact gu _⟩;unfold eK at O;omega
def axT{j:au}{x:aQ}{i:Int}(O:1<=x.kind/\x.kind<=9)(U:(j.guard.length:Int)=aE j.config.aq)(Y:(j.bF.length:Int)=aE j.config.aq)(T:x.kind=5->x.aA.toNat<j.guard.length)(D:7<=j.box.bW.dx)(h:∀ b:Nat,(b:Int)<aE j.config.aq->7<=j.guard.getD b 0):∀ b:Nat,(b:Int)<aE j.config.aq->7<=(br j x i).guard.getD b 0:=λb hb=>by
 by_cases E:x.kind=1
 ·rw[Ik j i E];exact h b hb
 ·by_cases C:x.kind=5
  ·rw[Il j i C];show 7<=(j.guard.set x.aA.toNat j.box.bW.dx).getD b 0;by_cases e:x.aA.toNat=b
   ·rw[e,oD _ (by have:=T C;omega)];exact D
   ·rw[getD_set_ne _ e];exact h b hb
  ·by_cases I:x.kind=9
   ·rw[Fh j i I];show 7<=((List.range j.bF.length).foldl (λd b=>d.set b j.box.bW.dx) j.guard).getD b 0;rw[Sg _ _ _ _ _ (by omega) (by omega)];exact D
   ·rw[(zz (c:=j) (i:=i) O E C I).2.2.2.2.1];exact h b hb
def Fn.gd{j y:au}(C:bR j)(D:bM j=true)(E:gB j.config)(I:Fn j y)(h:∀ b:Nat,(b:Int)<aE j.config.aq->7<=j.guard.getD b 0):∀ b:Nat,(b:Int)<aE j.config.aq->7<=y.guard.getD b 0:=by
 rcases I with ⟨_,rfl⟩|⟨O,rfl⟩
 ·exact h
 ·have T:=Pq.of C D;have p:=fV.of (Ck.of D).pa;obtain⟨_,U,_,_⟩:=CZ C T O;obtain⟨_,iw,Y,Z⟩:=zg U;have hw:j.box.bW.weights.length<1073741823:=by
   have:=C.1.1;unfold HP at this;omega
  have hgl:=p.gl;exact axT Y p.gl p.tl (λh5=>by have:=Z (by omega);omega) (axR hw E (Ck.of D).f1) h
def axU{F F':Nat->Bool}{j y:au}(E:Pq j)(I:Ev F j y F'):y=j\/∃ x i,y=br j x i/\cD j.config.aq x=true/\x.kind<=5/\(x.kind=5->x.aA.toNat<j.ay.aB.length/\j.ay.aB.getD x.aA.toNat 0 >= 1):=by
 have T:=E.dl;cases I with
 |eN=>exact .inl rfl
 |eA x i hi U C D Y Z=>exact .inr ⟨x,i,rfl,C,by omega,λh=>by omega⟩
 |eP b i hb D C=>exact .inr ⟨_,_,rfl,C,by show (4:Int)<=5;decide,λh=>absurd (show (4:Int)=5 from h) (by decide)⟩
 |eR b hb D C O=>exact .inr ⟨_,_,rfl,C,by show (5:Int)<=5;decide,λ_=>⟨by dsimp only;omega,O⟩⟩
 |eO b r hb D C=>exact .inr ⟨_,_,rfl,C,by show (1:Int)<=5;decide,λh=>absurd (show (1:Int)=5 from h) (by decide)⟩
 |eQ i b r hi ha hb D C=>exact .inr ⟨_,_,rfl,C,by show (1:Int)<=5;decide,λh=>absurd (show (1:Int)=5 from h) (by decide)⟩
def ZO{F F':Nat->Bool}{j y:au}(O:Pq j)(T:Ev F j y F'):y.aG.aS=j.aG.aS/\(∀ b k:Nat,(k=7\/k=9)->La y.ready b k=La j.ready b k)/\(∀ n,(∀ a∈j.ready.bq,a<=n)->j.now<=n->∀ a∈y.ready.bq,a<=n)/\ic y=ic j/\y.ay.wait=j.ay.wait/\y.ay.bO=j.ay.bO/\y.now=j.now/\y.config=j.config:=by
 rcases axU O T with rfl|⟨x,i,rfl,D,E,hb⟩
 ·exact⟨rfl,λ_ _ _=>rfl,λn h _=>h,rfl,rfl,rfl,rfl,rfl⟩
 ·obtain⟨C,_⟩:=iP D;obtain⟨U,Y,Z,e4⟩:=ia (c:=j) (x:=x) (i:=i) C;obtain⟨w1,w2,_⟩:=mX (c:=j) (x:=x) (i:=i) C (λh=>(hb h).1) (λh=>(hb h).2)
  refine⟨by rw[U];exact YT E,λb k hk=>MK D E (by omega) (by omega) (λhh=>by omega),λn h hn a I=>?_,Ss C (λh=>(hb h).1) (λh=>(hb h).2),w1,w2,Z,e4⟩
  rw[Y]at I;rcases ai1 I with h1|h1
  ·exact h a h1
  ·rw[h1];exact hn
def ajB{F F':Nat->Bool}{j y:au}(E:Ev F j y F'):(y.queue.length:Int)+(y.aZ.length:Int)=(j.queue.length:Int)+(j.aZ.length:Int)/\(y.aZ.length=j.aZ.length\/y.aZ.length=j.aZ.length+1):=by
 cases E with
 |eN=>exact⟨rfl,.inl rfl⟩
 | eA x i hi I C D O T=>
  obtain⟨eq,er,_⟩:=MG hi I;refine⟨?_,.inr er⟩;rw[eq,er,jh,jK,List.length_drop];omega
 | eP b i hb D C=>
  obtain⟨s1,s2,_⟩:=mY (c:=j) (x:=⟨4,(b:Int),0,0⟩) (i:=i) (iP C).1 (show ¬ (4:Int)=2 by decide) (show ¬ (4:Int)=3 by decide);rw[s1,s2];exact⟨rfl,.inl rfl⟩
 | eR b hb D C U=>
  obtain⟨s1,s2,_⟩:=mY (c:=j) (x:=⟨5,(b:Int),0,0⟩) (i:=-1) (iP C).1 (show ¬ (5:Int)=2 by decide) (show ¬ (5:Int)=3 by decide);rw[s1,s2];exact⟨rfl,.inl rfl⟩
 | eO b r hb D C=>
  obtain⟨s1,s2,_⟩:=mY (c:=j) (x:=⟨1,(b:Int),(r:Int),0⟩) (i:=-1) (iP C).1 (show ¬ (1:Int)=2 by decide) (show ¬ (1:Int)=3 by decide);rw[s1,s2];exact⟨rfl,.inl rfl⟩
 | eQ i b r hi Y hb D C=>
  obtain⟨s1,s2,_⟩:=mY (c:=j) (x:=⟨1,(b:Int),(r:Int),0⟩) (i:=(i:Int)) (iP C).1 (show ¬ (1:Int)=2 by decide) (show ¬ (1:Int)=3 by decide);rw[s1,s2];exact⟨rfl,.inl rfl⟩
def zE.fn{R Bd:Int}{F F':Nat->Bool}{j y:au}(C:Pq j)(O:Pq y)(I:Gq j)(T:kC j.config.bP)(U:j.aG.aS=0)(bQ:j.queue≠[])(Y:Fo F j)(Z:Fo F' y)(d1:∀ i:Nat,j.ready.last.getD i (-1)<=j.now-1)(d2:∀ i:Nat,y.ready.last.getD i (-1)<=j.now)(C3:Pw j)(F6:∀ b:Nat,j.ay.aB.getD b 0<=4)(hac:∀ a∈j.ready.bq,a<=j.now)(hA:Aq 3 j)(hR:R<=(j.aZ.length:Int))(hB:Bq R F j)(hD:Dy (j.now-1) j)(hT:ic j+TT j.ay.bO ((j.queue.length:Int)+(j.aZ.length:Int)-R)<=Bd)(hL:3<=(j.aZ.length:Int)-R\/Lv (ic j+29+40*((j.aZ.length:Int)-R)) (j.now-1) F j)(D:Ev F j y F'):zE Bd F' y:=by
 obtain⟨_,_,k3,k4,_,k6,k7,k8⟩:=ZO C D;obtain⟨l1,l2⟩:=ajB D;have R1:=k3 j.now hac (dU _);have E:=I.gb;have kD:aE y.config.aq<=4:=by rw[k8];exact E
 refine⟨R,by omega,hA.fn (dU 3) C I D,hB.fn hR C I Y D,?_,?_,?_⟩
 ·have:=hD.fn C E T U d1 F6 D;rw[k7];exact this
 ·rw[k4,k6,show (y.queue.length:Int)+(y.aZ.length:Int)-R=(j.queue.length:Int)+(j.aZ.length:Int)-R by omega];exact hT
 ·rcases hL with hL | hL
  ·exact .inl (by omega)
  ·by_cases h3:3<=(y.aZ.length:Int)-R
   ·exact .inl h3
   ·refine .inr ?_;rw[k4,k7];by_cases hs:j.now<=ic j+29+40*((j.aZ.length:Int)-R)
    ·exact Lv.Sx O kD Z (by omega) d2 R1
    ·have hu:=hD.none C (by omega);have AE:=axS C λb hb=>by
      rcases hB (by omega) b hb with h1|h1
      ·have:=C1 C (b:=(b:Int)) (by omega) hb (ja h1);rw[hu]at this;cases this
      ·exact h1.1
     have ayI:=hL.by E
     rcases hL.fn C E T U bQ Y d1 C3 hu AE D with h1|⟨h1,h2⟩
     ·exact Lv.Sx O kD Z (by rw[h1];omega) d2 R1
     ·rw[h1];exact h2
def ajC{X Bd:Int}{F:Nat->Bool}{c:au}(C:Iz X Bd c\/zE Bd F c)(D:gB c.config)(E:c.queue≠[])(Y:1<=c.ay.wait):c.now<=Bd:=by
 have Z:1<=(c.queue.length:Int):=by have:=List.length_pos_iff.2 E;omega
 obtain⟨_,p2,_⟩:=SD D;have I:PP c.ay.bO=130\/PP c.ay.bO=259:=by unfold PP;cases c.ay.bO<;>simp
 rcases C with ⟨k,k3,_,h2,h3⟩|⟨R,h1,_,_,_,O,_⟩
 ·have T:=MO c.ay.bO (a:=0) (b:=(c.queue.length:Int)) (by omega);have U:TT c.ay.bO 0=0:=by unfold TT;cases c.ay.bO <;>rfl
  have h6:PP c.ay.bO*((k:Int)+1)<=PP c.ay.bO*4:=by
   rcases I with e|e<;>rw[e]<;>omega
  omega
 ·have T:=MO c.ay.bO (a:=1) (b:=(c.queue.length:Int)+(c.aZ.length:Int)-R) (by omega);have U:TT c.ay.bO 1=PP c.ay.bO:=by unfold TT PP;cases c.ay.bO <;>rfl
  unfold ic at O;omega
def axV{u:Nat}{W X Bd:Int}{F:Nat->Bool}{c:au}(h:Dn u W F c)(hph:Iz X Bd c\/zE Bd F c)(hz:bR c)(D:bM c=true)(U:gB c.config)(bQ:c.queue≠[])(hu:u<400)(hW:W<=290000)(hB:Bd<=2950):∃ y F',tF c=some y/\bR y/\bM y=true/\Dn u W F' y/\(Iz X Bd y\/zE Bd F' y)/\y.config=c.config/\y.now=c.now+1/\∃ j,bR j/\bM j=true/\Pr c j/\Fn j y/\Bi j:=by
 have kc:=Ck.of D;have hq:=Pq.of hz D;have MP:=kc.rf;simp only[fS,aH,bu]at MP;have zD:=MP.2.2;have ayJ:=ajC hph U bQ zD.1;have lH:=ZA U.1;have b1:=dZ c.config.aq;have Bh:200<=c.config.interval/\c.config.interval<=259:=U.2.2.2.2.1;have axW:c.config.jj=16:=U.2.2.2.2.2.1;have Zp:4<=c.config.aq.rows/\c.config.aq.rows<=6:=U.1.2.2.1;obtain⟨pb1,pb2,pb3⟩:=SD U;obtain⟨g1,g2⟩:=h.nI.iA;obtain⟨t,hD⟩:=h.nI.iD;have Y:c.aG.aS≠2:=by rw[h.nP];decide
 -- the trace has room
 have hgw:ic c<=c.now+1:=by
  unfold jU at g1;unfold ic tT;cases hh:c.ay.bO with
  |true=>rw[hh]at g1;simp only[av]at g1 ⊢;omega
  |false=>rw[hh]at g1;simp only[ax]at g1 ⊢;omega
 have hUN:2*(c.trace.length:Int)<=UN F c:=by
  have C:=SC (f:=Xb F c) (cW c) λb _=>by
   have:=Fs F c b;have:=MN c b;have:=ZM c b;unfold Xb;omega
  have h2:0<=kN c:=SC (cW c) λb hb=>(g2 b 0 (by unfold cW at hb;omega) (by omega)).1
  unfold UN;omega
 have htr:c.trace.length<2000:=by have:=h.nU;omega
 obtain⟨y,e,z1,k1,C7,sO,yh,j,z2,k2,p,hf,Ft⟩:=Zo h.nI hz D U (by omega) htr hu;have E:=Pq.of z2 k2;have ZP:=Pq.of z1 k1;have pN:=p.pN;have ajD:=fV.of (Ck.of k2).pa;obtain⟨_,px2,ZQ⟩:=p.pX bQ;have Dq:gB j.config:=by rw[p.pC];exact U
 have SE:kC j.config.bP:=Sj Dq;have Fu:j.queue≠[]:=by rw[p.pQ];exact bQ
 have C8:j.aG.aS=0:=by rw[p.pK];exact h.nP
 have IA:Fo F j:=λb hb=>by
  obtain⟨i,e,hf⟩:=h.nF b hb;exact⟨i,e,hf.pr p⟩
 have hSj:yj j:=ajc p.pQ (ajA h.nS);have d1:∀i:Nat,j.ready.last.getD i (-1)<=j.now-1:=λi=>by rw[p.pR];have:=hD.d1 i;omega
 obtain⟨t',MQ⟩:=C7.iD;have d2:∀i:Nat,y.ready.last.getD i (-1)<=j.now:=λi=>by have:=MQ.d1 i;omega
 have iK:j.drain=sM j.drain (wq j):=by
  have I:wq j=((c.queue.countP λr=>r.write==true:Nat):Int):=by unfold wq;rw[p.pQ]
  rw[ZQ,I,ai8]
 have h7j:∀b:Nat,(b:Int)<aE j.config.aq->7<=j.guard.getD b 0:=by rw[p.pC,p.pG];exact h.n7
 have Z:Gq j:=⟨⟨j.now-1,by omega,Ft.2.2⟩,by rw[p.pC];omega,ajD.tl,ajD.gl,by rw[p.pC];exact axW,λb hb=>by have:=h7j b hb;unfold kM;omega,by rw[p.pC];exact lH⟩
 obtain⟨F',hE,SF⟩:=ajd z2 k2 E (by rw[E.ps];exact C8) Fu IA hSj SE d1 iK C7.iT.1 d2 hf;obtain⟨m1,m2,m3,m4,m5,m6,m7,m8⟩:=ZO E hE;obtain⟨l1,l2⟩:=ajB hE;have ZR:Pw j:=λb'=>by
  have:=h.nW b';rw[p.pR];exact⟨λh0=>by have:=this.1 h0;omega,λh0=>by have:=this.2 h0;omega⟩
 have SG:∀ a∈j.ready.bq,a<=j.now:=λa O=>by
  rw[p.pR]at O;have:=h.nA a O;omega
 have hUy:100*UN F' y-36*ic y<=W:=by
  have u1:=UN.fn E Z hE;have u2:=UN.pr (F:=F) p D lH Y;have u3:=h.nU;rw[m4];rcases Iw p D Y with ⟨C,_,T⟩|⟨C,_,_,_,T⟩
  ·rw[aX]at u2;omega
  ·rw[aV C]at u2;unfold ic at u3;omega
 refine⟨y,F',e,z1,k1,⟨C7,SF,?_,?_,m1.trans C8,λb'=>?_,?_,hUy⟩,?_,sO,yh,j,z2,k2,p,hf,Ft⟩
 ·have:=(hf.nx z2 k2).2.2.1;rw[p.pQ]at this;exact h.nS.sublist this
 ·have:=hf.gd z2 k2 Dq h7j;rw[sO];rw[p.pC]at this;exact this
 ·rw[m2 b' 7 (.inl rfl),m2 b' 9 (.inr rfl),p.pR,yh];have:=h.nW b';exact⟨λh0=>by have:=this.1 h0;omega,λh0=>by have:=this.2 h0;omega⟩
 ·have:=m3 j.now SG (dU _);exact λa O=>by have:=this a O;omega
 ·have Fa:(y.queue.length:Int)<=(c.queue.length:Int):=by
   have I:j.queue.length=c.queue.length:=by rw[p.pQ]
   omega
  rcases hph with ⟨k,k3,hA,hX,hT⟩|⟨R,hR,hA,hBq,hDc,hT,hL⟩
  ·obtain⟨a1,a2⟩:=hA.pr p D Y hD.d4;rcases Iw p D Y with ⟨C,I,T⟩ | ⟨C,I,eh,ew,T⟩
   ·refine .inl ⟨k,k3,a1.fn (by omega) E Z hE,?_,?_⟩
    ·rw[m5,m6,m7,I];dsimp only;omega
    ·have:=MO c.ay.bO Fa;rw[m6,I];dsimp only;omega
   ·have axX:tT j<=PP c.ay.bO:=by
     obtain⟨_,q2,_⟩:=SD Dq;rw[eh]at q2;exact q2
    by_cases rq:k=3
    ·subst rq
     refine .inr (zE.fn (R:=(j.aZ.length:Int)) E ZP Z SE C8 Fu IA SF d1 d2 ZR Ft.2.1 SG (λb hb=>(a2 C b hb).imp (λh=>by omega) id) (dU _) (Bq.tick (a2 C)) ?_ ?_ (.inr (Lv.Sx E Z.gb IA (by omega) d1 λa O=>by rw[p.pR]at O;have:=h.nA a O;omega)) hE)
     ·have:=Dy.pr (.inr C) p D lH Y hD.d1 (h.nW _).2;rw[show c.now=j.now-1 by omega]at this;exact this
     ·have:=MO c.ay.bO (a:=(j.queue.length:Int)+(j.aZ.length:Int)-(j.aZ.length:Int)) (b:=(c.queue.length:Int)) (by rw[p.pQ];omega);rw[eh,T];have h4:PP c.ay.bO*(((3:Nat):Int)+1)=PP c.ay.bO*4:=rfl;omega
    ·refine .inl ⟨k+1,by omega,(show Aq ((k+1:Nat):Int) j from a2 C).fn (by omega) E Z hE,?_,?_⟩
     ·rw[m5,m6,m7,ew,eh];have hP:PP c.ay.bO=130\/PP c.ay.bO=259:=by unfold PP;cases c.ay.bO <;>simp
      rcases hP with e|e<;>rw[e]at hX axX ⊢<;>omega
     ·have:=MO c.ay.bO Fa;rw[m6,eh];omega
  ·obtain⟨a1,a2⟩:=hA.pr p D Y hD.d4;have hDj:Dy (j.now-1) j:=by
    have:=Dy.pr (.inl hDc) p D lH Y hD.d1 (h.nW _).2;rw[show c.now=j.now-1 by omega]at this;exact this
   rcases Iw p D Y with ⟨C,I,T⟩|⟨C,I,eh,ew,T⟩
   ·refine .inr (zE.fn (R:=R) E ZP Z SE C8 Fu IA SF d1 d2 ZR Ft.2.1 SG a1 (by rw[p.pY];exact hR) (hBq.pr p (by rw[I])) hDj (by rw[T,I,p.pQ,p.pY];exact hT) ?_ hE);rw[T,p.pY]
    refine hL.imp id λhL=>?_
    have:=hL.pr p;rw[show c.now=j.now-1 by omega]at this;exact this
   ·refine .inr (zE.fn (R:=(j.aZ.length:Int)) E ZP Z SE C8 Fu IA SF d1 d2 ZR Ft.2.1 SG a1 (dU _) (Bq.tick (show Aq 4 j from a2 C)) hDj ?_ (.inr (Lv.Sx E Z.gb IA (by omega) d1 λa O=>by rw[p.pR]at O;have:=h.nA a O;omega)) hE)
    have hi:c.ay.bO=true/\1<=(c.aZ.length:Int)-R\/3<=(c.aZ.length:Int)-R:=by
     rcases hL with hL|hL
     ·exact .inr hL
     ·have h9:=hL.by lH
      have qU:c.now=ic c+tT c-1:=by unfold ic;omega
      cases hh:c.ay.bO with
      |true=>exact .inl ⟨rfl,by omega⟩
      |false=>have:=pb3 hh;exact .inr (by omega)
    have MR:(j.queue.length:Int)+(j.aZ.length:Int)-(j.aZ.length:Int)=(c.queue.length:Int):=by rw[p.pQ];omega
    have htj:ic j=ic c+tT c:=by rw[T];unfold ic;omega
    rw[eh,MR,htj];have:TT c.ay.bO (c.queue.length:Int)+PP c.ay.bO<=TT c.ay.bO ((c.queue.length:Int)+(c.aZ.length:Int)-R):=by
     unfold TT PP;cases hh:c.ay.bO with
     |true=>simp only[av];rcases hi with ⟨_,hi⟩|hi<;>omega
     | false=>
      simp only[ax];have hi:=hi.resolve_left (by rw[hh];exact λh=>absurd h.1 (by decide));omega
    omega
structure tU (c:au):Prop where
 bS:c.queue.Pairwise λa b=>a.at_<=b.at_
 b7:∀b:Nat,(b:Int)<aE c.config.aq->7<=c.guard.getD b 0
 bA:∀a∈c.ready.bq,a<=c.now
def tU.step{c j y:au}(h:tU c)(T:gB c.config)(p:Pr c j)(D:bR j)(E:bM j=true)(I:Fn j y):tU y:=by
 have nx:=I.nx D E;have pN:=p.pN;have U:y.config=c.config:=nx.2.1.trans p.pC;have Y:y.now=j.now:=nx.1;refine⟨?_,?_,?_⟩
 ·have:=nx.2.2.1;rw[p.pQ]at this;exact h.bS.sublist this
 ·have:=I.gd D E (by rw[p.pC];exact T) (by rw[p.pC,p.pG];exact h.b7);rw[U];rw[p.pC]at this;exact this
 ·intro a C;have O:∀ a∈j.ready.bq,a<=j.now:=λa C=>by
   rw[p.pR]at C;have:=h.bA a C;omega
  rw[Y];rcases nx.2.2.2.2.1 with ⟨_,_,e⟩|⟨x,_,_,e,_⟩
  ·rw[e]at C;exact O a C
  ·rw[e]at C;rcases ai1 C with h1 | h1
   ·exact O a h1
   ·rw[h1];exact dU _
structure SH (u:Nat) (T:Int) (c:au):Prop where
 wI:Iv u c
 wB:tU c
 wT:T<=c.now/\c.now<=T+33
 wP:(c.aG.aS=0/\∀b:Nat,La c.ready b 7<=T+17/\La c.ready b 9<=T+17)\/(c.aG.aS≠0/\(∀i:Nat,c.ready.last.getD i (-1)<=T)/\c.now<=T+15)
def axY{u:Nat}{T:Int}{c:au}(h:SH u T c)(hT:T<=1240)(hz:bR c)(hk:bM c=true)(Z:gB c.config)(bQ:c.queue≠[])(hu:u<400)(hn:c.now<T+33):∃ y,tF c=some y/\bR y/\bM y=true/\SH u T y/\y.config=c.config/\y.now=c.now+1/\∃ j,bR j/\bM j=true/\Pr c j/\Fn j y/\Bi j:=by
 have hwT:=h.wT;have hE:=h.wI.iE;have yb:=(Pq.of hz hk).nw;obtain⟨y,e,z1,k1,C7,sO,yh,j,E,I,p,O,Ft⟩:=Zo h.wI hz hk Z (by omega) (by omega) hu;have C:=Pq.of E I;have pN:=p.pN;have Dq:gB j.config:=by rw[p.pC];exact Z
 have Fu:j.queue≠[]:=by rw[p.pQ];exact bQ
 obtain⟨_,px2,ZQ⟩:=p.pX bQ;refine⟨y,e,z1,k1,⟨C7,h.wB.step Z p E I O,by omega,?_⟩,sO,yh,j,E,I,p,O,Ft⟩;obtain⟨t,hD⟩:=h.wI.iD;have d1:∀i:Nat,j.ready.last.getD i (-1)<=j.now-1:=λi=>by rw[p.pR];have:=hD.d1 i;omega
 obtain⟨t',MQ⟩:=C7.iD;rcases h.wP with ⟨U,ZS⟩|⟨U,hl,zi⟩
 ·have iK:j.drain=sM j.drain (wq j):=by
   have e1:wq j=((c.queue.countP λr=>r.write==true:Nat):Int):=by unfold wq;rw[p.pQ]
   rw[ZQ,e1,ai8]
  have C8:j.aG.aS=0:=by rw[p.pK];exact U
  obtain⟨F',hE,_⟩:=ajd (F:=λ_=>false) E I C (by rw[C.ps];exact C8) Fu (λb hb=>by cases hb) (ajc p.pQ (ajA h.wB.bS)) (Sj Dq) d1 iK C7.iT.1 (λi=>by have:=MQ.d1 i;omega) O;obtain⟨m1,m2,_⟩:=ZO C hE
  refine .inl ⟨m1.trans C8,λb=>?_⟩
  rw[m2 b 7 (.inl rfl),m2 b 9 (.inr rfl),p.pR];exact ZS b
 ·have hsj:j.aS.state≠0:=by rw[C.ps,p.pK];exact U
  have hrk:=(zj C.p.rk).2.2.1;have axZ:sG j=true:=by
   unfold sG;rw[bf (show (j.queue.length:Int) > 0 by have:=List.length_pos_iff.2 Fu;omega)];rfl
  have qZ:=C.ps;have hpk:=p.pK;have iK:j.aG.aS=1\/j.aG.aS=2:=by omega
  have zD:cL j=7/\j.aG.aS=1\/cL j=9/\j.aG.aS=2:=by
   have:=R9 axZ;rcases iK with q|q
   ·exact .inl ⟨by rw[this,qZ,q];rfl,q⟩
   ·exact .inr ⟨by rw[this,qZ,q];rfl,q⟩
  have oO:T+16<=j.now->cq j ⟨cL j,0,0,0⟩=true:=λqy=>by
   refine axg C (Sj Dq) (x:=⟨cL j,0,0,0⟩) (λh1=>by dsimp only at h1;omega) ?_ (n:=T) (by rw[p.pR];exact hl) (by omega)
   unfold kj;rcases zD with ⟨D,q2⟩|⟨D,q2⟩<;>rw[D,q2]<;>rfl
  have hw:=(Mz C).resolve_right λhh=>hsj hh.1
  rcases O with ⟨k0,rfl⟩|⟨Y,rfl⟩
  ·have qy:¬ T+16<=y.now:=λqy=>by
    rcases hw.2 with ⟨_,q|q⟩|q
    ·omega
    ·rw[oO qy]at q;cases q
    ·rw[q]at k0;dsimp only at k0;omega
   exact .inr ⟨by rw[hpk];exact U,by rw[p.pR];exact hl,by omega⟩
  ·have hx:(gJ j).1=⟨cL j,0,0,0⟩:=by
    rcases hw.2 with ⟨q,_⟩|q
    ·simp only[lu,aH]at Y;have:=(iP Y.1).1;rw[q]at this;exact absurd this.1 (by decide)
    ·exact q
   simp only[lu,aH]at Y;have sP:=Y.1;rw[hx]at sP ⊢;obtain⟨MH,_⟩:=iP sP;obtain⟨e1,_,_,_⟩:=ia (c:=j) (x:=⟨cL j,0,0,0⟩) (i:=(gJ j).2) MH
   refine .inl ⟨?_,λb=>?_⟩
   ·rw[e1];unfold cZ;rcases zD with ⟨D,_⟩|⟨D,_⟩<;>rw[D]<;>rfl
   ·have hle:∀ k,1<=k->k<=9->La (br j ⟨cL j,0,0,0⟩ (gJ j).2).ready b k<=T+17:=λk h1 h9=>by
     rcases ZG (n:=(gJ j).2) sP (b':=b) (k:=k) h1 h9 with q|q
     ·rw[q,p.pR];have:=nL hl b k;omega
     ·rw[q];omega
    exact⟨hle 7 (by decide) (by decide),hle 9 (by decide) (by decide)⟩
def ajE{f:Nat->Int}(d:Int):∀ n:Nat,fM (λb=>d*f b) n=d*fM f n
 |0=>by show (0:Int)=d*0;simp
 | n+1=>by
  show fM (λb=>d*f b) n+d*f n=d*(fM f n+f n)
  rw[ajE d n,Int.mul_add]
def ax0{c:au}(T:bM c=true)(D:gB c.config):c.pending.length<=24:=by
 have p:=fV.of (Ck.of T).pa;have lH:=ZA D.1;have Zp:4<=c.config.aq.rows/\c.config.aq.rows<=6:=D.1.2.2.1;have key:∀ a∈c.pending,(0<=a.aA/\a.aA<4)/\(0<=a.row/\a.row<6)/\a.cu=0:=λa C=>by
  obtain⟨E,I⟩:=p.pd a C;obtain⟨_,U,O⟩:=oh E;exact⟨⟨U,by omega⟩,⟨by omega,by omega⟩,I⟩
 have:=RM 24 (c.pending.map λa=>(a.aA*6+a.row).toNat) (λx Y=>by
  obtain⟨a,C,rfl⟩:=iZ.1 Y;have:=key a C;omega) (by
  rw[List.pairwise_map]
  refine p.u.imp_of_mem λ{a b} C hb Z e=>Z ?_
  have E:=key a C;have I:=key b hb;obtain⟨a1,a2,a3⟩:=a;obtain⟨O,b2,b3⟩:=b;dsimp only at *
  have e1:a1=O:=by omega
  have e2:a2=b2:=by omega
  have e3:a3=b3:=by omega
  rw[e1,e2,e3])
 rwa [fN]at this
def ajF(P:aa aN):∀ n:Nat,fM (λb=>((P.countP λa=>a.aA==(b:Int):Nat):Int)) n<=((P.countP λa=>decide (0<=a.aA/\a.aA<(n:Int)):Nat):Int)
 |0=>by show (0:Int)<=_;exact Int.natCast_nonneg _
 | n+1=>by
  have D:=ajF P n;have h:P.countP (λa=>decide (0<=a.aA/\a.aA<(n:Int)))+P.countP (λa=>a.aA==(n:Int))<=P.countP (λa=>decide (0<=a.aA/\a.aA<((n+1:Nat):Int))):=by
   clear D
   induction P with
   |nil=>exact dg _
   | cons a l D=>
    rw[List.countP_cons,List.countP_cons,List.countP_cons];by_cases C:0<=a.aA/\a.aA<(n:Int)
    ·rw[bf C,dy (show ¬ a.aA=(n:Int) by omega),bf (show 0<=a.aA/\a.aA<((n+1:Nat):Int) by omega)];show _+1+(_+0)<=_+1;omega
    ·by_cases E:a.aA=(n:Int)
     ·rw[bz C,E,gu,bf (show 0<=(n:Int)/\(n:Int)<((n+1:Nat):Int) by omega)];show _+0+(_+1)<=_+1;omega
     ·rw[bz C,dy E,bz (show ¬ (0<=a.aA/\a.aA<((n+1:Nat):Int)) by omega)];show _+0+(_+0)<=_+0;omega
  show fM (λb=>((P.countP λa=>a.aA==(b:Int):Nat):Int)) n+((P.countP λa=>a.aA==(n:Int):Nat):Int)<=_;omega
def ax1{u:Nat}{T:Int}{c:au}(h:SH u T c)(hn:c.now=T+33)(hz:bR c)(I:bM c=true)(C:gB c.config)(hT:0<=T/\T+40*(c.queue.length:Int)<=1240):∃ W,W<=290000/\Dn u W (λ_=>false) c/\Iz (T+33) 2950 c:=by
 have hq:=Pq.of hz I;have lH:=ZA C.1;have b1:=dZ c.config.aq;have Zp:4<=c.config.aq.rows/\c.config.aq.rows<=6:=C.1.2.2.1;have Bh:200<=c.config.interval/\c.config.interval<=259:=C.2.2.2.2.1;have O:=(Ck.of I).rf;simp only[fS,aH,bu]at O;have zD:=O.2.2;obtain⟨D,U⟩:=h.wI.iA;obtain⟨t,hD⟩:=h.wI.iD;have hE:=h.wI.iE;have Fa:=hq.ql;obtain⟨h0,ZS⟩:=h.wP.resolve_right λE=>by have:=E.2.2;omega
 obtain⟨pb1,pb2,pb3⟩:=SD C;have Y:c.ay.wait<=PP c.ay.bO:=by
  unfold jU at D;unfold PP;cases E:c.ay.bO with
  |true=>rw[E]at D;simp only[av]at D ⊢;omega
  |false=>rw[E]at D;simp only[ax]at D ⊢;omega
 have Z:PP c.ay.bO=130\/PP c.ay.bO=259:=by unfold PP;cases c.ay.bO<;>simp
 have hX:fM (Xb (λ_=>false) c) (cW c)<=628:=by
  have h1:=ajF c.pending (cW c);have h2:=List.countP_le_length (p:=λa:aN=>decide (0<=a.aA/\a.aA<((cW c:Nat):Int))) (l:=c.pending);have h3:=ax0 I C;have h4:=ML (f:=λb=>7*((c.pending.countP λa=>a.aA==(b:Int):Nat):Int)) (f':=Xb (λ_=>false) c) (d:=115) (cW c) λb _=>by
   have h5:=Fs (λ_=>false) c b;have h6:=ZM c b;have h7:gD c<=6:=by unfold gD;omega
   show wB (λ_=>false) c b+7*eK c b+3*nM c b<=7*eK c b+115;omega
  have h5:fM (λb=>7*((c.pending.countP λa=>a.aA==(b:Int):Nat):Int)) (cW c)=7*fM (λb=>((c.pending.countP λa=>a.aA==(b:Int):Nat):Int)) (cW c):=ajE 7 _;have h6:cW c<=4:=by unfold cW;omega
  omega
 have Iy:kN c<=16:=by
  have:=Fm (f:=λb=>c.ay.aB.getD b 0) (lo:=-5) (hi:=4) (cW c) λb hb=>⟨by have:=(U b 0 (by unfold cW at hb;omega) (by omega)).1;omega,hD.d4 b⟩
  have h6:cW c<=4:=by unfold cW;omega
  unfold kN;omega
 have hU:100*UN (λ_=>false) c-36*ic c<=290000:=by
  have hbx:=h.wT;unfold UN ic;rcases Z with e|e<;>rw[e]at pb2 Y<;>omega
 refine⟨_,hU,⟨h.wI,λb hb=>(by cases hb),h.wB.bS,h.wB.b7,h0,λb=>?_,h.wB.bA,dU _⟩,0,by omega,λb hb=>.inl (U b 0 hb (by omega)).1,?_,?_⟩
 ·have:=ZS b;exact⟨λ_=>by omega,λ_=>by omega⟩
 ·rcases Z with e|e<;>rw[e]at Y ⊢<;>omega
 ·have ayK:(c.queue.length:Int)<=12:=by omega
  unfold PP TT;cases c.ay.bO<;>simp only[av,ax]<;>omega
def MS(u:Nat)(T:Int)(c:au):Prop:=SH u T c\/∃W F,W<=290000/\Dn u W F c/\(Iz (T+33) 2950 c\/zE 2950 F c)
def ax2{u:Nat}{T:Int}{c:au}(h:MS u T c)(hT:0<=T/\T+40*(c.queue.length:Int)<=1240)(U:bR c)(I:bM c=true)(O:gB c.config)(Y:c.queue≠[])(hu:u<400):c.now<=2950/\∃ y,tF c=some y/\bR y/\bM y=true/\MS u T y/\y.config=c.config/\y.now=c.now+1/\∃ j,bR j/\bM j=true/\Pr c j/\Fn j y/\Bi j:=by
 have main:∀ W F,W<=290000->Dn u W F c->(Iz (T+33) 2950 c\/zE 2950 F c)->c.now<=2950/\∃ y,tF c=some y/\bR y/\bM y=true/\MS u T y/\y.config=c.config/\y.now=c.now+1/\∃ j,bR j/\bM j=true/\Pr c j/\Fn j y/\Bi j:=λW F C E D=>by
  have MP:=(Ck.of I).rf;simp only[fS,aH,bu]at MP;obtain⟨y,F',e,Z,k1,MQ,hPy,sO,yh,hj⟩:=axV E D U I O Y hu C (by decide);exact⟨ajC D O Y MP.2.2.1,y,e,Z,k1,.inr ⟨W,F',C,MQ,hPy⟩,sO,yh,hj⟩
 rcases h with h|⟨W,F,C,E,D⟩
 ·have hwT:=h.wT;by_cases hn:c.now<T+33
  ·obtain⟨y,e,Z,k1,hy,sO,yh,hj⟩:=axY h (by omega) U I O Y hu hn;exact⟨by omega,y,e,Z,k1,.inl hy,sO,yh,hj⟩
  ·obtain⟨W,C,E,D⟩:=ax1 h (by omega) U I O hT;exact main W _ C E (.inl D)
 ·exact main W F C E D
def ax3{J:au->Prop}(hJ:∀ x j y,gB x.config->bR x->bM x=true->J x->Pr x j->bR j->bM j=true->Bi j->Fn j y->J y){c:au}{u:Nat}(h:Iv u c)(hb:tU c)(hJc:J c)(I:bR c)(U:bM c=true)(hc:gB c.config)(hu:u<400)(hT:c.now+40*(c.queue.length:Int)<=1240):∃ y,QG c=some y/\bR y/\bM y=true/\y.config=c.config/\y.queue=[]/\y.now<=2951/\J y:=by
 have yb:=(Pq.of I U).nw;obtain⟨t,Y⟩:=h.iD;have h0:MS u c.now c:=.inl ⟨h,hb,by omega,by
  by_cases hp:c.aG.aS=0
  ·refine .inl ⟨hp,λb=>?_⟩
   have h7:=nL Y.d1 b 7;have h9:=nL Y.d1 b 9;omega
  ·exact .inr ⟨hp,Y.d1,by omega⟩⟩
 unfold QG bZ;rw[sF c I,az,sE c I,az,U,bI,ax];generalize (⟨⟨⟨(0:Int),(0:Int),(0:Int),(0:Int)⟩,⟨(0:Int),(0:Int),(0:Int),(0:Int),(0:Int),(0:Int),(0:Int),(0:Int),(0:Int),(0:Int),(0:Int),(0:Int),(0:Int),(0:Int),(0:Int),(0:Int),(0:Int)⟩,⟨(0:Int),false⟩,(0:Int),(0:Int),(0:Int),⟨(0:Int),(0:Int)⟩⟩,_,_,_,_,_,_,_,_,_,_,_,_,_,_,_,_,_,_⟩:au)=Z;obtain⟨z,e,vr⟩:=XG (step:=QF) 2960 (λk x=>∃ y:au,x=(((),(),(k:Int),()),(Z,y,()))/\bR y/\bM y=true/\y.config=c.config/\y.now=c.now+(k:Int)/\y.now<=2951/\y.queue.length<=c.queue.length/\J y/\MS u c.now y) (λz=>∃ y:au,z = .inl (((),(),()),(Z,y,()))/\bR y/\bM y=true/\y.config=c.config/\y.queue=[]/\y.now<=2951/\J y) bC (x:=(((),(),(0:Int),()),(Z,c,()))) ⟨c,rfl,I,U,rfl,by omega,by omega,dg _,hJc,h0⟩ (by
  rintro k hkk x ⟨y,rfl,C,D,E,y4,O,y6,y7,y8⟩;unfold QF aM xG;dsimp only;rw[bf (show (k:Int)<5000 by omega),av];by_cases T:(y.queue.length:Int) > 0
  ·have sO:gB y.config:=by rw[E];exact hc
   obtain⟨hn,v,f1,f2,f3,f4,f5,f6,j,j1,j2,j3,j4,j5⟩:=ax2 y8 ⟨yb.1,by omega⟩ C D sO (λhh=>by rw[hh]at T;exact absurd T (by decide)) hu;have nx:=(j4.nx j1 j2).2.2.1.length_le;rw[j3.pQ]at nx;rw[bf T,av,f1,az,cC];exact .inl ⟨_,rfl,v,rfl,f2,f3,f5.trans E,by omega,by omega,by omega,hJ y j v sO C D y7 j3 j1 j2 j5 j4,f4⟩
  ·rw[bz T,ax];exact .inr ⟨_,rfl,y,rfl,C,D,E,uS (by omega),O,y7⟩) (by
  rintro x ⟨y,rfl,C,D,E,y4,O,y6,y7,y8⟩;exfalso;omega) (cM)
 rw[e,az];obtain⟨y,rfl,C,D,E,y4,O,y6⟩:=vr;exact⟨y,rfl,C,D,E,y4,O,y6⟩
def IB{x y b:Int}(D:x / b=y / b)(E:x % b=y % b):x=y:=by
 have C:=Int.mul_ediv_add_emod x b;have I:=Int.mul_ediv_add_emod y b;rw[D,E]at C;exact C.symm.trans I
def ZT{m:rQ}{n:Int}{a C:aN}(O:0<n)(hb:0<=a.aA/\a.aA<n)(D:0<=C.aA/\C.aA<n)(h:xW m n a=xW m n C):a=C:=by
 unfold xW at h;obtain⟨b,r,c⟩:=a;obtain⟨b',r',T⟩:=C;cases hm:m.hash with
 |false=>rw[hm]at h;exact h
 | true=>
  rw[hm]at h;simp only[av,aN.mk.injEq]at h;obtain⟨E,rfl,rfl⟩:=h;dsimp only at hb D;have I:=Int.mul_ediv_add_emod (b+r) n;have U:=Int.mul_ediv_add_emod (b'+r) n;rw[E]at I;have:=(Rc (b:=(b+r) / n) (r:=b') (b':=(b'+r) / n) (r':=b) D.1 D.2 hb.1 hb.2 (by rw[Int.mul_comm ((b+r) / n) n,Int.mul_comm ((b'+r) / n) n];omega)).2;subst this;rfl
def ax4{g:aK}{m:rQ}{l C:Int}(D:cJ g=true)(E:0<=l)(hl:l<ck g)(U:0<=C)(I:C<ck g)(h:rH g m l=rH g m C):l=C:=by
 have gb:=gV D;have Z:=EH D;have Y:ck g=aE g*g.rows*g.aW:=by simp[ck,D]
 rw[Y]at hl I;unfold rH at h;by_cases O:m.order=0
 ·rw[O,gu,av,av]at h;have h:=ZT (by omega) (vY (by omega)) (vY (by omega)) h;simp only[aN.mk.injEq]at h;exact IB (IB h.2.1 h.1) h.2.2
 ·rw[dy O,ax,ax]at h;by_cases T:m.order=1
  ·rw[T,gu,av,av]at h;have h:=ZT (by omega) (vY (by omega)) (vY (by omega)) h;simp only[aN.mk.injEq]at h;exact IB (IB h.2.1 h.2.2) h.1
  ·rw[dy T,ax,ax]at h;have key:∀ {l:Int},0<=l->l<aE g*g.rows*g.aW->0<=l / g.aW / g.rows/\l / g.aW / g.rows<aE g:=λ{l} E hl=>by
    have a1:=CQ (a:=aE g*g.rows) E (show 0<g.aW by omega) hl;have a2:=CQ (l:=l / g.aW) (a:=aE g) (b:=g.rows) a1.1 (by omega) a1.2.1;exact⟨a2.1,a2.2.1⟩
   have h:=ZT (by omega) (key E hl) (key U I) h;simp only[aN.mk.injEq]at h;exact IB (IB h.1 h.2.1) h.2.2
def Sp.inj{g:aK}{s:gv}{E R:Nat}(h:Sp g s E R){b r r':Nat}(hb:b<E)(C:r<R)(D:r'<R)(e:s.map.getD (b*R+r) 0=s.map.getD (b*R+r') 0):r=r':=by
 have key:∀ {r r':Nat},r<R->r'<R->s.map.getD (b*R+r) 0=s.map.getD (b*R+r') 0->¬ r<r':=λ{r r'} C D e O=>by
  rcases h.f b hb r' D with I|⟨_,_,I⟩
  ·rcases h.f b hb r C with T|⟨T,_⟩<;>omega
  ·exact I r O e
 have U:=key C D e;have Y:=key D C e.symm;omega
def ZU{c:au}(I:Pq c){C R:Nat}(D:Sp c.config.aq c.spare C R){l:Int}(O:0<=l)(hl:l<ck (dG c.config.aq c.spare)):∃ b r:Nat,b<C/\r<R/\(rH (dG c.config.aq c.spare) c.config.mapping l).aA=(b:Int)/\(rH (dG c.config.aq c.spare) c.config.mapping l).row=(r:Int)/\dM c l=⟨(b:Int),c.spare.map.getD (b*R+r) 0,(rH (dG c.config.aq c.spare) c.config.mapping l).cu⟩:=by
 obtain⟨hg,T,U,Y,_⟩:=D.yf;obtain⟨_,Z⟩:=ahx T I.mo O hl;obtain⟨_,b1,b2,b3,b4,_⟩:=oh Z;obtain⟨b,hb⟩:=dN b1;obtain⟨r,E⟩:=dN b3;rw[Y]at b2;have b4':(rH (dG c.config.aq c.spare) c.config.mapping l).row<(R:Int):=by
  have:=b4;rw[U]at this ⊢;exact this
 refine⟨b,r,by omega,by omega,hb,E,?_⟩;unfold dM;dsimp only;rw[hb,E,D.hR,<-Int.natCast_mul,show (((b*R:Nat):Int)+(r:Int)).toNat=b*R+r by omega]
def ax5{c:au}(I:Pq c){l D:Int}(O:0<=l)(hl:l<ck (dG c.config.aq c.spare))(T:0<=D)(U:D<ck (dG c.config.aq c.spare))(h:dM c l=dM c D):l=D:=by
 obtain⟨bn,R,E⟩:=Sp.of I.sp;obtain⟨hg,Y,eg,eb,_⟩:=E.yf;obtain⟨b,r,hb,Z,e1,e2,e3⟩:=ZU I E O hl;obtain⟨b',r',s8,fP,e1',Mg,e3'⟩:=ZU I E T U;rw[e3,e3']at h;simp only[aN.mk.injEq]at h;obtain rfl:b=b':=by omega
 obtain rfl:=E.inj hb Z fP h.2.1;refine ax4 (m:=c.config.mapping) Y O hl T U ?_;have key:∀ {a C:aN},a.aA=C.aA->a.row=C.row->a.cu=C.cu->a=C:=λ{a C} x y z=>by
  cases a;cases C;simp_all
 exact key (e1.trans e1'.symm) (e2.trans Mg.symm) h.2.2
def ax6{c:au}(C:Pq c){l D:Int}(E:0<=l)(hl:l<ck (dG c.config.aq c.spare))(I:0<=D)(O:D<ck (dG c.config.aq c.spare))(h:eI c.config.aq (dM c l)=eI c.config.aq (dM c D)):l=D:=
 ax5 C E hl I O (Rd (Rr C.p C.sp C.se C.mo E hl).2 (Rr C.p C.sp C.se C.mo I O).2 h)
def sQ(c:au):Int:=ck (dG c.config.aq c.spare)
structure Me (ask:List aR) (c:au):Prop where
 mM:∃m,Mm m c.array.cells/\∀l:Int,0<=l->l<sQ c->(iM (ck c.config.aq) ask c.aZ).1.getD l.toNat 0=m (eI c.config.aq (dM c l))
 mF:(iM (ck c.config.aq) ask c.aZ).2.length=c.aZ.length
 mD:∀i (h:i<(iM (ck c.config.aq) ask c.aZ).2.length) (h':i<c.aZ.length),(iM (ck c.config.aq) ask c.aZ).2[i].data=c.aZ[i].data
 mA:ask.Pairwise λx y=>x.id≠y.id
 mQ:∀q∈c.queue,q∈ask
 mN:(c.queue.map aR.id++c.aZ.map cI.id).Nodup
 mI:∀r∈ask,r.id∈c.queue.map aR.id++c.aZ.map cI.id
 mR:∀x∈c.aZ,∃r∈ask,r.id=x.id
 mT:(∀x∈c.aZ,0<=x.at_/\x.at_<=c.now)/\∀r∈ask,0<=r.at_/\r.at_<=c.now
 mL:ask.length=c.queue.length+c.aZ.length
 mV:∀r∈ask,0<=r.line/\r.line<sQ c/\0<=r.data/\r.data<=4294967295
def ax7{C:aa aR}(h:C.Pairwise λx y=>x.id≠y.id){q:aR}(D:q∈C):C.find? (λr=>r.id==q.id)=some q:=by
 obtain⟨i,hi,rfl⟩:=jL.1 D
 refine ag4 hi (λj E=>?_) (gu _)
 exact beq_eq_false_iff_ne.2 (sU.1 h j i (by omega) hi E)
def ax8(L:Int)(C:aa aR)(rs:aa cI)(x:cI):iM L C (rs++[x])=rF L C (iM L C rs) x:=by
 unfold iM;rw[List.foldl_append];rfl
def ax9(L:Int){C:aa aR}{r:aR}{rs:aa cI}(h:∀ x∈rs,∃ q∈C,q.id=x.id):iM L (C++[r]) rs=iM L C rs:=by
 unfold iM;have key:∀ (l:aa cI),(∀ x∈l,∃ q∈C,q.id=x.id)->∀ st,l.foldl (rF L (C++[r])) st=l.foldl (rF L C) st:=by
  intro l
  induction l with
  |nil=>intro _ st;rfl
  | cons x l D=>
   intro h st;rw[List.foldl_cons,List.foldl_cons,D (λy E=>h y (.tail _ E))];congr 1;unfold rF;obtain⟨q,I,e⟩:=h x (.head _);have:(C.find? λr=>r.id==x.id).isSome=true:=by
    rw[List.find?_isSome];exact⟨q,I,by rw[e];exact gu _⟩
   rw[List.find?_append,Option.or_of_isSome this]
 exact key rs h _
def ajG{c:au}(D:Pq c):sQ c<=ck c.config.aq/\0<=sQ c:=by
 obtain⟨e,C,E,I,Y,Z,h3,h4⟩:=HW D.sp;have gb:=gV C;have hp:=EH C;unfold sQ;have O:ck (dG c.config.aq c.spare)=aE c.config.aq*(c.config.aq.rows-c.spare.cc)*c.config.aq.aW:=by
  unfold ck;rw[E,I,e];rfl
 have T:ck c.config.aq=aE c.config.aq*c.config.aq.rows*c.config.aq.aW:=by simp[ck,C]
 rw[O,T];have U:aE c.config.aq*(c.config.aq.rows-c.spare.cc)<=aE c.config.aq*c.config.aq.rows:=Int.mul_le_mul_of_nonneg_left (by omega) (by omega);refine⟨Int.mul_le_mul_of_nonneg_right U (by omega),Int.mul_nonneg (Int.mul_nonneg (by omega) (by omega)) (by omega)⟩
def aya{A B:aa Int}{q:Int}{C:aa Int}(h:((A++q :: B)++C).Nodup):((A++B)++(C++[q])).Nodup:=by
 refine(List.Perm.nodup_iff ?_).1 h;have D:(A++q::B)++C=A++q::(B++C):=by simp
 have E:(A++B)++(C++[q])=(A++(B++C))++[q]:=by simp
 rw[D,E];exact List.perm_middle.trans (List.perm_append_singleton q (A++(B++C))).symm
def Me.step{C:aa aR}{c j y:au}(h:Me C c)(hc:gB c.config)(Gb:bR c)(F2:bM c=true)(p:Pr c j)(hz:bR j)(U:bM j=true)(hj:Bi j)(hf:Fn j y):Me C y:=by
 have MR:=Pq.of Gb F2;have nx:=hf.nx hz U;have O:y.config=c.config:=nx.2.1.trans p.pC;have Fg:y.spare=c.spare:=(hf.sp hz U).1.trans p.pV;have yh:y.now=c.now+1:=nx.1.trans p.pN;have Y:sQ y=sQ c:=by unfold sQ;rw[O,Fg]
 have oL:∀l,dM y l=dM c l:=λl=>by unfold dM;rw[O,Fg]
 obtain⟨m,hm,Z⟩:=h.mM;obtain⟨r1,r2⟩:=ajG MR;have yb:=MR.nw;obtain⟨m',g1,_,g2|⟨i,hi,I,D⟩⟩:=hm.step hc p hz U hj hf
 ·obtain⟨rfl,I,D⟩:=g2
  refine⟨⟨m',g1,λl T l1=>?_⟩,by rw[O,D];exact h.mF,?_,h.mA,by rw[I];exact h.mQ,by rw[I,D];exact h.mN,by rw[I,D];exact h.mI,by rw[D];exact h.mR,⟨λx E=>?_,λr hr=>?_⟩,by rw[I,D];exact h.mL,by rw[Y];exact h.mV⟩
  ·rw[Y]at l1;rw[oL,O,D];exact Z l T l1
  ·rw[O];simp only[D];exact h.mD
  ·rw[D]at E;have:=h.mT.1 x E;omega
  ·have:=h.mT.2 r hr;omega
 ·have hqm:c.queue[i]∈c.queue:=cX hi;generalize hq:c.queue[i]=q at D hqm;have ZV:=h.mQ q hqm;have ajH:=ax7 h.mA ZV;obtain⟨v0,v1,v2,v3⟩:=h.mV q ZV;have hlen:=(ag6 (ck c.config.aq) C c.aZ).1;have ayb:c.queue=c.queue.take i++q :: c.queue.drop (i+1):=by
   rw[<-hq,List.getElem_cons_drop hi,List.take_append_drop]
  have ajI:c.queue.map aR.id=(c.queue.take i).map aR.id++q.id :: (c.queue.drop (i+1)).map aR.id:=by
   conv=>lhs;rw[ayb]
   rw[mZ,List.map_cons]
  have hNd:∀ x:cI,x.id=q.id->((c.queue.take i++c.queue.drop (i+1)).map aR.id++(c.aZ++[x]).map cI.id).Nodup:=λx E=>by
   have:=h.mN;rw[ajI]at this;rw[mZ,mZ,List.map_singleton,E];exact aya this
  have hId:∀ x:cI,x.id=q.id->∀ r∈C,r.id∈(c.queue.take i++c.queue.drop (i+1)).map aR.id++(c.aZ++[x]).map cI.id:=λx E r hr=>by
   have:=h.mI r hr;rw[ajI]at this;rw[mZ,mZ,List.map_singleton,E];simp only[gE,ig,List.not_mem_nil,or_false]at this ⊢;rcases this with (h1|h1|h1)|h1
   ·exact .inl (.inl h1)
   ·exact .inr (.inr h1)
   ·exact .inl (.inr h1)
   ·exact .inr (.inl h1)
  have hQ:∀ r∈c.queue.take i++c.queue.drop (i+1),r∈C:=λr hr=>by
   rcases gE.1 hr with hr|hr
   ·exact h.mQ r (List.mem_of_mem_take hr)
   ·exact h.mQ r (List.mem_of_mem_drop hr)
  have hL:∀ x:cI,C.length=(c.queue.take i++c.queue.drop (i+1)).length+(c.aZ++[x]).length:=λx=>by
   rw[h.mL,jh,jh,jK,List.length_drop,mj];omega
  have common:∀ (x:cI) (mem:aa Int) (SI:mq),x.id=q.id->x.at_=c.now+1->SI.data=x.data->y.aZ=c.aZ++[x]->rF (ck c.config.aq) C (iM (ck c.config.aq) C c.aZ) x=(mem,(iM (ck c.config.aq) C c.aZ).2++[SI])->(∀ l:Int,0<=l->l<sQ c->mem.getD l.toNat 0=m' (eI c.config.aq (dM c l)))->Me C y:=λx mem SI E ha hd er ee kJ=>by
   have es:iM (ck c.config.aq) C (c.aZ++[x])=(mem,(iM (ck c.config.aq) C c.aZ).2++[SI]):=(ax8 _ _ _ _).trans ee
   refine⟨⟨m',g1,λl T l1=>?_⟩,?_,?_,h.mA,by rw[I];exact hQ,by rw[I,er];exact hNd x E,by rw[I,er];exact hId x E,?_,⟨λz hz=>?_,λr hr=>?_⟩,by rw[I,er];exact hL x,by rw[Y];exact h.mV⟩
   ·rw[Y]at l1;rw[oL,O,er,es];exact kJ l T l1
   ·rw[O,er,es,jh,jh,h.mF];rfl
   ·rw[O];simp only[er,es];intro k U oP;rw[jh,mj]at U oP;by_cases zC:k<c.aZ.length
    ·rw[List.getElem_append_left (by rw[h.mF];exact zC),List.getElem_append_left zC];exact h.mD k _ zC
    ·rw[List.getElem_append_right (by rw[h.mF];omega),List.getElem_append_right (by omega)];simp only[List.getElem_singleton];exact hd
   ·intro z hz;rw[er]at hz;rcases gE.1 hz with hz | hz
    ·exact h.mR z hz
    ·rw[gz.1 hz,E];exact⟨q,ZV,rfl⟩
   ·rw[er]at hz;rcases gE.1 hz with hz | hz
    ·have:=h.mT.1 z hz;omega
    ·rw[gz.1 hz,ha];omega
   ·have:=h.mT.2 r hr;omega
  cases hw:q.write with
  | true=>
   rw[hw,av]at D;obtain⟨em,er⟩:=D
   refine common ⟨q.id,c.now+1,0,0⟩ ((iM (ck c.config.aq) C c.aZ).1.set q.line.toNat q.data) ⟨q.line,0,0⟩ rfl rfl rfl er ?_ λl T l1=>?_
   ·unfold rF;dsimp only;rw[ajH];dsimp only;rw[aV ⟨v0,by omega⟩,aV hw]
   ·rw[em];unfold Fl;by_cases el:l=q.line
    ·subst el;rw[aV rfl,oD _ (by omega)]
    ·rw[aX (λe=>el (ax6 MR T l1 v0 v1 e)),getD_set_ne _ (by omega)];exact Z l T l1
  | false=>
   rw[hw,ax]at D;obtain⟨em,er⟩:=D
   refine common _ (iM (ck c.config.aq) C c.aZ).1 ⟨q.line,(iM (ck c.config.aq) C c.aZ).1.getD q.line.toNat 0,0⟩ ?_ ?_ ?_ er ?_ λl T l1=>?_
   ·rfl
   ·rfl
   ·exact Z q.line v0 v1
   ·unfold rF;dsimp only;rw[ajH];dsimp only;rw[aV ⟨v0,by omega⟩,aX (by rw[hw];decide)]
   ·rw[em];exact Z l T l1
def ZW{n:Int}{q:aa aR}(h:gS n q=true){i:Nat}(hi:i<q.length):sC n q[i]=true/\(∀ j (C:j+1=i),(q[j]'(by omega)).at_<=q[i].at_)/\∀ j (C:j<i),(q[j]'(by omega)).id≠q[i].id:=by
 unfold gS at h;rw[aH,cm]at h;have hb:=h.1 i (gq.2 hi);unfold vT at hb;rw[bL hi]at hb;dsimp only at hb;rw[aH,aH,ff]at hb
 refine⟨hb.1,λj e=>?_,λj C e=>?_⟩
 ·subst e;have h1:=hb.2.1;rw[show ((j+1)==0)=false from rfl,lK,show j+1-1=j from rfl,bL (show j<q.length by omega)]at h1;dsimp only at h1;unfold gp at h1;rw[eZ,aH,dO]at h1;rcases h1 with h1 | h1
  ·have:=ja h1;omega
  ·omega
 ·refine jV.1 hb.2.2 _ (List.mem_take_iff_getElem.2 ⟨j,by omega,rfl⟩) ?_;rw[dO];exact e
def ayc{n:Int}{q:aa aR}(h:gS n q=true):q.Pairwise λa b=>a.at_<=b.at_:=by
 rw[sU];intro i j hi O T;have key:∀ d,∀ C:i+d<q.length,q[i].at_<=q[i+d].at_:=by
  intro d
  induction d with
  |zero=>intro _;exact dU _
  | succ d D=>
   intro C;have E:=D (by omega);have I:=(ZW h C).2.1 (i+d) rfl;exact Int.le_trans E I
 have:=key (j-i) (by omega)
 simpa [show i+(j-i)=j by omega]using this
def ayd{n:Int}{q:aa aR}(h:gS n q=true):(q.map aR.id).Nodup:=by
 unfold List.Nodup;rw[List.pairwise_map,sU];intro i j hi C D;exact(ZW h C).2.2 i D
def aye{n:Int}{q:aa aR}(h:gS n q=true){r:aR}(C:r∈q):sC n r=true:=by
 obtain⟨i,hi,rfl⟩:=jL.1 C;exact(ZW h hi).1
def Me.put{D:aa aR}{c:au}(h:Me D c)(hk:bM c=true){r:aR}(E:(kY c r).2=true)(kU:bM (kY c r).1=true):Me (D++[iG c r]) (kY c r).1/\(kY c r).1.queue.length=c.queue.length+1:=by
 have yb:=bu.1 (Ck.of hk).nw;have Z:kY c r=({ c with queue:=ko (λx=>gp (iG c r) x) c.queue (iG c r) },true)/\(c.aZ.any λx=>x.id==r.id)=false:=by
  unfold kY at E ⊢;rw[hk,bI,lK]at E ⊢;cases I:(pO c r).2 with
  |false=>rw[I]at E;exact absurd (show false=true from E) (by decide)
  | true=>
   rw[I]at E;rw[bI,lK]at E ⊢;cases hr:(c.aZ.any λx=>x.id==r.id)with
   |true=>rw[hr]at E;exact absurd (show false=true from E) (by decide)
   | false=>
    rw[ax];refine⟨?_,rfl⟩;unfold pO EY at I ⊢;cases hb:(gS (ck (dG c.config.aq c.spare)) c.queue&&gS (ck (dG c.config.aq c.spare)) (ko (λx=>gp (iG c r) x) c.queue (iG c r)))with
    |false=>rw[hb]at I;cases I
    |true=>rfl
 obtain⟨Z,ayf⟩:=Z;rw[Z]at kU ⊢;have O:=(Ck.of kU).qu;have O:gS (sQ c) (ko (λx=>gp (iG c r) x) c.queue (iG c r))=true:=O;have U:=ayd O;have hle:=Rg (λx=>gp (iG c r) x) c.queue;generalize hp:mb (λx=>gp (iG c r) x) c.queue=k at hle;have ayg:ko (λx=>gp (iG c r) x) c.queue (iG c r)=c.queue.take k++iG c r :: c.queue.drop k:=by
  unfold ko;rw[hp];simp
 rw[ayg]at U O ⊢;have T:∀ x,x∈c.queue.take k++iG c r :: c.queue.drop k ↔ x=iG c r\/x∈c.queue:=λx=>by
  conv=>rhs;rw[<-List.take_append_drop k c.queue]
  simp only[gE,ig];constructor
  ·rintro(h | h | h)
   ·exact .inr (.inl h)
   ·exact .inl h
   ·exact .inr (.inr h)
  ·rintro(h | h | h)
   ·exact .inr (.inl h)
   ·exact .inl h
   ·exact .inr (.inr h)
 have Y:sC (sQ c) (iG c r)=true:=aye O ((T _).2 (.inl rfl));simp only[sC,aH,bu]at Y;have hwd:0<=(iG c r).data/\(iG c r).data<=4294967295:=by
  have:=Y.2.2.2.2.1;exact bu.1 this
 have gG:∀ x∈c.aZ,x.id≠r.id:=λx hx e=>by
  have:=jV.1 ayf x hx;rw[e,gu]at this;exact this rfl
 have hnq:∀ x∈c.queue,x.id≠r.id:=λx hx e=>by
  rw[mZ,List.map_cons]at U;have h1:=(List.perm_middle (a:=(iG c r).id) (l₁:=(c.queue.take k).map aR.id) (l₂:=(c.queue.drop k).map aR.id)).nodup_iff.1 U;rw[<-mZ,List.take_append_drop]at h1;exact(List.nodup_cons.1 h1).1 (iZ.2 ⟨x,hx,e⟩)
 have lW:∀ x∈D,x.id≠r.id:=λx hx e=>by
  have:=h.mI x hx;rcases gE.1 this with h1|h1
  ·obtain⟨z,C,e2⟩:=iZ.1 h1;exact hnq z C (e2.trans e)
  ·obtain⟨z,C,e2⟩:=iZ.1 h1;exact gG z C (e2.trans e)
 have ZX:=ax9 (ck c.config.aq) (r:=iG c r) h.mR;obtain⟨m,hm,ZY⟩:=h.mM
 refine⟨⟨⟨m,hm,λl l0 l1=>?_⟩,?_,?_,?_,λq hq=>?_,?_,λx hx=>?_,λx hx=>?_,⟨h.mT.1,λx hx=>?_⟩,?_,λx hx=>?_⟩,?_⟩
 ·show (iM (ck c.config.aq) (D++[iG c r]) c.aZ).1.getD l.toNat 0=_;rw[ZX];exact ZY l l0 l1
 ·show (iM (ck c.config.aq) (D++[iG c r]) c.aZ).2.length=_;rw[ZX];exact h.mF
 ·show ∀i (h:i<(iM (ck c.config.aq) (D++[iG c r]) c.aZ).2.length) (h':i<c.aZ.length),(iM (ck c.config.aq) (D++[iG c r]) c.aZ).2[i].data=c.aZ[i].data;rw[ZX];exact h.mD
 ·rw[List.pairwise_append]
  refine⟨h.mA,List.pairwise_singleton _ _,λx hx y hy=>?_⟩
  rw[gz.1 hy];exact lW x hx
 ·have hq:q∈c.queue.take k++iG c r :: c.queue.drop k:=hq;rcases(T q).1 hq with rfl | hq
  ·exact gE.2 (.inr (gz.2 rfl))
  ·exact gE.2 (.inl (h.mQ q hq))
 ·show ((c.queue.take k++iG c r :: c.queue.drop k).map aR.id++c.aZ.map cI.id).Nodup;have h1:=h.mN;rw[List.nodup_append]at h1 ⊢
  refine⟨U,h1.2.1,λa I b hb=>?_⟩
  obtain⟨x,hx,rfl⟩:=iZ.1 I;obtain⟨z,C,rfl⟩:=iZ.1 hb;rcases(T x).1 hx with rfl|hx
  ·exact λe=>gG z C e.symm
  ·exact h1.2.2 _ (iZ.2 ⟨x,hx,rfl⟩) _ (iZ.2 ⟨z,C,rfl⟩)
 ·show x.id∈(c.queue.take k++iG c r :: c.queue.drop k).map aR.id++c.aZ.map cI.id;rcases gE.1 hx with hx | hx
  ·rcases gE.1 (h.mI x hx)with h1 | h1
   ·obtain⟨z,C,e⟩:=iZ.1 h1;exact gE.2 (.inl (iZ.2 ⟨z,(T z).2 (.inr C),e⟩))
   ·exact gE.2 (.inr h1)
  ·rw[gz.1 hx];exact gE.2 (.inl (iZ.2 ⟨iG c r,(T _).2 (.inl rfl),rfl⟩))
 ·obtain⟨z,C,e⟩:=h.mR x hx;exact⟨z,gE.2 (.inl C),e⟩
 ·rcases gE.1 hx with hx | hx
  ·exact h.mT.2 x hx
  ·rw[gz.1 hx];exact⟨yb.1,dU _⟩
 ·show (D++[iG c r]).length=(c.queue.take k++iG c r::c.queue.drop k).length+c.aZ.length;have:=h.mL;rw[jh,jh,mj,List.length_cons,jK,List.length_drop];omega
 ·rcases gE.1 hx with hx | hx
  ·exact h.mV x hx
  ·rw[gz.1 hx];exact⟨ja Y.2.2.1,ja Y.2.2.2.1,hwd.1,hwd.2⟩
 ·show (c.queue.take k++iG c r::c.queue.drop k).length=_;rw[jh,List.length_cons,jK,List.length_drop];omega
def Me.ret{ask:aa aR}{c y:au}(h:Me ask c)(hz:bR c)(C:bM c=true)(vr:bR y)(kU:bM y=true){b r:Int}(hR:Rt c b r y)(hy:∃ l s,y=⟨c.config,c.box,c.now,c.aG,c.ready,⟨l,c.array.bx,c.array.bg⟩,s,c.ay,c.bF,c.guard,c.pending,c.queue,c.shares,c.drain,c.aS,c.dJ,c.errors,c.trace,c.aZ⟩):Me ask y:=by
 have I:=Pq.of hz C;have wQ:=Pq.of vr kU;obtain⟨bn,R,i,n,O,ha,T,nB,hn,hib,D⟩:=hR;obtain⟨l,s,rfl⟩:=hy;dsimp only at T D;obtain⟨⟨a1,a2⟩,a3,a4⟩:=(O.ex b r).1 ha;obtain⟨B,rfl⟩:=dN a1;obtain⟨r0,rfl⟩:=dN a3;simp only[bD]at T nB D;obtain⟨hg,wN,eg,eb,_⟩:=O.yf;have Fg:ot c.config.aq s=true:=wQ.sp;have ajJ:dG c.config.aq s=dG c.config.aq c.spare:=by
  unfold dG;rw[Fg,I.sp,T]
 have NO:ck (dG c.config.aq s)=sQ c:=by rw[ajJ];rfl
 have ayL:=O.hb;obtain⟨m,hm,ZY⟩:=h.mM;have hlen:=D.cl;have src:∀ (idx:Nat) (hi:idx<l.length),∃ (k:Nat) (C:k<c.array.cells.length),l[idx]=c.array.cells[k]:=λidx hi=>by
  have Z:l[idx]?=some l[idx]:=bL hi;by_cases hx:∃k:Nat,k<n/\idx=eI c.config.aq ⟨(B:Int),i,(k:Int)⟩
  ·obtain⟨k,C,rfl⟩:=hx;rw[D.cn k C]at Z;obtain⟨h1,h2⟩:=dW.1 Z;exact⟨_,h1,h2.symm⟩
  ·rw[D.co idx λk C e=>hx ⟨k,C,e⟩]at Z;obtain⟨h1,h2⟩:=dW.1 Z;exact⟨_,h1,h2.symm⟩
 have s7:Mm (λidx=>CS (l.getD idx xU)) l:=λidx hi=>by
  obtain⟨k,C,e⟩:=src idx hi;obtain⟨e1,v0,v1⟩:=hm k C;have e2:=(Zr v0 v1).2.2.2;dsimp only;rw[fU _ hi,e,e1,e2];exact⟨rfl,v0,v1⟩
 refine⟨⟨_,s7,λx l0 l1=>?_⟩,h.mF,h.mD,h.mA,h.mQ,h.mN,h.mI,h.mR,h.mT,h.mL,λz hz=>by have:=h.mV z hz;unfold sQ;dsimp only;rw[NO];exact this⟩
 have l1:x<sQ c:=by
  have:x<ck (dG c.config.aq s):=l1
  rwa [NO]at this
 refine(ZY x l0 l1).trans ?_;have Y:=(Rr I.p I.sp I.se I.mo l0 l1).2;have hci:eI c.config.aq (dM c x)<c.array.cells.length:=(fH.uP (Ck.of C).ar).lt Y;obtain⟨e1,v0,v1⟩:=hm _ hci;have ed:=(Zr v0 v1).2.2.2
 -- the cell of the line is the same one,moved or not
 suffices I2:l[eI c.config.aq (dM ⟨c.config,c.box,c.now,c.aG,c.ready,⟨l,c.array.bx,c.array.bg⟩,s,c.ay,c.bF,c.guard,c.pending,c.queue,c.shares,c.drain,c.aS,c.dJ,c.errors,c.trace,c.aZ⟩ x)]?=c.array.cells[eI c.config.aq (dM c x)]? by
  show _=CS (l.getD _ xU);rw[cQ,I2,bL hci,Option.getD_some,e1,ed]
 obtain⟨E,U,xF,C0,f1,f2,f3⟩:=ZU I O l0 l1;have r6:E*R+U<c.spare.map.length:=by
  have hle:=(O.lens xF).1;rw[jv]at hle;omega
 have fy:dM ⟨c.config,c.box,c.now,c.aG,c.ready,⟨l,c.array.bx,c.array.bg⟩,s,c.ay,c.bF,c.guard,c.pending,c.queue,c.shares,c.drain,c.aS,c.dJ,c.errors,c.trace,c.aZ⟩ x=⟨(E:Int),s.map.getD (E*R+U) 0,(rH (dG c.config.aq c.spare) c.config.mapping x).cu⟩:=by
  unfold dM;dsimp only;have e9:c.config.aq.rows-s.cc=(R:Int):=by rw[T];exact O.hR
  rw[ajJ,f1,f2,e9,<-Int.natCast_mul,show (((E*R:Nat):Int)+(U:Int)).toNat=E*R+U by omega]
 rw[fy];obtain⟨_,_,_,_,_,oR,DO⟩:=oh Y;rw[f3]at oR DO Y ⊢;dsimp only at oR DO;generalize (rH (dG c.config.aq c.spare) c.config.mapping x).cu=cu at oR DO Y ⊢;obtain⟨k,rfl⟩:=dN oR;by_cases hh:E*R+U=B*R+r0
 ·have hmB:∀ {a b c d:Nat},b<R->d<R->a*R+b=c*R+d->a=c/\b=d:=λ{a b c d} h1 h2 h3=>by
   have:=Rc (b:=(a:Int)) (r:=(b:Int)) (b':=(c:Int)) (r':=(d:Int)) (R:=(R:Int)) (by omega) (by omega) (by omega) (by omega) (by rw[<-Int.natCast_mul,<-Int.natCast_mul];omega);omega
  obtain⟨rfl,rfl⟩:=hmB C0 (by omega) hh;rw[T];dsimp only;rw[oD _ r6];exact D.cn k (by omega)
 ·rw[T];dsimp only;rw[getD_set_ne _ (λe=>hh e.symm)]
  refine D.co _ λk' oP e=>?_
  have Ki:ef c.config.aq ⟨(B:Int),i,(k':Int)⟩=true:=xN hg (Int.natCast_nonneg _) (by dsimp only;omega) hib.1 hib.2 (Int.natCast_nonneg _) (by dsimp only;omega);have:=Rd Y Ki e;simp only[aN.mk.injEq]at this;obtain rfl:E=B:=by omega
  exact nB U C0 this.2.1
def ayh(l:aa Int)(h:l.length<=1073741823):∃ c p bq,Pb l=some (c,p,bq)/\gB c/\zl p/\bq.length<=31/\∀ a∈bq,C5 a/\a.kind≠3:=by
 obtain⟨h0,e0⟩:=asM l h;obtain⟨x,k,e1,O,U⟩:=auk (asN l h0 h);obtain⟨p,k2,e2,Y,hp⟩:=ahn O;obtain⟨bq,k3,e3,rq,ha,hw⟩:=axt Y U 30 (by decide);obtain⟨Z,hZ⟩:∃Z:fB,Z=(⟨⟨(0:Int),(0:Int),(0:Int),(0:Int)⟩,⟨(0:Int),(0:Int),(0:Int),(0:Int),(0:Int),(0:Int),(0:Int),(0:Int),(0:Int),(0:Int),(0:Int),(0:Int),(0:Int),(0:Int),(0:Int),(0:Int),(0:Int)⟩,⟨(0:Int),false⟩,(0:Int),(0:Int),(0:Int),⟨(0:Int),(0:Int)⟩⟩:fB):=⟨_,rfl⟩
 obtain⟨z,e,C,rfl,hl,E⟩:=QL (step:=Kw) bq.length (λk s=>∃ C:aa jk,s=(((),(),(),(),(),(k:Int),()),(Z,((0:Int),(0:Int),(0:Int),(0:Int),(0:Int),(),(0:Int),(0:Int),()),x,(p.gA,p.cap,p.dx,p.low,p.high,(),p.eT.down,p.eT.sleep,()),C,([]:aa Int),p.weights,()))/\C.length=bq.length/\(∀ a∈C,C5 a)/\∀ j (D:j<C.length),j<k->C[j].kind≠3)
  (λz=>∃C:aa jk,z = .inl (((),(),(),(),(),()),(Z,((0:Int),(0:Int),(0:Int),(0:Int),(0:Int),(),(0:Int),(0:Int),()),x,(p.gA,p.cap,p.dx,p.low,p.high,(),p.eT.down,p.eT.sleep,()),C,([]:aa Int),p.weights,()))/\C.length=bq.length/\∀a∈C,C5 a/\a.kind≠3) bC (x:=(((),(),(),(),(),(0:Int),()),(Z,((0:Int),(0:Int),(0:Int),(0:Int),(0:Int),(),(0:Int),(0:Int),()),x,(p.gA,p.cap,p.dx,p.low,p.high,(),p.eT.down,p.eT.sleep,()),bq,([]:aa Int),p.weights,()))) ⟨bq,rfl,rfl,hw,λj _ D=>absurd D (Nat.not_lt_zero _)⟩ (by
  rintro k O s ⟨C,rfl,hl,E,I⟩;unfold Kw aM xG xL;dsimp only;have T:k<C.length:=by omega
  rw[bf (show (k:Int)<(C.length:Int) by omega),av,aP ⟨by omega,by omega⟩];simp only[bD];rw[aP T,cC];cases rq:C[k].kind==(3:Int)with
  | true=>
   rw[av,aP ⟨by omega,T⟩,aP T]
   refine⟨_,rfl,_,rfl,by rw[jg];exact hl,λa ha=>?_,λj D Wl=>?_⟩
   ·rcases List.mem_or_eq_of_mem_set ha with ha | ha
    ·exact E a ha
    ·rw[ha];exact⟨by show (0:Nat)<=1048576;omega,λ_=>by show (5:Int)<=40;decide⟩
   ·rw[List.getElem_set];split
    ·exact(by decide:¬ (2:Int)=3)
    ·rw[jg]at D;exact I j D (by omega)
  | false=>
   rw[ax]
   refine⟨_,rfl,C,rfl,hl,E,λj D Wl=>?_⟩
   by_cases e:j=k
   ·subst e;exact beq_eq_false_iff_ne.1 rq
   ·exact I j D (by omega)) (by
  rintro s ⟨C,rfl,hl,E,I⟩;unfold Kw aM xG xL;dsimp only;rw[bz (show ¬ (bq.length:Int)<(C.length:Int) by omega),ax]
  refine⟨_,rfl,C,rfl,hl,λa ha=>⟨E a ha,?_⟩⟩
  obtain⟨j,D,rfl⟩:=jL.1 ha;exact I j D (by omega)) (cM)
 refine⟨x,p,C,?_,U,hp,by omega,E⟩;rw[hZ]at e;unfold Pb bZ;rw[e0,az,e1,az];dsimp only;rw[O.eta,e2,az];dsimp only;rw[Y.eta]
 refine(bE (λo=>Option.bind o _) e3).trans ?_
 exact(bE (λo=>Option.bind o _) e).trans rfl
def ayi{ask:aa aR}{c:au}{u:Nat}(C:Me ask c)(hB:tU c)(hv:Iv u c)(E:bR c)(I:bM c=true)(hc:gB c.config)(hu:u<400)(hn9:c.now<=1800)(a:jk)(hw:a.jl.weights.length<=1048576)(zD:a.kind=2->a.n<=40)(Y:a.kind≠3):∃ y t,nE c a=some (y,t)/\bR y/\bM y=true/\Iv (u+1) y/\y.config=c.config/\tU y/\Me (bif t&&a.kind==1 then ask++[iG c a.request]else ask) y/\y.now+40*(y.queue.length:Int)<=c.now+40*(c.queue.length:Int)+40:=by
 obtain⟨y,t,e,y1,y2,y3,y4,y5,y6,y7⟩:=axk hv E I hc hu hn9 a hw zD;have h:=Ck.of I;refine⟨y,t,e,y1,y2,y4,y5,?_⟩;have nw:=(Pq.of E I).nw;cases t with
 | false=>
  have:=y3 rfl;subst this;exact⟨hB,C,by omega⟩
 |true=>
 rw[dn];have no:nE c a=some (c,false)->False:=λZ=>by
  rw[e]at Z;injection Z with Z;exact absurd (show true=false from bE Prod.snd Z) (by decide)
 by_cases O:a.kind=1
 ·have D:=axo E I O;rw[e]at D;injection D with D;have t1:(kY c a.request).2=true:=(bE Prod.snd D).symm;have T:y=(kY c a.request).1:=bE Prod.fst D;subst T;obtain⟨m1,m2⟩:=C.put I t1 y2;obtain⟨l,el⟩:=aiS c a.request;rw[O];refine⟨⟨ayc (Ck.of y2).qu,?_,?_⟩,m1,?_⟩
  ·rw[el];exact hB.b7
  ·rw[el];exact hB.bA
  ·have:(kY c a.request).1.now=c.now:=by rw[el]
   omega
 ·rw[dy O,ax];by_cases U:a.kind=2
  ·by_cases hn:0<=a.n/\a.n<=500
   ·have Zs:=zD U;obtain⟨y',e',q1,q2,q3,q4,q5,q6,q7,q8⟩:=aiO (J:=λx=>Me ask x/\tU x/\x.queue.length<=c.queue.length) hv ⟨C,hB,dg _⟩ E I hc hu hn.1 (by omega) λx z z1 z2 z3 z4 z5 z6 z7 z8=>by
     have ZZ:gB x.config:=by rw[z4];exact hc
     obtain⟨z',g1,_,_,_,_,_,j,j1,j2,j3,j4,j5⟩:=aiN z3 z1 z2 ZZ (by omega) hu;rw[z8]at g1;injection g1 with g1;subst g1;have nx:=(j4.nx j1 j2).2.2.1.length_le;rw[j3.pQ]at nx;exact⟨z7.1.step ZZ z1 z2 j3 j1 j2 j5 j4,z7.2.1.step ZZ j3 j1 j2 j4,by omega⟩
    have D:=axp E I U hn e';rw[e]at D;injection D with D;have T:y=y':=bE Prod.fst D;subst T;exact⟨q7,q6,by omega⟩
   ·refine(no ?_).elim;unfold nE;rw[sF c E,az,sE c E,az,I,bI,ax,dy O,ax,U,gu,av,cP,az,show aT a.n 0 500=false from nN.2 λZ=>hn (bu.1 Z)];rfl
  ·by_cases k4:a.kind=4
   ·by_cases hn:aT a.n 0 1=true
    ·have Bh:200<=c.config.interval/\c.config.interval<=259:=hc.2.2.2.2.1;obtain⟨r,er,_,_,_,_⟩:=aiP h.rf (by have:=hv.iA.1;omega) (a.n==(1:Int));have D:nE c a=some (HZ c r,true):=by
      unfold nE;rw[sF c E,az,sE c E,az,I,bI,ax,dy O,ax,dy U,ax,dy Y,ax,k4,gu,av,cP,az,hn,av,er,az];rfl
     rw[e]at D;injection D with D;have T:y=HZ c r:=bE Prod.fst D;subst T;exact⟨⟨hB.bS,hB.b7,hB.bA⟩,⟨C.mM,C.mF,C.mD,C.mA,C.mQ,C.mN,C.mI,C.mR,C.mT,C.mL,C.mV⟩,by show c.now+40*(c.queue.length:Int)<=_;omega⟩
    ·refine(no ?_).elim;unfold nE;rw[sF c E,az,sE c E,az,I,bI,ax,dy O,ax,dy U,ax,dy Y,ax,k4,gu,av,cP,az,nN.2 hn];rfl
   ·by_cases k5:a.kind=5
    ·cases hf:ov c.config a.jl with
     | false=>
      refine(no ?_).elim;unfold nE;rw[sF c E,az,sE c E,az,I,bI,ax,dy O,ax,dy U,ax,dy Y,ax,dy k4,ax,k5,gu,av,A4 _ _ (by omega),az,hf];rfl
     | true=>
      have hp:=(zm (by omega) hf).2;have D:nE c a=some (⟨c.config,⟨c.box.bW,a.jl,true⟩,c.now,c.aG,c.ready,c.array,c.spare,c.ay,c.bF,c.guard,c.pending,c.queue,c.shares,c.drain,c.aS,c.dJ,c.errors,c.trace,c.aZ⟩,true):=by
       unfold nE;rw[sF c E,az,sE c E,az,I,bI,ax,dy O,ax,dy U,ax,dy Y,ax,dy k4,ax,k5,gu,av,A4 _ _ (by omega),az,hf,av,ait c.box E.1 a.jl hw,az,hp,av]
      rw[e]at D;injection D with D;have T:=bE Prod.fst D;dsimp only at T;subst T;exact⟨⟨hB.bS,hB.b7,hB.bA⟩,⟨C.mM,C.mF,C.mD,C.mA,C.mQ,C.mN,C.mI,C.mR,C.mT,C.mL,C.mV⟩,by show c.now+40*(c.queue.length:Int)<=_;omega⟩
    ·by_cases k6:a.kind=6
     ·obtain⟨t',y',e',q1,q2,q3,q4,q5⟩:=aip E I a.addr.aA a.addr.row;have D:nE c a=some (y',t'):=by
       unfold nE;rw[sF c E,az,sE c E,az,I,bI,ax,dy O,ax,dy U,ax,dy Y,ax,dy k4,ax,dy k5,ax,k6,gu,av,e',az]
      rw[e]at D;injection D with D;have T:y=y':=bE Prod.fst D;have et:true=t':=bE Prod.snd D;subst T et;have hm:=C.ret E I q1 q2 (q5 rfl) q4;obtain⟨l,s,rfl⟩:=q4;exact⟨⟨hB.bS,hB.b7,hB.bA⟩,hm,by show c.now+40*(c.queue.length:Int)<=_;omega⟩
     ·refine(no ?_).elim;unfold nE;rw[sF c E,az,sE c E,az,I,bI,ax,dy O,ax,dy U,ax,dy Y,ax,dy k4,ax,dy k5,ax,dy k6,ax]
def tU.new{c:fB}{p:fA}(E:gB c)(C:zl p):tU (sN c p):=by
 have I:=dZ c.aq
 refine⟨List.Pairwise.nil,λb hb=>?_,λa D=>by cases D⟩
 have hb:(b:Int)<aE c.aq:=hb;show 7<=(List.replicate (aE c.aq).toNat p.dx).getD b 0;rw[cQ,List.getElem?_replicate,aV];have:=C.2.1;show 7<=p.dx;omega
def Me.new{c:fB}{p:fA}:Me [] (sN c p):=by
 refine⟨⟨λ_=>0,Mm.new c.aq,λl O l1=>?_⟩,rfl,λi _ E=>absurd E (Nat.not_lt_zero _),List.Pairwise.nil,λq I=>(by cases I),List.nodup_nil,λr C=>(by cases C),λx D=>(by cases D),⟨λx D=>(by cases D),λr C=>(by cases C)⟩,rfl,λr C=>(by cases C)⟩
 show (List.replicate (ck c.aq).toNat (0:Int)).getD l.toNat 0=0;rw[cQ,List.getElem?_replicate];split<;>rfl
def Me.fin{C:aa aR}{c:au}(h:Me C c)(hz:bR c)(hk:bM c=true)(hl:1<=ck c.config.aq/\ck c.config.aq<=1024)(hn:c.now<=2951):Rb (ck c.config.aq) C c.aZ=true/\c.aZ.foldl (CK C) 0<=3000:=by
 refine⟨?_,?_⟩
 ·have D:zk (ck c.config.aq) C c.aZ=(iM (ck c.config.aq) C c.aZ).2:=aV hl;have O:=h.mF;have T:=h.mD;unfold Rb;rw[D];generalize (iM (ck c.config.aq) C c.aZ).2=fs at O T;rw[bu.2 hl,O,gu,dn,dn];unfold Ra;rw[cm];intro i hi;have hi:=gq.1 hi;rw[aha hi (by omega),T i (by omega) hi,gu,Bool.true_or,Bool.and_true,ff]
  refine jV.2 λx D U=>?_
  obtain⟨j,hj,e⟩:=List.mem_take_iff_getElem.1 D;have E:=(List.nodup_append.1 h.mN).2.1;unfold List.Nodup at E;rw[List.pairwise_map,sU]at E;have:=E j i (by omega) hi (by omega);rw[<-e]at U;exact this (dO.1 U)
 ·have Y:=h.mT;have key:∀ (l:aa cI),(∀ x∈l,0<=x.at_/\x.at_<=c.now)->∀ m:Int,m<=3000->l.foldl (CK C) m<=3000:=by
   intro l
   induction l with
   |nil=>intro _ m I;exact I
   | cons x l Z=>
    intro D m I;rw[List.foldl_cons]
    refine Z (λy hy=>D y (.tail _ hy)) _ ?_
    have h1:=D x (.head _);unfold CK;cases hf:C.find? (λr=>r.id==x.id)with
    |none=>exact I
    | some r=>
     have h2:=Y.2 r (sR hf);dsimp only;rw[bh (n:=x.at_-r.at_)];split<;>omega
  exact key c.aZ Y.1 0 (by decide)
def ayj(l:aa Int)(h:l.length<=maxLen):XF l=some true:=by
 unfold XF WE bZ;rw[az];by_cases ajK:(l.length:Int) > 1048576
 ·rw[bf ajK];rfl
 ·rw[bz ajK,ax];obtain⟨c,p,bq,e1,E,Y,hl,hw⟩:=ayh l (by omega);rw[e1,az];dsimp only;rw[awI E Y,az];dsimp only;obtain⟨z,e,y,C,rfl,Z,y2,I,O,y5,T,y7⟩:=QL (step:=LZ) bq.length (λk x=>∃ (y:au) (C:aa aR),x=(((),(),(),true,(),(k:Int),()),(y,c,bq,C,()))/\bR y/\bM y=true/\Iv k y/\y.config=c/\tU y/\Me C y/\y.now+40*(y.queue.length:Int)<=40*(k:Int))
   (λz=>∃(y:au) (C:aa aR),z = .inl (((),(),true,(),()),(y,c,C,()))/\bR y/\bM y=true/\Iv bq.length y/\y.config=c/\tU y/\Me C y/\y.now+40*(y.queue.length:Int)<=40*(bq.length:Int)) bC (x:=(((),(),(),true,(),(0:Int),()),(sN c p,c,bq,([]:aa aR),()))) ⟨sN c p,[],rfl,awL E Y,awM E Y,Iv.new E Y,rfl,tU.new E Y,Me.new,dU _⟩ (by
   rintro k D x ⟨y,C,rfl,Z,y2,I,O,y5,T,y7⟩;obtain⟨⟨w1,w2⟩,w3⟩:=hw _ (cX D);have ayM:=T.mL;have hy3:=I.iT.2;obtain⟨v,t,f1,f2,f3,f4,f5,f6,U,f8⟩:=ayi T y5 I Z y2 (by rw[O];exact E) (by omega) (by omega) bq[k] w1 w2 w3;unfold LZ aM xG xL xM;dsimp only;rw[bf (show (k:Int)<(bq.length:Int) by omega),av,aP ⟨by omega,by omega⟩];simp only[bD];rw[aP D,aP D,cC (i:=k)];have xk:∀SJ,Me SJ v->∃y:au,∃ajL:aa aR,(((),(),(),true,(),((k+1:Nat):Int),()),(v,c,bq,SJ,()))=(((),(),(),true,(),((k+1:Nat):Int),()),(y,c,bq,ajL,()))/\bR y/\bM y=true/\Iv (k+1) y/\y.config=c/\tU y/\Me ajL y/\y.now+40*(y.queue.length:Int)<=40*((k+1:Nat):Int):=λSJ hm=>⟨v,SJ,rfl,f2,f3,f4,f5.trans O,f6,hm,by omega⟩
   cases t with
   | false=>
    rw[Bool.false_and,ax]at U;exact⟨_,(bE (λo=>Option.bind o _) f1).trans rfl,xk _ U⟩
   | true=>
    rw[dn]at U;cases uD:bq[k].kind==(1:Int)with
    | false=>
     rw[uD,ax]at U
     refine⟨_,(bE (λo=>Option.bind o _) f1).trans ?_,xk _ U⟩
     rw[az];dsimp only;rw[av,aP ⟨by omega,D⟩,aP D,uD,ax]
    | true=>
     rw[uD,av]at U
     refine⟨_,(bE (λo=>Option.bind o _) f1).trans ?_,xk _ U⟩
     rw[az];dsimp only;rw[av,aP ⟨by omega,D⟩,aP D,uD,av,aP ⟨by omega,D⟩,aP D,fR (by rw[mj];omega),av];rfl) (by
   rintro x ⟨y,C,rfl,Z,y2,I,O,y5,T,y7⟩;unfold LZ aM xG xL xM;dsimp only;rw[bz (show ¬ (bq.length:Int)<(bq.length:Int) by omega),ax];exact⟨_,rfl,y,C,rfl,Z,y2,I,O,y5,T,y7⟩) (cM)
  refine(bE (λo=>Option.bind o _) e).trans ?_
  rw[az];simp only[iJ];have sO:gB y.config:=by rw[O];exact E
  obtain⟨z,e2,z1,z2,z3,z4,z5,z6⟩:=ax3 (J:=Me C) (λx j y h1 h2 h3 h4 h5 h6 h7 h8 h9=>h4.step h1 h2 h3 h5 h6 h7 h8 h9) I y5 T Z y2 sO (by omega) (by omega);have hq:=Pq.of z1 z2;have rY:=rz z.config.aq;have h2:=axu z1 z2;obtain⟨r1,_⟩:=ajG hq;have h2:2<=sQ z:=h2;have hzc:z.config=c:=z3.trans O;have hml:=z6.mL;have Fa:z.queue.length=0:=by rw[z4];rfl
  have C7:=I.iT.2;have hmy:=T.mL;obtain⟨f1,f2⟩:=z6.fin z1 z2 ⟨by omega,by omega⟩ z5;rw[e2,az,av,Fa];show (bif ((z.aZ.length:Int)==(C.length:Int))then _ else _)=_;rw[show ((z.aZ.length:Int)==(C.length:Int))=true from by rw[dO];omega,av,agl,az,<-hzc,at0 _ _ _ (by omega) (by omega),az,f1,av,atU _ _ (by omega) (by omega),az,bf f2]
def ayk(C:Value)(w:World)(D:RdL .u8 (λx:Int=>0<=x/\x<=255) w C):Calls Tryz.prog 3 #[C] w λe w'=>e = .returned (.bool true)/\Below w.heap.size w w':=by
 obtain⟨l,hl,_,E⟩:=D;exact an9 asJ (aoa (ai:=[(false,.sl .u8)]) (x:=(l,())) (by kernel_rfl) (ayj l hl)) (aob E)
end Go.Proofs.YthmgjjfedieljaaGreat
