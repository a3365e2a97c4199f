/-
  Plain laws. Nothing here is a claim.
-/
import Derived.Test.YtaepnacbmeajoaaDoorVZ
import Derived.Test.YtaepnacbmeajoaaDoorOpenV
import Derived.Test.YtaepnacbmeajoaaDoorG1
import Derived.Test.YtaepnacbmeajoaaDoorG2
namespace Go.Proofs.YtaepnacbmeajoaaDoor
open Go.RowKit
set_option linter.unusedVariables false
set_option linter.unusedSimpArgs false
set_option maxRecDepth 100000
theorem w64{n:Int}(h1:-9223372036854775808<=n)(h2:n<9223372036854775808):IntKind.i64.wrap n=n:=by
 rw[IntKind.wrap_i64];omega
theorem iter_ind{α β:Type}{step:α->Option (α⊕β)}(I:α->Prop)(m:α->Nat)(Q:β->Prop)
  (h:∀ x,I x->(∃ y,step x=some (.inl y)/\I y/\m y<m x)\/∃ z,step x=some (.inr z)/\Q z):
  ∀ (n:Nat) (x:α),I x->m x<n->∃ z,iter step n x=some z/\Q z
 | 0,x,_,hm=>by omega
 | n+1,x,hx,hm=>by
  unfold iter
  rcases h x hx with ⟨y,h1,h2,h3⟩ | ⟨z,h1,h2⟩
  ·rw[h1]
   exact iter_ind I m Q h n y h2 (by omega)
  ·rw[h1]
   exact⟨z,rfl,h2⟩
theorem bindS{α β:Type}(x:α)(f:α->Option β):(some x).bind f=f x:=rfl
/-- A loop that stops early where a test of an element fails. -/
theorem iter_all{α β T:Type}{step:α->Option (α⊕β)}(l:List T)(q:T->Bool)(S:Nat->α)(zf z:β)(fuel:Nat)(hs:∀ k (h:k<l.length),step (S k)=some (bif q l[k]then .inl (S (k+1))else .inr zf))(hz:step (S l.length)=some (.inr z))(hf:l.length<fuel):
  iter step fuel (S 0)=some (bif l.all q then z else zf):=by
 have key:∀ (n i fuel:Nat),i+n=l.length->n<fuel->iter step fuel (S i)=some (bif (l.drop i).all q then z else zf):=by
  intro n
  induction n with
  | zero=>
   intro i fuel hi hf
   match fuel,hf with
   | f+1,_=>
    have:i=l.length:=by omega
    subst this
    unfold iter
    rw[hz]
    simp
  | succ n ih=>
   intro i fuel hi hf
   match fuel,hf with
   | f+1,hf=>
    have hlt:i<l.length:=by omega
    unfold iter
    rw[hs i hlt,List.drop_eq_getElem_cons hlt,List.all_cons]
    cases q l[i]with
    | true=>simp only[cond_true,Bool.true_and];exact ih (i+1) f (by omega) (by omega)
    | false=>rfl
 exact key l.length 0 fuel (by omega) hf
/-- A loop that goes on to the end. -/
theorem iter_to{α β:Type}{step:α->Option (α⊕β)}(n:Nat)(S:Nat->α)(z:β)(fuel:Nat)(hs:∀ k,k<n->step (S k)=some (.inl (S (k+1))))(hz:step (S n)=some (.inr z))(hf:n<fuel):iter step fuel (S 0)=some z:=by
 have key:∀ (m i fuel:Nat),i+m=n->m<fuel->iter step fuel (S i)=some z:=by
  intro m
  induction m with
  | zero=>
   intro i fuel hi hf
   match fuel,hf with
   | f+1,_=>
    have:i=n:=by omega
    subst this
    unfold iter
    rw[hz]
  | succ m ih=>
   intro i fuel hi hf
   match fuel,hf with
   | f+1,hf=>
    unfold iter
    rw[hs i (by omega)]
    exact ih (i+1) f (by omega) (by omega)
 exact key n 0 fuel (by omega) hf
theorem beI{x y:Int}(h:¬ x=y):(x==y)=false:=by simp[h]
theorem okLen_t{n:Nat}(h:n<1073741824):okLen n=true:=decide_eq_true h
theorem wrapS{i:Nat}(h:i<4611686018427387904):IntKind.i64.wrap ((i:Int)+1)=((i+1:Nat):Int):=by
 rw[w64 (by omega) (by omega)];simp
theorem bigLt{n:Nat}(h:n<1073741824):n<big:=by unfold big;omega
def inR(x a b:Int):Bool:=decide (a<=x)&&decide (x<=b)
theorem inR_iff{x a b:Int}:inR x a b=true ↔ a<=x/\x<=b:=by simp[inR]
theorem m_between(x a b:Int):fi_between x a b=some (inR x a b):=by
 unfold fi_between inR
 by_cases h:a<=x <;>simp[h]
theorem m_in(x a b:Int):fs_l01In x a b=some (inR x a b):=m_between x a b
def geoOk(g:DGeometry):Bool:=inR g.groups 1 2&&inR g.banks 1 4&&inR g.rows 2 16&&inR g.cols 1 8
theorem m_sGeometryOk(g:DGeometry):fs_GeometryOk g=some (geoOk g):=by
 unfold fs_GeometryOk geoOk
 simp only[m_in,bindS]
 cases inR g.groups 1 2 <;>cases inR g.banks 1 4 <;>cases inR g.rows 2 16 <;>rfl
theorem geo_b{g:DGeometry}(h:geoOk g=true):1<=g.groups/\g.groups<=2/\1<=g.banks/\g.banks<=4/\2<=g.rows/\g.rows<=16/\1<=g.cols/\g.cols<=8:=by
 simp only[geoOk,inR,Bool.and_eq_true,decide_eq_true_eq]at h
 omega
def banksN(g:DGeometry):Int:=bif geoOk g then g.groups*g.banks else 0
theorem banksN_b(g:DGeometry):0<=banksN g/\banksN g<=8:=by
 unfold banksN
 cases h:geoOk g with
 | false=>simp
 | true=>
  obtain⟨h1,h2,h3,h4,_⟩:=geo_b h
  simp only[cond_true]
  rcases(by omega:g.groups=1\/g.groups=2)with e | e <;>rw[e] <;>omega
theorem banksN_pos{g:DGeometry}(h:geoOk g=true):1<=banksN g:=by
 obtain⟨h1,h2,h3,h4,_⟩:=geo_b h
 simp only[banksN,h,cond_true]
 rcases(by omega:g.groups=1\/g.groups=2)with e | e <;>rw[e] <;>omega
theorem m_sBankCount(g:DGeometry):fs_BankCount g=some (banksN g):=by
 have hb:=banksN_b g
 unfold fs_BankCount
 rw[m_sGeometryOk,bindS]
 unfold banksN at hb ⊢
 cases h:geoOk g with
 | false=>rfl
 | true=>
  rw[h]at hb
  simp only[cond_true]at hb
  simp only[Bool.not_true,cond_false,cond_true]
  rw[w64 (by omega) (by omega)]
/-- Rows of all banks;lines. -/
def rowsN(g:DGeometry):Int:=bif geoOk g then banksN g*g.rows else 0
def linesN(g:DGeometry):Int:=bif geoOk g then banksN g*g.rows*g.cols else 0
theorem mul_b{a b A B:Int}(h1:0<=a)(h2:a<=A)(h3:0<=b)(h4:b<=B):0<=a*b/\a*b<=A*B:=
 ⟨Int.mul_nonneg h1 h3,Int.le_trans (Int.mul_le_mul_of_nonneg_right h2 h3) (Int.mul_le_mul_of_nonneg_left h4 (by omega))⟩
theorem rowsN_b(g:DGeometry):0<=rowsN g/\rowsN g<=128:=by
 unfold rowsN
 cases h:geoOk g with
 | false=>simp
 | true=>
  obtain⟨_,_,_,_,h5,h6,_⟩:=geo_b h
  have:=banksN_b g
  exact mul_b this.1 this.2 (by omega) h6
theorem linesN_b(g:DGeometry):0<=linesN g/\linesN g<=1024:=by
 have hr:=rowsN_b g
 unfold linesN rowsN at *
 cases h:geoOk g with
 | false=>simp
 | true=>
  rw[h]at hr
  obtain⟨_,_,_,_,h5,h6,h7,h8⟩:=geo_b h
  exact mul_b hr.1 hr.2 (by omega) h8
theorem m_sLineCount(g:DGeometry):fs_LineCount g=some (linesN g):=by
 have h1:=linesN_b g
 have h2:=rowsN_b g
 unfold fs_LineCount
 rw[m_sGeometryOk,bindS,m_sBankCount,bindS]
 unfold linesN rowsN at *
 cases h:geoOk g with
 | false=>rfl
 | true=>
  rw[h]at h1 h2
  simp only[cond_true]at h1 h2
  simp only[Bool.not_true,cond_true,cond_false]
  rw[w64 (n:=banksN g*g.rows) (by omega) (by omega),w64 (by omega) (by omega)]
def addrOk(g:DGeometry)(a:DAddr):Bool:=geoOk g&&inR a.bank 0 (banksN g-1)&&inR a.row 0 (g.rows-1)&&inR a.col 0 (g.cols-1)
theorem addr_b{g:DGeometry}{a:DAddr}(h:addrOk g a=true):geoOk g=true/\0<=a.bank/\a.bank<banksN g/\0<=a.row/\a.row<g.rows/\0<=a.col/\a.col<g.cols:=by
 simp only[addrOk,inR,Bool.and_eq_true,decide_eq_true_eq]at h
 exact⟨h.1.1.1,by omega⟩
theorem addr_mk{g:DGeometry}{a:DAddr}(h:geoOk g=true)(h1:0<=a.bank)(h2:a.bank<banksN g)(h3:0<=a.row)(h4:a.row<g.rows)(h5:0<=a.col)(h6:a.col<g.cols):addrOk g a=true:=by
 simp only[addrOk,inR,Bool.and_eq_true,decide_eq_true_eq]
 exact⟨⟨⟨h,by omega⟩,by omega⟩,by omega⟩
theorem wrap_succ{i:Nat}(h:i<4611686018427387904):IntKind.i64.wrap ((i:Int)+1)=((i+1:Nat):Int):=by
 rw[w64 (by omega) (by omega)];simp
theorem and255(y:Int):0<=bits .and .i64 y 255/\bits .and .i64 y 255<=255:=by
 have e:bits .and .i64 y 255=IntKind.i64.wrap ((BitVec.ofInt 64 y &&& BitVec.ofInt 64 255).toNat:Int):=rfl
 have h:(BitVec.ofInt 64 y &&& BitVec.ofInt 64 255).toNat<=255:=by
  rw[BitVec.toNat_and]
  exact Nat.le_trans Nat.and_le_right (by decide)
 rw[e,IntKind.wrap_i64]
 omega
/-- A cursor over some bytes. -/
structure Cok (b:List Int) (c:DCur):Prop where
 eq:c.b=b
 lo:0<=c.i
 hi:c.i<=b.length
 len:b.length<=1073741823
theorem Cok.eta{b:List Int}{c:DCur}(h:Cok b c):(⟨b,c.i,c.h⟩:DCur)=c:=by
 obtain⟨b',i,h'⟩:=c
 have:=h.eq
 simp only at this
 subst this
 rfl
/-- A draw gives a value of P,and the cursor goes on. -/
def Dr{α:Type}(b:List Int)(f:Option (α×(DCur×Unit)))(P:α->Prop):Prop:=∃ x c,f=some (x,(c,()))/\Cok b c/\P x
theorem Dr.bind{α β:Type}{b:List Int}{f:Option (α×(DCur×Unit))}{g:α×(DCur×Unit)->Option (β×(DCur×Unit))}{P:α->Prop}{Q:β->Prop}(h:Dr b f P)(hg:∀ x c,P x->Cok b c->Dr b (g (x,(c,()))) Q):Dr b (f.bind g) Q:=by
 obtain⟨x,c,h1,h2,h3⟩:=h
 rw[h1]
 exact hg x c h3 h2
theorem Dr.pure{α:Type}{b:List Int}{x:α}{c:DCur}{P:α->Prop}(hc:Cok b c)(hp:P x):Dr b (some (x,(c,()))) P:=⟨x,c,rfl,hc,hp⟩
/-- The same where the cursor is thrown away. -/
theorem Dr.last{α β:Type}{b:List Int}{f:Option (α×(DCur×Unit))}{g:α×(DCur×Unit)->Option β}{P:α->Prop}{Q:Option β->Prop}(h:Dr b f P)(hg:∀ x c,P x->Cok b c->Q (g (x,(c,())))):Q (f.bind g):=by
 obtain⟨x,c,h1,h2,h3⟩:=h
 rw[h1]
 exact hg x c h3 h2
theorem p_new(l:List Int)(h:l.length<=1073741823):∃ y,fs_l01New l=some y:=by
 unfold fs_l01New
 obtain⟨z,h1,h2⟩:=iter_ind (step:=Lfs_l01New_0)
  (fun x=>∃ (i:Nat) (y:Int),x=(((),y,(i:Int),()),(l,()))/\i<=l.length)
  (fun x=>l.length-x.1.2.2.1.toNat) (fun z=>∃ y,(Sum.elim (fun z3:((Unit×Int×Unit)×((List Int)×Unit))=>some z3.1.2.1) (fun z=>nomatch z)) z=some y) (by
   rintro x ⟨i,y,rfl,hi⟩
   unfold Lfs_l01New_0
   dsimp only
   by_cases h':i<l.length
   ·have c1:decide ((i:Int)<(l.length:Int))=true:=by simpa using h'
    have c2:0<=(i:Int)/\(i:Int).toNat<l.length:=⟨by omega,by simpa using h'⟩
    rw[c1,cond_true]
    cases h4:decide ((i:Int)<4000)with
    | true=>
     rw[cond_true,dif_pos c2]
     left
     refine⟨_,rfl,⟨i+1,_,by rw[wrap_succ (by omega)],by omega⟩,?_⟩
     dsimp only
     rw[wrap_succ (by omega)]
     omega
    | false=>
     rw[cond_false]
     right
     exact⟨_,rfl,_,rfl⟩
   ·have c1:decide ((i:Int)<(l.length:Int))=false:=by simpa using h'
    rw[c1,cond_false]
    right
    exact⟨_,rfl,_,rfl⟩)
  big (((),(IntKind.i64.wrap ((97301:Int)+(l.length:Int))),((0:Nat):Int),()),(l,())) ⟨0,_,rfl,by omega⟩ (by dsimp only;unfold big;omega)
 have h1:iter Lfs_l01New_0 big (((),(IntKind.i64.wrap ((97301:Int)+(l.length:Int))),(0:Int),()),(l,()))=some z:=h1
 rw[h1]
 exact h2
theorem new_cok(l:List Int)(y:Int)(h:l.length<=1073741823):Cok l ⟨l,0,y⟩:=⟨rfl,Int.le_refl _,by simp,h⟩
theorem p_byte{b:List Int}{c:DCur}(hc:Cok b c):Dr b (fs_l01Byte c) fun x=>0<=x/\x<=255:=by
 have hb:=hc.eq
 have h1:=hc.lo
 have h2:=hc.hi
 have h3:=hc.len
 unfold fs_l01Byte
 by_cases h:c.i<(c.b.length:Int)
 ·have c1:decide (c.i<(c.b.length:Int))=true:=by simpa using h
  rw[c1,cond_true,dif_pos ⟨h1,by omega⟩]
  refine Dr.pure ⟨hb,?_,?_,h3⟩ (and255 _)
  ·show 0<=IntKind.i64.wrap (c.i+1)
   rw[hb]at h
   rw[w64 (by omega) (by omega)];omega
  ·show IntKind.i64.wrap (c.i+1)<=_
   rw[hb]at h
   rw[w64 (by omega) (by omega)];omega
 ·have c1:decide (c.i<(c.b.length:Int))=false:=by simpa using h
  rw[c1,cond_false]
  exact Dr.pure ⟨hb,h1,h2,h3⟩ (and255 _)
theorem tmod_bd{x n:Int}(h:0<=x)(hn:0<n):0<=x.tmod n/\x.tmod n<n:=by
 rw[Int.tmod_eq_emod_of_nonneg h]
 exact⟨Int.emod_nonneg _ (by omega),Int.emod_lt_of_pos _ hn⟩
theorem p_below{b:List Int}{c:DCur}(hc:Cok b c)(n:Int):Dr b (fs_l01Below c n) fun x=>0<=x/\(n<=0->x=0)/\(0<n->x<n):=by
 unfold fs_l01Below
 by_cases h0:n<=0
 ·have c1:decide (n<=0)=true:=by simpa using h0
  rw[c1,cond_true]
  exact Dr.pure hc ⟨Int.le_refl _,fun _=>rfl,fun h=>by omega⟩
 ·have c1:decide (n<=0)=false:=by simpa using h0
  have hn:¬ n=0:=by omega
  rw[c1,cond_false]
  by_cases h1:n<=256
  ·have c2:decide (n<=256)=true:=by simpa using h1
   rw[c2,cond_true]
   refine(p_byte hc).bind fun x c' hx hc'=>?_
   rw[if_neg hn]
   dsimp only
   rw[hc.eq,hc'.eta]
   have:=tmod_bd hx.1 (show 0<n by omega)
   exact Dr.pure hc' ⟨this.1,fun h=>by omega,fun _=>this.2⟩
  ·have c2:decide (n<=256)=false:=by simpa using h1
   rw[c2,cond_false,hc.eq]
   refine(p_byte hc).bind fun x1 k1 hx1 hk1=>?_
   dsimp only
   rw[hk1.eta]
   refine(p_byte hk1).bind fun x2 k2 hx2 hk2=>?_
   dsimp only
   rw[hk2.eta]
   refine(p_byte hk2).bind fun x3 k3 hx3 hk3=>?_
   dsimp only
   rw[hk3.eta]
   refine(p_byte hk3).bind fun x4 k4 hx4 hk4=>?_
   rw[if_neg hn]
   dsimp only
   rw[hk4.eta]
   rw[w64 (n:=x1*16777216) (by omega) (by omega),w64 (n:=x2*65536) (by omega) (by omega),w64 (n:=x1*16777216+x2*65536) (by omega) (by omega),w64 (n:=x3*256) (by omega) (by omega),w64 (n:=x1*16777216+x2*65536+x3*256) (by omega) (by omega),w64 (n:=x1*16777216+x2*65536+x3*256+x4) (by omega) (by omega)]
   have:=tmod_bd (x:=x1*16777216+x2*65536+x3*256+x4) (by omega) (show 0<n by omega)
   exact Dr.pure hk4 ⟨this.1,fun h=>by omega,fun _=>this.2⟩
theorem take_succ_get{α:Type}{l:List α}{i:Nat}(h:i<l.length):l.take (i+1)=l.take i++[l[i]]:=by
 rw[List.take_succ_eq_append_getElem h]
def gmT:Nat:=116196760129267793630862849262464326346044543732748708940920453221664288556434379745879494961270582141731748813355742142288220638766218855867759359510984593843506004200114943278699875244065120512813025380665946106619127097398772031257643617143689515450995722003729973585221105779229319991106539050771048038400
def gm(a b:Nat):Nat:=(gmT / 2 ^ (4*(16*a+b))) % 16
def byL:List Nat:=[8,14,7,1]
def byG(k:Nat):Nat:=byL.getD k 0
/-- One turn of the inner loop,in row m (i=m+3). -/
def inn(r:List Nat)(m f:Nat):Nat->List Nat
 | 0=>r
 | k+1=>(inn r m f k).set (m+k) ((inn r m f k).getD (m+k) 0 ^^^ gm (byG k) f)
/-- Behind t rows. -/
def out(r:List Nat):Nat->List Nat
 | 0=>r
 | t+1=>inn (out r t) (7-t) ((out r t).getD (10-t) 0) 4
theorem p_pick{b:List Int}{c:DCur}(hc:Cok b c)(l:List Int)(hl:0<l.length):Dr b (fs_l01PickInt c l) fun x=>x∈l:=by
 unfold fs_l01PickInt
 rw[hc.eq]
 refine(p_below hc _).bind fun x1 k1 hx1 hk1=>?_
 have a1:=hx1.2.2 (by omega)
 rw[dif_pos ⟨hx1.1,by dsimp only;omega⟩]
 dsimp only
 rw[hk1.eta]
 exact Dr.pure hk1 (List.getElem_mem _)
theorem p_once{b:List Int}{c:DCur}(hc:Cok b c)(n:Int):Dr b (fs_l01Once c n) fun _=>True:=by
 unfold fs_l01Once
 rw[hc.eq]
 refine(p_below hc _).bind fun x1 k1 hx1 hk1=>?_
 dsimp only
 rw[hk1.eta]
 exact Dr.pure hk1 trivial
theorem p_l03Addr{b:List Int}{c:DCur}(hc:Cok b c){g:DGeometry}(hg:geoOk g=true):Dr b (fs_l03Addr c g) fun a=>addrOk g a=true:=by
 have hp:=banksN_pos hg
 obtain⟨_,_,_,_,g5,g6,g7,g8⟩:=geo_b hg
 unfold fs_l03Addr
 rw[m_sBankCount,bindS,hc.eq]
 refine(p_below hc _).bind fun x1 k1 hx1 hk1=>?_
 dsimp only
 rw[hk1.eta]
 refine(p_below hk1 _).bind fun x2 k2 hx2 hk2=>?_
 dsimp only
 rw[hk2.eta]
 refine(p_below hk2 _).bind fun x3 k3 hx3 hk3=>?_
 dsimp only
 rw[hk3.eta]
 exact Dr.pure hk3 (addr_mk hg hx1.1 (hx1.2.2 (by omega)) hx2.1 (hx2.2.2 (by omega)) hx3.1 (hx3.2.2 (by omega)))
/-- A value is given,and it is of P. -/
def Gv{γ:Type}(P:γ->Prop)(o:Option γ):Prop:=∃ y,o=some y/\P y
theorem Gv.pure{γ:Type}{P:γ->Prop}{y:γ}(h:P y):Gv P (some y):=⟨y,rfl,h⟩
theorem Gv.cond{γ:Type}{P:γ->Prop}{b:Bool}{x y:Option γ}(h1:b=true->Gv P x)(h2:b=false->Gv P y):Gv P (bif b then x else y):=by
 cases b
 ·exact h2 rfl
 ·exact h1 rfl
theorem Gv.bind{α γ:Type}{Q:α->Prop}{P:γ->Prop}{f:Option α}{g:α->Option γ}(h:Gv Q f)(hg:∀ y,Q y->Gv P (g y)):Gv P (f.bind g):=by
 obtain⟨y,rfl,hy⟩:=h
 exact hg y hy
theorem Gv.ite{γ:Type}{P:γ->Prop}{c:Prop}[Decidable c]{x y:Option γ}(hc:c)(h:Gv P x):Gv P (if c then x else y):=by
 rw[if_pos hc];exact h
theorem Gv.ift{γ:Type}{P:γ->Prop}{c:Prop}[Decidable c]{x y:Option γ}(hc:¬ c)(h:Gv P y):Gv P (if c then x else y):=by
 rw[if_neg hc];exact h
theorem Gv.loop{α β γ:Type}{step:α->Option (α⊕β)}(n:Nat)(I:Nat->α->Prop){P:γ->Prop}{K:β->Option γ}{x:α}{fuel:Nat}(h0:I 0 x)(hf:n<fuel)(hs:∀ k,k<=n->∀ x,I k x->Gv (Sum.elim (fun y=>k<n/\I (k+1) y) (fun z=>Gv P (K z))) (step x)):Gv P ((iter step fuel x).bind K):=by
 have key:∀ (m i fuel:Nat) (x:α),i+m=n->m<fuel->I i x->Gv P ((iter step fuel x).bind K):=by
  intro m
  induction m with
  | zero=>
   intro i fuel x hi hf hx
   match fuel,hf with
   | f+1,_=>
    obtain⟨y,h1,h2⟩:=hs i (by omega) x hx
    unfold iter
    rw[h1]
    cases y with
    | inl y=>exact absurd h2.1 (by omega)
    | inr z=>exact h2
  | succ m ih=>
   intro i fuel x hi hf hx
   match fuel,hf with
   | f+1,hf=>
    obtain⟨y,h1,h2⟩:=hs i (by omega) x hx
    unfold iter
    rw[h1]
    cases y with
    | inl y=>exact ih (i+1) f y (by omega) (by omega) h2.2
    | inr z=>exact h2
 exact key n 0 fuel x (by omega) hf h0
def itoaB(n:Int):ByteArray:=⟨(Lib.itoa n).toArray⟩
theorem bl_ext{a b:ByteArray}(h:a.data.toList=b.data.toList):a=b:=by
 obtain⟨⟨a⟩⟩:=a
 obtain⟨⟨b⟩⟩:=b
 have h:a=b:=h
 rw[h]
theorem bl_app(a b:ByteArray):(a++b).data.toList=a.data.toList++b.data.toList:=by
 rw[ByteArray.data_append,Array.toList_append]
theorem sz_app(a b:ByteArray):(a++b).size=a.size+b.size:=by
 show (a++b).data.size=a.data.size+b.data.size
 rw[ByteArray.data_append,Array.size_append]
def dd(v:Nat):List UInt8:=if v=0 then []else Lib.decDigits v
theorem dd_step{v:Nat}(h:v≠0):dd v=dd (v / 10)++[UInt8.ofNat (48+v % 10)]:=by
 unfold dd
 rw[if_neg h,Lib.decDigits]
 by_cases h10:v<10
 ·rw[dif_pos h10,if_pos (by omega),Nat.mod_eq_of_lt h10];rfl
 ·rw[dif_neg h10,if_neg (by omega)]
theorem m_figure{d:Nat}(h:d<10):fs_l01Figure (d:Int)=some (48+(d:Int)):=by
 unfold fs_l01Figure
 rw[decide_eq_true (by omega),cond_true,w64 (by omega) (by omega),IntKind.wrap_u8]
 congr 1
 omega
theorem strOf1(d:Nat):(strOfNums [48+(d:Int)]).data.toList=[UInt8.ofNat (48+d)]:=by
 have:(48+(d:Int)).toNat=48+d:=by omega
 show [UInt8.ofNat (48+(d:Int)).toNat]=_
 rw[this]
theorem strOf1_size(x:Int):(strOfNums [x]).size=1:=rfl
theorem tm10(v:Nat):(v:Int).tmod 10=((v % 10:Nat):Int)/\(v:Int).tdiv 10=((v / 10:Nat):Int):=by
 constructor
 ·rw[Int.tmod_eq_emod_of_nonneg (by omega)];omega
 ·rw[Int.tdiv_eq_ediv_of_nonneg (by omega)];omega
theorem m_sFormatInt{n:Int}(h1:-9223372036854775808<=n)(h2:n<=9223372036854775807):fs_FormatInt n=some (itoaB n):=by
 suffices g:Gv (fun y=>y=itoaB n) (fs_FormatInt n) by
  obtain⟨y,e,rfl⟩:=g
  exact e
 unfold fs_FormatInt
 refine Gv.cond (fun h=>Gv.pure ?_) fun h0=>?_
 ·have h:n=0:=by simpa using h
  subst h
  refine bl_ext ?_
  show [48]=Lib.itoa 0
  unfold Lib.itoa
  rw[if_neg (by omega),Lib.decDigits]
  rfl
 have h0:n≠0:=by simpa using h0
 have p20:(10:Nat) ^ 20=100000000000000000000:=by rfl
 have hit:(Lib.itoa n)=if n<0 then 45 :: dd n.natAbs else dd n.natAbs:=by
  have e:dd n.natAbs=Lib.decDigits n.natAbs:=by unfold dd;rw[if_neg (by omega)]
  rw[e]
  unfold Lib.itoa
  by_cases hn:n<0
  ·rw[if_pos hn,if_pos hn]
  ·rw[if_neg hn,if_neg hn,show n.toNat=n.natAbs by omega]
 refine Gv.loop 20 (fun k x=>∃ (v:Nat) (s:ByteArray),x=(((if n<0 then -(v:Int)else (v:Int)),decide (n<0),s,()),())/\dd v++s.data.toList=dd n.natAbs/\v<10 ^ (20-k)/\s.size<=k/\v<=9223372036854775808) ⟨n.natAbs,ByteArray.mk #[],?_,by simp,by rw[p20];omega,Nat.le_refl _,by omega⟩ (bigLt (by omega)) ?_
 ·by_cases hn:n<0
  ·rw[if_pos hn,show -(n.natAbs:Int)=n by omega]
  ·rw[if_neg hn,show (n.natAbs:Int)=n by omega]
 rintro k hk x ⟨v,s,rfl,hd,hv,hs,hu⟩
 obtain⟨t1,t2⟩:=tm10 v
 unfold Lfs_FormatInt_0
 dsimp only
 refine Gv.cond (fun h=>?_) (fun h=>?_)
 ·have hv0:v≠0:=by
   rintro rfl
   by_cases hn:n<0 <;>simp[hn]at h
  have hk20:k<20:=by
   rcases Nat.lt_or_ge k 20 with h' | h'
   ·exact h'
   ·have:20-k=0:=by omega
    rw[this]at hv
    omega
  have hv':v / 10<10 ^ (20-(k+1)):=by
   have:20-k=(20-(k+1))+1:=by omega
   rw[this,Nat.pow_succ]at hv
   omega
  have hdd:=dd_step hv0
  have fin:∀ w:ByteArray,w.data.toList=[UInt8.ofNat (48+v % 10)]->w.size=1->dd (v / 10)++(w++s).data.toList=dd n.natAbs/\(w++s).size<=k+1:=by
   intro w hw hw1
   rw[bl_app,hw,<-List.append_assoc,<-hdd,sz_app,hw1]
   exact⟨hd,by omega⟩
  have hm:v % 10<10:=Nat.mod_lt _ (by omega)
  have ho:∀ w:ByteArray,w.size=1->okLen (w.size+s.size)=true:=fun w hw=>okLen_t (by omega)
  by_cases hn:n<0
  ·simp only[hn,if_true]
   rw[Int.neg_tmod,Int.neg_tdiv,t1,t2]
   rw[w64 (n:=0 - -((v % 10:Nat):Int)) (by omega) (by omega),w64 (n:=-((v / 10:Nat):Int)) (by omega) (by omega),show (0:Int) - -((v % 10:Nat):Int)=((v % 10:Nat):Int) by omega,m_figure hm,bindS]
   refine Gv.cond (fun hb=>?_) fun hb=>?_
   ·obtain⟨f1,f2⟩:=fin _ (strOf1 (v % 10)) (strOf1_size _)
    rw[ho _ (strOf1_size _),cond_true]
    exact Gv.pure ⟨hk20,v / 10,_,by simp only[hn,if_true],f1,hv',f2,by omega⟩
   ·have hz:v % 10=0:=by simp at hb;omega
    have e0:-((v % 10:Nat):Int)=((v % 10:Nat):Int):=by omega
    rw[e0,m_figure hm,bindS]
    obtain⟨f1,f2⟩:=fin _ (strOf1 (v % 10)) (strOf1_size _)
    rw[ho _ (strOf1_size _),cond_true]
    exact Gv.pure ⟨hk20,v / 10,_,by simp only[hn,if_true],f1,hv',f2,by omega⟩
  ·simp only[hn,if_false]
   rw[t1,t2,decide_eq_false (show ¬ (((v % 10:Nat):Int)<0) by omega),cond_false,w64 (n:=((v / 10:Nat):Int)) (by omega) (by omega),m_figure hm,bindS]
   obtain⟨f1,f2⟩:=fin _ (strOf1 (v % 10)) (strOf1_size _)
   rw[ho _ (strOf1_size _),cond_true]
   exact Gv.pure ⟨hk20,v / 10,_,by simp only[hn,if_false],f1,hv',f2,by omega⟩
 ·have hv0:v=0:=by
   by_cases hn:n<0 <;>simp[hn]at h <;>omega
  subst hv0
  have hd:s.data.toList=dd n.natAbs:=by rw[<-hd];rfl
  refine Gv.pure ?_
  simp only[Sum.elim_inl,Sum.elim_inr]
  by_cases hn:n<0
  ·rw[decide_eq_true hn,cond_true,okLen_t (by show 1+s.size<_;omega),cond_true]
   refine Gv.pure (bl_ext ?_)
   rw[bl_app,hd]
   show 45 :: dd n.natAbs=Lib.itoa n
   rw[hit,if_pos hn]
  ·rw[decide_eq_false hn,cond_false]
   refine Gv.pure (bl_ext ?_)
   rw[hd]
   show dd n.natAbs=Lib.itoa n
   rw[hit,if_neg hn]
theorem itoa_len{n:Int}(h1:-9223372036854775808<=n)(h2:n<=9223372036854775807):(itoaB n).size<=21:=Lib.itoa_length_le n h1 h2
theorem joinTail_ne{sep:List UInt8}{r:List (List UInt8)}(h:r≠[]):Lib.joinTail sep r=sep++Lib.join r sep:=by
 cases r with
 | nil=>exact absurd rfl h
 | cons y r=>rw[Lib.join_cons];simp[Lib.joinTail]
theorem a15(y:Int):0<=bits .and .i64 y 15/\bits .and .i64 y 15<=15:=by
 have e:bits .and .i64 y 15=IntKind.i64.wrap ((BitVec.ofInt 64 y &&& BitVec.ofInt 64 15).toNat:Int):=rfl
 have h:(BitVec.ofInt 64 y &&& BitVec.ofInt 64 15).toNat<=15:=by
  rw[BitVec.toNat_and]
  exact Nat.le_trans Nat.and_le_right (by decide)
 rw[e,IntKind.wrap_i64]
 omega
/-- The figure of x with weight 16^(7-j). -/
def dg(x:Int)(j:Nat):Int:=bits .and .i64 (x.fdiv (2 ^ (28-4*j))) 15
def hexb(d:Int):Int:=if d<10 then 48+d else 87+d
def wordL(x:Int)(n:Nat):List Int:=(List.range n).map fun j=>hexb (dg x j)
def wordB(x:Int):ByteArray:=strOfNums (wordL x 8)
theorem wordL_succ(x:Int)(n:Nat):wordL x (n+1)=wordL x n++[hexb (dg x n)]:=by
 unfold wordL
 rw[List.range_succ,List.map_append]
 rfl
theorem m_figure16{d:Int}(h0:0<=d)(h:d<=15):fs_l01Figure d=some (hexb d):=by
 unfold fs_l01Figure hexb
 by_cases hd:d<10
 ·rw[decide_eq_true hd,cond_true,if_pos hd,w64 (by omega) (by omega),IntKind.wrap_u8]
  congr 1
  omega
 ·rw[decide_eq_false hd,cond_false,if_neg hd,w64 (n:=97+d) (by omega) (by omega),w64 (by omega) (by omega),IntKind.wrap_u8]
  congr 1
  omega
theorem shift_eq(x:Int){j:Nat}(h:j<=7):(IntKind.u64.wrap (IntKind.i64.wrap ((4:Int)*(7-(j:Int)))))=((28-4*j:Nat):Int):=by
 rw[w64 (by omega) (by omega),IntKind.wrap_u64]
 omega
theorem strOf_app(a b:List Int):strOfNums (a++b)=strOfNums a++strOfNums b:=by
 refine bl_ext ?_
 rw[bl_app]
 show (List.map _ _).toArray.toList=(List.map _ _).toArray.toList++(List.map _ _).toArray.toList
 simp
theorem strOf_size(a:List Int):(strOfNums a).size=a.length:=by
 show (List.map _ _).toArray.size=_
 simp
theorem wordL_len(x:Int)(n:Nat):(wordL x n).length=n:=by simp[wordL]
theorem cutHex:∀ d:Nat,d<16->((ByteArray.mk #[48,49,50,51,52,53,54,55,56,57,97,98,99,100,101,102]).extract d (d+1)).data.toList=(strOfNums [hexb (d:Int)]).data.toList:=by
 intro d hd
 have:d=0\/d=1\/d=2\/d=3\/d=4\/d=5\/d=6\/d=7\/d=8\/d=9\/d=10\/d=11\/d=12\/d=13\/d=14\/d=15:=by omega
 rcases this with rfl | rfl | rfl | rfl | rfl | rfl | rfl | rfl | rfl | rfl | rfl | rfl | rfl | rfl | rfl | rfl <;>rfl
theorem m_sIsWord(x:Int):fs_IsWord x=some (inR x 0 4294967295):=by
 unfold fs_IsWord
 rw[m_in,bindS]
theorem m_iIsWord(x:Int):fi_IsWord x=some (inR x 0 4294967295):=by
 unfold fi_IsWord
 rw[m_between,bindS]
def fmtW(x:Int):ByteArray:=bif inR x 0 4294967295 then wordB x else ByteArray.mk #[]
theorem m_sFormatWord(x:Int):fs_FormatWord x=some (fmtW x):=by
 suffices g:Gv (fun y=>y=fmtW x) (fs_FormatWord x) by
  obtain⟨y,e,rfl⟩:=g
  exact e
 unfold fs_FormatWord fmtW
 rw[m_sIsWord,bindS]
 cases hx:inR x 0 4294967295 with
 | false=>exact Gv.pure rfl
 | true=>
  rw[Bool.not_true,cond_false,cond_true]
  refine Gv.loop 8 (fun j z=>z=((x,(),7-(j:Int),()),(wordL x j,()))) rfl (bigLt (by omega)) ?_
  rintro j hj z rfl
  unfold Lfs_FormatWord_0
  dsimp only
  refine Gv.cond (fun h=>?_) (fun h=>?_)
  ·have hj:j<=7:=by simp at h;omega
   rw[shift_eq x hj,Int.toNat_natCast,show min (28-4*j) IntKind.i64.bits=28-4*j from Nat.min_eq_left (by show _<=64;omega)]
   refine Gv.ift (by omega) ?_
   have hd:=a15 (x.fdiv (2 ^ (28-4*j)))
   rw[m_figure16 hd.1 hd.2,bindS,wordL_len,okLen_t (by show j+1<_;omega),cond_true]
   refine Gv.pure ⟨by omega,?_⟩
   rw[wordL_succ,w64 (by omega) (by omega),show (7:Int)-(j:Int)-1=7-((j+1:Nat):Int) by omega]
   rfl
  ·have:j=8:=by simp at h;omega
   subst this
   exact Gv.pure (Gv.pure rfl)
theorem m_iFormatWord(x:Int):fi_FormatWord x=some (fmtW x):=by
 suffices g:Gv (fun y=>y=fmtW x) (fi_FormatWord x) by
  obtain⟨y,e,rfl⟩:=g
  exact e
 unfold fi_FormatWord fmtW
 rw[m_iIsWord,bindS]
 cases hx:inR x 0 4294967295 with
 | false=>exact Gv.pure rfl
 | true=>
  rw[Bool.not_true,cond_false,cond_true]
  refine Gv.loop 8 (fun j z=>z=((x,strOfNums (wordL x j),28-4*(j:Int),()),())) rfl (bigLt (by omega)) ?_
  rintro j hj z rfl
  unfold Lfi_FormatWord_0
  dsimp only
  refine Gv.cond (fun h=>?_) (fun h=>?_)
  ·have hj:j<=7:=by simp at h;omega
   have hsh:(28-4*(j:Int)).toNat=28-4*j:=by omega
   rw[hsh,show min (28-4*j) IntKind.i64.bits=28-4*j from Nat.min_eq_left (by show _<=64;omega)]
   refine Gv.ift (by omega) ?_
   have hd:=a15 (x.fdiv (2 ^ (28-4*j)))
   have hdg:bits .and .i64 (x.fdiv (2 ^ (28-4*j))) 15=dg x j:=rfl
   rw[hdg]at hd ⊢
   have hw:IntKind.i64.wrap (dg x j+1)=dg x j+1:=w64 (by omega) (by omega)
   rw[hw]
   refine Gv.ite ⟨hd.1,by omega,by show dg x j+1<=16;omega⟩ ?_
   have hcut:((ByteArray.mk #[48,49,50,51,52,53,54,55,56,57,97,98,99,100,101,102]).extract (dg x j).toNat (dg x j+1).toNat)=strOfNums [hexb (dg x j)]:=by
    have h1:(dg x j+1).toNat=(dg x j).toNat+1:=by omega
    have h2:=cutHex (dg x j).toNat (by omega)
    rw[Int.toNat_of_nonneg hd.1]at h2
    rw[h1]
    exact bl_ext h2
   rw[hcut,strOf_size,strOf_size,wordL_len,okLen_t (by show j+1<_;omega),cond_true]
   refine Gv.pure ⟨by omega,?_⟩
   rw[<-strOf_app,<-wordL_succ,w64 (by omega) (by omega),show (28:Int)-4*(j:Int)-4=28-4*((j+1:Nat):Int) by omega]
  ·have:j=8:=by simp at h;omega
   subst this
   exact Gv.pure (Gv.pure rfl)
theorem fmtW_size(x:Int):(fmtW x).size<=8:=by
 unfold fmtW
 cases inR x 0 4294967295 with
 | false=>exact Nat.zero_le _
 | true=>
  show (strOfNums (wordL x 8)).size<=8
  rw[strOf_size,wordL_len]
  exact Nat.le_refl _
theorem m_iFormatInt{n:Int}(h1:-9223372036854775808<=n)(h2:n<=9223372036854775807):fi_FormatInt n=some (itoaB n):=by
 unfold fi_FormatInt x_Itoa
 rw[decide_eq_true h1,decide_eq_true h2]
 rfl
def sameB(a b:List Int):Bool:=((a.length:Int)==(b.length:Int))&&(a.zip b).all fun p=>p.1==p.2
theorem zip_len{A B:Type}{a:List A}{b:List B}(h:a.length=b.length):(a.zip b).length=a.length:=by
 rw[List.length_zip]
 omega
theorem zip_get{A B:Type}{a:List A}{b:List B}(h:a.length=b.length){k:Nat}(hk:k<(a.zip b).length):(a.zip b)[k]=(a[k]'(by rw[zip_len h]at hk;exact hk),b[k]'(by rw[zip_len h]at hk;omega)):=by
 rw[List.getElem_zip]
theorem m_sameInts{a b:List Int}(ha:a.length<1073741824):fi_sameInts a b=some (sameB a b):=by
 unfold fi_sameInts sameB
 by_cases h:a.length=b.length
 ·have hz:=zip_len h
  have e:=iter_all (step:=Lfi_sameInts_0) (a.zip b) (fun p=>p.1==p.2) (fun i=>((a,b,(a.length:Int),(i:Int),()),())) (.inl ((false,()),())) (.inr (.inl ((),()))) big (fun k hk=>by
   unfold Lfi_sameInts_0
   dsimp only
   rw[decide_eq_true (by omega),cond_true,dif_pos ⟨by omega,by omega⟩,dif_pos ⟨by omega,by omega⟩,wrapS (by omega),zip_get h hk]
   simp only[Int.toNat_natCast]
   rw[bne]
   cases a[k]==b[k] <;>rfl) (by
   unfold Lfi_sameInts_0
   dsimp only
   rw[decide_eq_false (by omega),cond_false]) (bigLt (by omega))
  rw[Int.natCast_zero]at e
  rw[show ((a.length:Int) != (b.length:Int))=false by simp[h],cond_false,show ((a.length:Int)==(b.length:Int))=true by simp[h],Bool.true_and]
  refine(congrArg (fun o=>Option.bind o _) e).trans ?_
  cases (a.zip b).all fun p=>p.1==p.2 <;>rfl
 ·rw[show ((a.length:Int) != (b.length:Int))=true by simp;omega,cond_true,show ((a.length:Int)==(b.length:Int))=false by simp;omega,Bool.false_and]
theorem m_sInts{a b:List Int}(ha:a.length<1073741824):fs_l38Ints a b=some (sameB a b):=by
 unfold fs_l38Ints sameB
 by_cases h:a.length=b.length
 ·have hz:=zip_len h
  have e:=iter_all (step:=Lfs_l38Ints_0) (a.zip b) (fun p=>p.1==p.2) (fun i=>((a,b,(i:Int),()),())) (.inl ((false,()),())) (.inr (.inl ((),()))) big (fun k hk=>by
   unfold Lfs_l38Ints_0
   dsimp only
   rw[decide_eq_true (by omega),cond_true,dif_pos ⟨by omega,by omega⟩,dif_pos ⟨by omega,by omega⟩,wrapS (by omega),zip_get h hk]
   simp only[Int.toNat_natCast]
   rw[bne]
   cases a[k]==b[k] <;>rfl) (by
   unfold Lfs_l38Ints_0
   dsimp only
   rw[decide_eq_false (by omega),cond_false]) (bigLt (by omega))
  rw[Int.natCast_zero]at e
  rw[show ((a.length:Int) != (b.length:Int))=false by simp[h],cond_false,show ((a.length:Int)==(b.length:Int))=true by simp[h],Bool.true_and]
  refine(congrArg (fun o=>Option.bind o _) e).trans ?_
  cases (a.zip b).all fun p=>p.1==p.2 <;>rfl
 ·rw[show ((a.length:Int) != (b.length:Int))=true by simp;omega,cond_true,show ((a.length:Int)==(b.length:Int))=false by simp;omega,Bool.false_and]
def IRequest(x:DReq):Prop:=in64 x.id/\in64 x.tenant/\in64 x.line/\True/\in64 x.data/\in64 x.at_
def IAddr(x:DAddr):Prop:=in64 x.bank/\in64 x.row/\in64 x.col
def IPowerRule(x:DPowerRule):Prop:=in64 x.down/\in64 x.sleep
def IPolicy(x:DPolicy):Prop:=in64 x.page/\in64 x.cap/\in64 x.limit/\in64 x.low/\in64 x.high/\(x.weights.length<=maxLen/\∀ y∈x.weights,in64 y)/\IPowerRule x.rule
def IAct(x:DAct):Prop:=in64 x.kind/\IRequest x.request/\in64 x.n/\in64 x.chip/\IAddr x.addr/\IPolicy x.policy
def ZPolicy(x:DPolicy):Prop:=(x.weights.length<=1048576)
def ZAct(x:DAct):Prop:=ZPolicy x.policy
def ok9(n:Int):Bool:=inR n 0 1000000000
def flt(l:List Int):List UInt8:=(l.map fun n=>32 :: Lib.itoa n).flatten
def txt(w:ByteArray)(l:List Int):ByteArray:=⟨(w.data.toList++flt l).toArray⟩
theorem txt_0(w:ByteArray):txt w []=w:=bl_ext (by simp[txt,flt])
theorem txt_snoc(w:ByteArray)(l:List Int)(n:Int):txt w (l++[n])=(txt w l++ByteArray.mk #[32])++itoaB n:=bl_ext (by rw[bl_app,bl_app];simp[txt,flt,itoaB])
theorem flt_len{l:List Int}(h:∀ n∈l,in64 n):(flt l).length<=22*l.length:=by
 induction l with
 | nil=>simp[flt]
 | cons b l ih=>
  have h1:(Lib.itoa b).length<=21:=itoa_len (h b (.head _)).1 (h b (.head _)).2
  have h2:=ih fun x hx=>h x (.tail _ hx)
  have e:flt (b :: l)=32 :: (Lib.itoa b++flt l):=by simp[flt]
  rw[e]
  simp only[List.length_append,List.length_cons]
  omega
theorem txt_len{w:ByteArray}{l:List Int}(h:∀ n∈l,in64 n):(txt w l).size<=w.size+22*l.length:=by
 have h1:=flt_len h
 have e:(txt w l).size=w.size+(flt l).length:=by
  show (w.data.toList++flt l).length=w.data.toList.length+(flt l).length
  rw[List.length_append]
 omega
def actTup(a:DAct):=(a.kind,a.request.id,a.request.tenant,a.request.line,a.request.write,a.request.data,a.request.at_,a.n,a.chip,a.addr.bank,a.addr.row,a.addr.col,a.policy.page,a.policy.cap,a.policy.limit,a.policy.low,a.policy.high,a.policy.weights,a.policy.rule.down,a.policy.rule.sleep,())
theorem s_loop(a:DAct)(w:ByteArray){ns:List Int}(hin:∀ n∈ns,in64 n)(hl:ns.length<=2000000)(hw:w.size<=100):
  iter Lfs_FormatAct_0 big (((),w,(),(0:Int),()),(actTup a,ns,()))=some (bif ns.all ok9 then .inr (.inl (((),txt w ns,()),(actTup a,())))else .inl ((ByteArray.mk #[],false,()),())):=by
 have e:=iter_all (step:=Lfs_FormatAct_0) ns ok9 (fun i=>(((),txt w (ns.take i),(),(i:Int),()),(actTup a,ns,()))) (.inl ((ByteArray.mk #[],false,()),())) (.inr (.inl (((),txt w ns,()),(actTup a,())))) big (fun k h=>by
  have h1:=txt_len (w:=w) fun n hn=>hin n (List.mem_of_mem_take (i:=k) hn)
  rw[List.length_take]at h1
  have h2:=hin _ (List.getElem_mem h)
  have h3:=itoa_len h2.1 h2.2
  unfold Lfs_FormatAct_0 ok9
  dsimp only
  rw[decide_eq_true (by omega),cond_true,dif_pos ⟨by omega,by omega⟩,dif_pos (by omega)]
  simp only[Int.toNat_natCast]
  rw[m_in,bindS]
  cases inR ns[k] 0 1000000000 with
  | false=>rfl
  | true=>
   rw[Bool.not_true,cond_false,okLen_t (by show (txt w (ns.take k)).size+1<_;omega),cond_true,dif_pos ⟨by omega,h⟩,dif_pos h,m_sFormatInt h2.1 h2.2,bindS,okLen_t (by rw[sz_app];show (txt w (ns.take k)).size+1+_<_;omega),cond_true,wrapS (by omega),take_succ_get h,txt_snoc]
   rfl) (by
  unfold Lfs_FormatAct_0
  dsimp only
  rw[decide_eq_false (by omega),cond_false,List.take_length]) (bigLt (by omega))
 rw[Int.natCast_zero,List.take_zero,txt_0]at e
 exact e
theorem i_loop(a:DAct)(w:ByteArray){ns:List Int}(hl:ns.length<=2000000):
  iter Lfi_FormatAct_0 big (((),w,(),(),(ns.length:Int),(0:Int),()),(actTup a,ns,()))=some (bif ns.all ok9 then .inr (.inl (((),w,(),()),(actTup a,ns,())))else .inl ((ByteArray.mk #[],false,()),())):=by
 have e:=iter_all (step:=Lfi_FormatAct_0) ns ok9 (fun i=>(((),w,(),(),(ns.length:Int),(i:Int),()),(actTup a,ns,()))) (.inl ((ByteArray.mk #[],false,()),())) (.inr (.inl (((),w,(),()),(actTup a,ns,())))) big (fun k h=>by
  unfold Lfi_FormatAct_0 ok9
  dsimp only
  rw[decide_eq_true (by omega),cond_true,dif_pos ⟨by omega,by omega⟩,dif_pos (by omega)]
  simp only[Int.toNat_natCast]
  rw[m_between,bindS,wrapS (by omega)]
  cases inR ns[k] 0 1000000000 <;>rfl) (by
  unfold Lfi_FormatAct_0
  dsimp only
  rw[decide_eq_false (by omega),cond_false]) (bigLt (by omega))
 rw[Int.natCast_zero]at e
 exact e
def jn(ns:List Int):ByteArray:=⟨(Lib.join (ns.map Lib.itoa) [32]).toArray⟩
theorem jn_flt:∀ (n:Int) (ns:List Int),32 :: Lib.join ((n :: ns).map Lib.itoa) [32]=flt (n :: ns)
 | n,[]=>by simp[flt,Lib.join_one]
 | n,m :: ns=>by
  have ih:=jn_flt m ns
  rw[List.map_cons,Lib.join_cons,joinTail_ne (by simp)]
  have e:flt (n :: m :: ns)=32 :: (Lib.itoa n++flt (m :: ns)):=by simp[flt]
  rw[e,<-ih]
  simp
theorem m_numbers{ns:List Int}(hne:ns≠[])(hin:∀ n∈ns,in64 n)(hl:ns.length<=2000000):fi_numbers ns=some (jn ns):=by
 have e:=iter_to (step:=Lfi_numbers_0) ns.length (fun i=>(((),ns,(ns.length:Int),(i:Int),()),((ns.take i).map itoaB,()))) (.inl (((),()),(ns.map itoaB,()))) big (fun k h=>by
  have h2:=hin _ (List.getElem_mem h)
  unfold Lfi_numbers_0
  dsimp only
  rw[decide_eq_true (by omega),cond_true,dif_pos ⟨by omega,by omega⟩]
  simp only[Int.toNat_natCast]
  rw[m_iFormatInt h2.1 h2.2,bindS,okLen_t (by simp;omega),cond_true,wrapS (by omega),take_succ_get h,List.map_append]
  rfl) (by
  unfold Lfi_numbers_0
  dsimp only
  rw[decide_eq_false (by omega),cond_false,List.take_length]) (bigLt (by omega))
 rw[Int.natCast_zero,List.take_zero]at e
 unfold fi_numbers
 refine(congrArg (fun o=>Option.bind o _) e).trans ?_
 rw[bindS]
 simp only[Sum.elim_inl]
 have hm:(ns.map itoaB).map (·.data.toList)=ns.map Lib.itoa:=by
  rw[List.map_map]
  exact List.map_congr_left fun n _=>rfl
 have hj:(Lib.join (ns.map Lib.itoa) [32]).length<=22*ns.length:=by
  obtain⟨n,l,rfl⟩:=List.exists_cons_of_ne_nil hne
  have:=flt_len hin
  rw[<-jn_flt,List.length_cons]at this
  omega
 unfold x_Join
 rw[hm,show (ByteArray.mk #[32]).data.toList=[32]from rfl,decide_eq_true (by simp;omega),decide_eq_true (by omega)]
 rfl
theorem txt_jn(w:ByteArray){ns:List Int}(hne:ns≠[]):(w++ByteArray.mk #[32])++jn ns=txt w ns:=by
 obtain⟨n,l,rfl⟩:=List.exists_cons_of_ne_nil hne
 refine bl_ext ?_
 rw[bl_app,bl_app]
 show (w.data.toList++[32])++Lib.join ((n :: l).map Lib.itoa) [32]=w.data.toList++flt (n :: l)
 rw[<-jn_flt]
 simp
def fin(a:DAct)(w:ByteArray)(ns:List Int):ByteArray×Bool:=bif ns.all ok9 then (bif a.request.write then ((txt w ns++ByteArray.mk #[32])++fmtW a.request.data,true)else (txt w ns,true))else (ByteArray.mk #[],false)
def sTail(a:DAct)(w:ByteArray)(ns:List Int):Option (ByteArray×Bool):=(iter Lfs_FormatAct_0 big (((),w,(),(0:Int),()),(actTup a,ns,()))).bind (Sum.elim (fun z=>some (z.1.1,z.1.2.1)) (Sum.elim (fun z=>bif z.2.1.2.2.2.2.1 then bif okLen (z.1.2.1.size+(ByteArray.mk #[32]).size)then (fs_FormatWord z.2.1.2.2.2.2.2.1).bind fun y=>bif okLen ((z.1.2.1++(ByteArray.mk #[32])).size+y.size)then some ((z.1.2.1++(ByteArray.mk #[32]))++y,true)else none else none else some (z.1.2.1,true)) (fun z=>nomatch z)))
theorem m_sTail(a:DAct)(w:ByteArray){ns:List Int}(hin:∀ n∈ns,in64 n)(hl:ns.length<=2000000)(hw:w.size<=100):sTail a w ns=some (fin a w ns):=by
 have h1:=txt_len (w:=w) hin
 have h2:=fmtW_size a.request.data
 unfold sTail fin
 rw[s_loop a w hin hl hw,bindS]
 cases ns.all ok9 with
 | false=>rfl
 | true=>
  rw[cond_true,cond_true]
  show (bif a.request.write then bif okLen ((txt w ns).size+1)then (fs_FormatWord a.request.data).bind fun y=>bif okLen ((txt w ns++(ByteArray.mk #[32])).size+y.size)then some ((txt w ns++(ByteArray.mk #[32]))++y,true)else none else none else some (txt w ns,true))=_
  cases a.request.write with
  | false=>rfl
  | true=>rw[cond_true,cond_true,okLen_t (by omega),cond_true,m_sFormatWord,bindS,okLen_t (by rw[sz_app];show (txt w ns).size+1+_<_;omega),cond_true]
def iTail(a:DAct)(w:ByteArray)(ns:List Int):Option (ByteArray×Bool):=(iter Lfi_FormatAct_0 big (((),w,(),(),(ns.length:Int),(0:Int),()),(actTup a,ns,()))).bind (Sum.elim (fun z=>some (z.1.1,z.1.2.1)) (Sum.elim (fun z=>bif okLen (z.1.2.1.size+(ByteArray.mk #[32]).size)then (fi_numbers z.2.2.1).bind fun y25=>bif okLen ((z.1.2.1++(ByteArray.mk #[32])).size+y25.size)then bif z.2.1.2.2.2.2.1 then (fi_FormatWord z.2.1.2.2.2.2.2.1).bind fun y26=>bif okLen ((ByteArray.mk #[32]).size+y26.size)then bif okLen (((z.1.2.1++(ByteArray.mk #[32]))++y25).size+((ByteArray.mk #[32])++y26).size)then some (((z.1.2.1++(ByteArray.mk #[32]))++y25)++((ByteArray.mk #[32])++y26),true)else none else none else some ((z.1.2.1++(ByteArray.mk #[32]))++y25,true)else none else none) (fun z=>nomatch z)))
theorem m_iTail(a:DAct)(w:ByteArray){ns:List Int}(hne:ns≠[])(hin:∀ n∈ns,in64 n)(hl:ns.length<=2000000)(hw:w.size<=100):iTail a w ns=some (fin a w ns):=by
 have h1:=txt_len (w:=w) hin
 have h2:=fmtW_size a.request.data
 have h3:(jn ns).size<=22*ns.length:=by
  obtain⟨n,l,rfl⟩:=List.exists_cons_of_ne_nil hne
  have:=flt_len hin
  rw[<-jn_flt,List.length_cons]at this
  show (Lib.join ((n :: l).map Lib.itoa) [32]).length<=_
  omega
 unfold iTail fin
 rw[i_loop a w hl,bindS]
 cases ns.all ok9 with
 | false=>rfl
 | true=>
  rw[cond_true,cond_true]
  show (bif okLen (w.size+1)then (fi_numbers ns).bind fun y25=>bif okLen ((w++(ByteArray.mk #[32])).size+y25.size)then bif a.request.write then (fi_FormatWord a.request.data).bind fun y26=>bif okLen (1+y26.size)then bif okLen (((w++(ByteArray.mk #[32]))++y25).size+((ByteArray.mk #[32])++y26).size)then some (((w++(ByteArray.mk #[32]))++y25)++((ByteArray.mk #[32])++y26),true)else none else none else some ((w++(ByteArray.mk #[32]))++y25,true)else none else none)=_
  rw[okLen_t (by omega),cond_true,m_numbers hne hin hl,bindS,okLen_t (by rw[sz_app];show w.size+1+_<_;omega),cond_true]
  cases a.request.write with
  | false=>rw[cond_false,cond_false,txt_jn w hne]
  | true=>
   rw[cond_true,cond_true,m_iFormatWord,bindS,okLen_t (by omega),cond_true,txt_jn w hne,okLen_t (by rw[sz_app];show (txt w ns).size+(1+_)<_;omega),cond_true]
   congr 2
   exact bl_ext (by simp only[bl_app,List.append_assoc])
theorem bb1(a x:Bool):(bif a then some x else some false)=some (a&&x):=by cases a <;>rfl
theorem bb2(a x:Bool):(bif !a then some false else some x)=some (a&&x):=by cases a <;>rfl
theorem bb3(a b:Int)(x:Bool):(bif a != b then some false else some x)=some (a==b&&x):=by
 rw[bne]
 cases a==b <;>rfl
theorem sameB_iff{a b:List Int}:sameB a b=true ↔ a=b:=by
 unfold sameB
 rw[Bool.and_eq_true,List.all_eq_true]
 constructor
 ·rintro⟨h1,h2⟩
  have hl:a.length=b.length:=by simp at h1;omega
  refine List.ext_getElem hl fun i hi hj=>?_
  have hz:i<(a.zip b).length:=by rw[zip_len hl];exact hi
  have:=h2 (a.zip b)[i] (List.getElem_mem hz)
  rw[zip_get hl hz]at this
  simpa using this
 ·rintro rfl
  refine⟨by simp,fun p hp=>?_⟩
  obtain⟨i,hi,rfl⟩:=List.getElem_of_mem hp
  rw[zip_get rfl hi]
  simp
def sE(x y:DAct):Bool:=(x.kind==y.kind)&&(((x.request.id==y.request.id)&&((x.request.tenant==y.request.tenant)&&((x.request.line==y.request.line)&&((x.request.write==y.request.write)&&((x.request.data==y.request.data)&&((x.request.at_==y.request.at_)&&true))))))&&((x.n==y.n)&&((x.chip==y.chip)&&(((x.addr.bank==y.addr.bank)&&((x.addr.row==y.addr.row)&&((x.addr.col==y.addr.col)&&true)))&&((x.policy.page==y.policy.page)&&((x.policy.cap==y.policy.cap)&&((x.policy.limit==y.policy.limit)&&((x.policy.low==y.policy.low)&&((x.policy.high==y.policy.high)&&(((x.policy.rule.down==y.policy.rule.down)&&((x.policy.rule.sleep==y.policy.rule.sleep)&&true))&&sameB x.policy.weights y.policy.weights))))))))))
theorem m_l40Same(x y:DAct)(h:x.policy.weights.length<1073741824):fs_l40Same x y=some (sE x y):=by
 unfold fs_l40Same sE
 simp only[m_sInts h,bindS,bb1,bb2,bb3]
def pE(x y:DPolicy):Bool:=(x.page==y.page)&&((x.cap==y.cap)&&((x.limit==y.limit)&&((x.low==y.low)&&((x.high==y.high)&&(sameB x.weights y.weights&&((x.rule.down==y.rule.down)&&((x.rule.sleep==y.rule.sleep)&&true)))))))
theorem m_samePolicy(x y:DPolicy)(h:x.weights.length<1073741824):fi_samePolicy x y=some (pE x y):=by
 unfold fi_samePolicy pE
 simp only[m_sameInts h,bindS,bb1]
def iE(u a:DAct):Bool:=((u.request.id==a.request.id)&&((u.request.tenant==a.request.tenant)&&((u.request.line==a.request.line)&&((u.request.write==a.request.write)&&((u.request.data==a.request.data)&&((u.request.at_==a.request.at_)&&true))))))&&((u.n==a.n)&&((u.chip==a.chip)&&(((u.addr.bank==a.addr.bank)&&((u.addr.row==a.addr.row)&&((u.addr.col==a.addr.col)&&true)))&&pE u.policy a.policy)))
theorem sE_iE{a u:DAct}(hk:a.kind=u.kind):sE a u=iE u a:=by
 rw[Bool.eq_iff_iff]
 simp only[sE,iE,pE,Bool.and_eq_true,beq_iff_eq,sameB_iff]
 constructor
 ·rintro⟨_,⟨r1,r2,r3,r4,r5,r6,_⟩,n,c,⟨b1,b2,b3,_⟩,p1,p2,p3,p4,p5,⟨d1,d2,_⟩,w⟩
  exact⟨⟨r1.symm,r2.symm,r3.symm,r4.symm,r5.symm,r6.symm,trivial⟩,n.symm,c.symm,⟨b1.symm,b2.symm,b3.symm,trivial⟩,p1.symm,p2.symm,p3.symm,p4.symm,p5.symm,w.symm,d1.symm,d2.symm,trivial⟩
 ·rintro⟨⟨r1,r2,r3,r4,r5,r6,_⟩,n,c,⟨b1,b2,b3,_⟩,p1,p2,p3,p4,p5,w,d1,d2,_⟩
  exact⟨hk,⟨r1.symm,r2.symm,r3.symm,r4.symm,r5.symm,r6.symm,trivial⟩,n.symm,c.symm,⟨b1.symm,b2.symm,b3.symm,trivial⟩,p1.symm,p2.symm,p3.symm,p4.symm,p5.symm,⟨d1.symm,d2.symm,trivial⟩,w.symm⟩
def nilB:ByteArray:=ByteArray.mk #[]
def uA(a:DAct)(d:Int):DAct:=⟨a.kind,⟨a.request.id,a.request.tenant,a.request.line,a.request.write,d,0⟩,0,0,⟨0,0,0⟩,⟨0,0,0,0,0,[],⟨0,0⟩⟩⟩
def uN(a:DAct):DAct:=⟨a.kind,⟨0,0,0,false,0,0⟩,a.n,0,⟨0,0,0⟩,⟨0,0,0,0,0,[],⟨0,0⟩⟩⟩
def uF(a:DAct):DAct:=⟨a.kind,⟨0,0,0,false,0,0⟩,a.n,a.chip,⟨a.addr.bank,a.addr.row,a.addr.col⟩,⟨0,0,0,0,0,[],⟨0,0⟩⟩⟩
def uR(a:DAct):DAct:=⟨a.kind,⟨0,0,0,false,0,0⟩,0,0,⟨a.addr.bank,a.addr.row,0⟩,⟨0,0,0,0,0,[],⟨0,0⟩⟩⟩
def uP(a:DAct):DAct:=⟨a.kind,⟨0,0,0,false,0,0⟩,0,0,⟨0,0,0⟩,a.policy⟩
def u0(k:Int):DAct:=⟨k,⟨0,0,0,false,0,0⟩,0,0,⟨0,0,0⟩,⟨0,0,0,0,0,[],⟨0,0⟩⟩⟩
def wRead:ByteArray:=ByteArray.mk #[114,101,97,100]
def wWrite:ByteArray:=ByteArray.mk #[119,114,105,116,101]
def wWait:ByteArray:=ByteArray.mk #[119,97,105,116]
def wHeat:ByteArray:=ByteArray.mk #[104,101,97,116]
def wFlip:ByteArray:=ByteArray.mk #[102,108,105,112]
def wRet:ByteArray:=ByteArray.mk #[114,101,116,105,114,101]
def wPol:ByteArray:=ByteArray.mk #[112,111,108,105,99,121]
def sBody(a u:DAct)(w:ByteArray)(ns:List Int):Option (ByteArray×Bool):=
 let k:Bool->Option (ByteArray×Bool):=fun j=>bif j then some (ByteArray.mk #[],false)else sTail a w ns
 bif (w.toList==(ByteArray.mk #[]).toList)then k true else (fs_l40Same a u).bind fun y=>bif (!y)then k true else bif (a.kind==(5:Int))then bif ((a.policy.weights.length:Int) != (4:Int))then k true else (fs_IsWord a.request.data).bind fun y=>k (!y)else (fs_IsWord a.request.data).bind fun y=>k (!y)
def iBody(a u:DAct)(w:ByteArray)(ns:List Int):Option (ByteArray×Bool):=
 let k:Bool->Option (ByteArray×Bool):=fun j=>bif j then some (ByteArray.mk #[],false)else iTail a w ns
 bif (w.toList==(ByteArray.mk #[]).toList)then k true else bif (!((u.request.id==a.request.id)&&((u.request.tenant==a.request.tenant)&&((u.request.line==a.request.line)&&((u.request.write==a.request.write)&&((u.request.data==a.request.data)&&((u.request.at_==a.request.at_)&&true)))))))then k true else bif (u.n != a.n)then k true else bif (u.chip != a.chip)then k true else bif (!((u.addr.bank==a.addr.bank)&&((u.addr.row==a.addr.row)&&((u.addr.col==a.addr.col)&&true))))then k true else (fi_samePolicy u.policy a.policy).bind fun y=>bif (!y)then k true else (fi_IsWord a.request.data).bind fun y=>k (!y)
def lPol(a:DAct):List Int:=(([a.policy.page,a.policy.cap,a.policy.limit,a.policy.low,a.policy.high]:List Int)++a.policy.weights)++([a.policy.rule.down,a.policy.rule.sleep]:List Int)
theorem s_split(a:DAct):fs_FormatAct a=bif (a.kind==(1:Int))then bif (!a.request.write)then sBody a (uA a 0) wRead [a.request.id,a.request.tenant,a.request.line]else sBody a (uA a a.request.data) wWrite [a.request.id,a.request.tenant,a.request.line]else bif (a.kind==(2:Int))then sBody a (uN a) wWait [a.n]else bif (a.kind==(4:Int))then sBody a (uN a) wHeat [a.n]else bif (a.kind==(3:Int))then sBody a (uF a) wFlip [a.addr.bank,a.addr.row,a.addr.col,a.chip,a.n]else bif (a.kind==(6:Int))then sBody a (uR a) wRet [a.addr.bank,a.addr.row]else bif (a.kind==(5:Int))then bif okLen (([a.policy.page,a.policy.cap,a.policy.limit,a.policy.low,a.policy.high]:List Int).length+a.policy.weights.length)then bif okLen ((([a.policy.page,a.policy.cap,a.policy.limit,a.policy.low,a.policy.high]:List Int)++a.policy.weights).length+([a.policy.rule.down,a.policy.rule.sleep]:List Int).length)then sBody a (uP a) wPol (lPol a)else none else none else sBody a (u0 0) nilB []:=rfl
theorem i_split(a:DAct):fi_FormatAct a=(fi_actNumbers a).bind fun y=>bif (a.kind==(1:Int))then bif (!a.request.write)then iBody a (uA a 0) y.1 y.2 else iBody a (uA a a.request.data) y.1 y.2 else (let k3:Bool->Option (ByteArray×Bool):=fun j=>bif j then iBody a (uN a) y.1 y.2 else bif (a.kind==(3:Int))then iBody a (uF a) y.1 y.2 else bif (a.kind==(5:Int))then iBody a (uP a) y.1 y.2 else bif (a.kind==(6:Int))then iBody a (uR a) y.1 y.2 else iBody a (u0 a.kind) y.1 y.2;bif (a.kind==(2:Int))then k3 (a.kind==(2:Int))else k3 (a.kind==(4:Int))):=rfl
def noE:ByteArray×Bool:=(ByteArray.mk #[],false)
theorem m_sBody{a u:DAct}{w:ByteArray}{ns:List Int}(hne:(w.toList==(ByteArray.mk #[]).toList)=false)(hin:∀ n∈ns,in64 n)(hl:ns.length<=2000000)(hw:w.size<=100)(hwt:a.policy.weights.length<1073741824)(hq:(a.kind==5)=false\/a.policy.weights.length=4):
  sBody a u w ns=some (bif sE a u&&inR a.request.data 0 4294967295 then fin a w ns else noE):=by
 unfold sBody
 simp only[hne,cond_false,m_l40Same _ _ hwt,bindS,m_sIsWord,m_sTail a w hin hl hw]
 have h4:(a.kind==5)=true->((a.policy.weights.length:Int) != (4:Int))=false:=fun h=>by
  rcases hq with h' | h'
  ·rw[h']at h;cases h
  ·rw[h'];rfl
 cases sE a u with
 | false=>rfl
 | true=>
  cases h5:(a.kind==5)with
  | false=>cases inR a.request.data 0 4294967295 <;>rfl
  | true=>
   rw[h4 h5]
   cases inR a.request.data 0 4294967295 <;>rfl
theorem m_iBody{a u:DAct}{w:ByteArray}{ns:List Int}(hne:(w.toList==(ByteArray.mk #[]).toList)=false)(hn:ns≠[])(hin:∀ n∈ns,in64 n)(hl:ns.length<=2000000)(hw:w.size<=100)(hwt:u.policy.weights.length<1073741824):
  iBody a u w ns=some (bif iE u a&&inR a.request.data 0 4294967295 then fin a w ns else noE):=by
 unfold iBody
 simp only[hne,cond_false,m_samePolicy _ _ hwt,bindS,m_iIsWord,m_iTail a w hn hin hl hw]
 unfold iE
 cases ((u.request.id==a.request.id)&&((u.request.tenant==a.request.tenant)&&((u.request.line==a.request.line)&&((u.request.write==a.request.write)&&((u.request.data==a.request.data)&&((u.request.at_==a.request.at_)&&true))))))with
 | false=>rfl
 | true=>
  rw[bne,bne]
  cases (u.n==a.n)with
  | false=>rfl
  | true=>
   cases (u.chip==a.chip)with
   | false=>rfl
   | true=>
    cases ((u.addr.bank==a.addr.bank)&&((u.addr.row==a.addr.row)&&((u.addr.col==a.addr.col)&&true)))with
    | false=>rfl
    | true=>
     cases pE u.policy a.policy with
     | false=>rfl
     | true=>cases inR a.request.data 0 4294967295 <;>rfl
theorem nil_beq:((ByteArray.mk #[]).toList==(ByteArray.mk #[]).toList)=true:=beq_self_eq_true _
theorem n_sBody{a u:DAct}{ns:List Int}:sBody a u nilB ns=some noE:=by
 unfold sBody nilB
 simp only[nil_beq,cond_true]
 rfl
theorem n_iBody{a u:DAct}{ns:List Int}:iBody a u (ByteArray.mk #[]) ns=some noE:=by
 unfold iBody
 simp only[nil_beq,cond_true]
 rfl
theorem n_sPol{a u:DAct}{w:ByteArray}{ns:List Int}(hk:a.kind=5)(hwt:a.policy.weights.length<1073741824)(h4:a.policy.weights.length≠4):sBody a u w ns=some noE:=by
 unfold sBody
 have h5:(a.kind==5)=true:=by simp[hk]
 have h6:((a.policy.weights.length:Int) != (4:Int))=true:=by simp;omega
 simp only[m_l40Same _ _ hwt,bindS,h5,h6,cond_true]
 cases (w.toList==(ByteArray.mk #[]).toList)with
 | true=>rfl
 | false=>cases sE a u <;>rfl
theorem four{l:List Int}(h:l.length=4):l=[l[0],l[1],l[2],l[3]]:=by
 match l,h with
 | [a,b,c,d],_=>rfl
theorem wne:(wRead.toList==(ByteArray.mk #[]).toList)=false/\(wWrite.toList==(ByteArray.mk #[]).toList)=false/\(wWait.toList==(ByteArray.mk #[]).toList)=false/\(wHeat.toList==(ByteArray.mk #[]).toList)=false/\(wFlip.toList==(ByteArray.mk #[]).toList)=false/\(wRet.toList==(ByteArray.mk #[]).toList)=false/\(wPol.toList==(ByteArray.mk #[]).toList)=false:=by
 unfold wRead wWrite wWait wHeat wFlip wRet wPol
 decide +kernel
theorem both{a u:DAct}{w:ByteArray}{ns:List Int}(hk:a.kind=u.kind)(hne:(w.toList==(ByteArray.mk #[]).toList)=false)(hn:ns≠[])(hin:∀ n∈ns,in64 n)(hl:ns.length<=2000000)(hw:w.size<=100)(hwa:a.policy.weights.length<1073741824)(hwt:u.policy.weights.length<1073741824)(hq:(a.kind==5)=false\/a.policy.weights.length=4):
  ∃ y,sBody a u w ns=some y/\iBody a u w ns=some y:=⟨_,m_sBody hne hin hl hw hwa hq,by rw[m_iBody hne hn hin hl hw hwt,sE_iE hk]⟩
theorem p_same(a:DAct)(h:IAct a)(hz:ZAct a):∃ y,fs_FormatAct a=some y/\fi_FormatAct a=some y:=by
 obtain⟨_,⟨r1,r2,r3,_,r5,r6⟩,i1,i2,⟨b1,b2,b3⟩,⟨p1,p2,p3,p4,p5,p6,p7⟩⟩:=h
 have hwl:a.policy.weights.length<=1048576:=hz
 obtain⟨e1,e2,e3,e4,e5,e6,e7⟩:=wne
 have z:([]:List Int).length<1073741824:=by simp
 have hq:∀ n:Int,a.kind=n->n≠5->(a.kind==5)=false\/a.policy.weights.length=4:=fun n h h'=>.inl (by rw[h];simpa using h')
 rw[s_split,i_split]
 unfold fi_actNumbers
 by_cases k1:a.kind=1
 ·simp only[k1,show ((1:Int)==1)=true from rfl,cond_true]
  have hin:∀ n∈[a.request.id,a.request.tenant,a.request.line],in64 n:=by
   simp only[List.forall_mem_cons]
   exact⟨r1,r2,r3,fun _ h=>by cases h⟩
  cases a.request.write with
  | true=>exact both (u:=uA a a.request.data) rfl e2 (by simp) hin (by simp) (by decide +kernel) (by omega) z (hq 1 k1 (by omega))
  | false=>exact both (u:=uA a 0) rfl e1 (by simp) hin (by simp) (by decide +kernel) (by omega) z (hq 1 k1 (by omega))
 have c1:(a.kind==1)=false:=by simpa using k1
 by_cases k2:a.kind=2
 ·simp only[k2,show ((2:Int)==1)=false from rfl,show ((2:Int)==2)=true from rfl,cond_true,cond_false]
  have hin:∀ n∈[a.n],in64 n:=by
   simp only[List.forall_mem_cons]
   exact⟨i1,fun _ h=>by cases h⟩
  exact both (u:=uN a) rfl e3 (by simp) hin (by simp) (by decide +kernel) (by omega) z (hq 2 k2 (by omega))
 have c2:(a.kind==2)=false:=by simpa using k2
 by_cases k4:a.kind=4
 ·simp only[k4,show ((4:Int)==1)=false from rfl,show ((4:Int)==2)=false from rfl,show ((4:Int)==4)=true from rfl,cond_true,cond_false]
  have hin:∀ n∈[a.n],in64 n:=by
   simp only[List.forall_mem_cons]
   exact⟨i1,fun _ h=>by cases h⟩
  exact both (u:=uN a) rfl e4 (by simp) hin (by simp) (by decide +kernel) (by omega) z (hq 4 k4 (by omega))
 have c4:(a.kind==4)=false:=by simpa using k4
 by_cases k3:a.kind=3
 ·simp only[k3,show ((3:Int)==1)=false from rfl,show ((3:Int)==2)=false from rfl,show ((3:Int)==4)=false from rfl,show ((3:Int)==3)=true from rfl,cond_true,cond_false]
  have hin:∀ n∈[a.addr.bank,a.addr.row,a.addr.col,a.chip,a.n],in64 n:=by
   simp only[List.forall_mem_cons]
   exact⟨b1,b2,b3,i2,i1,fun _ h=>by cases h⟩
  exact both (u:=uF a) rfl e5 (by simp) hin (by simp) (by decide +kernel) (by omega) z (hq 3 k3 (by omega))
 have c3:(a.kind==3)=false:=by simpa using k3
 by_cases k6:a.kind=6
 ·simp only[k6,show ((6:Int)==1)=false from rfl,show ((6:Int)==2)=false from rfl,show ((6:Int)==4)=false from rfl,show ((6:Int)==3)=false from rfl,show ((6:Int)==5)=false from rfl,show ((6:Int)==6)=true from rfl,cond_true,cond_false]
  have hin:∀ n∈[a.addr.bank,a.addr.row],in64 n:=by
   simp only[List.forall_mem_cons]
   exact⟨b1,b2,fun _ h=>by cases h⟩
  exact both (u:=uR a) rfl e6 (by simp) hin (by simp) (by decide +kernel) (by omega) z (hq 6 k6 (by omega))
 have c6:(a.kind==6)=false:=by simpa using k6
 by_cases k5:a.kind=5
 ·simp only[k5,show ((5:Int)==1)=false from rfl,show ((5:Int)==2)=false from rfl,show ((5:Int)==4)=false from rfl,show ((5:Int)==3)=false from rfl,show ((5:Int)==6)=false from rfl,show ((5:Int)==5)=true from rfl,cond_true,cond_false]
  rw[okLen_t (by simp;omega),cond_true,okLen_t (by simp;omega),cond_true]
  by_cases h4:a.policy.weights.length=4
  ·have c:((a.policy.weights.length:Int)==4)=true:=by simp[h4]
   rw[c,cond_true,dif_pos ⟨by omega,by show 0<_;omega⟩,dif_pos ⟨by omega,by show 1<_;omega⟩,dif_pos ⟨by omega,by show 2<_;omega⟩,dif_pos ⟨by omega,by show 3<_;omega⟩]
   have el:lPol a=[a.policy.page,a.policy.cap,a.policy.limit,a.policy.low,a.policy.high,a.policy.weights[0],a.policy.weights[1],a.policy.weights[2],a.policy.weights[3],a.policy.rule.down,a.policy.rule.sleep]:=by
    exact congrArg (fun l:List Int=>(([a.policy.page,a.policy.cap,a.policy.limit,a.policy.low,a.policy.high]:List Int)++l)++([a.policy.rule.down,a.policy.rule.sleep]:List Int)) (four h4)
   have hin:∀ n∈lPol a,in64 n:=by
    unfold lPol
    intro n hn
    rcases List.mem_append.1 hn with hn | hn
    ·rcases List.mem_append.1 hn with hn | hn
     ·exact(show ∀ n∈[a.policy.page,a.policy.cap,a.policy.limit,a.policy.low,a.policy.high],in64 n by
       simp only[List.forall_mem_cons]
       exact⟨p1,p2,p3,p4,p5,fun _ h=>by cases h⟩) n hn
     ·exact p6.2 n hn
    ·exact(show ∀ n∈[a.policy.rule.down,a.policy.rule.sleep],in64 n by
      simp only[List.forall_mem_cons]
      exact⟨p7.1,p7.2,fun _ h=>by cases h⟩) n hn
   have:=both (a:=a) (u:=uP a) (ns:=lPol a) rfl e7 (by simp[lPol]) hin (by simp[lPol];omega) (by decide +kernel) (by omega) (show a.policy.weights.length<_ by omega) (.inr h4)
   obtain⟨y,y1,y2⟩:=this
   refine⟨y,y1,?_⟩
   rw[el]at y2
   exact y2
  ·have c:((a.policy.weights.length:Int)==4)=false:=by simp;omega
   rw[c,cond_false]
   exact⟨_,n_sPol k5 (by omega) h4,n_iBody⟩
 have c5:(a.kind==5)=false:=by simpa using k5
 simp only[c1,c2,c3,c4,c5,c6,cond_false]
 exact⟨_,n_sBody,n_iBody⟩
def dval(l:List UInt8):Int:=l.foldl (fun a b=>a*10+((b.toNat:Int)-48)) 0
def isDig(b:UInt8):Prop:=48<=b.toNat/\b.toNat<=57
theorem dval_snoc(l:List UInt8)(b:UInt8):dval (l++[b])=dval l*10+((b.toNat:Int)-48):=by simp[dval,List.foldl_append]
theorem dval_take{l:List UInt8}(h:∀ b∈l,isDig b):∀ k,k<=l.length->0<=dval (l.take k)/\dval (l.take k)<10 ^ k
 | 0,_=>by simp[dval]
 | k+1,hk=>by
  obtain⟨h1,h2⟩:=dval_take h k (by omega)
  have h3:=h l[k] (List.getElem_mem (by omega))
  have e:l.take (k+1)=l.take k++[l[k]]:=by rw[List.take_succ_eq_append_getElem (by omega)]
  unfold isDig at h3
  rw[e,dval_snoc,Int.pow_succ]
  omega
theorem ba_get{s:ByteArray}{i:Nat}(h:i<s.size)(h':i<s.data.toList.length):s[i]=s.data.toList[i]:=by
 rw[Array.getElem_toList]
 rfl
theorem p_step{s:ByteArray}(hd:∀ b∈s.data.toList,isDig b)(hl:s.size<=10){k:Nat}(h:k<s.size):Lfi_ParseUint_0 ((s,dval (s.data.toList.take k),(k:Int),()),())=some (.inl ((s,dval (s.data.toList.take (k+1)),((k+1:Nat):Int),()),())):=by
 have h':k<s.data.toList.length:=h
 obtain⟨h1,h2⟩:=dval_take hd k (by omega)
 have h3:=hd s.data.toList[k] (List.getElem_mem h')
 have e:s.data.toList.take (k+1)=s.data.toList.take k++[s.data.toList[k]]:=by rw[List.take_succ_eq_append_getElem h']
 have hp:(10:Int) ^ k<=10 ^ 9:=by
  have:(10:Nat) ^ k<=10 ^ 9:=Nat.pow_le_pow_right (by omega) (by omega)
  exact_mod_cast this
 have p9:(10:Int) ^ 9=1000000000:=rfl
 unfold isDig at h3
 unfold Lfi_ParseUint_0
 dsimp only
 rw[decide_eq_true (by omega),cond_true,dif_pos ⟨by omega,by omega⟩]
 simp only[Int.toNat_natCast,ba_get h h']
 rw[decide_eq_false (by omega),cond_false,dif_pos ⟨by omega,h⟩,decide_eq_false (by omega),cond_false,dif_pos ⟨by omega,h⟩,e,dval_snoc,wrapS (by omega),IntKind.wrap_u8]
 rw[w64 (n:=dval (s.data.toList.take k)*10) (by omega) (by omega),w64 (n:=((s.data.toList[k].toNat:Int)-48) % 256) (by omega) (by omega),w64 (by omega) (by omega)]
 have:((s.data.toList[k].toNat:Int)-48) % 256=(s.data.toList[k].toNat:Int)-48:=by omega
 rw[this]
theorem p_loop{s:ByteArray}(hd:∀ b∈s.data.toList,isDig b)(hl:s.size<=10):iter Lfi_ParseUint_0 big ((s,(0:Int),(0:Int),()),())=some (.inr (.inl ((dval s.data.toList,()),()))):=by
 have e:=iter_to (step:=Lfi_ParseUint_0) s.size (fun i=>((s,dval (s.data.toList.take i),(i:Int),()),())) (.inr (.inl ((dval s.data.toList,()),()))) big (fun k h=>p_step hd hl h) (by
  unfold Lfi_ParseUint_0
  dsimp only
  rw[decide_eq_false (by omega),cond_false,show s.size=s.data.toList.length from rfl,List.take_length]) (bigLt (by omega))
 rw[Int.natCast_zero,List.take_zero]at e
 exact e
theorem lp_same:Lfi_ParseUint_0x10=Lfi_ParseUint_0:=rfl
theorem m_ParseUint{s:ByteArray}(hd:∀ b∈s.data.toList,isDig b)(h0:0<s.size)(hl:s.size<=10)(hz:1<s.size->s.data.toList.head?≠some 48)(hv:dval s.data.toList<=1000000000):fi_ParseUint s=some (dval s.data.toList,true):=by
 unfold fi_ParseUint
 rw[lp_same,show ((s.size:Int)==0)=false from beq_eq_false_iff_ne.2 (by omega),cond_false,decide_eq_false (by omega),cond_false]
 have tl:(iter Lfi_ParseUint_0 big ((s,(0:Int),(0:Int),()),())).bind (Sum.elim (fun z5=>some (z5.1.1,z5.1.2.1)) (Sum.elim (fun z6=>bif (decide (z6.1.1 > (1000000000:Int)))then some ((0:Int),false)else some (z6.1.1,true)) (fun z=>nomatch z)))=some (dval s.data.toList,true):=by
  rw[p_loop hd hl,bindS]
  show (bif (decide (dval s.data.toList > 1000000000))then some ((0:Int),false)else some (dval s.data.toList,true))=_
  rw[decide_eq_false (by omega),cond_false]
 by_cases h1:1<s.size
 ·rw[decide_eq_true (by omega),cond_true,dif_pos ⟨by omega,h0⟩]
  have hne:(((s[(0:Int).toNat]'h0).toNat:Int)==48)=false:=by
   have h2:=hz h1
   have h3:s[(0:Int).toNat]'h0=s.data.toList[0]'h0:=ba_get h0 h0
   rw[List.head?_eq_getElem?,List.getElem?_eq_getElem (show 0<s.data.toList.length from h0)]at h2
   rw[h3]
   simp only[beq_eq_false_iff_ne]
   intro e
   refine h2 (congrArg some ?_)
   have:(s.data.toList[0]'h0).toNat=48:=by omega
   exact UInt8.toNat_inj.1 this
  rw[hne,cond_false]
  exact tl
 ·rw[decide_eq_false (by omega),cond_false]
  exact tl
theorem dd_dig:∀ v:Nat,∀ b∈dd v,isDig b:=by
 intro v
 induction v using Nat.strongRecOn with
 | ind v ih=>
  by_cases h:v=0
  ·subst h;simp[dd]
  ·intro b hb
   rw[dd_step h]at hb
   rcases List.mem_append.1 hb with hb | hb
   ·exact ih (v / 10) (by omega) b hb
   ·obtain rfl:=List.mem_singleton.1 hb
    unfold isDig
    have:v % 10<10:=Nat.mod_lt _ (by omega)
    rw[UInt8.toNat_ofNat']
    omega
theorem dd_val:∀ v:Nat,dval (dd v)=(v:Int):=by
 intro v
 induction v using Nat.strongRecOn with
 | ind v ih=>
  by_cases h:v=0
  ·subst h;simp[dd,dval]
  ·rw[dd_step h,dval_snoc,ih (v / 10) (by omega),UInt8.toNat_ofNat']
   omega
theorem dd_head:∀ v:Nat,(dd v).head?≠some 48:=by
 intro v
 induction v using Nat.strongRecOn with
 | ind v ih=>
  by_cases h:v=0
  ·subst h;simp[dd]
  ·rw[dd_step h]
   by_cases h2:v / 10=0
   ·rw[h2]
    have:v % 10=v:=by omega
    simp only[dd,if_true,List.nil_append,List.head?_cons,this]
    intro e
    have e:=Option.some.inj e
    have:=congrArg UInt8.toNat e
    rw[UInt8.toNat_ofNat']at this
    simp at this
    omega
   ·have hne:dd (v / 10)≠[]:=by
     rw[dd_step h2];simp
    obtain⟨b,l,e⟩:=List.exists_cons_of_ne_nil hne
    have h3:=ih (v / 10) (by omega)
    rw[e]at h3 ⊢
    exact h3
theorem dd_len:∀ (k v:Nat),v<10 ^ k->(dd v).length<=k
 | 0,v,h=>by
  have:v=0:=by simpa using h
  subst this;simp[dd]
 | k+1,v,h=>by
  by_cases h0:v=0
  ·subst h0;simp[dd]
  ·have:=dd_len k (v / 10) (by rw[Nat.pow_succ]at h;omega)
   rw[dd_step h0,List.length_append,List.length_singleton]
   omega
theorem itoa_nat{n:Int}(h:0<=n):Lib.itoa n=if n=0 then [48]else dd n.toNat:=by
 unfold Lib.itoa
 rw[if_neg (by omega)]
 by_cases h0:n=0
 ·subst h0
  rw[if_pos rfl,Lib.decDigits]
  rfl
 ·rw[if_neg h0]
  unfold dd
  rw[if_neg (by omega)]
theorem m_ParseItoa{n:Int}(h0:0<=n)(h1:n<=1000000000):fi_ParseUint (itoaB n)=some (n,true):=by
 have e:(itoaB n).data.toList=if n=0 then [48]else dd n.toNat:=itoa_nat h0
 have hs:(itoaB n).size=(itoaB n).data.toList.length:=rfl
 by_cases hz:n=0
 ·subst hz
  rw[if_pos rfl]at e
  have:=m_ParseUint (s:=itoaB 0) (by rw[e];intro b hb;obtain rfl:=List.mem_singleton.1 hb;exact⟨by decide,by decide⟩) (by rw[hs,e];decide) (by rw[hs,e];decide) (by rw[hs,e];intro h;simp at h) (by rw[e];decide)
  rw[this,e]
  rfl
 ·rw[if_neg hz]at e
  have hl:=dd_len 10 n.toNat (by omega)
  have hne:dd n.toNat≠[]:=by rw[dd_step (by omega)];simp
  have hv:=dd_val n.toNat
  have:=m_ParseUint (s:=itoaB n) (by rw[e];exact dd_dig _) (by rw[hs,e];exact List.length_pos_iff.2 hne) (by rw[hs,e];omega) (by rw[e];exact fun _=>dd_head _) (by rw[e,hv];omega)
  rw[this,e,hv,Int.toNat_of_nonneg h0]
def okCh(b:UInt8):Prop:=33<=b.toNat/\b.toNat<=126
def okWd(w:ByteArray):Prop:=0<w.size/\∀ b∈w.data.toList,okCh b
theorem get_drop{s:ByteArray}{p k:Nat}{l:List UInt8}(h:s.data.toList.drop p=l)(hk:k<l.length):∃ h':p+k<s.size,s[p+k]'h' = l[k]:=by
 have hl:p+k<s.data.toList.length:=by
  have:=congrArg List.length h
  rw[List.length_drop]at this
  omega
 refine⟨hl,?_⟩
 rw[ba_get hl hl]
 subst h
 rw[List.getElem_drop]
theorem ext_drop{s w:ByteArray}{p:Nat}{l:List UInt8}(h:s.data.toList.drop p=w.data.toList++l):s.extract p (p+w.size)=w:=by
 refine bl_ext ?_
 rw[ByteArray.data_extract,Array.toList_extract]
 show List.take (p+w.size-p) (List.drop p s.data.toList)=_
 rw[h,show p+w.size-p=w.data.toList.length by show p+w.size-p=w.size;omega,List.take_left']
 rfl
theorem word_step{s w:ByteArray}{p:Nat}{l:List UInt8}{out:List ByteArray}(hs:s.size<=600)(h:s.data.toList.drop p=w.data.toList++l)(hw:okWd w)(hl:l=[]\/∃ l',l=32 :: l')(ho:out.length<=10000):
  Lfi_SplitFields_2 ((s,(),(p:Int),()),(out,()))=some (.inl ((s,(),((p+w.size:Nat):Int),()),(out++[w],()))):=by
 have hws:w.size=w.data.toList.length:=rfl
 have hlen:p+w.size+l.length=s.size:=by
  have:=congrArg List.length h
  rw[List.length_drop,List.length_append]at this
  have e:s.data.toList.length=s.size:=rfl
  have:=hw.1
  omega
 have gw:∀ k (hk:k<w.data.toList.length),∃ h':p+k<s.size,s[p+k]'h' = w.data.toList[k]:=fun k hk=>by
  obtain⟨h1,h2⟩:=get_drop (k:=k) h (by rw[List.length_append];omega)
  exact⟨h1,by rw[h2,List.getElem_append_left hk]⟩
 have e:=iter_to (step:=Lfi_SplitFields_4) w.size (fun i=>((s,(),((p+i:Nat):Int),(p:Int),()),(out,()))) (.inl ((s,(),((p+w.size:Nat):Int),(p:Int),()),(out,()))) big (fun k hk=>by
  obtain⟨h1,h2⟩:=gw k hk
  have h3:=hw.2 _ (List.getElem_mem hk)
  unfold okCh at h3
  unfold Lfi_SplitFields_4
  dsimp only
  rw[decide_eq_true (by omega),cond_true,dif_pos ⟨by omega,by omega⟩]
  simp only[Int.toNat_natCast,h2]
  rw[show (((w.data.toList[k]).toNat:Int) != 32)=true from bne_iff_ne.2 (by omega),cond_true,wrapS (by omega)]
  rfl) (by
  unfold Lfi_SplitFields_4
  dsimp only
  rcases hl with rfl | ⟨l',rfl⟩
  ·rw[decide_eq_false (by simp at hlen;omega),cond_false]
  ·obtain⟨h1,h2⟩:=get_drop (k:=w.size) h (by rw[List.length_append];simp only[List.length_cons];omega)
   rw[decide_eq_true (by omega),cond_true,dif_pos ⟨by omega,by omega⟩]
   simp only[Int.toNat_natCast,h2]
   rw[List.getElem_append_right (by omega)]
   simp only[hws,Nat.sub_self,List.getElem_cons_zero]
   rfl) (bigLt (by omega))
 obtain⟨h1,h2⟩:=gw 0 (by rw[<-hws];exact hw.1)
 have h3:=hw.2 _ (List.getElem_mem (by rw[<-hws];exact hw.1:0<w.data.toList.length))
 unfold okCh at h3
 rw[Nat.add_zero]at e
 simp only[Nat.add_zero]at h1 h2
 unfold Lfi_SplitFields_2
 dsimp only
 rw[decide_eq_true (by omega),cond_true,dif_pos ⟨by omega,by omega⟩]
 simp only[Int.toNat_natCast,h2]
 rw[show (((w.data.toList[0]'(by rw[<-hws];exact hw.1)).toNat:Int)==32)=false from beq_eq_false_iff_ne.2 (by omega),cond_false]
 refine(congrArg (fun o=>Option.bind o _) e).trans ?_
 rw[bindS]
 simp only[Sum.elim_inl]
 rw[if_pos ⟨by omega,by omega,by omega⟩]
 simp only[Int.toNat_natCast]
 rw[ext_drop h,okLen_t (by simp;omega),cond_true]
theorem iter_inl{α β:Type}{step:α->Option (α⊕β)}{a b:α}{n:Nat}(h:step a=some (.inl b)):iter step (n+1) a=iter step n b:=by
 simp only[iter,h]
def lay(ws:List ByteArray):List UInt8:=(ws.map fun w=>32 :: w.data.toList).flatten
theorem lay_or(ws:List ByteArray):lay ws=[]\/∃ l',lay ws=32 :: l':=by
 cases ws with
 | nil=>exact .inl rfl
 | cons w ws=>exact .inr ⟨w.data.toList++lay ws,rfl⟩
theorem drop_add{l:List UInt8}{p:Nat}{a b:List UInt8}(h:l.drop p=a++b):l.drop (p+a.length)=b:=by
 rw[<-List.drop_drop,h,List.drop_left']
 rfl
theorem split_go{s:ByteArray}(hs:s.size<=600):∀ (ws:List ByteArray) (p:Nat) (out:List ByteArray) (fuel:Nat),(∀ w∈ws,okWd w)->p<=s.size->s.data.toList.drop p=lay ws->out.length+ws.length<=10000->2*ws.length<fuel->
  iter Lfi_SplitFields_2 fuel ((s,(),(p:Int),()),(out,()))=some (.inl (((),()),(out++ws,())))
 | [],p,out,fuel,hw,hp,h,ho,hf=>by
  obtain⟨n,rfl⟩:∃ n,fuel=n+1:=⟨fuel-1,by omega⟩
  have hl:s.size<=p:=by
   have:=congrArg List.length h
   rw[List.length_drop]at this
   have e:s.data.toList.length=s.size:=rfl
   simp[lay]at this
   omega
  have:Lfi_SplitFields_2 ((s,(),(p:Int),()),(out,()))=some (.inr (.inl (((),()),(out,())))):=by
   unfold Lfi_SplitFields_2
   dsimp only
   rw[decide_eq_false (by omega),cond_false]
  simp only[iter,this,List.append_nil]
 | w :: ws,p,out,fuel,hw,hp,h,ho,hf=>by
  obtain⟨n,rfl⟩:∃ n,fuel=n+1+1:=⟨fuel-2,by simp at hf;omega⟩
  have h':s.data.toList.drop p=[32]++(w.data.toList++lay ws):=h
  obtain⟨h1,h2⟩:=get_drop (k:=0) h' (by simp)
  simp only[Nat.add_zero]at h1 h2
  have st:Lfi_SplitFields_2 ((s,(),(p:Int),()),(out,()))=some (.inl ((s,(),((p+1:Nat):Int),()),(out,()))):=by
   unfold Lfi_SplitFields_2
   dsimp only
   rw[decide_eq_true (by omega),cond_true,dif_pos ⟨by omega,by omega⟩]
   simp only[Int.toNat_natCast,h2]
   rw[wrapS (by omega)]
   rfl
  have h3:s.data.toList.drop (p+1)=w.data.toList++lay ws:=drop_add h'
  rw[iter_inl st,iter_inl (word_step hs h3 (hw w (.head _)) (lay_or ws) (by simp at ho;omega))]
  have h4:s.data.toList.drop (p+1+w.size)=lay ws:=drop_add h3
  have hle:p+1+w.size<=s.size:=by
   have:=congrArg List.length h3
   rw[List.length_drop,List.length_append]at this
   have e:s.data.toList.length=s.size:=rfl
   have e2:w.data.toList.length=w.size:=rfl
   have:=(hw w (.head _)).1
   omega
  rw[split_go hs ws (p+1+w.size) (out++[w]) n (fun x hx=>hw x (.tail _ hx)) hle h4 (by simp at ho ⊢;omega) (by simp at hf;omega)]
  simp
theorem p_chars{s:ByteArray}(hs:s.size<=600)(hc:∀ b∈s.data.toList,32<=b.toNat/\b.toNat<=126):iter Lfi_SplitFields_0 big ((s,(0:Int),()),())=some (.inr (.inl ((s,()),()))):=by
 have e:=iter_to (step:=Lfi_SplitFields_0) s.size (fun i=>((s,(i:Int),()),())) (.inr (.inl ((s,()),()))) big (fun k h=>by
  have h':k<s.data.toList.length:=h
  have h3:=hc _ (List.getElem_mem h')
  unfold Lfi_SplitFields_0
  dsimp only
  rw[decide_eq_true (by omega),cond_true,dif_pos ⟨by omega,by omega⟩]
  simp only[Int.toNat_natCast,ba_get h h']
  rw[decide_eq_false (by omega),cond_false,dif_pos ⟨by omega,h⟩,decide_eq_false (by omega),cond_false,wrapS (by omega)]) (by
  unfold Lfi_SplitFields_0
  dsimp only
  rw[decide_eq_false (by omega),cond_false]) (bigLt (by omega))
 rw[Int.natCast_zero]at e
 exact e
theorem lay_ch{ws:List ByteArray}(h:∀ w∈ws,okWd w):∀ b∈lay ws,32<=b.toNat/\b.toNat<=126:=by
 intro b hb
 unfold lay at hb
 obtain⟨l,hl,hb⟩:=List.mem_flatten.1 hb
 obtain⟨w,hw,rfl⟩:=List.mem_map.1 hl
 rcases List.mem_cons.1 hb with rfl | hb
 ·decide
 ·have:=(h w hw).2 b hb
  unfold okCh at this
  omega
theorem m_SplitFields{s w:ByteArray}{ws:List ByteArray}(hs:s.size<=600)(h:s.data.toList=w.data.toList++lay ws)(hw:okWd w)(hws:∀ x∈ws,okWd x)(hn:ws.length<24):fi_SplitFields s=some (w :: ws,true):=by
 have hc:∀ b∈s.data.toList,32<=b.toNat/\b.toNat<=126:=by
  intro b hb
  rw[h]at hb
  rcases List.mem_append.1 hb with hb | hb
  ·have:=hw.2 b hb
   unfold okCh at this
   omega
  ·exact lay_ch hws b hb
 have h0:s.data.toList.drop 0=w.data.toList++lay ws:=h
 have st:=word_step (out:=[]) hs h0 hw (lay_or ws) (by simp)
 have hle:0+w.size<=s.size:=by
  have:=congrArg List.length h
  rw[List.length_append]at this
  have e:s.data.toList.length=s.size:=rfl
  have e2:w.data.toList.length=w.size:=rfl
  omega
 obtain⟨n,hb⟩:∃ n,big=n+1:=⟨big-1,by have:=bigLt (show 1000<1073741824 by omega);omega⟩
 have hn2:2*ws.length<n:=by have:=bigLt (show 1000<1073741824 by omega);omega
 have go:=split_go hs ws (0+w.size) ([]++[w]) n hws hle (drop_add h0) (by simp;omega) hn2
 unfold fi_SplitFields
 rw[decide_eq_false (by omega),cond_false,p_chars hs hc,bindS]
 simp only[Sum.elim_inl,Sum.elim_inr]
 rw[Int.natCast_zero]at st
 rw[hb,iter_inl st,go,bindS]
 simp only[Sum.elim_inl]
 rw[decide_eq_false (by simp;omega),cond_false]
 rfl
theorem itoa_wd{n:Int}(h0:0<=n)(h1:n<=1000000000):okWd (itoaB n):=by
 have e:(itoaB n).data.toList=if n=0 then [48]else dd n.toNat:=itoa_nat h0
 have hs:(itoaB n).size=(itoaB n).data.toList.length:=rfl
 by_cases hz:n=0
 ·rw[if_pos hz]at e
  refine⟨by rw[hs,e];decide,by rw[e];intro b hb;obtain rfl:=List.mem_singleton.1 hb;exact⟨by decide,by decide⟩⟩
 ·rw[if_neg hz]at e
  have hne:dd n.toNat≠[]:=by rw[dd_step (by omega)];simp
  refine⟨by rw[hs,e];exact List.length_pos_iff.2 hne,?_⟩
  rw[e]
  intro b hb
  have:=dd_dig _ b hb
  unfold isDig at this
  unfold okCh
  omega
theorem hex_ch:∀ d:Nat,d<16->33<=(UInt8.ofNat (hexb (d:Int)).toNat).toNat/\(UInt8.ofNat (hexb (d:Int)).toNat).toNat<=126:=by decide +kernel
theorem fmtW_wd{x:Int}(h0:0<=x)(h1:x<=4294967295):okWd (fmtW x):=by
 have ef:fmtW x=wordB x:=by
  unfold fmtW
  rw[inR_iff.2 ⟨h0,h1⟩]
  rfl
 have hs:(wordB x).size=8:=by
  unfold wordB
  rw[strOf_size,wordL_len]
 rw[ef]
 refine⟨by omega,fun b hb=>?_⟩
 have e:(wordB x).data.toList=(wordL x 8).map fun n=>UInt8.ofNat n.toNat:=by
  unfold wordB strOfNums
  simp
 rw[e]at hb
 obtain⟨n,hn,rfl⟩:=List.mem_map.1 hb
 unfold wordL at hn
 obtain⟨j,hj,rfl⟩:=List.mem_map.1 hn
 have h:=a15 (x.fdiv (2 ^ (28-4*j)))
 have e:dg x j=((dg x j).toNat:Int):=(Int.toNat_of_nonneg h.1).symm
 rw[e]
 exact hex_ch _ (by have:dg x j<=15:=h.2;omega)
theorem flt_lay(ns:List Int):flt ns=lay (ns.map itoaB):=by
 unfold flt lay
 rw[List.map_map]
 rfl
def numL(ns:List Int)(k:Nat):List Int:=ns.take k++List.replicate (11-k) 0
theorem numL_set{ns:List Int}{k:Nat}(hk:k<ns.length)(h11:ns.length<=11):(numL ns k).set k ns[k]=numL ns (k+1):=by
 unfold numL
 have hl:(ns.take k).length=k:=by rw[List.length_take];omega
 rw[List.set_append_right _ _ (by omega),hl,Nat.sub_self,show 11-k=(11-(k+1))+1 by omega,List.replicate_succ,List.set_cons_zero,List.take_succ_eq_append_getElem hk,List.append_assoc]
 rfl
theorem numL_len{ns:List Int}{k:Nat}(hk:k<=ns.length)(h11:ns.length<=11):(numL ns k).length=11:=by
 unfold numL
 simp
 omega
def z21:=((0:Int),(0:Int),(0:Int),(0:Int),false,(0:Int),(0:Int),(0:Int),(0:Int),(0:Int),(0:Int),(0:Int),(0:Int),(0:Int),(0:Int),(0:Int),(0:Int),(),(0:Int),(0:Int),())
theorem p_nums(wds:List ByteArray)(d:Int){ns:List Int}(hin:∀ n∈ns,0<=n/\n<=1000000000)(h11:ns.length<=11):
  iter Lfi_ParseAct_0 big (((),wds,ns.map itoaB,d,(),(0:Int),()),(z21,List.replicate 11 (0:Int),([]:List Int),()))=some (.inl (((),wds,d,(),()),(z21,numL ns ns.length,([]:List Int),()))):=by
 have e:=iter_to (step:=Lfi_ParseAct_0) ns.length (fun i=>(((),wds,ns.map itoaB,d,(),(i:Int),()),(z21,numL ns i,([]:List Int),()))) (.inl (((),wds,d,(),()),(z21,numL ns ns.length,([]:List Int),()))) big (fun k h=>by
  have h1:=numL_len (show k<=ns.length by omega) h11
  have h2:=hin _ (List.getElem_mem h)
  have hm:(ns.map itoaB).length=ns.length:=List.length_map _
  unfold Lfi_ParseAct_0
  dsimp only
  rw[decide_eq_true (by omega),cond_true,decide_eq_true (by omega),cond_true,dif_pos ⟨by omega,by omega⟩]
  simp only[Int.toNat_natCast,List.getElem_map]
  rw[m_ParseItoa h2.1 h2.2,bindS,dif_pos ⟨by omega,by omega⟩,dif_pos (by omega),wrapS (by omega),numL_set h h11]) (by
  have h1:=numL_len (show ns.length<=ns.length by omega) h11
  unfold Lfi_ParseAct_0
  dsimp only
  have hm:(ns.map itoaB).length=ns.length:=List.length_map _
  rw[decide_eq_false (by omega),cond_false]) (bigLt (by omega))
 have e0:numL ns 0=List.replicate 11 (0:Int):=by simp[numL]
 rw[Int.natCast_zero,e0]at e
 exact e
def pv(x:Nat)(k:Nat):Nat:=x / 2 ^ (32-4*k)
theorem dg_nat{x:Nat}(hx:x<4294967296){j:Nat}(h:j<8):dg (x:Int) j=((x / 2 ^ (28-4*j) % 16:Nat):Int):=by
 have e:(x:Int).fdiv (2 ^ (28-4*j))=((x / 2 ^ (28-4*j):Nat):Int):=by
  rw[Int.fdiv_eq_ediv_of_nonneg _ (Int.pow_nonneg (by omega))]
  simp
 have hl:x / 2 ^ (28-4*j)<=x:=Nat.div_le_self _ _
 unfold dg
 rw[e]
 generalize x / 2 ^ (28-4*j)=q at hl
 rw[i64_and15 _ (by omega) (by omega),Int.toNat_natCast]
theorem pv_succ{x:Nat}{k:Nat}(h:k<8):pv x (k+1)=16*pv x k+x / 2 ^ (28-4*k) % 16:=by
 unfold pv
 have e1:32-4*(k+1)=28-4*k:=by omega
 have e2:2 ^ (32-4*k)=2 ^ (28-4*k)*16:=by
  rw[show 32-4*k=(28-4*k)+4 by omega,Nat.pow_add]
 rw[e1,e2,<-Nat.div_div_eq_div_mul]
 generalize x / 2 ^ (28-4*k)=q
 omega
theorem ix_hex:∀ d:Nat,d<16->x_IndexByte (ByteArray.mk #[48,49,50,51,52,53,54,55,56,57,97,98,99,100,101,102]) ((UInt8.ofNat (hexb (d:Int)).toNat).toNat:Int)=some (d:Int):=by
 decide +kernel
theorem word_get{x:Nat}{k:Nat}(h:k<8)(h':k<(wordB (x:Int)).size):(wordB (x:Int))[k]'h' = UInt8.ofNat (hexb (dg (x:Int) k)).toNat:=by
 have h2:k<(wordB (x:Int)).data.toList.length:=h'
 have e:(wordB (x:Int)).data.toList=(wordL (x:Int) 8).map fun n=>UInt8.ofNat n.toNat:=by
  unfold wordB strOfNums
  simp
 rw[ba_get h' h2]
 simp only[e,List.getElem_map,wordL,List.getElem_range]
theorem m_ParseWord{x:Int}(h0:0<=x)(h1:x<=4294967295):fi_ParseWord (fmtW x)=some (x,true):=by
 obtain⟨n,rfl⟩:=Int.eq_ofNat_of_zero_le h0
 have hn:n<4294967296:=by omega
 have ef:fmtW (n:Int)=wordB (n:Int):=by
  unfold fmtW
  rw[inR_iff.2 ⟨h0,h1⟩]
  rfl
 have hs:(wordB (n:Int)).size=8:=by
  unfold wordB
  rw[strOf_size,wordL_len]
 rw[ef]
 have e:=iter_to (step:=Lfi_ParseWord_0) 8 (fun i=>((wordB (n:Int),(pv n i:Int),(i:Int),()),())) (.inr (.inl (((n:Int),()),()))) big (fun k h=>by
  have hlt:pv n k<268435456:=by
   unfold pv
   refine Nat.div_lt_of_lt_mul ?_
   have:16<=2 ^ (32-4*k):=Nat.le_trans (by decide:16<=2 ^ 4) (Nat.pow_le_pow_right (by omega) (by omega))
   omega
  have hd:n / 2 ^ (28-4*k) % 16<16:=Nat.mod_lt _ (by omega)
  unfold Lfi_ParseWord_0
  dsimp only
  rw[decide_eq_true (by omega),cond_true,dif_pos ⟨by omega,by omega⟩]
  have hw:=word_get (x:=n) h (show k<(wordB (n:Int)).size by omega)
  simp only[Int.toNat_natCast]
  rw[hw,dg_nat hn h,ix_hex _ hd,bindS,decide_eq_false (by omega),cond_false,show (2:Int) ^ (min (4:Int).toNat IntKind.i64.bits)=16 from rfl,w64 (by omega) (by omega),i64_or_shift _ _ (by omega) (by omega) (by omega) (by omega),wrapS (by omega),pv_succ h]
  rfl) (by
  unfold Lfi_ParseWord_0
  dsimp only
  rw[decide_eq_false (by omega),cond_false]
  have:pv n 8=n:=by simp[pv]
  rw[this]) (bigLt (by omega))
 have hp0:pv n 0=0:=by
  unfold pv
  exact Nat.div_eq_of_lt hn
 rw[Int.natCast_zero,hp0,Int.natCast_zero]at e
 unfold fi_ParseWord
 rw[show (((wordB (n:Int)).size:Int) != 8)=false by rw[hs];rfl,cond_false]
 exact(congrArg (fun o=>Option.bind o _) e).trans rfl
theorem join_txt{w:ByteArray}{ns:List Int}(hl:(txt w ns).size<=600)(h11:ns.length<=11):x_Join (w :: ns.map itoaB) (ByteArray.mk #[32])=some (txt w ns):=by
 have hm:(w :: ns.map itoaB).map (·.data.toList)=w.data.toList :: ns.map Lib.itoa:=by
  rw[List.map_cons,List.map_map]
  rfl
 have hj:Lib.join (w.data.toList :: ns.map Lib.itoa) [32]=w.data.toList++flt ns:=by
  cases ns with
  | nil=>simp[Lib.join_one,flt]
  | cons n l=>
   rw[Lib.join_cons,joinTail_ne (by simp),<-jn_flt]
   rfl
 have hs:(txt w ns).size=(w.data.toList++flt ns).length:=rfl
 unfold x_Join
 rw[hm,show (ByteArray.mk #[32]).data.toList=[32]from rfl,hj,decide_eq_true (by simp;omega),decide_eq_true (by omega)]
 rfl
theorem m_ParseAct{w:ByteArray}{ns:List Int}{b:DAct}(hw:okWd w)(hne:(w.toList==(ByteArray.mk #[119,114,105,116,101]).toList)=false)(hin:∀ n∈ns,0<=n/\n<=1000000000)(h11:ns.length<=11)(hs:(txt w ns).size<=600)
  (ha:fi_actOf w (numL ns ns.length) 0=some b) (hf:fi_FormatAct b=some (txt w ns,true)):fi_ParseAct (txt w ns)=some (b,true):=by
 have hsp:fi_SplitFields (txt w ns)=some (w :: ns.map itoaB,true):=m_SplitFields hs (by
  show w.data.toList++flt ns=_
  rw[flt_lay]) hw (fun x hx=>by
  obtain⟨n,hn,rfl⟩:=List.mem_map.1 hx
  exact itoa_wd (hin n hn).1 (hin n hn).2) (by rw[List.length_map];omega)
 have hl:(w :: ns.map itoaB).length=ns.length+1:=by simp
 have hargs:(((w :: ns.map itoaB).take (((w :: ns.map itoaB).length:Int)).toNat).drop (1:Int).toNat)=ns.map itoaB:=by
  rw[Int.toNat_natCast,List.take_length]
  rfl
 unfold fi_ParseAct
 rw[hsp,bindS]
 dsimp only
 rw[Bool.not_true,cond_false,show (((w :: ns.map itoaB).length:Int)==0)=false from beq_eq_false_iff_ne.2 (by omega),cond_false,if_pos ⟨by omega,by omega,by omega⟩,dif_pos ⟨by omega,by show 0<_;omega⟩]
 rw[show (w :: ns.map itoaB)[(0:Int).toNat]'(by show 0<_;omega)=w from rfl,hne,cond_false,if_pos ⟨by omega,by omega,by omega⟩,hargs]
 refine(congrArg (fun o=>Option.bind o _) (p_nums (w :: ns.map itoaB) 0 hin h11)).trans ?_
 rw[bindS]
 simp only[Sum.elim_inl]
 rw[dif_pos ⟨by omega,by show 0<_;omega⟩]
 rw[show (w :: ns.map itoaB)[(0:Int).toNat]'(by show 0<_;omega)=w from rfl,ha,bindS,hf,bindS,Bool.not_true,cond_false,join_txt hs h11,bindS,beq_self_eq_true]
 rfl
theorem join_lay:∀ (w:ByteArray) (ls:List ByteArray),Lib.join ((w :: ls).map (·.data.toList)) [32]=w.data.toList++lay ls
 | w,[]=>by simp[Lib.join_one,lay]
 | w,x :: ls=>by
  have ih:=join_lay x ls
  rw[List.map_cons,Lib.join_cons,joinTail_ne (by simp),ih]
  rfl
theorem lay_app(a b:List ByteArray):lay (a++b)=lay a++lay b:=by simp[lay]
theorem m_ParseActW{ns:List Int}{d:Int}{b:DAct}(hin:∀ n∈ns,0<=n/\n<=1000000000)(h11:ns.length<=11)(hd:0<=d/\d<=4294967295)(hs:((txt wWrite ns++ByteArray.mk #[32])++fmtW d).size<=600)
  (ha:fi_actOf wWrite (numL ns ns.length) d=some b) (hf:fi_FormatAct b=some ((txt wWrite ns++ByteArray.mk #[32])++fmtW d,true)):fi_ParseAct ((txt wWrite ns++ByteArray.mk #[32])++fmtW d)=some (b,true):=by
 have hww:okWd wWrite:=by
  refine⟨by show 0<5;omega,fun b hb=>?_⟩
  have h:b∈[119,114,105,116,101]:=hb
  simp only[List.mem_cons,List.not_mem_nil,or_false]at h
  rcases h with rfl | rfl | rfl | rfl | rfl <;>exact⟨by decide,by decide⟩
 have hdat:((txt wWrite ns++ByteArray.mk #[32])++fmtW d).data.toList=wWrite.data.toList++lay (ns.map itoaB++[fmtW d]):=by
  rw[bl_app,bl_app,lay_app,<-flt_lay]
  show (wWrite.data.toList++flt ns)++[32]++(fmtW d).data.toList=_
  simp[lay]
 have hok:∀ x∈ns.map itoaB++[fmtW d],okWd x:=by
  intro x hx
  rcases List.mem_append.1 hx with hx | hx
  ·obtain⟨n,hn,rfl⟩:=List.mem_map.1 hx
   exact itoa_wd (hin n hn).1 (hin n hn).2
  ·obtain rfl:=List.mem_singleton.1 hx
   exact fmtW_wd hd.1 hd.2
 have hsp:=m_SplitFields hs hdat hww hok (by simp;omega)
 have hjoin:x_Join (wWrite :: (ns.map itoaB++[fmtW d])) (ByteArray.mk #[32])=some ((txt wWrite ns++ByteArray.mk #[32])++fmtW d):=by
  have hsz:((txt wWrite ns++ByteArray.mk #[32])++fmtW d).size=((txt wWrite ns++ByteArray.mk #[32])++fmtW d).data.toList.length:=rfl
  rw[hdat]at hsz
  unfold x_Join
  rw[show (ByteArray.mk #[32]).data.toList=[32]from rfl,join_lay,decide_eq_true (by simp;omega),decide_eq_true (by omega)]
  exact congrArg some (bl_ext (by rw[hdat]))
 generalize (txt wWrite ns++ByteArray.mk #[32])++fmtW d=t at *
 have hl:(ns.map itoaB++[fmtW d]).length=ns.length+1:=by simp
 generalize hA:ns.map itoaB++[fmtW d]=A at *
 have hlw:(wWrite :: A).length=A.length+1:=rfl
 have hargs:(((wWrite :: A).take (((wWrite :: A).length:Int)).toNat).drop (1:Int).toNat)=A:=by
  rw[Int.toNat_natCast,List.take_length]
  rfl
 have hlast:∀ (h:(IntKind.i64.wrap ((A.length:Int)-(1:Int))).toNat<A.length),A[(IntKind.i64.wrap ((A.length:Int)-(1:Int))).toNat]'h=fmtW d:=by
  intro h
  have e:(IntKind.i64.wrap ((A.length:Int)-(1:Int))).toNat=ns.length:=by rw[w64 (by omega) (by omega)];omega
  simp only[e]
  subst hA
  rw[List.getElem_append_right (by simp)]
  simp
 have hcut:((A.take (IntKind.i64.wrap ((A.length:Int)-(1:Int))).toNat).drop (0:Int).toNat)=ns.map itoaB:=by
  have e:(IntKind.i64.wrap ((A.length:Int)-(1:Int))).toNat=(ns.map itoaB).length:=by rw[w64 (by omega) (by omega),List.length_map];omega
  rw[e,<-hA,List.take_left']
  ·rfl
  ·rfl
 have hwr:(wWrite.toList==(ByteArray.mk #[119,114,105,116,101]).toList)=true:=beq_self_eq_true _
 have hi:(IntKind.i64.wrap ((A.length:Int)-(1:Int)))=(ns.length:Int):=by rw[w64 (by omega) (by omega)];omega
 unfold fi_ParseAct
 rw[hsp,bindS]
 dsimp only
 rw[Bool.not_true,cond_false,show (((wWrite :: A).length:Int)==0)=false from beq_eq_false_iff_ne.2 (by omega),cond_false,if_pos ⟨by omega,by omega,by omega⟩,dif_pos ⟨by omega,by show 0<_;omega⟩]
 rw[show (wWrite :: A)[(0:Int).toNat]'(by show 0<_;omega)=wWrite from rfl,hwr,cond_true]
 simp only[hargs]
 rw[decide_eq_true (by omega),cond_true,dif_pos ⟨by rw[hi];omega,by rw[hi];omega⟩,hlast,m_ParseWord hd.1 hd.2,bindS,if_pos ⟨by omega,by rw[hi];omega,by rw[hi];omega⟩,if_pos ⟨by omega,by omega,by omega⟩,hcut]
 refine(congrArg (fun o=>Option.bind o _) (p_nums (wWrite :: A) d hin h11)).trans ?_
 rw[bindS]
 simp only[Sum.elim_inl]
 rw[dif_pos ⟨by omega,by show 0<_;omega⟩]
 rw[show (wWrite :: A)[(0:Int).toNat]'(by show 0<_;omega)=wWrite from rfl,ha,bindS,hf,bindS,Bool.not_true,cond_false,hjoin,bindS,beq_self_eq_true]
 rfl
theorem iE_eq{u a:DAct}(hk:u.kind=a.kind)(h:iE u a=true):u=a:=by
 simp only[iE,pE,Bool.and_eq_true,beq_iff_eq,sameB_iff]at h
 obtain⟨⟨r1,r2,r3,r4,r5,r6,_⟩,n,c,⟨b1,b2,b3,_⟩,p1,p2,p3,p4,p5,w,d1,d2,_⟩:=h
 obtain⟨k,⟨q1,q2,q3,q4,q5,q6⟩,m,e,⟨x1,x2,x3⟩,⟨y1,y2,y3,y4,y5,y6,⟨z1,z2⟩⟩⟩:=u
 obtain⟨k',⟨q1',q2',q3',q4',q5',q6'⟩,m',e',⟨x1',x2',x3'⟩,⟨y1',y2',y3',y4',y5',y6',⟨z1',z2'⟩⟩⟩:=a
 simp only at hk r1 r2 r3 r4 r5 r6 n c b1 b2 b3 p1 p2 p3 p4 p5 w d1 d2
 subst hk r1 r2 r3 r4 r5 r6 n c b1 b2 b3 p1 p2 p3 p4 p5 w d1 d2
 rfl
def zR:DReq:=⟨0,0,0,false,0,0⟩
def zP:DPolicy:=⟨0,0,0,0,0,[],⟨0,0⟩⟩
theorem cr1:(wRead.toList==(ByteArray.mk #[119,114,105,116,101]).toList)=false:=by decide +kernel
theorem cw1:(wWrite.toList==(ByteArray.mk #[114,101,97,100]).toList)=false:=by decide +kernel
theorem tr1:(wRead.toList==(ByteArray.mk #[114,101,97,100]).toList)=true:=beq_self_eq_true _
theorem tw1:(wWrite.toList==(ByteArray.mk #[119,114,105,116,101]).toList)=true:=beq_self_eq_true _
theorem ao_read(i t l d:Int):fi_actOf wRead (numL [i,t,l] 3) d=some ⟨1,⟨i,t,l,false,d,0⟩,0,0,⟨0,0,0⟩,zP⟩:=by
 unfold fi_actOf
 simp only[tr1,cr1,cond_true,cond_false]
 rfl
theorem ao_write(i t l d:Int):fi_actOf wWrite (numL [i,t,l] 3) d=some ⟨1,⟨i,t,l,true,d,0⟩,0,0,⟨0,0,0⟩,zP⟩:=by
 unfold fi_actOf
 simp only[tw1,cw1,cond_true,cond_false]
 rfl
theorem c_wait:(wWait.toList==(ByteArray.mk #[114,101,97,100]).toList)=false/\(wWait.toList==(ByteArray.mk #[119,114,105,116,101]).toList)=false/\(wWait.toList==(ByteArray.mk #[119,97,105,116]).toList)=true:=by decide +kernel
theorem ao_wait(n d:Int):fi_actOf wWait (numL [n] 1) d=some ⟨2,zR,n,0,⟨0,0,0⟩,zP⟩:=by
 unfold fi_actOf
 obtain⟨h1,h2,h3⟩:=c_wait
 simp only[h1,h2,h3,cond_true,cond_false]
 rfl
theorem c_heat:(wHeat.toList==(ByteArray.mk #[114,101,97,100]).toList)=false/\(wHeat.toList==(ByteArray.mk #[119,114,105,116,101]).toList)=false/\(wHeat.toList==(ByteArray.mk #[119,97,105,116]).toList)=false/\(wHeat.toList==(ByteArray.mk #[104,101,97,116]).toList)=true:=by decide +kernel
theorem ao_heat(n d:Int):fi_actOf wHeat (numL [n] 1) d=some ⟨4,zR,n,0,⟨0,0,0⟩,zP⟩:=by
 unfold fi_actOf
 obtain⟨h1,h2,h3,h4⟩:=c_heat
 simp only[h1,h2,h3,h4,cond_true,cond_false]
 rfl
theorem c_flip:(wFlip.toList==(ByteArray.mk #[114,101,97,100]).toList)=false/\(wFlip.toList==(ByteArray.mk #[119,114,105,116,101]).toList)=false/\(wFlip.toList==(ByteArray.mk #[119,97,105,116]).toList)=false/\(wFlip.toList==(ByteArray.mk #[104,101,97,116]).toList)=false/\(wFlip.toList==(ByteArray.mk #[102,108,105,112]).toList)=true:=by decide +kernel
theorem ao_flip(b r c p n d:Int):fi_actOf wFlip (numL [b,r,c,p,n] 5) d=some ⟨3,zR,n,p,⟨b,r,c⟩,zP⟩:=by
 unfold fi_actOf
 obtain⟨h1,h2,h3,h4,h5⟩:=c_flip
 simp only[h1,h2,h3,h4,h5,cond_true,cond_false]
 rfl
theorem c_ret:(wRet.toList==(ByteArray.mk #[114,101,97,100]).toList)=false/\(wRet.toList==(ByteArray.mk #[119,114,105,116,101]).toList)=false/\(wRet.toList==(ByteArray.mk #[119,97,105,116]).toList)=false/\(wRet.toList==(ByteArray.mk #[104,101,97,116]).toList)=false/\(wRet.toList==(ByteArray.mk #[102,108,105,112]).toList)=false/\(wRet.toList==(ByteArray.mk #[112,111,108,105,99,121]).toList)=false/\(wRet.toList==(ByteArray.mk #[114,101,116,105,114,101]).toList)=true:=by decide +kernel
theorem ao_ret(b r d:Int):fi_actOf wRet (numL [b,r] 2) d=some ⟨6,zR,0,0,⟨b,r,0⟩,zP⟩:=by
 unfold fi_actOf
 obtain⟨h1,h2,h3,h4,h5,h6,h7⟩:=c_ret
 simp only[h1,h2,h3,h4,h5,h6,h7,cond_true,cond_false]
 rfl
theorem c_pol:(wPol.toList==(ByteArray.mk #[114,101,97,100]).toList)=false/\(wPol.toList==(ByteArray.mk #[119,114,105,116,101]).toList)=false/\(wPol.toList==(ByteArray.mk #[119,97,105,116]).toList)=false/\(wPol.toList==(ByteArray.mk #[104,101,97,116]).toList)=false/\(wPol.toList==(ByteArray.mk #[102,108,105,112]).toList)=false/\(wPol.toList==(ByteArray.mk #[112,111,108,105,99,121]).toList)=true/\(wPol.toList==(ByteArray.mk #[114,101,116,105,114,101]).toList)=false:=by decide +kernel
theorem ao_pol(a b c e f g h i j k l d:Int):fi_actOf wPol (numL [a,b,c,e,f,g,h,i,j,k,l] 11) d=some ⟨5,zR,0,0,⟨0,0,0⟩,⟨a,b,c,e,f,[g,h,i,j],⟨k,l⟩⟩⟩:=by
 unfold fi_actOf
 obtain⟨h1,h2,h3,h4,h5,h6,h7⟩:=c_pol
 simp only[h1,h2,h3,h4,h5,h6,h7,cond_true,cond_false]
 rfl
theorem body_true{a u:DAct}{w t:ByteArray}{ns:List Int}(hk:u.kind=a.kind)(hne:(w.toList==(ByteArray.mk #[]).toList)=false)(hn:ns≠[])(hin:∀ n∈ns,in64 n)(hl:ns.length<=2000000)(hw:w.size<=100)(hwt:u.policy.weights.length<1073741824)
  (h:iBody a u w ns=some (t,true)):u=a/\(0<=a.request.data/\a.request.data<=4294967295)/\(∀ n∈ns,0<=n/\n<=1000000000)/\t=bif a.request.write then (txt w ns++ByteArray.mk #[32])++fmtW a.request.data else txt w ns:=by
 rw[m_iBody hne hn hin hl hw hwt]at h
 have h:=Option.some.inj h
 cases hc:(iE u a&&inR a.request.data 0 4294967295)with
 | false=>rw[hc]at h;cases h
 | true=>
  rw[hc,cond_true]at h
  rw[Bool.and_eq_true]at hc
  unfold fin at h
  cases ha:ns.all ok9 with
  | false=>rw[ha]at h;cases h
  | true=>
   rw[ha,cond_true]at h
   refine⟨iE_eq hk hc.1,inR_iff.1 hc.2,fun n hn=>inR_iff.1 (List.all_eq_true.1 ha n hn),?_⟩
   cases hw:a.request.write with
   | true=>rw[hw]at h;exact(congrArg Prod.fst h).symm
   | false=>rw[hw]at h;exact(congrArg Prod.fst h).symm
theorem okWd_dec(w:ByteArray)(h:(decide (0<w.size)&&w.data.toList.all (fun b=>decide (33<=b.toNat)&&decide (b.toNat<=126)))=true):okWd w:=by
 rw[Bool.and_eq_true,List.all_eq_true]at h
 refine⟨of_decide_eq_true h.1,fun b hb=>?_⟩
 have:=h.2 b hb
 rw[Bool.and_eq_true]at this
 exact⟨of_decide_eq_true this.1,of_decide_eq_true this.2⟩
theorem back1{a u:DAct}{w t:ByteArray}{ns:List Int}(hk:u.kind=a.kind)(hne:(w.toList==(ByteArray.mk #[]).toList)=false)(hnw:(w.toList==(ByteArray.mk #[119,114,105,116,101]).toList)=false)(hwd:okWd w)(hw:w.size<=100)(hn:ns≠[])(hin:∀ n∈ns,in64 n)(h11:ns.length<=11)(hwt:u.policy.weights.length<1073741824)(hu:u.request.write=false)
  (ha:fi_actOf w (numL ns ns.length) 0=some u) (hf:fi_FormatAct a=some (t,true)) (h:iBody a u w ns=some (t,true)):fi_ParseAct t=some (a,true):=by
 obtain⟨e,hd,hr,ht⟩:=body_true hk hne hn hin (by omega) hw hwt h
 subst e
 rw[hu,cond_false]at ht
 subst ht
 have hs:=txt_len (w:=w) hin
 exact m_ParseAct hwd hnw hr h11 (by omega) ha hf
theorem back2{a u:DAct}{t:ByteArray}{ns:List Int}(hk:u.kind=a.kind)(hn:ns≠[])(hin:∀ n∈ns,in64 n)(h11:ns.length<=11)(hwt:u.policy.weights.length<1073741824)(hu:u.request.write=true)
  (ha:fi_actOf wWrite (numL ns ns.length) u.request.data=some u) (hf:fi_FormatAct a=some (t,true)) (h:iBody a u wWrite ns=some (t,true)):fi_ParseAct t=some (a,true):=by
 obtain⟨e,hd,hr,ht⟩:=body_true hk wne.2.1 hn hin (by omega) (by decide +kernel) hwt h
 subst e
 rw[hu,cond_true]at ht
 subst ht
 have hs:=txt_len (w:=wWrite) hin
 have hw5:wWrite.size=5:=rfl
 have h8:=fmtW_size u.request.data
 refine m_ParseActW hr (by omega) hd ?_ ha hf
 rw[sz_app,sz_app]
 show (txt wWrite ns).size+1+_<=_
 omega
theorem p_back(a:DAct)(h:IAct a){t:ByteArray}(hf:fi_FormatAct a=some (t,true)):fi_ParseAct t=some (a,true):=by
 obtain⟨_,⟨r1,r2,r3,_,r5,r6⟩,i1,i2,⟨b1,b2,b3⟩,⟨p1,p2,p3,p4,p5,p6,p7⟩⟩:=h
 obtain⟨e1,e2,e3,e4,e5,e6,e7⟩:=wne
 have z:([]:List Int).length<1073741824:=by simp
 have hf':=hf
 rw[i_split]at hf'
 unfold fi_actNumbers at hf'
 by_cases k2:a.kind=2
 ·simp only[k2,show ((2:Int)==1)=false from rfl,show ((2:Int)==2)=true from rfl,cond_true,cond_false]at hf'
  exact back1 (u:=uN a) rfl e3 c_wait.2.1 (okWd_dec _ (by decide +kernel)) (by decide +kernel) (by simp) (by simp only[List.forall_mem_cons];exact⟨i1,fun _ h=>by cases h⟩) (by simp) z rfl ((ao_wait a.n 0).trans (by unfold uN;rw[k2];rfl)) hf hf'
 by_cases k4:a.kind=4
 ·simp only[k4,show ((4:Int)==1)=false from rfl,show ((4:Int)==2)=false from rfl,show ((4:Int)==4)=true from rfl,cond_true,cond_false]at hf'
  exact back1 (u:=uN a) rfl e4 c_heat.2.1 (okWd_dec _ (by decide +kernel)) (by decide +kernel) (by simp) (by simp only[List.forall_mem_cons];exact⟨i1,fun _ h=>by cases h⟩) (by simp) z rfl ((ao_heat a.n 0).trans (by unfold uN;rw[k4];rfl)) hf hf'
 by_cases k3:a.kind=3
 ·simp only[k3,show ((3:Int)==1)=false from rfl,show ((3:Int)==2)=false from rfl,show ((3:Int)==4)=false from rfl,show ((3:Int)==3)=true from rfl,cond_true,cond_false]at hf'
  exact back1 (u:=uF a) rfl e5 c_flip.2.1 (okWd_dec _ (by decide +kernel)) (by decide +kernel) (by simp) (by simp only[List.forall_mem_cons];exact⟨b1,b2,b3,i2,i1,fun _ h=>by cases h⟩) (by simp) z rfl ((ao_flip a.addr.bank a.addr.row a.addr.col a.chip a.n 0).trans (by unfold uF;rw[k3];rfl)) hf hf'
 by_cases k6:a.kind=6
 ·simp only[k6,show ((6:Int)==1)=false from rfl,show ((6:Int)==2)=false from rfl,show ((6:Int)==4)=false from rfl,show ((6:Int)==3)=false from rfl,show ((6:Int)==5)=false from rfl,show ((6:Int)==6)=true from rfl,cond_true,cond_false]at hf'
  exact back1 (u:=uR a) rfl e6 c_ret.2.1 (okWd_dec _ (by decide +kernel)) (by decide +kernel) (by simp) (by simp only[List.forall_mem_cons];exact⟨b1,b2,fun _ h=>by cases h⟩) (by simp) z rfl ((ao_ret a.addr.bank a.addr.row 0).trans (by unfold uR;rw[k6];rfl)) hf hf'
 by_cases k1:a.kind=1
 ·simp only[k1,show ((1:Int)==1)=true from rfl,cond_true]at hf'
  have hin:∀ n∈[a.request.id,a.request.tenant,a.request.line],in64 n:=by
   simp only[List.forall_mem_cons]
   exact⟨r1,r2,r3,fun _ h=>by cases h⟩
  cases hw:a.request.write with
  | true=>
   rw[hw]at hf'
   exact back2 (u:=uA a a.request.data) rfl (by simp) hin (by simp) z hw ((ao_write a.request.id a.request.tenant a.request.line a.request.data).trans (by unfold uA;rw[k1,hw];rfl)) hf hf'
  | false=>
   rw[hw]at hf'
   exact back1 (u:=uA a 0) rfl e1 cr1 (okWd_dec _ (by decide +kernel)) (by decide +kernel) (by simp) hin (by simp) z hw ((ao_read a.request.id a.request.tenant a.request.line 0).trans (by unfold uA;rw[k1,hw];rfl)) hf hf'
 have c1:(a.kind==1)=false:=by simpa using k1
 have c2:(a.kind==2)=false:=by simpa using k2
 have c3:(a.kind==3)=false:=by simpa using k3
 have c4:(a.kind==4)=false:=by simpa using k4
 have c6:(a.kind==6)=false:=by simpa using k6
 have no:∀ {u:DAct} {ns:List Int},iBody a u (ByteArray.mk #[]) ns=some (t,true)->fi_ParseAct t=some (a,true):=fun h=>by
  rw[n_iBody]at h
  have:=congrArg Prod.snd (Option.some.inj h)
  cases this
 by_cases k5:a.kind=5
 ·simp only[k5,show ((5:Int)==1)=false from rfl,show ((5:Int)==2)=false from rfl,show ((5:Int)==4)=false from rfl,show ((5:Int)==3)=false from rfl,show ((5:Int)==6)=false from rfl,show ((5:Int)==5)=true from rfl,cond_true,cond_false]at hf'
  by_cases h4:a.policy.weights.length=4
  ·have c:((a.policy.weights.length:Int)==4)=true:=by simp[h4]
   rw[c,cond_true,dif_pos ⟨by omega,by show 0<_;omega⟩,dif_pos ⟨by omega,by show 1<_;omega⟩,dif_pos ⟨by omega,by show 2<_;omega⟩,dif_pos ⟨by omega,by show 3<_;omega⟩]at hf'
   have hw4:=four h4
   refine back1 (u:=uP a) (ns:=[a.policy.page,a.policy.cap,a.policy.limit,a.policy.low,a.policy.high,a.policy.weights[0],a.policy.weights[1],a.policy.weights[2],a.policy.weights[3],a.policy.rule.down,a.policy.rule.sleep]) rfl e7 c_pol.2.1 (okWd_dec _ (by decide +kernel)) (by decide +kernel) (by simp) ?_ (by simp) (show a.policy.weights.length<_ by omega) rfl ?_ hf hf'
   ·simp only[List.forall_mem_cons]
    exact⟨p1,p2,p3,p4,p5,p6.2 _ (List.getElem_mem _),p6.2 _ (List.getElem_mem _),p6.2 _ (List.getElem_mem _),p6.2 _ (List.getElem_mem _),p7.1,p7.2,fun _ h=>by cases h⟩
   ·refine(ao_pol _ _ _ _ _ _ _ _ _ _ _ 0).trans ?_
    rw[<-hw4]
    unfold uP
    rw[k5]
    rfl
  ·have c:((a.policy.weights.length:Int)==4)=false:=by simp;omega
   rw[c,cond_false]at hf'
   exact no hf'
 have c5:(a.kind==5)=false:=by simpa using k5
 simp only[c1,c2,c3,c4,c5,c6,cond_false]at hf'
 exact no hf'
def r9(x:Int):Prop:=0<=x/\x<=1000000000
theorem r9.i{x:Int}(h:r9 x):in64 x:=by
 obtain⟨h1,h2⟩:=h
 exact⟨by omega,by omega⟩
def PolD(p:DPolicy):Prop:=r9 p.page/\r9 p.cap/\r9 p.limit/\r9 p.low/\r9 p.high/\(p.weights.length=4/\∀ x∈p.weights,r9 x)/\r9 p.rule.down/\r9 p.rule.sleep
def ActD(a:DAct):Prop:=(a.kind=1/\r9 a.request.id/\r9 a.request.tenant/\r9 a.request.line/\0<=a.request.data/\a.request.data<=4294967295)\/(a.kind=3/\r9 a.n/\r9 a.chip/\r9 a.addr.bank/\r9 a.addr.row/\r9 a.addr.col)\/((a.kind=4\/a.kind=5\/a.kind=6\/a.kind=2)/\r9 a.n/\r9 a.addr.bank/\r9 a.addr.row/\(a.kind=5->PolD a.policy))
theorem iE_self(x:DAct):iE x x=true:=by
 have h:sameB x.policy.weights x.policy.weights=true:=sameB_iff.2 rfl
 simp[iE,pE,h]
/-- A text of words,of which the first is no remark. -/
def TxtOK(t:ByteArray):Prop:=∃ w ws,okWd w/\(∀ x∈ws,okWd x)/\t.data.toList=w.data.toList++lay ws/\ws.length<24/\t.size<=500/\(w.data.toList.headD 59).toNat≠59
theorem lay_app2(a b:List ByteArray):lay (a++b)=lay a++lay b:=by simp[lay]
theorem txt_ok{w:ByteArray}{ns:List Int}(hw:okWd w)(hs:w.size<=100)(h5:(w.data.toList.headD 59).toNat≠59)(hin:∀ n∈ns,r9 n)(h11:ns.length<=11):TxtOK (txt w ns):=by
 have hl:=txt_len (w:=w) fun n h=>(hin n h).i
 refine⟨w,ns.map itoaB,hw,fun x hx=>?_,?_,by rw[List.length_map];omega,by omega,h5⟩
 ·obtain⟨n,hn,rfl⟩:=List.mem_map.1 hx
  exact itoa_wd (hin n hn).1 (hin n hn).2
 ·rw[<-flt_lay]
  show w.data.toList++flt ns=_
  rfl
theorem txt_okW{w:ByteArray}{ns:List Int}{d:Int}(hw:okWd w)(hs:w.size<=100)(h5:(w.data.toList.headD 59).toNat≠59)(hin:∀ n∈ns,r9 n)(h11:ns.length<=11)(hd:0<=d/\d<=4294967295):TxtOK ((txt w ns++ByteArray.mk #[32])++fmtW d):=by
 have hl:=txt_len (w:=w) fun n h=>(hin n h).i
 have h8:=fmtW_size d
 refine⟨w,ns.map itoaB++[fmtW d],hw,fun x hx=>?_,?_,by simp;omega,by rw[sz_app,sz_app];show (txt w ns).size+1+_<=_;omega,h5⟩
 ·rcases List.mem_append.1 hx with hx | hx
  ·obtain⟨n,hn,rfl⟩:=List.mem_map.1 hx
   exact itoa_wd (hin n hn).1 (hin n hn).2
  ·obtain rfl:=List.mem_singleton.1 hx
   exact fmtW_wd hd.1 hd.2
 ·rw[bl_app,bl_app,lay_app2,<-flt_lay]
  show (w.data.toList++flt ns)++[32]++(fmtW d).data.toList=_
  simp[lay]
theorem body_ok{x:DAct}{w:ByteArray}{ns:List Int}(hne:(w.toList==(ByteArray.mk #[]).toList)=false)(hn:ns≠[])(hin:∀ n∈ns,r9 n)(h11:ns.length<=11)(hw:w.size<=100)(hwt:x.policy.weights.length<1073741824)(hd:0<=x.request.data/\x.request.data<=4294967295)(hwd:okWd w)(h5:(w.data.toList.headD 59).toNat≠59):∃ t,iBody x x w ns=some (t,true)/\TxtOK t:=by
 rw[m_iBody hne hn (fun n h=>(hin n h).i) (by omega) hw hwt,iE_self,Bool.true_and,inR_iff.2 hd,cond_true]
 have ha:ns.all ok9=true:=List.all_eq_true.2 fun n h=>inR_iff.2 (hin n h)
 unfold fin
 rw[ha,cond_true]
 cases x.request.write with
 | true=>exact⟨_,rfl,txt_okW hwd hw h5 hin h11 hd⟩
 | false=>exact⟨_,rfl,txt_ok hwd hw h5 hin h11⟩
def Good(x:DAct):Prop:=IAct x/\x.policy.weights.length<=4/\∃ t,fi_FormatAct x=some (t,true)/\TxtOK t
theorem i0:in64 0:=⟨by decide,by decide⟩
theorem iw{l:List Int}(h:l.length=4/\∀ x∈l,r9 x):l.length<=maxLen/\∀ y∈l,in64 y:=⟨by unfold maxLen;omega,fun y hy=>(h.2 y hy).i⟩
theorem iw0:([]:List Int).length<=maxLen/\∀ y∈([]:List Int),in64 y:=⟨by unfold maxLen;simp,fun y h=>by cases h⟩
theorem good_N{a:DAct}(hk:a.kind=2\/a.kind=4)(h1:r9 a.n):Good (uN a):=by
 obtain⟨e1,e2,e3,e4,e5,e6,e7⟩:=wne
 refine⟨⟨by show in64 a.kind;rcases hk with e | e <;>rw[e] <;>exact⟨by decide,by decide⟩,⟨i0,i0,i0,trivial,i0,i0⟩,h1.i,i0,⟨i0,i0,i0⟩,⟨i0,i0,i0,i0,i0,iw0,⟨i0,i0⟩⟩⟩,by show ([]:List Int).length<=4;simp,?_⟩
 have z:(uN a).policy.weights.length<1073741824:=by show ([]:List Int).length<_;simp
 rw[i_split]
 unfold fi_actNumbers
 rcases hk with e | e
 ·have k:(uN a).kind=2:=e
  simp only[k,show ((2:Int)==1)=false from rfl,show ((2:Int)==2)=true from rfl,cond_true,cond_false]
  exact body_ok (x:=uN a) (w:=wWait) (ns:=[a.n]) e3 (by simp) (by simp only[List.forall_mem_cons];exact⟨h1,fun _ h=>by cases h⟩) (by simp) (by decide +kernel) z ⟨by show (0:Int)<=0;omega,by show (0:Int)<=_;omega⟩ (okWd_dec _ (by decide +kernel)) (by decide +kernel)
 ·have k:(uN a).kind=4:=e
  simp only[k,show ((4:Int)==1)=false from rfl,show ((4:Int)==2)=false from rfl,show ((4:Int)==4)=true from rfl,cond_true,cond_false]
  exact body_ok (x:=uN a) (w:=wHeat) (ns:=[a.n]) e4 (by simp) (by simp only[List.forall_mem_cons];exact⟨h1,fun _ h=>by cases h⟩) (by simp) (by decide +kernel) z ⟨by show (0:Int)<=0;omega,by show (0:Int)<=_;omega⟩ (okWd_dec _ (by decide +kernel)) (by decide +kernel)
theorem good_F{a:DAct}(hk:a.kind=3)(h1:r9 a.n)(h2:r9 a.chip)(h3:r9 a.addr.bank)(h4:r9 a.addr.row)(h5:r9 a.addr.col):Good (uF a):=by
 obtain⟨e1,e2,e3,e4,e5,e6,e7⟩:=wne
 refine⟨⟨by show in64 a.kind;rw[hk];exact⟨by decide,by decide⟩,⟨i0,i0,i0,trivial,i0,i0⟩,h1.i,h2.i,⟨h3.i,h4.i,h5.i⟩,⟨i0,i0,i0,i0,i0,iw0,⟨i0,i0⟩⟩⟩,by show ([]:List Int).length<=4;simp,?_⟩
 have z:(uF a).policy.weights.length<1073741824:=by show ([]:List Int).length<_;simp
 rw[i_split]
 unfold fi_actNumbers
 have k:(uF a).kind=3:=hk
 simp only[k,show ((3:Int)==1)=false from rfl,show ((3:Int)==2)=false from rfl,show ((3:Int)==4)=false from rfl,show ((3:Int)==3)=true from rfl,cond_true,cond_false]
 exact body_ok (x:=uF a) (w:=wFlip) (ns:=[a.addr.bank,a.addr.row,a.addr.col,a.chip,a.n]) e5 (by simp) (by simp only[List.forall_mem_cons];exact⟨h3,h4,h5,h2,h1,fun _ h=>by cases h⟩) (by simp) (by decide +kernel) z ⟨by show (0:Int)<=0;omega,by show (0:Int)<=_;omega⟩ (okWd_dec _ (by decide +kernel)) (by decide +kernel)
theorem good_R{a:DAct}(hk:a.kind=6)(h3:r9 a.addr.bank)(h4:r9 a.addr.row):Good (uR a):=by
 obtain⟨e1,e2,e3,e4,e5,e6,e7⟩:=wne
 refine⟨⟨by show in64 a.kind;rw[hk];exact⟨by decide,by decide⟩,⟨i0,i0,i0,trivial,i0,i0⟩,i0,i0,⟨h3.i,h4.i,i0⟩,⟨i0,i0,i0,i0,i0,iw0,⟨i0,i0⟩⟩⟩,by show ([]:List Int).length<=4;simp,?_⟩
 have z:(uR a).policy.weights.length<1073741824:=by show ([]:List Int).length<_;simp
 rw[i_split]
 unfold fi_actNumbers
 have k:(uR a).kind=6:=hk
 simp only[k,show ((6:Int)==1)=false from rfl,show ((6:Int)==2)=false from rfl,show ((6:Int)==4)=false from rfl,show ((6:Int)==3)=false from rfl,show ((6:Int)==5)=false from rfl,show ((6:Int)==6)=true from rfl,cond_true,cond_false]
 exact body_ok (x:=uR a) (w:=wRet) (ns:=[a.addr.bank,a.addr.row]) e6 (by simp) (by simp only[List.forall_mem_cons];exact⟨h3,h4,fun _ h=>by cases h⟩) (by simp) (by decide +kernel) z ⟨by show (0:Int)<=0;omega,by show (0:Int)<=_;omega⟩ (okWd_dec _ (by decide +kernel)) (by decide +kernel)
theorem good_P{a:DAct}(hk:a.kind=5)(hp:PolD a.policy):Good (uP a):=by
 obtain⟨e1,e2,e3,e4,e5,e6,e7⟩:=wne
 obtain⟨p1,p2,p3,p4,p5,p6,p7,p8⟩:=hp
 refine⟨⟨by show in64 a.kind;rw[hk];exact⟨by decide,by decide⟩,⟨i0,i0,i0,trivial,i0,i0⟩,i0,i0,⟨i0,i0,i0⟩,⟨p1.i,p2.i,p3.i,p4.i,p5.i,iw p6,⟨p7.i,p8.i⟩⟩⟩,by show a.policy.weights.length<=4;have:=p6.1;omega,?_⟩
 have h4:(uP a).policy.weights.length=4:=p6.1
 rw[i_split]
 unfold fi_actNumbers
 have k:(uP a).kind=5:=hk
 simp only[k,show ((5:Int)==1)=false from rfl,show ((5:Int)==2)=false from rfl,show ((5:Int)==4)=false from rfl,show ((5:Int)==3)=false from rfl,show ((5:Int)==6)=false from rfl,show ((5:Int)==5)=true from rfl,cond_true,cond_false]
 have c:(((uP a).policy.weights.length:Int)==4)=true:=by simp[h4]
 rw[c,cond_true,dif_pos ⟨by omega,by show 0<_;omega⟩,dif_pos ⟨by omega,by show 1<_;omega⟩,dif_pos ⟨by omega,by show 2<_;omega⟩,dif_pos ⟨by omega,by show 3<_;omega⟩]
 refine body_ok (x:=uP a) (w:=wPol) (ns:=[a.policy.page,a.policy.cap,a.policy.limit,a.policy.low,a.policy.high,(uP a).policy.weights[0],(uP a).policy.weights[1],(uP a).policy.weights[2],(uP a).policy.weights[3],a.policy.rule.down,a.policy.rule.sleep]) e7 (by simp) ?_ (by simp) (by decide +kernel) (by omega) ⟨by show (0:Int)<=0;omega,by show (0:Int)<=_;omega⟩ (okWd_dec _ (by decide +kernel)) (by decide +kernel)
 simp only[List.forall_mem_cons]
 exact⟨p1,p2,p3,p4,p5,p6.2 _ (List.getElem_mem _),p6.2 _ (List.getElem_mem _),p6.2 _ (List.getElem_mem _),p6.2 _ (List.getElem_mem _),p7,p8,fun _ h=>by cases h⟩
theorem good_A{a:DAct}{d:Int}(hk:a.kind=1)(h1:r9 a.request.id)(h2:r9 a.request.tenant)(h3:r9 a.request.line)(hd:0<=d/\d<=4294967295)(hw:a.request.write=false->d=0):Good (uA a d):=by
 obtain⟨e1,e2,e3,e4,e5,e6,e7⟩:=wne
 refine⟨⟨by show in64 a.kind;rw[hk];exact⟨by decide,by decide⟩,⟨h1.i,h2.i,h3.i,trivial,⟨by show _<=d;omega,by show d<=_;omega⟩,i0⟩,i0,i0,⟨i0,i0,i0⟩,⟨i0,i0,i0,i0,i0,iw0,⟨i0,i0⟩⟩⟩,by show ([]:List Int).length<=4;simp,?_⟩
 have z:(uA a d).policy.weights.length<1073741824:=by show ([]:List Int).length<_;simp
 have hin:∀ n∈[a.request.id,a.request.tenant,a.request.line],r9 n:=by
  simp only[List.forall_mem_cons]
  exact⟨h1,h2,h3,fun _ h=>by cases h⟩
 rw[i_split]
 unfold fi_actNumbers
 have k:(uA a d).kind=1:=hk
 simp only[k,show ((1:Int)==1)=true from rfl,cond_true]
 cases hw':(uA a d).request.write with
 | true=>exact body_ok (x:=uA a d) (w:=wWrite) (ns:=[a.request.id,a.request.tenant,a.request.line]) e2 (by simp) hin (by simp) (by decide +kernel) z hd (okWd_dec _ (by decide +kernel)) (by decide +kernel)
 | false=>
  obtain rfl:=hw hw'
  exact body_ok (x:=uA a 0) (w:=wRead) (ns:=[a.request.id,a.request.tenant,a.request.line]) e1 (by simp) hin (by simp) (by decide +kernel) z hd (okWd_dec _ (by decide +kernel)) (by decide +kernel)
theorem rg_l02Word{b:List Int}{c:DCur}(hc:Cok b c):Dr b (fs_l02Word c) fun x=>0<=x/\x<=4294967295:=by
 unfold fs_l02Word
 rw[hc.eq]
 refine(p_below hc 4).bind fun x c1 hx hc1=>?_
 dsimp only
 rw[hc1.eta]
 cases hb:(x==(0:Int))with
 | true=>
  rw[cond_true]
  refine(p_pick hc1 _ (by decide)).bind fun y c2 hy hc2=>?_
  dsimp only
  rw[hc2.eta]
  refine Dr.pure hc2 ?_
  simp only[List.mem_cons,List.not_mem_nil,or_false]at hy
  omega
 | false=>
  rw[cond_false]
  cases hb1:(x==(1:Int))with
  | true=>
   rw[cond_true]
   refine(p_below hc1 200).bind fun y c2 hy hc2=>?_
   dsimp only
   rw[hc2.eta]
   have:=hy.2.2 (by omega)
   exact Dr.pure hc2 ⟨hy.1,by omega⟩
  | false=>
   rw[cond_false]
   refine(p_below hc1 65536).bind fun y c2 hy hc2=>?_
   dsimp only
   rw[hc2.eta]
   refine(p_below hc2 65536).bind fun z c3 hz hc3=>?_
   dsimp only
   rw[hc3.eta]
   have h1:=hy.2.2 (by omega)
   have h2:=hz.2.2 (by omega)
   have h3:=hy.1
   have h4:=hz.1
   rw[w64 (n:=y*65536) (by omega) (by omega),w64 (n:=y*65536+z) (by omega) (by omega)]
   exact Dr.pure hc3 ⟨by omega,by omega⟩
theorem rg_l19Req{b:List Int}{c:DCur}(hc:Cok b c)(n:Int)(hn:n<=1000000):Dr b (fs_l19Req c n) fun r=>r9 r.tenant/\r9 r.line/\0<=r.data/\r.data<=4294967295:=by
 unfold fs_l19Req
 rw[hc.eq]
 refine(p_below hc 60).bind fun x1 k1 h1 hk1=>?_
 dsimp only
 rw[hk1.eta]
 refine(p_below hk1 3).bind fun x2 k2 h2 hk2=>?_
 dsimp only
 rw[hk2.eta]
 refine(p_below hk2 n).bind fun x3 k3 h3 hk3=>?_
 dsimp only
 rw[hk3.eta]
 refine(p_below hk3 50).bind fun x4 k4 h4 hk4=>?_
 dsimp only
 rw[hk4.eta]
 refine(p_once hk4 2).bind fun x5 k5 h5 hk5=>?_
 dsimp only
 rw[hk5.eta]
 have h2':=h2.2.2 (by omega)
 have h3':x3<=1000000:=by
  by_cases h:0<n
  ·have:=h3.2.2 h;omega
  ·have:=h3.2.1 (by omega);omega
 have q2:r9 x2:=⟨h2.1,by omega⟩
 have q3:r9 x3:=⟨h3.1,by omega⟩
 cases x5 with
 | true=>
  rw[cond_true]
  refine(rg_l02Word hk5).bind fun x6 k6 h6 hk6=>?_
  dsimp only
  rw[hk6.eta]
  exact Dr.pure hk6 ⟨q2,q3,h6⟩
 | false=>exact Dr.pure hk5 ⟨q2,q3,by show (0:Int)<=0;omega,by show (0:Int)<=_;omega⟩
theorem rg_l34Policy{b:List Int}{c:DCur}(hc:Cok b c):Dr b (fs_l34Policy c) PolD:=by
 unfold fs_l34Policy
 rw[hc.eq]
 show Dr b (Option.bind (some _) _) _
 rw[bindS]
 refine(p_below hc 2).bind fun x1 k1 h1 hk1=>?_
 dsimp only
 rw[hk1.eta]
 refine(p_pick hk1 _ (by decide)).bind fun x2 k2 h2 hk2=>?_
 dsimp only
 rw[hk2.eta]
 refine(p_below hk2 6).bind fun x3 k3 h3 hk3=>?_
 dsimp only
 rw[hk3.eta]
 refine(p_below hk3 3).bind fun x4 k4 h4 hk4=>?_
 dsimp only
 rw[hk4.eta]
 refine(p_below hk4 4).bind fun x5 k5 h5 hk5=>?_
 dsimp only
 rw[hk5.eta]
 refine(p_below hk5 4).bind fun x6 k6 h6 hk6=>?_
 dsimp only
 rw[hk6.eta]
 refine(p_below hk6 4).bind fun x7 k7 h7 hk7=>?_
 have a1:=h1.2.2 (by omega)
 have a3:=h3.2.2 (by omega)
 have a4:=h4.2.2 (by omega)
 have a5:=h5.2.2 (by omega)
 have a6:=h6.2.2 (by omega)
 have a7:=h7.2.2 (by omega)
 have b3:=h3.1
 have b4:=h4.1
 have b5:=h5.1
 have b6:=h6.1
 have b7:=h7.1
 have hl:x6.toNat<([1,1,1,1]:List Int).length:=by simp only[List.length_cons,List.length_nil];omega
 dsimp only
 rw[dif_pos ⟨b6,hl⟩,dif_pos hl,hk7.eta]
 refine(p_below hk7 20).bind fun x8 k8 h8 hk8=>?_
 dsimp only
 rw[hk8.eta]
 refine(p_below hk8 60).bind fun x9 k9 h9 hk9=>?_
 dsimp only
 rw[hk9.eta]
 have a8:=h8.2.2 (by omega)
 have a9:=h9.2.2 (by omega)
 have b8:=h8.1
 have b9:=h9.1
 rw[w64 (n:=3+x3) (by omega) (by omega),w64 (n:=x4+1) (by omega) (by omega),w64 (n:=x4+1+x5) (by omega) (by omega),w64 (n:=1+x7) (by omega) (by omega),w64 (n:=5+x8) (by omega) (by omega),w64 (n:=60+x9) (by omega) (by omega)]
 simp only[List.mem_cons,List.not_mem_nil,or_false]at h2
 refine Dr.pure hk9 ⟨⟨h1.1,by show x1<=_;omega⟩,⟨by show 0<=x2;omega,by show x2<=_;omega⟩,⟨by show 0<=3+x3;omega,by show 3+x3<=_;omega⟩,⟨h4.1,by show x4<=_;omega⟩,⟨by show 0<=x4+1+x5;omega,by show x4+1+x5<=_;omega⟩,⟨by simp,fun y hy=>?_⟩,⟨by show 0<=5+x8;omega,by show 5+x8<=_;omega⟩,⟨by show 0<=60+x9;omega,by show 60+x9<=_;omega⟩⟩
 rcases List.mem_or_eq_of_mem_set hy with h | h
 ·simp only[List.mem_cons,List.not_mem_nil,or_false,or_self]at h
  exact⟨by omega,by omega⟩
 ·exact⟨by omega,by omega⟩
theorem rg_l35Policy{b:List Int}{c:DCur}(hc:Cok b c):Dr b (fs_l35Policy c) PolD:=by
 unfold fs_l35Policy
 rw[hc.eq]
 refine(rg_l34Policy hc).bind fun x1 k1 h1 hk1=>?_
 dsimp only
 rw[hk1.eta]
 refine(p_below hk1 10).bind fun x2 k2 h2 hk2=>?_
 dsimp only
 rw[hk2.eta]
 have a2:=h2.2.2 (by omega)
 have b2:=h2.1
 rw[w64 (by omega) (by omega)]
 obtain⟨p1,p2,p3,p4,p5,p6,p7,p8⟩:=h1
 exact Dr.pure hk2 ⟨p1,p2,⟨by show 0<=8+x2;omega,by show 8+x2<=_;omega⟩,p4,p5,p6,p7,p8⟩
theorem rg_l14Small{b:List Int}{c:DCur}(hc:Cok b c):Dr b (fs_l14Small c) fun g=>g.groups=1/\1<=g.banks/\g.banks<=2/\1<=g.cols/\g.cols<=2:=by
 unfold fs_l14Small
 rw[hc.eq]
 refine(p_below hc 2).bind fun x1 k1 h1 hk1=>?_
 dsimp only
 rw[hk1.eta]
 refine(p_below hk1 3).bind fun x2 k2 h2 hk2=>?_
 dsimp only
 rw[hk2.eta]
 refine(p_below hk2 2).bind fun x3 k3 h3 hk3=>?_
 dsimp only
 rw[hk3.eta]
 have a1:=h1.2.2 (by omega)
 have a2:=h2.2.2 (by omega)
 have a3:=h3.2.2 (by omega)
 have b1:=h1.1
 have b2:=h2.1
 have b3:=h3.1
 rw[w64 (by omega) (by omega),w64 (by omega) (by omega),w64 (by omega) (by omega)]
 exact Dr.pure hk3 ⟨rfl,by show 1<=1+x1;omega,by show 1+x1<=_;omega,by show 1<=1+x3;omega,by show 1+x3<=_;omega⟩
theorem rg_l04Map{b:List Int}{c:DCur}(hc:Cok b c):Dr b (fs_l04Map c) fun m=>0<=m.order/\m.order<=2:=by
 unfold fs_l04Map
 rw[hc.eq]
 refine(p_below hc 3).bind fun x1 k1 h1 hk1=>?_
 dsimp only
 rw[hk1.eta]
 refine(p_once hk1 2).bind fun x2 k2 h2 hk2=>?_
 dsimp only
 rw[hk2.eta]
 have a1:=h1.2.2 (by omega)
 exact Dr.pure hk2 ⟨h1.1,by show x1<=2;omega⟩
/-- What is needed of a drawn configuration. -/
def CfgD(x:DConfig):Prop:=geoOk x.geometry=true/\4<=x.geometry.rows/\x.geometry.rows<=6/\0<=x.spares/\x.spares<=2
theorem rg_l35Config{b:List Int}{c:DCur}(hc:Cok b c):Dr b (fs_l35Config c) CfgD:=by
 unfold fs_l35Config
 rw[hc.eq]
 refine(rg_l14Small hc).bind fun g kg hg hkg=>?_
 dsimp only
 rw[hkg.eta]
 obtain⟨g1,g2,g3,g4,g5⟩:=hg
 show Dr b (Option.bind (some _) _) _
 rw[bindS]
 refine(rg_l04Map hkg).bind fun m km hm hkm=>?_
 dsimp only
 rw[hkm.eta]
 refine(p_below hkm 60).bind fun x1 k1 h1 hk1=>?_
 dsimp only
 rw[hk1.eta]
 refine(p_below hk1 3).bind fun x2 k2 h2 hk2=>?_
 dsimp only
 rw[hk2.eta]
 refine(p_below hk2 2).bind fun x3 k3 h3 hk3=>?_
 dsimp only
 rw[hk3.eta]
 refine(p_below hk3 3).bind fun x4 k4 h4 hk4=>?_
 dsimp only
 rw[hk4.eta]
 refine(p_once hk4 3).bind fun x5 k5 h5 hk5=>?_
 dsimp only
 rw[hk5.eta]
 have a2:=h2.2.2 (by omega)
 have a3:=h3.2.2 (by omega)
 have a4:=h4.2.2 (by omega)
 have b2:=h2.1
 have b3:=h3.1
 have hg:geoOk ⟨IntKind.i64.wrap (1+x3),g.banks,IntKind.i64.wrap (4+x2),g.cols⟩=true:=by
  rw[w64 (by omega) (by omega),w64 (by omega) (by omega)]
  simp only[geoOk,inR,Bool.and_eq_true,decide_eq_true_eq]
  omega
 have hr:IntKind.i64.wrap (4+x2)=4+x2:=w64 (by omega) (by omega)
 have q1:4<=IntKind.i64.wrap (4+x2):=by omega
 have q2:IntKind.i64.wrap (4+x2)<=6:=by omega
 have q3:x4<=2:=by omega
 cases x5 with
 | true=>
  rw[cond_true]
  refine(p_below hk5 5).bind fun x6 k6 h6 hk6=>?_
  dsimp only
  rw[hk6.eta]
  refine(p_below hk6 4).bind fun x7 k7 h7 hk7=>?_
  dsimp only
  rw[hk7.eta]
  exact Dr.pure hk7 ⟨hg,q1,q2,h4.1,q3⟩
 | false=>
  rw[cond_false]
  exact Dr.pure hk5 ⟨hg,q1,q2,h4.1,q3⟩
theorem r9c{x n:Int}(h:0<=x)(h':x<n)(hn:n<=1000000):r9 x:=⟨h,by omega⟩
theorem a_pick{b:List Int}{c:DCur}(hc:Cok b c):Dr b ((fs_l01PickInt c [1,3,10,20,40]).bind fun y3=>some ((⟨2,⟨0,0,0,false,0,0⟩,y3.1,0,⟨0,0,0⟩,⟨0,0,0,0,0,[],⟨0,0⟩⟩⟩:DAct),((⟨b,y3.2.1.i,y3.2.1.h⟩:DCur),()))) ActD:=by
 refine(p_pick hc _ (by decide)).bind fun x2 k2 h2 hk2=>?_
 dsimp only
 rw[hk2.eta]
 simp only[List.mem_cons,List.not_mem_nil,or_false]at h2
 exact Dr.pure hk2 (.inr (.inr ⟨.inr (.inr (.inr rfl)),⟨by show 0<=x2;omega,by show x2<=_;omega⟩,⟨by show (0:Int)<=0;omega,by show (0:Int)<=_;omega⟩,⟨by show (0:Int)<=0;omega,by show (0:Int)<=_;omega⟩,fun h=>by cases h⟩))
theorem a_flip{b:List Int}{c:DCur}(hc:Cok b c){g:DGeometry}(hg:geoOk g=true):Dr b ((fs_l03Addr c g).bind fun y4=>(fs_l01Below (⟨b,y4.2.1.i,y4.2.1.h⟩:DCur) 11).bind fun y5=>(fs_l01Below (⟨b,y5.2.1.i,y5.2.1.h⟩:DCur) 16).bind fun y6=>some ((⟨3,⟨0,0,0,false,0,0⟩,y6.1,y5.1,⟨y4.1.bank,y4.1.row,y4.1.col⟩,⟨0,0,0,0,0,[],⟨0,0⟩⟩⟩:DAct),((⟨b,y6.2.1.i,y6.2.1.h⟩:DCur),()))) ActD:=by
 refine(p_l03Addr hc hg).bind fun x1 k1 h1 hk1=>?_
 obtain⟨_,t1,t2,t3,t4,t5,t6⟩:=addr_b h1
 obtain⟨_,_,_,_,g5,g6,g7,g8⟩:=geo_b hg
 have hb:=banksN_b g
 dsimp only
 rw[hk1.eta]
 refine(p_below hk1 11).bind fun x2 k2 h2 hk2=>?_
 dsimp only
 rw[hk2.eta]
 refine(p_below hk2 16).bind fun x3 k3 h3 hk3=>?_
 dsimp only
 rw[hk3.eta]
 exact Dr.pure hk3 (.inr (.inl ⟨rfl,r9c h3.1 (h3.2.2 (by omega)) (by omega),r9c h2.1 (h2.2.2 (by omega)) (by omega),r9c t1 t2 (by omega),r9c t3 t4 (by omega),r9c t5 t6 (by omega)⟩))
theorem a_set{b:List Int}{c:DCur}(hc:Cok b c){x:DConfig}(hx:CfgD x):Dr b ((fs_l01PickInt c [4,5,6,2]).bind fun y7=>(fs_l01Below (⟨b,y7.2.1.i,y7.2.1.h⟩:DCur) 2).bind fun y8=>(fs_BankCount x.geometry).bind fun y9=>(fs_l01Below (⟨b,y8.2.1.i,y8.2.1.h⟩:DCur) y9).bind fun y10=>(fs_l01Below (⟨b,y10.2.1.i,y10.2.1.h⟩:DCur) (IntKind.i64.wrap (x.geometry.rows-x.spares))).bind fun y11=>(fs_l35Policy (⟨b,y11.2.1.i,y11.2.1.h⟩:DCur)).bind fun y12=>some ((⟨y7.1,⟨0,0,0,false,0,0⟩,y8.1,0,⟨y10.1,y11.1,0⟩,⟨y12.1.page,y12.1.cap,y12.1.limit,y12.1.low,y12.1.high,y12.1.weights,⟨y12.1.rule.down,y12.1.rule.sleep⟩⟩⟩:DAct),((⟨b,y12.2.1.i,y12.2.1.h⟩:DCur),()))) ActD:=by
 obtain⟨hg,hr1,hr2,hs1,hs2⟩:=hx
 have hp:=banksN_pos hg
 have hb:=banksN_b x.geometry
 refine(p_pick hc _ (by decide)).bind fun x1 k1 h1 hk1=>?_
 dsimp only
 rw[hk1.eta]
 refine(p_below hk1 2).bind fun x2 k2 h2 hk2=>?_
 dsimp only
 rw[hk2.eta,m_sBankCount,bindS]
 refine(p_below hk2 _).bind fun x3 k3 h3 hk3=>?_
 dsimp only
 rw[hk3.eta,w64 (by omega) (by omega)]
 refine(p_below hk3 _).bind fun x4 k4 h4 hk4=>?_
 dsimp only
 rw[hk4.eta]
 refine(rg_l35Policy hk4).bind fun x5 k5 h5 hk5=>?_
 dsimp only
 rw[hk5.eta]
 simp only[List.mem_cons,List.not_mem_nil,or_false]at h1
 exact Dr.pure hk5 (.inr (.inr ⟨h1,r9c h2.1 (h2.2.2 (by omega)) (by omega),r9c h3.1 (h3.2.2 (by omega)) (by omega),r9c h4.1 (h4.2.2 (by omega)) (by omega),fun _=>h5⟩))
theorem a_ask{b:List Int}{c:DCur}(hc:Cok b c){n id:Int}(hn:n<=1000000)(hi:r9 id):Dr b ((fs_l19Req c n).bind fun y13=>(fs_l01Once (⟨b,y13.2.1.i,y13.2.1.h⟩:DCur) 2).bind fun y14=>bif y14.1 then (fs_l01Below (⟨b,y14.2.1.i,y14.2.1.h⟩:DCur) 3).bind fun y15=>some ((⟨1,⟨id,y13.1.tenant,y15.1,y13.1.write,y13.1.data,y13.1.at_⟩,0,0,⟨0,0,0⟩,⟨0,0,0,0,0,[],⟨0,0⟩⟩⟩:DAct),((⟨b,y15.2.1.i,y15.2.1.h⟩:DCur),()))else some ((⟨1,⟨id,y13.1.tenant,y13.1.line,y13.1.write,y13.1.data,y13.1.at_⟩,0,0,⟨0,0,0⟩,⟨0,0,0,0,0,[],⟨0,0⟩⟩⟩:DAct),((⟨b,y14.2.1.i,y14.2.1.h⟩:DCur),()))) ActD:=by
 refine(rg_l19Req hc n hn).bind fun r k1 h1 hk1=>?_
 dsimp only
 rw[hk1.eta]
 refine(p_once hk1 2).bind fun x2 k2 _ hk2=>?_
 dsimp only
 rw[hk2.eta]
 cases x2 with
 | true=>
  rw[cond_true]
  refine(p_below hk2 3).bind fun x3 k3 h3 hk3=>?_
  dsimp only
  rw[hk3.eta]
  exact Dr.pure hk3 (.inl ⟨rfl,hi,h1.1,r9c h3.1 (h3.2.2 (by omega)) (by omega),h1.2.2⟩)
 | false=>
  rw[cond_false]
  exact Dr.pure hk2 (.inl ⟨rfl,hi,h1.1,h1.2.1,h1.2.2⟩)
theorem lines_small{x:DConfig}(hx:CfgD x):IntKind.i64.wrap (IntKind.i64.wrap ((linesN x.geometry).tdiv x.geometry.rows)*IntKind.i64.wrap (x.geometry.rows-x.spares))<=1000000:=by
 obtain⟨hg,hr1,hr2,hs1,hs2⟩:=hx
 have hl:=linesN_b x.geometry
 have e:(linesN x.geometry).tdiv x.geometry.rows=linesN x.geometry / x.geometry.rows:=Int.tdiv_eq_ediv_of_nonneg hl.1
 have h0:0<=linesN x.geometry / x.geometry.rows:=Int.ediv_nonneg hl.1 (by omega)
 have h1:linesN x.geometry / x.geometry.rows<=linesN x.geometry:=Int.ediv_le_self _ hl.1
 rw[e,w64 (n:=linesN x.geometry / x.geometry.rows) (by omega) (by omega),w64 (n:=x.geometry.rows-x.spares) (by omega) (by omega)]
 have:=mul_b (a:=linesN x.geometry / x.geometry.rows) (b:=x.geometry.rows-x.spares) (A:=1024) (B:=6) h0 (by omega) (by omega) (by omega)
 rw[w64 (by omega) (by omega)]
 omega
theorem rg_l37Act{b:List Int}{c:DCur}(hc:Cok b c){x:DConfig}(hx:CfgD x){id:Int}(hi:r9 id):Dr b (fs_l37Act c x id) ActD:=by
 have hs:=lines_small hx
 unfold fs_l37Act
 rw[m_sLineCount,bindS,if_neg (by have:=hx.2.1;omega),hc.eq]
 refine(p_below hc 12).bind fun x1 k1 h1 hk1=>?_
 dsimp only
 rw[hk1.eta]
 by_cases q0:x1=0
 ·subst q0
  exact a_pick hk1
 rw[beI q0,cond_false]
 by_cases q1:x1=1
 ·subst q1
  exact a_pick hk1
 rw[beI q1,cond_false]
 by_cases q2:x1=2
 ·subst q2
  exact a_flip hk1 hx.1
 rw[beI q2,cond_false]
 by_cases q3:x1=3
 ·subst q3
  exact a_set hk1 hx
 rw[beI q3,cond_false]
 exact a_ask hk1 hs hi
theorem rg_l40Act{b:List Int}{c:DCur}(hc:Cok b c):Dr b (fs_l40Act c) Good:=by
 unfold fs_l40Act
 rw[hc.eq]
 refine(rg_l35Config hc).bind fun x k1 hx hk1=>?_
 dsimp only
 rw[hk1.eta]
 refine(p_below hk1 40).bind fun y k2 h2 hk2=>?_
 have a2:=h2.2.2 (by omega)
 have b2:=h2.1
 dsimp only
 rw[hk2.eta,w64 (by omega) (by omega)]
 refine(rg_l37Act hk2 hx ⟨by omega,by omega⟩).bind fun a k3 ha hk3=>?_
 dsimp only
 rw[hk3.eta]
 have hz:okLen (([]:List Int).length+([]:List Int).length)=true:=by decide
 rcases ha with ⟨hk,h1,h2,h3,h4⟩ | ⟨hk,h1,h2,h3,h4,h5⟩ | ⟨hk,h1,h2,h3,h4⟩
 ·have n5:(a.kind != 5)=true:=by rw[hk];rfl
  rw[show (a.kind==1)=true by rw[hk];rfl,cond_true]
  cases hw:a.request.write with
  | false=>
   rw[Bool.not_false,cond_true,hz,cond_true,n5,cond_true]
   have:=good_A (d:=0) hk h1 h2 h3 ⟨by omega,by omega⟩ fun _=>rfl
   unfold uA at this
   rw[hw]at this
   exact Dr.pure hk3 this
  | true=>
   rw[Bool.not_true,cond_false,hz,cond_true,n5,cond_true]
   have:=good_A (d:=a.request.data) hk h1 h2 h3 h4 fun h=>by rw[hw]at h;cases h
   unfold uA at this
   rw[hw]at this
   exact Dr.pure hk3 this
 ·simp only[show (a.kind==1)=false by rw[hk];rfl,show (a.kind==2)=false by rw[hk];rfl,show (a.kind==4)=false by rw[hk];rfl,show (a.kind==3)=true by rw[hk];rfl,show (a.kind != 5)=true by rw[hk];rfl,cond_true,cond_false,hz]
  exact Dr.pure hk3 (good_F hk h1 h2 h3 h4 h5)
 ·rcases hk with hk | hk | hk | hk
  ·simp only[show (a.kind==1)=false by rw[hk];rfl,show (a.kind==2)=false by rw[hk];rfl,show (a.kind==4)=true by rw[hk];rfl,show (a.kind != 5)=true by rw[hk];rfl,cond_true,cond_false,hz]
   exact Dr.pure hk3 (good_N (.inr hk) h1)
  ·have hp:=h4 hk
   have hw:=hp.2.2.2.2.2.1.1
   simp only[show (a.kind==1)=false by rw[hk];rfl,show (a.kind==2)=false by rw[hk];rfl,show (a.kind==4)=false by rw[hk];rfl,show (a.kind==3)=false by rw[hk];rfl,show (a.kind==6)=false by rw[hk];rfl,show (a.kind==5)=true by rw[hk];rfl,show (a.kind != 5)=false by rw[hk];rfl,cond_true,cond_false,hz]
   rw[okLen_t (by simp only[List.length_cons,List.length_nil];omega),okLen_t (by simp only[List.length_append,List.length_cons,List.length_nil];omega),okLen_t (by simp only[List.length_nil];omega)]
   exact Dr.pure hk3 (good_P hk hp)
  ·simp only[show (a.kind==1)=false by rw[hk];rfl,show (a.kind==2)=false by rw[hk];rfl,show (a.kind==4)=false by rw[hk];rfl,show (a.kind==3)=false by rw[hk];rfl,show (a.kind==6)=true by rw[hk];rfl,show (a.kind != 5)=true by rw[hk];rfl,cond_true,cond_false,hz]
   exact Dr.pure hk3 (good_R hk h2 h3)
  ·simp only[show (a.kind==1)=false by rw[hk];rfl,show (a.kind==2)=true by rw[hk];rfl,show (a.kind != 5)=true by rw[hk];rfl,cond_true,cond_false,hz]
   exact Dr.pure hk3 (good_N (.inl hk) h1)
theorem p_DrawAct(l:List Int)(h:l.length<=1073741823):∃ y,fs_DrawAct l=some y/\Good y:=by
 unfold fs_DrawAct
 obtain⟨h0,e0⟩:=p_new l h
 rw[e0,bindS]
 exact Dr.last (Q:=fun o=>∃ y,o=some y/\Good y) (rg_l40Act (new_cok l h0 h)) fun x c hx _=>⟨x,rfl,hx⟩
theorem lp_sameInts(l:List Int)(h:l.length<=1073741823):fl_sameInts l l=some true:=by
 unfold fl_sameInts
 have e:=iter_to (step:=Lfl_sameInts_0) l.length (fun i=>((l,l,(i:Int),()),())) (.inr (.inl ((),()))) big (fun k h=>by
  unfold Lfl_sameInts_0
  dsimp only
  rw[decide_eq_true (by omega),cond_true,dif_pos ⟨by omega,by omega⟩,dif_pos ⟨by omega,by omega⟩,show (l[(k:Int).toNat]'(by omega) != l[(k:Int).toNat]'(by omega))=false by simp,cond_false,wrapS (by omega)]) (by
  unfold Lfl_sameInts_0
  dsimp only
  rw[decide_eq_false (by omega),cond_false]) (bigLt (by omega))
 rw[Int.natCast_zero]at e
 rw[show ((l.length:Int) != (l.length:Int))=false by simp,cond_false,e]
 rfl
theorem lp_sameAct(x:DAct)(h:x.policy.weights.length<=1073741823):fl_sameAct x x=some true:=by
 unfold fl_sameAct fl_samePolicy
 simp only[beq_self_eq_true,Bool.and_self,cond_true,lp_sameInts _ h,bindS]
def nlB:ByteArray:=ByteArray.mk #[10]
theorem ixb_none:∀ {l:List UInt8},(∀ b∈l,b≠10)->Lib.indexByte l 10 = -1
 | [],_=>rfl
 | b :: l,h=>by
  have hb:(b==10)=false:=by simpa using h b (.head _)
  rw[Lib.indexByte,hb,ixb_none fun x hx=>h x (.tail _ hx)]
  rfl
theorem ixb_at:∀ {l r:List UInt8},(∀ b∈l,b≠10)->Lib.indexByte (l++10 :: r) 10=(l.length:Int)
 | [],r,_=>rfl
 | b :: l,r,h=>by
  have hb:(b==10)=false:=by simpa using h b (.head _)
  have ih:=ixb_at (l:=l) (r:=r) fun x hx=>h x (.tail _ hx)
  show (if b==10 then 0 else if Lib.indexByte (l++10 :: r) 10 == -1 then -1 else Lib.indexByte (l++10 :: r) 10+1)=_
  rw[hb,ih]
  rw[beI (by omega)]
  simp
def lns(s:ByteArray):List ByteArray:=Lib.splitB nlB 0 (Lib.countB s nlB) s
theorem lns_last{a:ByteArray}(ha:∀ b∈a.data.toList,b≠10):lns a=[a]:=by
 have hix:Lib.indexB a nlB = -1:=(Lib.index_one _ _).trans (ixb_none ha)
 unfold lns
 rw[Lib.splitB_miss _ _ _ _ hix]
theorem lns_cons{s a r:ByteArray}(ha:∀ b∈a.data.toList,b≠10)(h:s.data.toList=a.data.toList++10 :: r.data.toList):lns s=a :: lns r:=by
 have hix:Lib.indexB s nlB=(a.size:Int):=by
  refine(Lib.index_one _ _).trans ?_
  rw[h]
  exact ixb_at ha
 have hsz:s.size=a.size+1+r.size:=by
  have:=congrArg List.length h
  rw[List.length_append,List.length_cons]at this
  have e1:s.data.toList.length=s.size:=rfl
  have e2:a.data.toList.length=a.size:=rfl
  have e3:r.data.toList.length=r.size:=rfl
  omega
 have e1:s.extract 0 (a.size+0)=a:=by
  have:=ext_drop (s:=s) (w:=a) (p:=0) h
  rwa [Nat.zero_add]at this
 have e2:s.extract (a.size+nlB.size) s.size=r:=by
  have hd:s.data.toList.drop (a.size+1)=r.data.toList++[]:=by
   rw[h,List.append_nil,show a.size+1=a.data.toList.length+1 from rfl,<-List.drop_drop,List.drop_left']
   rfl
   rfl
  have:=ext_drop (s:=s) (w:=r) (p:=a.size+1) hd
  rw[hsz]
  exact this
 unfold lns
 rw[Lib.countB_hit s nlB a.size (by decide) hix,Nat.add_comm 1,Lib.splitB_hit _ _ _ _ _ hix,e1,e2]
theorem okWd_nl{w:ByteArray}(h:okWd w):∀ b∈w.data.toList,b≠10:=fun b hb e=>by
 have:=(h.2 b hb).1
 rw[e]at this
 exact absurd this (by decide)
theorem lay_nl{ws:List ByteArray}(h:∀ w∈ws,okWd w):∀ b∈lay ws,b≠10:=fun b hb e=>by
 have:=(lay_ch h b hb).1
 rw[e]at this
 exact absurd this (by decide)
/-- Behind blanks the same words stand. -/
theorem m_SplitIn{s w:ByteArray}{ws:List ByteArray}(hs:s.size<=600)(h:s.data.toList=32 :: 32 :: (w.data.toList++lay ws))(hw:okWd w)(hws:∀ x∈ws,okWd x)(hn:ws.length<24):fi_SplitFields s=some (w :: ws,true):=by
 have hall:∀ x∈w :: ws,okWd x:=fun x hx=>by
  rcases List.mem_cons.1 hx with rfl | hx
  ·exact hw
  ·exact hws x hx
 have h1:s.data.toList=[32]++lay (w :: ws):=h
 have hc:∀ b∈s.data.toList,32<=b.toNat/\b.toNat<=126:=by
  intro b hb
  rw[h1]at hb
  rcases List.mem_append.1 hb with hb | hb
  ·obtain rfl:=List.mem_singleton.1 hb
   exact⟨by decide,by decide⟩
  ·exact lay_ch hall b hb
 have h0:s.data.toList.drop 0=[32]++lay (w :: ws):=h1
 obtain⟨g1,g2⟩:=get_drop (k:=0) h0 (by simp)
 have g1:0<s.size:=g1
 have g2:s[0]=32:=g2
 have st:Lfi_SplitFields_2 ((s,(),(0:Int),()),(([]:List ByteArray),()))=some (.inl ((s,(),((1:Nat):Int),()),(([]:List ByteArray),()))):=by
  unfold Lfi_SplitFields_2
  dsimp only
  rw[decide_eq_true (by omega),cond_true,dif_pos ⟨by omega,g1⟩]
  show (bif ((s[0].toNat:Int)==32)then _ else _)=_
  rw[g2]
  rfl
 obtain⟨n,hb⟩:∃ n,big=n+1:=⟨big-1,by have:=bigLt (show 1000<1073741824 by omega);omega⟩
 have hn2:2*(w :: ws).length<n:=by have:=bigLt (show 1000<1073741824 by omega);rw[List.length_cons];omega
 have go:=split_go hs (w :: ws) 1 [] n hall (by omega) (drop_add h0) (by rw[List.length_cons];simp;omega) hn2
 unfold fi_SplitFields
 rw[decide_eq_false (by omega),cond_false,p_chars hs hc,bindS]
 simp only[Sum.elim_inl,Sum.elim_inr]
 rw[hb,iter_inl st,go,bindS]
 simp only[Sum.elim_inl]
 rw[List.nil_append,decide_eq_false (by rw[List.length_cons];omega),cond_false]
theorem parse_same{s t:ByteArray}(h:fi_SplitFields s=fi_SplitFields t):fi_ParseAct s=fi_ParseAct t:=by
 unfold fi_ParseAct
 rw[h]
/-- What a line is. -/
inductive Ln where
 | skip
 | act (a:DAct)
 | bad
def lnOk(s:ByteArray):Ln->Prop
 | .skip=>fi_SplitFields s=some ([],true)\/∃ w ws,fi_SplitFields s=some (w :: ws,true)/\0<w.size/\(w.data.toList.headD 0).toNat=59
 | .act a=>∃ w ws,fi_SplitFields s=some (w :: ws,true)/\0<w.size/\(w.data.toList.headD 59).toNat≠59/\fi_ParseAct s=some (a,true)
 | .bad=>∃ w ws a,fi_SplitFields s=some (w :: ws,true)/\0<w.size/\(w.data.toList.headD 59).toNat≠59/\fi_ParseAct s=some (a,false)
theorem hd_list:∀ (l:List UInt8) (h:0<l.length) (d:UInt8),l[0]=l.headD d
 | x :: l,_,_=>rfl
theorem hd_get{w:ByteArray}{d:UInt8}(h:0<w.size):w[0]'h=w.data.toList.headD d:=by
 have h':0<w.data.toList.length:=h
 rw[ba_get h h']
 exact hd_list _ h' d
theorem s_skip{ls:List ByteArray}{i:Nat}{acts:List DAct}(hi:i<ls.length)(hl:ls.length<=1000000)(ha:acts.length<=1000000)(h:lnOk ls[i] .skip):Lfi_ParseScript_0 (((),(),(),(ls.length:Int),(i:Int),()),(acts,ls,()))=some (.inl (((),(),(),(ls.length:Int),((i+1:Nat):Int),()),(acts,ls,()))):=by
 unfold Lfi_ParseScript_0
 dsimp only
 rw[decide_eq_true (by omega),cond_true,dif_pos ⟨by omega,by omega⟩,dif_pos (by omega)]
 simp only[Int.toNat_natCast]
 rcases h with h | ⟨w,ws,h,h0,h1⟩
 ·rw[h,bindS,wrapS (by omega)]
  rfl
 ·rw[h,bindS]
  dsimp only
  rw[cond_true,show (((w :: ws).length:Int)==0)=false by simp;omega,cond_false,dif_pos ⟨by omega,by simp⟩,dif_pos (by simp)]
  show (if h9:0<=(0:Int)/\(0:Int).toNat<w.size then bif (((w[(0:Int).toNat]'h9.2).toNat:Int)==59)then _ else _ else none)=_
  rw[dif_pos ⟨by omega,h0⟩]
  show (bif (((w[0]'h0).toNat:Int)==59)then _ else _)=_
  rw[hd_get (d:=0) h0,h1,wrapS (by omega)]
  rfl
theorem s_act{ls:List ByteArray}{i:Nat}{acts:List DAct}(hi:i<ls.length)(hl:ls.length<=1000000)(ha:acts.length<=1000000){a:DAct}(h:lnOk ls[i] (.act a)):Lfi_ParseScript_0 (((),(),(),(ls.length:Int),(i:Int),()),(acts,ls,()))=some (.inl (((),(),(),(ls.length:Int),((i+1:Nat):Int),()),(acts++[a],ls,()))):=by
 obtain⟨w,ws,h,h0,h1,h2⟩:=h
 unfold Lfi_ParseScript_0
 dsimp only
 rw[decide_eq_true (by omega),cond_true,dif_pos ⟨by omega,by omega⟩,dif_pos (by omega)]
 simp only[Int.toNat_natCast]
 rw[h,bindS]
 dsimp only
 rw[cond_true,show (((w :: ws).length:Int)==0)=false by simp;omega,cond_false,dif_pos ⟨by omega,by simp⟩,dif_pos (by simp)]
 show (if h9:0<=(0:Int)/\(0:Int).toNat<w.size then bif (((w[(0:Int).toNat]'h9.2).toNat:Int)==59)then _ else _ else none)=_
 rw[dif_pos ⟨by omega,h0⟩]
 show (bif (((w[0]'h0).toNat:Int)==59)then _ else _)=_
 rw[hd_get (d:=59) h0,beI (by omega),cond_false,h2,bindS]
 dsimp only
 rw[Bool.not_true,cond_false,okLen_t (by simp only[List.length_singleton];omega),cond_true,wrapS (by omega)]
theorem s_bad{ls:List ByteArray}{i:Nat}{acts:List DAct}(hi:i<ls.length)(hl:ls.length<=1000000)(ha:acts.length<=1000000)(h:lnOk ls[i] .bad):Lfi_ParseScript_0 (((),(),(),(ls.length:Int),(i:Int),()),(acts,ls,()))=some (.inr (.inl (((),((i+1:Nat):Int),false,()),(([]:List DAct),())))):=by
 obtain⟨w,ws,a,h,h0,h1,h2⟩:=h
 unfold Lfi_ParseScript_0
 dsimp only
 rw[decide_eq_true (by omega),cond_true,dif_pos ⟨by omega,by omega⟩,dif_pos (by omega)]
 simp only[Int.toNat_natCast]
 rw[h,bindS]
 dsimp only
 rw[cond_true,show (((w :: ws).length:Int)==0)=false by simp;omega,cond_false,dif_pos ⟨by omega,by simp⟩,dif_pos (by simp)]
 show (if h9:0<=(0:Int)/\(0:Int).toNat<w.size then bif (((w[(0:Int).toNat]'h9.2).toNat:Int)==59)then _ else _ else none)=_
 rw[dif_pos ⟨by omega,h0⟩]
 show (bif (((w[0]'h0).toNat:Int)==59)then _ else _)=_
 rw[hd_get (d:=59) h0,beI (by omega),cond_false,h2,bindS]
 dsimp only
 rw[Bool.not_false,cond_true,wrapS (by omega)]
theorem s_end{ls:List ByteArray}{acts:List DAct}:Lfi_ParseScript_0 (((),(),(),(ls.length:Int),(ls.length:Int),()),(acts,ls,()))=some (.inr (.inr (.inl (((),(),()),(acts,ls,()))))):=by
 unfold Lfi_ParseScript_0
 dsimp only
 rw[decide_eq_false (by omega),cond_false]
theorem bigS:∃ n,big=n+1+1+1+1+1:=⟨big-5,by have:=bigLt (show 1000<1073741824 by omega);omega⟩
theorem iter_end{α β:Type}{step:α->Option (α⊕β)}{a:α}{b:β}{n:Nat}(h:step a=some (.inr b)):iter step (n+1) a=some b:=by
 simp only[iter,h]
/-- A remark,an act,an empty line,an act. -/
theorem m_four{s l0 l1 l2 l3:ByteArray}{a b:DAct}(hs:s.size<=20000)(hl:lns s=[l0,l1,l2,l3])(h0:lnOk l0 .skip)(h1:lnOk l1 (.act a))(h2:lnOk l2 .skip)(h3:lnOk l3 (.act b)):fi_ParseScript s=some ([a,b],4,true):=by
 have hsp:x_Split s (ByteArray.mk #[10])=some [l0,l1,l2,l3]:=by
  unfold x_Split
  rw[decide_eq_true (by omega),decide_eq_true (by decide)]
  show some (lns s)=_
  rw[hl]
 have t0:=s_skip (ls:=[l0,l1,l2,l3]) (i:=0) (acts:=[]) (by simp) (by simp) (by simp) h0
 have t1:=s_act (ls:=[l0,l1,l2,l3]) (i:=1) (acts:=[]) (by simp) (by simp) (by simp) h1
 have t2:=s_skip (ls:=[l0,l1,l2,l3]) (i:=2) (acts:=[]++[a]) (by simp) (by simp) (by simp) h2
 have t3:=s_act (ls:=[l0,l1,l2,l3]) (i:=3) (acts:=[]++[a]) (by simp) (by simp) (by simp) h3
 have t4:=s_end (ls:=[l0,l1,l2,l3]) (acts:=[]++[a]++[b])
 obtain⟨n,hb⟩:=bigS
 unfold fi_ParseScript
 have e:=(iter_inl (n:=n+1+1+1+1) t0).trans ((iter_inl (n:=n+1+1+1) t1).trans ((iter_inl (n:=n+1+1) t2).trans ((iter_inl (n:=n+1) t3).trans (iter_end (n:=n) t4))))
 rw[decide_eq_false (by omega),cond_false,hsp,bindS,hb]
 refine(congrArg (fun o=>Option.bind o _) e).trans ?_
 rfl
/-- Two acts and a wrong line. -/
theorem m_three{s l0 l1 l2:ByteArray}{a b:DAct}(hs:s.size<=20000)(hl:lns s=[l0,l1,l2])(h0:lnOk l0 (.act a))(h1:lnOk l1 (.act b))(h2:lnOk l2 .bad):fi_ParseScript s=some ([],3,false):=by
 have hsp:x_Split s (ByteArray.mk #[10])=some [l0,l1,l2]:=by
  unfold x_Split
  rw[decide_eq_true (by omega),decide_eq_true (by decide)]
  show some (lns s)=_
  rw[hl]
 have t0:=s_act (ls:=[l0,l1,l2]) (i:=0) (acts:=[]) (by simp) (by simp) (by simp) h0
 have t1:=s_act (ls:=[l0,l1,l2]) (i:=1) (acts:=[]++[a]) (by simp) (by simp) (by simp) h1
 have t2:=s_bad (ls:=[l0,l1,l2]) (i:=2) (acts:=[]++[a]++[b]) (by simp) (by simp) (by simp) h2
 obtain⟨n,hb⟩:=bigS
 unfold fi_ParseScript
 have e:=(iter_inl (n:=n+1+1+1+1) t0).trans ((iter_inl (n:=n+1+1+1) t1).trans (iter_end (n:=n+1+1) t2))
 rw[decide_eq_false (by omega),cond_false,hsp,bindS,hb]
 refine(congrArg (fun o=>Option.bind o _) e).trans ?_
 rfl
def bRem:ByteArray:=ByteArray.mk #[59,32,102,105,114,115,116]
def bNo:ByteArray:=ByteArray.mk #[110,111,116,104,105,110,103]
theorem ln_rem:lnOk bRem .skip:=.inr ⟨ByteArray.mk #[59],[ByteArray.mk #[102,105,114,115,116]],m_SplitFields (by decide) (by decide +kernel) (okWd_dec _ (by decide +kernel)) (fun x hx=>by obtain rfl:=List.mem_singleton.1 hx;exact okWd_dec _ (by decide +kernel)) (by simp),by decide,by decide +kernel⟩
theorem ln_emp:lnOk (ByteArray.mk #[]) .skip:=.inl (by kernel_rfl)
theorem ln_no:lnOk bNo .bad:=⟨bNo,[],⟨0,⟨0,0,0,false,0,0⟩,0,0,⟨0,0,0⟩,⟨0,0,0,0,0,[],⟨0,0⟩⟩⟩,m_SplitFields (by decide) (by decide +kernel) (okWd_dec _ (by decide +kernel)) (fun x hx=>by cases hx) (by simp),by decide,by decide +kernel,by kernel_rfl⟩
theorem ln_act{a:DAct}(hg:Good a):∃ t,fi_FormatAct a=some (t,true)/\TxtOK t/\lnOk t (.act a)/\lnOk (ByteArray.mk #[32,32]++t) (.act a):=by
 obtain⟨hI,hw4,t,ht,w,ws,h1,h2,h3,h4,h5,h6⟩:=hg
 have hp:=p_back a hI ht
 have e1:=m_SplitFields (by omega) h3 h1 h2 h4
 have e2:fi_SplitFields (ByteArray.mk #[32,32]++t)=some (w :: ws,true):=m_SplitIn (by rw[sz_app];show 2+t.size<=_;omega) (by rw[bl_app,h3];rfl) h1 h2 h4
 exact⟨t,ht,⟨w,ws,h1,h2,h3,h4,h5,h6⟩,⟨w,ws,e1,h1.1,h6,hp⟩,w,ws,e2,h1.1,h6,(parse_same (e2.trans e1.symm)).trans hp⟩
theorem txt_nl{t:ByteArray}(h:TxtOK t):∀ b∈t.data.toList,b≠10:=by
 obtain⟨w,ws,h1,h2,h3,_⟩:=h
 intro b hb
 rw[h3]at hb
 rcases List.mem_append.1 hb with hb | hb
 ·exact okWd_nl h1 b hb
 ·exact lay_nl h2 b hb
theorem txt_sz{t:ByteArray}(h:TxtOK t):t.size<=500:=by
 obtain⟨w,ws,_,_,_,_,h,_⟩:=h
 exact h
theorem dec_nl(l:List UInt8)(h:l.all (fun b=>b != 10)=true):∀ b∈l,b≠10:=fun b hb=>by simpa using List.all_eq_true.1 h b hb
theorem p_FnScripts(l:List Int)(h:l.length<=maxLen):fl_FnScripts l=some true:=by
 unfold fl_FnScripts fl_big
 rw[bindS]
 by_cases hb:(l.length:Int) > 1048576
 ·rw[decide_eq_true hb,cond_true]
 obtain⟨a,ea,ga⟩:=p_DrawAct l (by omega)
 obtain⟨b,eb,gb⟩:=p_DrawAct ([7]++l) (by simp only[List.length_append,List.length_singleton];omega)
 obtain⟨s,hs,ts,s1,s2⟩:=ln_act ga
 obtain⟨t,ht,tt,t1,t2⟩:=ln_act gb
 have fa:fs_FormatAct a=some (s,true):=by
  obtain⟨y,h1,h2⟩:=p_same a ga.1 (show a.policy.weights.length<=1048576 by have:=ga.2.1;omega)
  rw[h1,<-h2,hs]
 have fb:fs_FormatAct b=some (t,true):=by
  obtain⟨y,h1,h2⟩:=p_same b gb.1 (show b.policy.weights.length<=1048576 by have:=gb.2.1;omega)
  rw[h1,<-h2,ht]
 have zs:=txt_sz ts
 have zt:=txt_sz tt
 have r1:fi_ParseScript ((((ByteArray.mk #[59,32,102,105,114,115,116,10])++s)++(ByteArray.mk #[10,10,32,32]))++t)=some ([a,b],4,true):=by
  refine m_four (l0:=bRem) (l1:=s) (l2:=ByteArray.mk #[]) (l3:=ByteArray.mk #[32,32]++t) ?_ ?_ ln_rem s1 ln_emp t2
  ·rw[sz_app,sz_app,sz_app]
   show 8+s.size+4+t.size<=_
   omega
  ·have n3:∀ b∈(ByteArray.mk #[32,32]++t).data.toList,b≠10:=fun b hb=>by
    rw[bl_app]at hb
    rcases List.mem_append.1 hb with hb | hb
    ·exact dec_nl _ (by decide +kernel) b hb
    ·exact txt_nl tt b hb
   rw[lns_cons (a:=bRem) (r:=s++ByteArray.mk #[10,10,32,32]++t) (dec_nl _ (by decide +kernel)) (by simp only[bl_app];rfl),
    lns_cons (a:=s) (r:=ByteArray.mk #[10,32,32]++t) (txt_nl ts) (by simp only[bl_app,List.append_assoc];rfl),
    lns_cons (a:=ByteArray.mk #[]) (r:=ByteArray.mk #[32,32]++t) (dec_nl _ (by decide +kernel)) (by simp only[bl_app];rfl),lns_last n3]
 have r2:fi_ParseScript (((s++(ByteArray.mk #[10]))++t)++(ByteArray.mk #[10,110,111,116,104,105,110,103]))=some ([],3,false):=by
  refine m_three (l0:=s) (l1:=t) (l2:=bNo) ?_ ?_ s1 t1 ln_no
  ·rw[sz_app,sz_app,sz_app]
   show s.size+1+t.size+8<=_
   omega
  ·rw[lns_cons (a:=s) (r:=t++ByteArray.mk #[10,110,111,116,104,105,110,103]) (txt_nl ts) (by simp only[bl_app,List.append_assoc];rfl),
    lns_cons (a:=t) (r:=bNo) (txt_nl tt) (by simp only[bl_app];rfl),lns_last (dec_nl _ (by decide +kernel))]
 have q1:=ga.2.1
 have q2:=gb.2.1
 rw[decide_eq_false hb,cond_false,ea,bindS,okLen_t (by simp only[List.length_singleton];omega),cond_true,eb,bindS,fa,bindS,fb,bindS]
 dsimp only
 rw[okLen_t (by show 8+s.size<_;omega),cond_true,okLen_t (by rw[sz_app];show 8+s.size+4<_;omega),cond_true,okLen_t (by rw[sz_app,sz_app];show 8+s.size+4+t.size<_;omega),cond_true,r1,bindS,
  okLen_t (by show s.size+1<_;omega),cond_true,okLen_t (by rw[sz_app];show s.size+1+t.size<_;omega),cond_true,okLen_t (by rw[sz_app,sz_app];show s.size+1+t.size+8<_;omega),cond_true,r2,bindS]
 show (fl_sameAct a a).bind _=_
 rw[lp_sameAct a (by omega),bindS,cond_true]
 show (fl_sameAct b b).bind _=_
 rw[lp_sameAct b (by omega),bindS,cond_true]
 rfl
theorem law_FnScripts(v0:Value)(w:World)(r0:RdL .u8 (fun x:Int=>0<=x/\x<=255) w v0)(hQ:Qw w):Calls Tryd.prog 6 #[v0] w fun e w'=>e = .returned (.bool true)/\Below w.heap.size w w':=by
 obtain⟨l,hl,_,h0⟩:=r0
 exact law_of ok_fl_FnScripts (ctrT_run (ai:=[(false,.sl .u8)]) (x:=(l,())) (by kernel_rfl) (p_FnScripts l hl)) (args1 h0) (hd_top hQ)
end Go.Proofs.YtaepnacbmeajoaaDoor
