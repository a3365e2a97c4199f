/-
  Running the program over pure contents, and that it follows (part 4). Nothing here is a claim.
-/
import Derived.Test.YtjldnlbiefpekaaDoorV3
set_option linter.unusedSimpArgs false
namespace Go.Proofs.YtjldnlbiefpekaaDoor
open Go.RowKit
set_option linter.unusedVariables false
section
variable {P:Program} {w w':World} {w0:Wd} {B N:Nat} {lab af:aH} {ρ ρ':Nat->Loc} {σ:S} {a:Act} {X:Type} {d:Nat} {r:X} {o:Oper} {Φ:cc}
/-! What an operation gives hangs on its operands and on the roots alone. -/
theorem wS{σ2:S}(hm:σ2.m=σ.m)(x:Lf)(k:V->Option X):eg σ2 x k=eg σ x k:=by
 cases x <;>simp only[eg,hm]
theorem WC{σ2:S}(hm:σ2.m=σ.m)(t:TypeId)(x:A)(k:A->Option X):eN P σ2 t x k=eN P σ t x k:=by
 simp only[eN,hm]
theorem WD{σ2:S}(hm:σ2.m=σ.m)(t:TypeId)(x i:A)(k:A->Option X):jN P σ2 t x i k=jN P σ t x i k:=by
 simp only[jN,hm]
theorem M3{σ2:S}(hm:σ2.m=σ.m)(q:List Nat)(s i j:Nat)(k:V->Option X):l7 σ2 q s i j k=l7 σ q s i j k:=by
 simp only[l7,hm]
theorem WE{σ2:S}(hm:σ2.m=σ.m)(x:A)(k:V->Option X):kC σ2 x k=kC σ x k:=by
 cases x <;>simp only[kC,wS hm,M3 hm]
theorem WG{σ2:S}(hm:σ2.m=σ.m)(t:TypeId)(x:A)(lo hi:Option A)(k:A->Option X):kF P σ2 t x lo hi k=kF P σ t x lo hi k:=by
 unfold kF
 split
 ·simp only[r8,hm]
 ·rfl
theorem WH{σ2:S}(hm:σ2.m=σ.m)(t t':TypeId)(x:A)(k:A->Option X):jv P σ2 t t' x k=jv P σ t t' x k:=by
 unfold jv
 split <;>simp only[wS hm]
theorem WI{σ2:S}(hm:σ2.m=σ.m)(t:TypeId)(x:A)(k:A->Option X):ir P σ2 t x k=ir P σ t x k:=by
 cases x <;>simp only[ir,wS hm]
theorem WJ{σ2:S}(hm:σ2.m=σ.m)(op:BinOp)(t:TypeId)(x y:A)(k:A->Option X):gu P σ2 op t x y k=gu P σ op t x y k:=by
 simp only[gu,wS hm]
theorem C6{σ2:S}{op:BinOp}{t:TypeId}{x y:A}{k:A->Option X}(h:∀ l,x = .lf l->∀ (k:V->Option X),eg σ2 l k=eg σ l k):gu P σ2 op t x y k=gu P σ op t x y k:=by
 unfold gu
 split
 ·rfl
 ·split
  ·exact h _ rfl _
  ·rfl
 ·rfl
theorem WK{σ2:S}(t:TypeId)(parts:List (Nat×Operand))(h:∀ p∈parts,ah σ2 p.2=ah σ p.2)(k:A->Option X):nZ P σ2 t parts k=nZ P σ t parts k:=by
 have e:(parts.map fun p=>(p.1,ah σ2 p.2))=parts.map fun p=>(p.1,ah σ p.2):=List.map_congr_left fun p hp=>by rw[h p hp]
 simp only[nZ,e]
theorem M4{σ2:S}(hm:σ2.m=σ.m):∀ (xs:List Lf) (k:List V->Option X),iZ σ2 xs k=iZ σ xs k
 | [],k=>rfl
 | x :: xs,k=>by
  simp only[iZ,wS hm]
  congr 1
  funext y
  exact M4 hm xs _
theorem WL{σ2:S}(hm:σ2.m=σ.m)(x:A)(k:Pt->Option X):iu σ2 x k=iu σ x k:=by
 unfold iu
 simp only[M4 hm,M3 hm,hm]
theorem M5{σ2:S}(hm:σ2.m=σ.m):∀ (xs:List Operand) (k:List Pt->Option X),(∀ x∈xs,ah σ2 x=ah σ x)->fF σ2 xs k=fF σ xs k
 | [],k,_=>rfl
 | x :: xs,k,h=>by
  simp only[fF,WL hm,h x (.head _)]
  congr 1
  funext p
  exact M5 hm xs _ (fun y hy=>h y (.tail _ hy))
theorem wT{σ2:S}(op:Op)(hm:σ2.m=σ.m)(h:∀ x∈op.operands,ah σ2 x=ah σ x)(k:A->Option X):aZ P σ2 op k=aZ P σ op k:=by
 unfold aZ
 split
 ·rw[h _ (by simp[Op.operands])]
 ·rw[h _ (by simp[Op.operands])]
 ·rename_i c x y;rw[h c (by simp[Op.operands]),h x (by simp[Op.operands]),h y (by simp[Op.operands])]
 ·rename_i t parts
  exact WK t _ (fun p hp=>h p.2 (by simp only[Op.operands];exact List.mem_toArray.2 (List.mem_map_of_mem (f:=(·.2)) hp))) k
 ·rename_i t x;rw[h x (by simp[Op.operands]),WC hm]
 ·rename_i op t x y yt;rw[h x (by simp[Op.operands]),h y (by simp[Op.operands]),WJ hm]
 ·rename_i op t x;rw[h x (by simp[Op.operands])]
 ·rename_i s d x;rw[h x (by simp[Op.operands]),WH hm]
 ·rename_i s x f;rw[h x (by simp[Op.operands])]
 ·rename_i s x f;rw[h x (by simp[Op.operands])]
 ·rename_i t x i;rw[h x (by simp[Op.operands]),h i (by simp[Op.operands]),WD hm]
 ·rename_i t x i;rw[h x (by simp[Op.operands]),h i (by simp[Op.operands])]
 ·rename_i x i;rw[h x (by simp[Op.operands])]
 ·rename_i x;rw[h x (by simp[Op.operands])]
 ·rename_i x t;rw[h x (by simp[Op.operands,Call.operands]),WI hm]
 ·rename_i x y t t';rw[h x (by simp[Op.operands,Call.operands]),h y (by simp[Op.operands,Call.operands])]
 ·rename_i x y t t';rw[h x (by simp[Op.operands,Call.operands]),h y (by simp[Op.operands,Call.operands])]
 ·rename_i t x lo hi
  have e:∀ z:Option Operand,(∀ y,z=some y->ah σ2 y=ah σ y)->z.map (ah σ2)=z.map (ah σ):=by
   intro z hz
   cases z with
   | none=>rfl
   | some z=>exact congrArg some (hz z rfl)
  rw[h x (by simp[Op.operands]),e lo (fun y hy=>h y (by subst hy;simp[Op.operands])),e hi (fun y hy=>h y (by subst hy;simp[Op.operands])),WG hm]
 ·rfl
/-! .. and a root that it does not name is of no account. -/
def C7(n:Nat)(x:ax)(m:Nat->Option ax):Nat->Option ax:=aI (fun r=>bif Nat.beq r n then none else (m r).map (ax.drop n)) n (some x)
theorem M6{n:Nat}{x:ax}{m:Nat->Option ax}{q:Nat}(h:q≠n):C7 n x m q=(m q).map (ax.drop n):=by
 have U:Nat.beq q n=false:=by
  cases U:Nat.beq q n with
  | false=>rfl
  | true=>exact absurd (Nat.eq_of_beq_eq_true U) h
 unfold C7
 rw[aQ _ _ _ h,U]
 rfl
theorem sQ{n:Nat}{x:ax}{m:Nat->Option ax}:∀ (q:List Nat) (k:V->Option X),aE n q=false->di (C7 n x m) q k=di m q k
 | [],_,_=>rfl
 | [y],k,h=>by
  have hy:y≠n:=by rintro rfl;simp[aE]at h
  simp only[di,M6 hy]
  cases m y with
  | none=>rfl
  | some z=>cases z <;>rfl
 | [_,_],_,_=>rfl
 | [j,i,s],k,h=>rfl
 | j :: i :: s :: q0 :: q,k,h=>by
  have h':aE n (q0 :: q)=false:=by simpa [aE]using h
  simp only[di]
  exact sQ (q0 :: q) _ h'
theorem WM{n:Nat}{t:TypeId}{cs:List Lf}{y:A}(h:aS (fun X k=>fN (X:=X) P t cs k) y):aS (fun X k=>fN (X:=X) P t (cs.map (Lf.drop n)) k) (y.drop n):=by
 have h1:=h.at_ (X:=A) (fun z=>some z)
 unfold fN at h1
 split at h1
 ·rename_i sz hsz
  split at h1
  ·rename_i hl
   split at h1
   ·rename_i hr
    injection h1 with h1
    subst h1
    intro X k
    simp only[fN,hsz,List.length_map,if_pos hl,hr]
    rfl
   ·rename_i hr
    split at h1
    ·rename_i z
     injection h1 with h1
     subst h1
     intro X k
     simp only[List.length_singleton]at hl
     simp only[fN,hsz,List.map_cons,List.map_nil,List.length_singleton,if_pos hl,hr]
     rfl
    ·cases h1
   ·cases h1
  ·cases h1
 ·cases h1
theorem A.oE{p pb:Nat->Bool}{x:A}{n:Nat}(h:x.fS p pb=true)(hn:p n=true)(U:pb n=true):x.drop n=x:=by
 cases x with
 | lf x=>exact congrArg A.lf (Lf.gN h hn)
 | agg cs=>exact congrArg A.agg (dX.gN h hn)
 | aU xs=>exact A.gN (x:=.aU xs) (p:=p) h hn
 | ptr k=>exact A.gN (x:=.ptr k) (p:=p) h hn
 | view k s i j=>exact A.gN (x:=.view k s i j) (p:=p) h hn
 | pk r j=>exact A.gN (x:=.pk r j) (p:=pb) h U
 | aF r j=>exact A.gN (x:=.aF r j) (p:=pb) h U
 | fn f cap=>exact A.gN (x:=.fn f cap) (p:=pb) h U
 | _=>rfl
theorem WN{p pb:Nat->Bool}{r j n:Nat}(h:(A.aF r j).fS p pb=true)(hn:pb n=true):r≠n:=by
 rintro rfl
 have h:(!pb r)=true:=h
 rw[hn]at h
 cases h
theorem WO{p:Nat->Bool}{r j n:Nat}(h:(A.aF r j).nr p=true)(hn:p n=true):r≠n:=by
 rintro rfl
 have h:(!p r)=true:=h
 rw[hn]at h
 cases h
theorem WQ{p pb:Nat->Bool}{n:Nat}{x:ax}{op:Op}{v:A}(h:aS (fun X k=>aZ (X:=X) P σ op k) v)(hn:p n=true)(tV:pb n=true)(aO:∀ y∈op.operands,(ah σ y).fS p pb=true)(hv:v.fS p pb=true):
  aS (fun X k=>aZ (X:=X) P ((σ.drop n).root n x) op k) v:=by
 have ho:∀ y∈op.operands,ah ((σ.drop n).root n x) y=ah σ y:=by
  intro y hy
  have:=A.oE (aO y hy) hn tV
  cases y with
  | tmp t=>exact this
  | const v=>rfl
  | global g=>rfl
  | func f=>rfl
 have hm:((σ.drop n).root n x).m=C7 n x σ.m:=rfl
 have HE:=A.oE hv hn tV
 have qS:∀ y∈op.operands,ah ⟨((σ.drop n).root n x).t,σ.m⟩ y=ah σ y:=by
  intro y hy
  rw[<-ho y hy]
  cases y <;>rfl
 -- an operation that does not look at the roots
 have AD:(∀ (X:Type) (k:A->Option X),aZ P ⟨((σ.drop n).root n x).t,σ.m⟩ op k=aZ P ((σ.drop n).root n x) op k)->aS (fun X k=>aZ (X:=X) P ((σ.drop n).root n x) op k) v:=by
  intro he X k
  exact(he X k).symm.trans ((wT (σ:=σ) (σ2:=⟨((σ.drop n).root n x).t,σ.m⟩) op rfl qS k).trans (h.at_ k))
 have h0:=h.at_ (X:=A) (fun z=>some z)
 unfold aZ at h0
 split at h0
 case h_5 t y=>
  intro X k
  have hy:=aO y (by simp[Op.operands])
  have dn:=ho y (by simp[Op.operands])
  simp only[aZ]
  rw[dn]
  generalize ah σ y=u at h0 hy
  have hd:aS (fun X k=>eN (X:=X) P σ t u k) v:=by
   obtain⟨y',h1,h2⟩:=Ak h0
   injection h1 with h1
   subst h1
   exact h2
  unfold eN at h0 ⊢
  split at h0
  ·cases h0
  ·rename_i sz hsz
   split at h0
   ·rename_i r' j
    split at h0
    ·rename_i cs bZ
     obtain⟨y',h1,h2⟩:=qa h0
     injection h1 with h1
     subst h1
     have h3:=WM (n:=n) h2
     rw[HE]at h3
     rw[hm,M6 (WN hy tV),bZ]
     simp only[Option.map_some,ax.drop]
     rw[<-List.map_drop,<-List.map_take]
     exact h3.at_ k
    ·cases h0
   ·obtain⟨y',h1,h2⟩:=qa h0
    injection h1 with h1
    subst h1
    exact h2.at_ k
   ·rename_i j i s q
    have hq:aE n q=false:=by
     have hk:ct p (j :: i :: s :: q)=true:=hy
     have:=mV hk hn
     cases q with
     | nil=>
      obtain⟨z,_,hg,_⟩:=mm _ _ h0
      cases hg
     | cons q0 q=>simpa [aE]using this
    rw[hm,sQ q _ hq]
    have h3:=hd.at_ k
    unfold eN at h3
    rw[hsz]at h3
    exact h3
   ·cases h0
 case h_6 op t x y yt=>
  intro X k
  have hx:=aO x (by simp[Op.operands])
  have AE:=ho x (by simp[Op.operands])
  have dn:=ho y (by simp[Op.operands])
  have h1:=h.at_ k
  simp only[aZ]at h1 ⊢
  rw[AE,dn,<-h1]
  generalize ah σ x=u at hx
  refine C6 fun l e k=>?_
  subst e
  cases l with
  | own q=>
   have hk:ct p q=true:=hx
   simp only[eg]
   rw[hm,sQ q _ (mV hk hn)]
  | v z=>rfl
  | dead=>rfl
 case h_11 t y i=>
  intro X k
  have hy:=aO y (by simp[Op.operands])
  have dn:=ho y (by simp[Op.operands])
  have AF:=ho i (by simp[Op.operands])
  have h1:=h.at_ k
  simp only[aZ]at h1 ⊢
  rw[dn,AF,<-h1]
  generalize ah σ y=u at hy
  unfold jN
  split
  ·rfl
  ·split
   ·split
    ·rfl
    ·rename_i q
     have hk:ct p q=true:=hy
     rw[hm,sQ q _ (mV hk hn)]
    ·rfl
   ·rfl
 case h_8 t t2 y=>
  intro X k
  have hy:=aO y (by simp[Op.operands])
  have dn:=ho y (by simp[Op.operands])
  have h1:=h.at_ k
  simp only[aZ]at h1 ⊢
  rw[dn,<-h1]
  generalize ah σ y=u at hy
  unfold jv
  split
  ·rfl
  ·rename_i z _
   cases z with
   | own q=>
    have hk:ct p q=true:=hy
    simp only[eg]
    rw[hm,sQ q _ (mV hk hn)]
   | v z=>rfl
   | dead=>rfl
  ·rfl
 case h_15 y t=>
  intro X k
  have hy:=aO y (by simp[Op.operands,Call.operands])
  have dn:=ho y (by simp[Op.operands,Call.operands])
  have h1:=h.at_ k
  simp only[aZ]at h1 ⊢
  rw[dn,<-h1]
  generalize ah σ y=u at hy
  unfold ir
  split
  ·rename_i z
   cases z with
   | own q=>
    have hk:ct p q=true:=hy
    simp only[eg]
    rw[hm,sQ q _ (mV hk hn)]
   | v z=>rfl
   | dead=>rfl
  ·rfl
  ·rfl
 case h_18 t y lo hi=>
  intro X k
  have hy:=aO y (by simp[Op.operands])
  have dn:=ho y (by simp[Op.operands])
  have e:∀ z:Option Operand,(∀ y,z=some y->ah ((σ.drop n).root n x) y=ah σ y)->z.map (ah ((σ.drop n).root n x))=z.map (ah σ):=by
   intro z hz
   cases z with
   | none=>rfl
   | some z=>exact congrArg some (hz z rfl)
  have h1:=h.at_ k
  simp only[aZ]at h1 ⊢
  rw[dn,e lo (fun y hy=>ho y (by subst hy;simp[Op.operands])),e hi (fun y hy=>ho y (by subst hy;simp[Op.operands])),<-h1]
  generalize ah σ y=u at hy
  unfold kF
  split
  ·rename_i q
   have hk:ct p q=true:=hy
   unfold r8
   split
   ·split
    ·rw[hm,sQ q _ (mV hk hn)]
    ·rfl
   ·rfl
  ·rfl
 case h_19=>cases h0
 all_goals exact AD fun X k=>rfl
/-! .. nor are roots that a call writes. -/
def C8(ns:List Nat)(nr:List (Nat×ax))(m:Nat->Option ax):Nat->Option ax:=fun r=>match nr.lookup r with
 | some x=>some x
 | none=>bif aN r ns || aN r []then none else (m r).map (ax.aG ns [])
structure AG (p:Nat->Bool) (ns:List Nat) (nr:List (Nat×ax)):Prop where
 ns:∀ n,aN n ns=true->p n=true
 nr:∀ n x,nr.lookup n=some x->p n=true
theorem M7{p:Nat->Bool}{ns:List Nat}{nr:List (Nat×ax)}{m:Nat->Option ax}(U:AG p ns nr){q:Nat}(h:p q=false):C8 ns nr m q=(m q).map (ax.aG ns []):=by
 unfold C8
 cases h1:nr.lookup q with
 | some x=>rw[U.nr q x h1]at h;cases h
 | none=>
  cases h2:aN q ns with
  | true=>rw[U.ns q h2]at h;cases h
  | false=>rfl
theorem HF{p:Nat->Bool}{ns:List Nat}{k:List Nat}(h:ct p k=true)(U:∀ n,aN n ns=true->p n=true):aT k ns=false:=by
 unfold ct at h
 unfold aT
 cases hr:k.getLast? with
 | none=>rfl
 | some r=>
  rw[hr]at h
  have h:(!p r)=true:=h
  show aN r ns=false
  cases h2:aN r ns with
  | false=>rfl
  | true=>rw[U r h2]at h;cases h
theorem HG(k:List Nat):aT k []=false:=by
 unfold aT
 split <;>rfl
theorem Lf.mZ{p:Nat->Bool}{x:Lf}{ns:List Nat}(h:x.nr p=true)(U:∀ n,aN n ns=true->p n=true):x.aG ns []=x:=by
 cases x with
 | own k=>
  have e:Lf.aG ns [] (.own k)=(bif aT k [] || (aT k ns && !(Nat.beq k.length 1))then .dead else .own k):=rfl
  rw[e,HF h U,HG]
  rfl
 | v x=>rfl
 | dead=>rfl
theorem dX.mZ{p:Nat->Bool}{xs:List Lf}{ns:List Nat}(h:xs.all (Lf.nr p)=true)(U:∀ n,aN n ns=true->p n=true):xs.map (Lf.aG ns [])=xs:=by
 conv=>rhs;rw[<-List.map_id xs]
 exact List.map_congr_left fun x hx=>Lf.mZ (List.all_eq_true.1 h x hx) U
theorem A.mZ{p:Nat->Bool}{x:A}{ns:List Nat}(h:x.nr p=true)(U:∀ n,aN n ns=true->p n=true):x.aG ns []=x:=by
 cases x with
 | lf x=>exact congrArg A.lf (Lf.mZ h U)
 | agg cs=>exact congrArg A.agg (dX.mZ h U)
 | aU xs=>
  refine congrArg A.aU ?_
  conv=>rhs;rw[<-List.map_id xs]
  refine List.map_congr_left fun q hq=>?_
  have:=dX.mZ (List.all_eq_true.1 h q hq) U
  simp only[id]
  rw[this]
 | ptr k=>
  have e:A.aG ns [] (.ptr k)=(bif aT k [] || aT k ns then .undef else .ptr k):=rfl
  rw[e,HF h U,HG];rfl
 | view k s i j=>
  have e:A.aG ns [] (.view k s i j)=(bif aT k [] || aT k ns then .undef else .view k s i j):=rfl
  rw[e,HF h U,HG];rfl
 | pk r j=>rfl
 | aF r j=>rfl
 | fn f cap=>
  have e:A.aG ns [] (.fn f cap)=(bif cap.any (fun p=>aN p.1 [])then .undef else .fn f cap):=rfl
  have:cap.any (fun p=>aN p.1 [])=false:=by
   rw[List.any_eq_false]
   intro q hq U
   cases U
  rw[e,this];rfl
 | _=>rfl
theorem A.wU{p pb:Nat->Bool}{x:A}{ns:List Nat}(h:x.fS p pb=true)(U:∀ n,aN n ns=true->p n=true):x.aG ns []=x:=by
 cases x with
 | lf x=>exact A.mZ (x:=.lf x) (p:=p) h U
 | agg cs=>exact A.mZ (x:=.agg cs) (p:=p) h U
 | aU xs=>exact A.mZ (x:=.aU xs) (p:=p) h U
 | ptr k=>exact A.mZ (x:=.ptr k) (p:=p) h U
 | view k s i j=>exact A.mZ (x:=.view k s i j) (p:=p) h U
 | pk r j=>rfl
 | aF r j=>rfl
 | fn f cap=>
  have e:A.aG ns [] (.fn f cap)=(bif cap.any (fun p=>aN p.1 [])then .undef else .fn f cap):=rfl
  have:cap.any (fun p=>aN p.1 [])=false:=by
   rw[List.any_eq_false]
   intro q hq U
   cases U
  rw[e,this];rfl
 | _=>rfl
theorem ur{p:Nat->Bool}{ns:List Nat}{nr:List (Nat×ax)}{m:Nat->Option ax}(U:AG p ns nr):∀ (q:List Nat) (k:V->Option X),ct p q=true->di (C8 ns nr m) q k=di m q k
 | [],_,_=>rfl
 | [y],k,h=>by
  have hy:p y=false:=by simpa [ct]using h
  simp only[di,M7 U hy]
  cases m y with
  | none=>rfl
  | some z=>cases z <;>rfl
 | [_,_],_,_=>rfl
 | [j,i,s],k,h=>rfl
 | j :: i :: s :: q0 :: q,k,h=>by
  have h':ct p (q0 :: q)=true:=by simpa [ct,List.getLast?_cons_cons]using h
  simp only[di]
  exact ur U (q0 :: q) _ h'
theorem WR{ns:List Nat}{t:TypeId}{cs:List Lf}{y:A}(h:aS (fun X k=>fN (X:=X) P t cs k) y):aS (fun X k=>fN (X:=X) P t (cs.map (Lf.aG ns [])) k) (y.aG ns []):=by
 have h1:=h.at_ (X:=A) (fun z=>some z)
 unfold fN at h1
 split at h1
 ·rename_i sz hsz
  split at h1
  ·rename_i hl
   split at h1
   ·rename_i hr
    injection h1 with h1
    subst h1
    intro X k
    simp only[fN,hsz,List.length_map,if_pos hl,hr]
    rfl
   ·rename_i hr
    split at h1
    ·rename_i z
     injection h1 with h1
     subst h1
     intro X k
     simp only[List.length_singleton]at hl
     simp only[fN,hsz,List.map_cons,List.map_nil,List.length_singleton,if_pos hl,hr]
     rfl
    ·cases h1
   ·cases h1
  ·cases h1
 ·cases h1
theorem WS{p pb:Nat->Bool}{ns:List Nat}{nr:List (Nat×ax)}{op:Op}{v:A}(h:aS (fun X k=>aZ (X:=X) P σ op k) v)(U:AG p ns nr)(aO:∀ y∈op.operands,(ah σ y).fS p pb=true)(hv:v.fS p pb=true)(lg:∀ t y r j,op = .load t y->ah σ y = .aF r j->p r=false):
  aS (fun X k=>aZ (X:=X) P (σ.aG ns [] nr) op k) v:=by
 have ho:∀ y∈op.operands,ah (σ.aG ns [] nr) y=ah σ y:=by
  intro y hy
  have:=A.wU (aO y hy) U.ns
  cases y with
  | tmp t=>exact this
  | const v=>rfl
  | global g=>rfl
  | func f=>rfl
 have hm:(σ.aG ns [] nr).m=C8 ns nr σ.m:=rfl
 have HE:=A.wU hv U.ns
 have qS:∀ y∈op.operands,ah ⟨(σ.aG ns [] nr).t,σ.m⟩ y=ah σ y:=by
  intro y hy
  rw[<-ho y hy]
  cases y <;>rfl
 have AD:(∀ (X:Type) (k:A->Option X),aZ P ⟨(σ.aG ns [] nr).t,σ.m⟩ op k=aZ P (σ.aG ns [] nr) op k)->aS (fun X k=>aZ (X:=X) P (σ.aG ns [] nr) op k) v:=by
  intro he X k
  exact(he X k).symm.trans ((wT (σ:=σ) (σ2:=⟨(σ.aG ns [] nr).t,σ.m⟩) op rfl qS k).trans (h.at_ k))
 have h0:=h.at_ (X:=A) (fun z=>some z)
 unfold aZ at h0
 split at h0
 case h_5 t y=>
  intro X k
  have hy:=aO y (by simp[Op.operands])
  have dn:=ho y (by simp[Op.operands])
  simp only[aZ]
  rw[dn]
  have lg:=fun r j e=>lg t y r j rfl e
  generalize ah σ y=u at h0 hy lg
  have hd:aS (fun X k=>eN (X:=X) P σ t u k) v:=by
   obtain⟨y',h1,h2⟩:=Ak h0
   injection h1 with h1
   subst h1
   exact h2
  unfold eN at h0 ⊢
  split at h0
  ·cases h0
  ·rename_i sz hsz
   split at h0
   ·rename_i r' j
    split at h0
    ·rename_i cs bZ
     obtain⟨y',h1,h2⟩:=qa h0
     injection h1 with h1
     subst h1
     have h3:=WR (ns:=ns) h2
     rw[HE]at h3
     have hp:p r'=false:=lg r' _ rfl
     rw[hm,M7 U hp,bZ]
     simp only[Option.map_some,ax.aG]
     rw[<-List.map_drop,<-List.map_take]
     exact h3.at_ k
    ·cases h0
   ·obtain⟨y',h1,h2⟩:=qa h0
    injection h1 with h1
    subst h1
    exact h2.at_ k
   ·rename_i j i s q
    have hq:ct p q=true:=by
     have hk:ct p (j :: i :: s :: q)=true:=hy
     cases q with
     | nil=>
      obtain⟨z,_,hg,_⟩:=mm _ _ h0
      cases hg
     | cons q0 q=>simpa [ct,List.getLast?_cons_cons]using hk
    rw[hm,ur U q _ hq]
    have h3:=hd.at_ k
    unfold eN at h3
    rw[hsz]at h3
    exact h3
   ·cases h0
 case h_6 op t x y yt=>
  intro X k
  have hx:=aO x (by simp[Op.operands])
  have AE:=ho x (by simp[Op.operands])
  have dn:=ho y (by simp[Op.operands])
  have h1:=h.at_ k
  simp only[aZ]at h1 ⊢
  rw[AE,dn,<-h1]
  generalize ah σ x=u at hx
  refine C6 fun l e k=>?_
  subst e
  cases l with
  | own q=>
   have hk:ct p q=true:=hx
   simp only[eg]
   rw[hm,ur U q _ hk]
  | v z=>rfl
  | dead=>rfl
 case h_11 t y i=>
  intro X k
  have hy:=aO y (by simp[Op.operands])
  have dn:=ho y (by simp[Op.operands])
  have AF:=ho i (by simp[Op.operands])
  have h1:=h.at_ k
  simp only[aZ]at h1 ⊢
  rw[dn,AF,<-h1]
  generalize ah σ y=u at hy
  unfold jN
  split
  ·rfl
  ·split
   ·split
    ·rfl
    ·rename_i q
     have hk:ct p q=true:=hy
     rw[hm,ur U q _ hk]
    ·rfl
   ·rfl
 case h_8 t t2 y=>
  intro X k
  have hy:=aO y (by simp[Op.operands])
  have dn:=ho y (by simp[Op.operands])
  have h1:=h.at_ k
  simp only[aZ]at h1 ⊢
  rw[dn,<-h1]
  generalize ah σ y=u at hy
  unfold jv
  split
  ·rfl
  ·rename_i z _
   cases z with
   | own q=>
    have hk:ct p q=true:=hy
    simp only[eg]
    rw[hm,ur U q _ hk]
   | v z=>rfl
   | dead=>rfl
  ·rfl
 case h_15 y t=>
  intro X k
  have hy:=aO y (by simp[Op.operands,Call.operands])
  have dn:=ho y (by simp[Op.operands,Call.operands])
  have h1:=h.at_ k
  simp only[aZ]at h1 ⊢
  rw[dn,<-h1]
  generalize ah σ y=u at hy
  unfold ir
  split
  ·rename_i z
   cases z with
   | own q=>
    have hk:ct p q=true:=hy
    simp only[eg]
    rw[hm,ur U q _ hk]
   | v z=>rfl
   | dead=>rfl
  ·rfl
  ·rfl
 case h_18 t y lo hi=>
  intro X k
  have hy:=aO y (by simp[Op.operands])
  have dn:=ho y (by simp[Op.operands])
  have e:∀ z:Option Operand,(∀ y,z=some y->ah (σ.aG ns [] nr) y=ah σ y)->z.map (ah (σ.aG ns [] nr))=z.map (ah σ):=by
   intro z hz
   cases z with
   | none=>rfl
   | some z=>exact congrArg some (hz z rfl)
  have h1:=h.at_ k
  simp only[aZ]at h1 ⊢
  rw[dn,e lo (fun y hy=>ho y (by subst hy;simp[Op.operands])),e hi (fun y hy=>ho y (by subst hy;simp[Op.operands])),<-h1]
  generalize ah σ y=u at hy
  unfold kF
  split
  ·rename_i q
   have hk:ct p q=true:=hy
   unfold r8
   split
   ·split
    ·rw[hm,ur U q _ hk]
    ·rfl
   ·rfl
  ·rfl
 case h_19=>cases h0
 all_goals exact AD fun X k=>rfl
/-! .. nor is a root that is written. -/
theorem qj{p:Nat->Bool}{n:Nat}{x:ax}{m:Nat->Option ax}(hn:p n=true):∀ (q:List Nat) (k:V->Option X),ct p q=true->di (aI m n (some x)) q k=di m q k
 | [],_,_=>rfl
 | [y],k,h=>by
  have hy:p y=false:=by simpa [ct]using h
  simp only[di]
  rw[aQ _ _ _ (by rintro rfl;rw[hn]at hy;cases hy)]
 | [_,_],_,_=>rfl
 | [j,i,s],k,h=>rfl
 | j :: i :: s :: q0 :: q,k,h=>by
  have h':ct p (q0 :: q)=true:=by simpa [ct,List.getLast?_cons_cons]using h
  simp only[di]
  exact qj hn (q0 :: q) _ h'
theorem WT{p pb:Nat->Bool}{n:Nat}{x:ax}{op:Op}{v:A}(h:aS (fun X k=>aZ (X:=X) P σ op k) v)(hn:p n=true)(aO:∀ y∈op.operands,(ah σ y).fS p pb=true)(hv:v.fS p pb=true)(lg:∀ t y r j,op = .load t y->ah σ y = .aF r j->p r=false):
  aS (fun X k=>aZ (X:=X) P (σ.root n x) op k) v:=by
 have ho:∀ y∈op.operands,ah (σ.root n x) y=ah σ y:=by
  intro y hy
  cases y <;>rfl
 have hm:(σ.root n x).m=aI σ.m n (some x):=rfl
 have qS:∀ y∈op.operands,ah ⟨(σ.root n x).t,σ.m⟩ y=ah σ y:=by
  intro y hy
  rw[<-ho y hy]
  cases y <;>rfl
 have AD:(∀ (X:Type) (k:A->Option X),aZ P ⟨(σ.root n x).t,σ.m⟩ op k=aZ P (σ.root n x) op k)->aS (fun X k=>aZ (X:=X) P (σ.root n x) op k) v:=by
  intro he X k
  exact(he X k).symm.trans ((wT (σ:=σ) (σ2:=⟨(σ.root n x).t,σ.m⟩) op rfl qS k).trans (h.at_ k))
 have h0:=h.at_ (X:=A) (fun z=>some z)
 unfold aZ at h0
 split at h0
 case h_5 t y=>
  intro X k
  have hy:=aO y (by simp[Op.operands])
  have dn:=ho y (by simp[Op.operands])
  simp only[aZ]
  rw[dn]
  have lg:=fun r j e=>lg t y r j rfl e
  generalize ah σ y=u at h0 hy lg
  have hd:aS (fun X k=>eN (X:=X) P σ t u k) v:=by
   obtain⟨y',h1,h2⟩:=Ak h0
   injection h1 with h1
   subst h1
   exact h2
  unfold eN at h0 ⊢
  split at h0
  ·cases h0
  ·rename_i sz hsz
   split at h0
   ·rename_i r' j
    split at h0
    ·rename_i cs bZ
     obtain⟨y',h1,h2⟩:=qa h0
     injection h1 with h1
     subst h1
     have hp:p r'=false:=lg r' _ rfl
     rw[hm,aQ _ _ _ (by rintro rfl;rw[hn]at hp;cases hp),bZ]
     exact h2.at_ k
    ·cases h0
   ·obtain⟨y',h1,h2⟩:=qa h0
    injection h1 with h1
    subst h1
    exact h2.at_ k
   ·rename_i j i s q
    have hq:ct p q=true:=by
     have hk:ct p (j :: i :: s :: q)=true:=hy
     cases q with
     | nil=>
      obtain⟨z,_,hg,_⟩:=mm _ _ h0
      cases hg
     | cons q0 q=>simpa [ct,List.getLast?_cons_cons]using hk
    rw[hm,qj hn q _ hq]
    have h3:=hd.at_ k
    unfold eN at h3
    rw[hsz]at h3
    exact h3
   ·cases h0
 case h_6 op t x y yt=>
  intro X k
  have hx:=aO x (by simp[Op.operands])
  have AE:=ho x (by simp[Op.operands])
  have dn:=ho y (by simp[Op.operands])
  have h1:=h.at_ k
  simp only[aZ]at h1 ⊢
  rw[AE,dn,<-h1]
  generalize ah σ x=u at hx
  refine C6 fun l e k=>?_
  subst e
  cases l with
  | own q=>
   have hk:ct p q=true:=hx
   simp only[eg]
   rw[hm,qj hn q _ hk]
  | v z=>rfl
  | dead=>rfl
 case h_11 t y i=>
  intro X k
  have hy:=aO y (by simp[Op.operands])
  have dn:=ho y (by simp[Op.operands])
  have AF:=ho i (by simp[Op.operands])
  have h1:=h.at_ k
  simp only[aZ]at h1 ⊢
  rw[dn,AF,<-h1]
  generalize ah σ y=u at hy
  unfold jN
  split
  ·rfl
  ·split
   ·split
    ·rfl
    ·rename_i q
     have hk:ct p q=true:=hy
     rw[hm,qj hn q _ hk]
    ·rfl
   ·rfl
 case h_8 t t2 y=>
  intro X k
  have hy:=aO y (by simp[Op.operands])
  have dn:=ho y (by simp[Op.operands])
  have h1:=h.at_ k
  simp only[aZ]at h1 ⊢
  rw[dn,<-h1]
  generalize ah σ y=u at hy
  unfold jv
  split
  ·rfl
  ·rename_i z _
   cases z with
   | own q=>
    have hk:ct p q=true:=hy
    simp only[eg]
    rw[hm,qj hn q _ hk]
   | v z=>rfl
   | dead=>rfl
  ·rfl
 case h_15 y t=>
  intro X k
  have hy:=aO y (by simp[Op.operands,Call.operands])
  have dn:=ho y (by simp[Op.operands,Call.operands])
  have h1:=h.at_ k
  simp only[aZ]at h1 ⊢
  rw[dn,<-h1]
  generalize ah σ y=u at hy
  unfold ir
  split
  ·rename_i z
   cases z with
   | own q=>
    have hk:ct p q=true:=hy
    simp only[eg]
    rw[hm,qj hn q _ hk]
   | v z=>rfl
   | dead=>rfl
  ·rfl
  ·rfl
 case h_18 t y lo hi=>
  intro X k
  have hy:=aO y (by simp[Op.operands])
  have dn:=ho y (by simp[Op.operands])
  have e:∀ z:Option Operand,(∀ y,z=some y->ah (σ.root n x) y=ah σ y)->z.map (ah (σ.root n x))=z.map (ah σ):=by
   intro z hz
   cases z with
   | none=>rfl
   | some z=>exact congrArg some (hz z rfl)
  have h1:=h.at_ k
  simp only[aZ]at h1 ⊢
  rw[dn,e lo (fun y hy=>ho y (by subst hy;simp[Op.operands])),e hi (fun y hy=>ho y (by subst hy;simp[Op.operands])),<-h1]
  generalize ah σ y=u at hy
  unfold kF
  split
  ·rename_i q
   have hk:ct p q=true:=hy
   unfold r8
   split
   ·split
    ·rw[hm,qj hn q _ hk]
    ·rfl
   ·rfl
  ·rfl
 case h_19=>cases h0
 all_goals exact AD fun X k=>rfl
end
end Go.Proofs.YtjldnlbiefpekaaDoor
namespace Go.Proofs.YtjldnlbiefpekaaDoor
open Go.RowKit
set_option linter.unusedVariables false
def cX(σ:S):Option Tmp->A->S
 | none,_=>σ
 | some d,v=>σ.set d v
inductive Grow (p pb:Nat->Bool):S->S->Prop
 | refl (σ:S):Grow p pb σ σ
 | root {σ aa:S} (n:Nat) (x:ax):p n=true->pb n=true->Grow p pb σ aa->Grow p pb σ ((aa.drop n).root n x)
 | aG {σ aa:S} (ns:List Nat) (nr:List (Nat×ax)):AG p ns nr->Grow p pb σ aa->Grow p pb σ (aa.aG ns [] nr)
 | rt {σ aa:S} (n:Nat) (x:ax):p n=true->Grow p pb σ aa->Grow p pb σ (aa.root n x)
section
variable {P:Program} {w w':World} {w0:Wd} {B N:Nat} {lab af:aH} {ρ ρ':Nat->Loc} {σ:S} {a:Act} {X:Type} {d:Nat} {r:X} {o:Oper} {Φ:cc} {p pb:Nat->Bool}
theorem fT{dst:Option Tmp}{x:A}{k:S->Option X}(h:eT N σ dst x k=some r):k (cX σ dst x)=some r/\∀ (σ2:S),aS (fun X k=>eT (X:=X) N σ2 dst x k) (cX σ2 dst x):=by
 unfold eT at h
 split at h
 ·exact⟨h,fun _ X k=>rfl⟩
 ·rename_i d
  cases hN:Nat.blt d N with
  | false=>rw[hN]at h;cases h
  | true=>rw[hN]at h;exact⟨h,fun _ X k=>by simp only[eT,hN,cond_true];rfl⟩
theorem M8[Inhabited Wd]{f:Nat}{dst:Option Tmp}{c:mW}{xs:List A}{k:S->Option X}(hc:ow P f c)(h:uh N σ dst c xs k=some r):∃ τ,k τ=some r/\aS (fun X k=>uh (X:=X) N σ dst c xs k) τ:=by
 unfold uh at h
 obtain⟨aa,y,h1,h2,_⟩:=hc _ _ _ _ _ _ h
 obtain⟨h3,h4⟩:=fT h1
 exact⟨_,h3,fun X k=>(h2 X _).trans ((h4 aa).at_ k)⟩
theorem Grow.t{σ aa:S}(h:Grow p pb σ aa){g:Nat}(hg:(σ.t g).fS p pb=true):aa.t g=σ.t g:=by
 induction h with
 | refl=>rfl
 | root n x hn U _ ih=>
  show (A.drop n _)=_
  rw[ih]
  exact A.oE hg hn U
 | aG ns nr U _ ih=>
  show (A.aG ns [] _)=_
  rw[ih]
  exact A.wU hg U.ns
 | rt n x hn _ ih=>exact ih
theorem Grow.bp{σ aa:S}(h:Grow p pb σ aa){t r j:Nat}(ht:σ.t t = .aF r j)(hr:pb r=false):aa.t t = .aF r j:=by
 rw[<-ht]
 refine h.t ?_
 rw[ht]
 show (!pb r)=true
 rw[hr];rfl
def eD(p:Nat->Bool):A->Prop
 | .aF r _=>p r=true
 | .ptr _=>False
 | _=>True
theorem eD.drop{x:A}(h:eD p x)(n:Nat):eD p (x.drop n):=by
 cases x with
 | aF r j=>
  have e:A.drop n (.aF r j)=(bif Nat.beq r n then .undef else .aF r j):=rfl
  rw[e]
  cases Nat.beq r n with
  | true=>trivial
  | false=>exact h
 | ptr k=>exact h.elim
 | view k s i j=>
  have e:A.drop n (.view k s i j)=(bif aE n k then .undef else .view k s i j):=rfl
  rw[e]
  cases aE n k <;>trivial
 | pk r j=>
  have e:A.drop n (.pk r j)=(bif Nat.beq r n then .undef else .pk r j):=rfl
  rw[e]
  cases Nat.beq r n <;>trivial
 | fn f cap=>
  have e:A.drop n (.fn f cap)=(bif cap.any (fun p=>Nat.beq p.1 n)then .undef else .fn f cap):=rfl
  rw[e]
  cases (cap.any fun p=>Nat.beq p.1 n) <;>trivial
 | _=>trivial
theorem eD.aG{x:A}(h:eD p x)(ns cn:List Nat):eD p (x.aG ns cn):=by
 cases x with
 | aF r j=>
  have e:A.aG ns cn (.aF r j)=(bif aN r cn then .undef else .aF r j):=rfl
  rw[e]
  cases aN r cn with
  | true=>trivial
  | false=>exact h
 | ptr k=>exact h.elim
 | view k s i j=>
  have e:A.aG ns cn (.view k s i j)=(bif aT k cn || aT k ns then .undef else .view k s i j):=rfl
  rw[e]
  cases (aT k cn || aT k ns) <;>trivial
 | pk r j=>
  have e:A.aG ns cn (.pk r j)=(bif aN r cn then .undef else .pk r j):=rfl
  rw[e]
  cases aN r cn <;>trivial
 | fn f cap=>
  have e:A.aG ns cn (.fn f cap)=(bif cap.any (fun p=>aN p.1 cn)then .undef else .fn f cap):=rfl
  rw[e]
  cases (cap.any fun p=>aN p.1 cn) <;>trivial
 | _=>trivial
theorem Grow.st{p':Nat->Bool}{σ aa:S}(h:Grow p pb σ aa){t:Nat}(ht:eD p' (σ.t t)):eD p' (aa.t t):=by
 induction h with
 | refl=>exact ht
 | root n x hn U _ ih=>exact ih.drop n
 | aG ns nr U _ ih=>exact ih.aG ns []
 | rt n x hn _ ih=>exact ih
theorem Grow.kN{σ aa:S}(h:Grow p pb σ aa){x:Operand}(hx:(ah σ x).fS p pb=true):ah aa x=ah σ x:=by
 cases x with
 | tmp t=>exact h.t hx
 | const v=>rfl
 | global g=>rfl
 | func f=>rfl
theorem Grow.val{σ aa:S}(h:Grow p pb σ aa){op:Op}{v:A}(hd:aS (fun X k=>aZ (X:=X) P σ op k) v)(aO:∀ y∈op.operands,(ah σ y).fS p pb=true)(hv:v.fS p pb=true)(lg:∀ t y r j,op = .load t y->ah σ y = .aF r j->p r=false):aS (fun X k=>aZ (X:=X) P aa op k) v:=by
 have hl:∀ {aa:S},Grow p pb σ aa->∀ t y r j,op = .load t y->ah aa y = .aF r j->p r=false:=by
  intro aa hg t y r j e h
  refine lg t y r j e ?_
  rw[<-hg.kN (aO y (by rw[e];simp[Op.operands]))]
  exact h
 induction h with
 | refl=>exact hd
 | root n x hn U hg ih=>
  exact WQ ih hn U (fun y hy=>by rw[hg.kN (aO y hy)];exact aO y hy) hv
 | aG ns nr U hg ih=>
  exact WS ih U (fun y hy=>by rw[hg.kN (aO y hy)];exact aO y hy) hv (hl hg)
 | rt n x hn hg ih=>
  exact WT ih hn (fun y hy=>by rw[hg.kN (aO y hy)];exact aO y hy) hv (hl hg)
theorem Grow.trans{σ aa oA:S}(h:Grow p pb σ aa)(h':Grow p pb aa oA):Grow p pb σ oA:=by
 induction h' with
 | refl=>exact h
 | root n x hn U _ ih=>exact .root n x hn U ih
 | aG ns nr U _ ih=>exact .aG ns nr U ih
 | rt n x hn _ ih=>exact .rt n x hn ih
theorem uv:∀ (xs:List V) (c:Nat) (σ:S),(∀ n,c<=n->p n=true/\pb n=true)->Grow p pb σ (dF c σ xs)
 | [],c,σ,h=>.refl σ
 | x :: xs,c,σ,h=>by
  simp only[dF]
  cases hf:x.av with
  | true=>exact uv xs (c+1) σ (fun n hn=>h n (by omega))
  | false=>exact .trans (.root c (.sl x) (h c (Nat.le_refl _)).1 (h c (Nat.le_refl _)).2 (.refl σ)) (uv xs (c+1) _ (fun n hn=>h n (by omega)))
theorem AH:∀ (ps:List Pt) (c:Nat) (σ:S),(∀ n,c<=n->p n=true/\pb n=true)->Grow p pb σ (eW c σ ps)
 | [],c,σ,h=>.refl σ
 | q :: ps,c,σ,h=>(uv q.2 c σ h).trans (AH ps _ _ (fun n hn=>h n (by omega)))
theorem ql{σ2:S}{ops:Array Oper}(h:∀ g b t,o.guard=some (g,b)->(ops[g]?).bind (·.dst)=some t->σ2.t t=σ.t t):cW σ2 ops o=cW σ ops o:=by
 unfold cW
 split
 ·rfl
 ·rename_i g b hg
  split
  ·rename_i t ht
   rw[h g b t hg ht]
  ·rfl
def gQ(p pb:Nat->Bool)(x:A):Prop:=∀ r,x = .lf (.own [r])->p r=true/\pb r=true
theorem gQ.drop{p pb:Nat->Bool}{x:A}(h:gQ p pb x)(n:Nat):gQ p pb (x.drop n):=by
 intro r hr
 refine h r ?_
 cases x with
 | lf l=>
  cases l with
  | own k=>
   have e:A.drop n (.lf (.own k)) = .lf (bif aE n k then .dead else .own k):=rfl
   rw[e]at hr
   cases U:aE n k with
   | true=>rw[U]at hr;cases hr
   | false=>rw[U]at hr;exact hr
  | v z=>cases hr
  | dead=>cases hr
 | aF q j=>
  have e:A.drop n (.aF q j)=(bif Nat.beq q n then .undef else .aF q j):=rfl
  rw[e]at hr
  cases U:Nat.beq q n <;>rw[U]at hr <;>cases hr
 | ptr k=>
  have e:A.drop n (.ptr k)=(bif aE n k then .undef else .ptr k):=rfl
  rw[e]at hr
  cases U:aE n k <;>rw[U]at hr <;>cases hr
 | view k s i j=>
  have e:A.drop n (.view k s i j)=(bif aE n k then .undef else .view k s i j):=rfl
  rw[e]at hr
  cases U:aE n k <;>rw[U]at hr <;>cases hr
 | pk q j=>
  have e:A.drop n (.pk q j)=(bif Nat.beq q n then .undef else .pk q j):=rfl
  rw[e]at hr
  cases U:Nat.beq q n <;>rw[U]at hr <;>cases hr
 | fn f cap=>
  have e:A.drop n (.fn f cap)=(bif cap.any (fun p=>Nat.beq p.1 n)then .undef else .fn f cap):=rfl
  rw[e]at hr
  cases U:(cap.any fun p=>Nat.beq p.1 n) <;>rw[U]at hr <;>cases hr
 | _=>cases hr
theorem gQ.aG{p pb:Nat->Bool}{x:A}(h:gQ p pb x)(ns cn:List Nat):gQ p pb (x.aG ns cn):=by
 intro r hr
 refine h r ?_
 cases x with
 | lf l=>
  have e:A.aG ns cn (.lf l) = .lf (l.aG ns cn):=rfl
  rw[e]at hr
  injection hr with hr
  unfold Lf.aG at hr
  split at hr
  ·rename_i k
   cases U:(aT k cn || (aT k ns && !Nat.beq k.length 1)) <;>simp_all
  ·rw[hr]
 | aF q j=>
  have e:A.aG ns cn (.aF q j)=(bif aN q cn then .undef else .aF q j):=rfl
  rw[e]at hr
  cases U:aN q cn <;>rw[U]at hr <;>cases hr
 | ptr k=>
  unfold A.aG at hr
  simp only at hr
  exfalso
  revert hr
  cases (aT k cn || aT k ns) <;>simp
 | view k s i j=>
  have e:A.aG ns cn (.view k s i j)=(bif aT k cn || aT k ns then .undef else .view k s i j):=rfl
  rw[e]at hr
  cases U:(aT k cn || aT k ns) <;>rw[U]at hr <;>cases hr
 | pk q j=>
  have e:A.aG ns cn (.pk q j)=(bif aN q cn then .undef else .pk q j):=rfl
  rw[e]at hr
  cases U:aN q cn <;>rw[U]at hr <;>cases hr
 | fn f cap=>
  have e:A.aG ns cn (.fn f cap)=(bif cap.any (fun p=>aN p.1 cn)then .undef else .fn f cap):=rfl
  rw[e]at hr
  cases U:(cap.any fun p=>aN p.1 cn) <;>rw[U]at hr <;>cases hr
 | _=>cases hr
theorem Grow.tg{p' M9:Nat->Bool}{σ aa:S}(h:Grow p pb σ aa){t:Nat}(ht:gQ p' M9 (σ.t t)):gQ p' M9 (aa.t t):=by
 induction h with
 | refl=>exact ht
 | root n x hn U _ ih=>exact ih.drop n
 | aG ns nr U _ ih=>exact ih.aG ns []
 | rt n x hn _ ih=>exact ih
structure mo (P:Program) (N:Nat) (Φ:cc) (o:Oper) (p pb:Nat->Bool) (jy τ:S) where
 G:S->S
 u:A
 eq:τ=cX (G jy) o.dst u
 run:∀ σ2:S,(∀ x∈o.op.operands,ah σ2 x=ah jy x)->σ2.m=jy.m->bF P N Φ σ2 o some=some (cX (G σ2) o.dst u)
 grow:∀ σ,Grow p pb σ (G σ)
 set:∀ (σ:S) d v,(A.fS p pb v)=true->G (σ.set d v)=(G σ).set d v
 bp:isApp o=false->∀ (σ:S) t r j,σ.t t = .aF r j->cC o r=false->(G σ).t t = .aF r j
theorem mo.new{jy:S}{d:Nat}(hd:o.dst=some d)(hp:p d=true/\pb d=true)(b6:cC o d=true)(x:ax)(u:A){τ:S}(e:τ=((jy.drop d).root d x).set d u)
  (hr:∀ σ2:S,(∀ x∈o.op.operands,ah σ2 x=ah jy x)->bF P N Φ σ2 o some=some (((σ2.drop d).root d x).set d u)):Nonempty (mo P N Φ o p pb jy τ):=
 ⟨{ G:=fun σ=>(σ.drop d).root d x,u:=u,eq:=by rw[hd];exact e,run:=fun σ2 h _=>by rw[hr σ2 h,hd];rfl,grow:=fun σ=>.root d x hp.1 hp.2 (.refl σ),
    set:=fun σ e v hv=>by rw[S.drop_set d (A.oE hv hp.1 hp.2)];rfl
    bp:=fun _ σ t r j ht hr=>by
     show A.drop d (σ.t t)=_
     rw[ht]
     have:Nat.beq r d=false:=by
      cases U:Nat.beq r d with
      | false=>rfl
      | true=>rw[Nat.eq_of_beq_eq_true U,b6]at hr;cases hr
     simp only[A.drop,this,cond_false] }⟩
theorem WU[Inhabited Wd](aJ:dB P Φ){τ:S}(ht:CZ Φ o.op=true)(hp:∀ n,cC o n=true->p n=true/\pb n=true)(h:bF P N Φ σ o some=some τ):Nonempty (mo P N Φ o p pb σ τ):=by
 have h0:=h
 unfold bF at h
 cases hv:cV o.op with
 | true=>
  rw[hv,cond_true]at h
  obtain⟨v,h1,hd,_⟩:=wR (w0:=default) (N:=N) h
  obtain⟨h2,h3⟩:=fT h1
  injection h2 with h2
  refine⟨{ G:=fun σ=>σ,u:=v,eq:=h2.symm,run:=fun σ2 ho hm=>?_,grow:=.refl,set:=fun _ _ _ _=>rfl,bp:=fun _ _ _ _ _ h _=>h }⟩
  unfold bF
  rw[hv,cond_true,wT o.op hm ho]
  refine(hd.at_ _).trans ?_
  exact(h3 σ2).at_ _
 | false=>
  rw[hv,cond_false]at h
  have aD:∀ σ2,bF P N Φ σ2 o some=ew P N Φ σ2 o some:=fun σ2=>by unfold bF;rw[hv,cond_false]
  unfold ew at h aD
  unfold CZ at ht
  rw[hv,Bool.false_or]at ht
  split at h
  ·rename_i e ho
   obtain⟨d,hd,h⟩:=dm h
   obtain⟨x,y,h1,_,h2⟩:=Mv h
   injection h1 with h1
   have b6:cC o d=true:=by unfold cC;rw[hd,ho];exact Nat.beq_refl d
   refine mo.new hd (hp d b6) b6 x y h1.symm fun σ2 _=>?_
   rw[aD,ho]
   simp only[cx,hd]
   exact(h2 σ2).at_ _
  ·rename_i e x ho
   obtain⟨d,hd,h⟩:=dm h
   obtain⟨y,u,h1,h2⟩:=MA h
   injection h1 with h1
   have b6:cC o d=true:=by unfold cC;rw[hd,ho];exact Nat.beq_refl d
   refine mo.new hd (hp d b6) b6 _ _ h1.symm fun σ2 aO=>?_
   rw[aD,ho]
   simp only[cx,hd]
   rw[aO x (by rw[ho];simp[Op.operands])]
   exact(h2 σ2).at_ _
  ·rename_i t len parts ho
   obtain⟨d,hd,h⟩:=dm h
   have b6:cC o d=true:=by unfold cC;rw[hd,ho];exact Nat.beq_refl d
   cases hn:jz t with
   | true=>
    rw[hn,cond_true]at h
    obtain⟨y,u,h1,h2⟩:=MD h
    injection h1 with h1
    refine mo.new hd (hp d b6) b6 _ _ h1.symm fun σ2 aO=>?_
    rw[aD,ho]
    simp only[cx,hd,hn,cond_true]
    refine(h2 σ2 fun q hq=>aO _ ?_).at_ _
    rw[ho]
    simp only[Op.operands]
    exact List.mem_toArray.2 (List.mem_map_of_mem (f:=(·.2)) hq)
   | false=>
    rw[hn,cond_false]at h
    obtain⟨y,h1,h2⟩:=Hj h
    injection h1 with h1
    refine mo.new hd (hp d b6) b6 _ _ h1.symm fun σ2 aO=>?_
    rw[aD,ho]
    simp only[cx,hd,hn,cond_false]
    refine(h2 σ2 fun q hq=>aO _ ?_).at_ _
    rw[ho]
    simp only[Op.operands]
    exact List.mem_toArray.2 (List.mem_map_of_mem (f:=(·.2)) hq)
  ·rename_i t x y ho
   rw[ho]at ht
   cases ht
  ·rename_i t l c ho
   obtain⟨d,hd,h⟩:=dm h
   obtain⟨y,h1,h2⟩:=Hi h
   injection h1 with h1
   have b6:cC o d=true:=by unfold cC;rw[hd,ho];exact Nat.beq_refl d
   refine mo.new hd (hp d b6) b6 _ _ h1.symm fun σ2 aO=>?_
   rw[aD,ho]
   simp only[cx,hd]
   rw[aO l (by rw[ho];simp[Op.operands]),aO c (by rw[ho];simp[Op.operands])]
   exact(h2 σ2).at_ _
  ·rename_i f args bG ho
   split at h
   rotate_left
   ·rename_i c hc
    rw[ho]at ht
    simp[hc]at ht
   ·rename_i c hc
    rw[ho]at ht
    simp[hc]at ht
   ·rename_i F hc
    rw[ho]at ht
    simp[hc]at ht
   ·rename_i c hc
    rw[ho]at ht
    simp[hc]at ht
   ·rename_i c hc
    rw[ho]at ht
    simp[hc]at ht
   ·rename_i c hc
    rw[ho]at ht
    simp[hc]at ht
   ·rename_i c hc
    rw[ho]at ht
    simp[hc]at ht
   ·cases h
   ·rename_i c hc
    obtain⟨d,hd,h⟩:=dm h
    obtain⟨res,dD,h1,h2,h3⟩:=wL (aJ f _ hc).2 h
    injection h2 with h2
    subst h2
    have b6:∀ n,1000000000100000+1000*d<=n->cC o n=true:=fun n hn=>by unfold cC;rw[hd,ho];exact Nat.ble_eq_true_of_le hn
    have gR:∀ n,1000000000100000+1000*d<=n->p n=true/\pb n=true:=fun n hn=>hp n (b6 n hn)
    have AI:∀ σ2:S,(∀ x∈o.op.operands,ah σ2 x=ah σ x)->σ2.m=σ.m->∀ (X:Type) (k:List Pt->Option X),fF σ2 args.toList k=fF σ args.toList k:=by
     intro σ2 aO hm X k
     refine M5 hm _ _ fun x hx=>aO x ?_
     rw[ho]
     simp only[Op.operands,Call.operands]
     simp only[Array.mem_append]
     first
      | exact .inr (by simpa using hx)
      | exact .inl (by simpa using hx)
    unfold ot at h1 h3
    cases res with
    | one q=>
     simp only at h1 h3
     split at h1
     ·rename_i y hy
      injection h1 with h1
      refine⟨{ G:=fun σ=>dF (1000000000100000+1000*d) σ q.2,u:=y,eq:=by rw[hd];exact h1.symm,run:=fun σ2 aO hm=>?_,grow:=fun σ=>uv q.2 _ σ gR,set:=fun σ e v hv=>An v q.2 _ σ fun n hn=>A.oE hv (gR n hn).1 (gR n hn).2,bp:=fun _ σ t r j ht hr=>(uv (p:=cC o) (pb:=cC o) q.2 _ σ (fun n hn=>⟨b6 n hn,b6 n hn⟩)).bp ht hr }⟩
      rw[aD,ho]
      simp only[cx,hd,hc]
      exact(h3 σ2 ((dF (1000000000100000+1000*d) σ2 q.2).set d y) (AI σ2 aO hm) (by rw[hy])).at_ _
     ·cases h1
    | aU ps=>
     injection h1 with h1
     refine⟨{ G:=fun σ=>eW (1000000000100000+1000*d) σ ps,u:=_,eq:=by rw[hd];exact h1.symm,run:=fun σ2 aO hm=>?_,grow:=fun σ=>AH ps _ σ gR,set:=fun σ e v hv=>Ho v ps _ σ fun n hn=>A.oE hv (gR n hn).1 (gR n hn).2,bp:=fun _ σ t r j ht hr=>(AH (p:=cC o) (pb:=cC o) ps _ σ (fun n hn=>⟨b6 n hn,b6 n hn⟩)).bp ht hr }⟩
     rw[aD,ho]
     simp only[cx,hd,hc]
     exact(h3 σ2 _ (AI σ2 aO hm) rfl).at_ _
  ·rename_i x y t t' ho
   rw[ho]at ht
   cases ht
  ·rename_i t ho
   rw[ho]at ht
   cases ht
  ·rename_i t x i ho
   rw[ho]at ht
   cases ht
  ·rename_i t x i v ho
   rw[ho]at ht
   cases ht
  ·rename_i t args bG ho
   rw[ho]at ht
   cases ht
  ·rename_i f Ay ho
   rw[ho]at ht
   cases ht
  ·cases h
theorem C9[Inhabited Wd](aJ:dB P Φ){k:S->Option X}(h:bF P N Φ σ o k=some r):∃ τ,k τ=some r/\∀ (X':Type) (k':S->Option X'),bF P N Φ σ o k'=k' τ:=by
 unfold bF at h ⊢
 cases hv:cV o.op with
 | true=>
  rw[hv,cond_true]at h
  obtain⟨v,h1,hd,_⟩:=wR (w0:=default) (N:=N) h
  obtain⟨h2,h3⟩:=fT h1
  refine⟨_,h2,fun X' k'=>?_⟩
  rw[cond_true]
  exact(hd.at_ (fun v=>eT N σ o.dst v k')).trans ((h3 σ).at_ _)
 | false=>
  rw[hv,cond_false]at h
  show ∃ τ,k τ=some r/\∀ (X':Type) (k':S->Option X'),ew P N Φ σ o k'=k' τ
  unfold ew at h ⊢
  split at h
  ·obtain⟨d,hd,h⟩:=dm h
   obtain⟨x,y,h1,_,h2⟩:=Mv h
   exact⟨_,h1,fun _ _=>by simp only[cx,hd];exact(h2 σ).at_ _⟩
  ·obtain⟨d,hd,h⟩:=dm h
   obtain⟨y,u,h1,h2⟩:=MA h
   exact⟨_,h1,fun _ _=>by simp only[cx,hd];exact(h2 σ).at_ _⟩
  ·rename_i t len parts ho
   obtain⟨d,hd,h⟩:=dm h
   cases hn:jz t with
   | true=>
    rw[hn,cond_true]at h
    obtain⟨y,u,h1,h2⟩:=MD h
    exact⟨_,h1,fun _ _=>by simp only[cx,hd,cond_true];exact(h2 σ fun _ _=>rfl).at_ _⟩
   | false=>
    rw[hn,cond_false]at h
    obtain⟨y,h1,h2⟩:=Hj h
    exact⟨_,h1,fun _ _=>by simp only[cx,hd,cond_false];exact(h2 σ fun _ _=>rfl).at_ _⟩
  ·split at h
   ·rename_i t x y ho _ hd
    cases hn:tZ (ah σ x) (ah σ y)with
    | true=>
     rw[hn,cond_true]at h
     obtain⟨τ,h1,h2⟩:=VV h
     exact⟨τ,h1,fun _ _=>by simp only[cond_true];exact h2.at_ _⟩
    | false=>
     rw[hn,cond_false]at h
     obtain⟨τ,h1,h2⟩:=Mx h
     exact⟨τ,h1,fun _ _=>by simp only[cond_false];exact h2.at_ _⟩
   ·cases h
  ·obtain⟨d,hd,h⟩:=dm h
   obtain⟨y,h1,h2⟩:=Hi h
   exact⟨_,h1,fun _ _=>by simp only[cx,hd];exact(h2 σ).at_ _⟩
  ·rename_i f args bG ho
   split at h
   ·rename_i c hc
    obtain⟨d,hd,h⟩:=dm h
    obtain⟨res,τ,h1,h2,h3⟩:=wL (aJ f _ hc).2 h
    exact⟨τ,h2,fun _ _=>by simp only[cx,hd];exact(h3 σ τ (fun _ _=>rfl) h1).at_ _⟩
   ·rename_i c hc
    obtain⟨τ,h1,h2⟩:=Hr h
    exact⟨τ,h1,fun _ _=>h2.at_ _⟩
   ·rename_i c hc
    obtain⟨d,hd,h⟩:=dm h
    obtain⟨τ,h1,h2⟩:=V3 h
    exact⟨τ,h1,fun _ _=>by simp only[cx,hd];exact h2.at_ _⟩
   ·rename_i F hc
    obtain⟨d,hd,h⟩:=dm h
    split at h
    ·rename_i x hx
     obtain⟨τ,h1,h2⟩:=VW h
     exact⟨τ,h1,fun _ _=>by simp only[cx,hd];exact h2.at_ _⟩
    ·cases h
   ·rename_i c hc
    obtain⟨τ,h1,h2⟩:=M8 (aJ f _ hc).2 h
    exact⟨τ,h1,fun _ _=>h2.at_ _⟩
   ·rename_i c hc
    obtain⟨τ,h1,h2⟩:=Vw (fun h=>let ⟨τ,g1,g2⟩:=Hr h;⟨τ,g1,fun X k=>g2 X k⟩) h
    exact⟨τ,h1,h2⟩
   ·rename_i c hc
    obtain⟨d,hd,h⟩:=dm h
    obtain⟨τ,h1,h2⟩:=VK (aJ f _ hc).2 h
    exact⟨τ,h1,fun _ _=>by simp only[cx,hd];exact h2.at_ _⟩
   ·rename_i c hc
    obtain⟨τ,h1,h2⟩:=Wa h
    exact⟨τ,h1,h2⟩
   ·cases h
  ·rename_i x y t t' ho
   cases dy:Nat.beq t t' with
   | false=>
    rw[dy,cond_false]at h
    obtain⟨d,hd,h⟩:=dm h
    obtain⟨τ,h1,h2⟩:=Wo h
    exact⟨τ,h1,fun _ _=>by simp only[cond_false,cx,hd];exact h2.at_ _⟩
   | true=>
    rw[dy,cond_true]at h
    obtain⟨d,hd,h⟩:=dm h
    cases hn:jz t with
    | true=>
     rw[hn,cond_true]at h
     obtain⟨τ,h1,h2⟩:=VT h
     exact⟨τ,h1,fun _ _=>by simp only[cond_true,cx,hd];exact h2.at_ _⟩
    | false=>
     rw[hn,cond_false]at h
     cases hk:Ax t d with
     | true=>
      rw[hk,cond_true]at h
      obtain⟨τ,h1,h2⟩:=Ww h
      exact⟨τ,h1,fun _ _=>by simp only[cond_true,cond_false,cx,hd,hk];exact h2.at_ _⟩
     | false=>
      rw[hk,cond_false]at h
      obtain⟨τ,h1,h2⟩:=VI h
      exact⟨τ,h1,fun _ _=>by simp only[cond_true,cond_false,cx,hd,hk];exact h2.at_ _⟩
  ·rename_i t ho
   obtain⟨d,hd,h⟩:=dm h
   obtain⟨τ,h1,h2⟩:=Wq h
   exact⟨τ,h1,fun _ _=>by simp only[cx,hd];exact h2.at_ _⟩
  ·rename_i t x i ho
   obtain⟨v,h1,h2,_⟩:=MW (w0:=default) (N:=N) h
   obtain⟨h3,h4⟩:=fT h1
   exact⟨_,h3,fun _ _=>(h2.at_ _).trans ((h4 σ).at_ _)⟩
  ·rename_i t x i v ho
   split at h
   ·rename_i hd
    obtain⟨τ,h1,h2,_⟩:=MY (w0:=default) (N:=N) h
    exact⟨τ,h1,fun _ _=>h2.at_ _⟩
   ·cases h
  ·rename_i t args bG ho
   split at h
   ·rename_i f cap b5
    split at h
    ·rename_i c hc
     obtain⟨τ,h1,h2⟩:=M8 (aJ f _ hc).2 h
     exact⟨τ,h1,fun _ _=>h2.at_ _⟩
    ·cases h
   ·cases h
  ·rename_i f Ay ho
   split at h
   ·rename_i ps dP
    obtain⟨h3,h4⟩:=fT h
    exact⟨_,h3,fun _ _=>(h4 σ).at_ _⟩
   ·cases h
  ·cases h
theorem WV[Inhabited Wd](aJ:dB P Φ){k:S->Option X}(h:bF P N Φ σ o k=some r):∃ τ,k τ=some r/\bF P N Φ σ o some=some τ:=
 let ⟨τ,h1,h2⟩:=C9 aJ h
 ⟨τ,h1,h2 S some⟩
theorem HH[Inhabited Wd](aJ:dB P Φ){ops:Array Oper}{k:S->Option X}(h:bO P N Φ ops σ o k=some r):∃ τ,k τ=some r/\bO P N Φ ops σ o some=some τ:=by
 unfold bO at h ⊢
 split at h
 ·exact WV aJ h
 ·obtain⟨h1,h2⟩:=fT h
  exact⟨_,h1,(h2 σ).at_ _⟩
 ·cases h
theorem HI{ops:Array Oper}{b:Bool}(h:cW σ ops o=some b):∀ g c t,o.guard=some (g,c)->(ops[g]?).bind (·.dst)=some t->(σ.t t).fS p pb=true:=by
 intro g c t hg ht
 unfold cW at h
 rw[hg]at h
 simp only[ht]at h
 split at h
 ·rename_i U;rw[U];rfl
 ·rename_i U;rw[U];rfl
 ·cases h
theorem AJ{ops:Array Oper}{d:Nat}(h:d ∉ o.looksAt ops)(v:A){x:Operand}(hx:x∈o.op.operands):ah (σ.set d v) x=ah σ x:=by
 cases x with
 | tmp t=>
  have:t≠d:=by
   rintro rfl
   exact h (List.mem_append_left _ (List.mem_filterMap.2 ⟨.tmp t,by simpa using hx,rfl⟩))
  exact aQ _ _ _ this
 | _=>rfl
theorem Da{ops:Array Oper}{d:Nat}(h:d ∉ o.looksAt ops)(v:A):∀ g b t,o.guard=some (g,b)->(ops[g]?).bind (·.dst)=some t->(σ.set d v).t t=σ.t t:=by
 intro g b t hg ht
 have:t≠d:=by
  rintro rfl
  refine h (List.mem_append_right _ ?_)
  rw[hg]
  simp only[ht]
  simp
 exact aQ _ _ _ this
def iJ(P:Program)(ops:Array Oper)(oi:Oper)(p pb:Nat->Bool)(v:A)(σ:S):Prop:=
 (cW σ ops oi=some true/\cV oi.op=true/\aS (fun X k=>aZ (X:=X) P σ oi.op k) v/\(∀ y∈oi.op.operands,(ah σ y).fS p pb=true)/\v.fS p pb=true/\∀ t y r j,oi.op = .load t y->ah σ y = .aF r j->p r=false)\/(cW σ ops oi=some false/\v = .skip)
theorem iJ.grow{ops:Array Oper}{oi:Oper}{v:A}(h:iJ P ops oi p pb v σ){aa:S}(hg:Grow p pb σ aa):iJ P ops oi p pb v aa:=by
 rcases h with ⟨h1,h2,h3,h4,h5,h6⟩ | ⟨h1,h2⟩
 ·refine .inl ⟨?_,h2,hg.val h3 h4 h5 h6,fun y hy=>?_,h5,fun t y r j e h=>?_⟩
  ·rw[ql fun g b t e1 e2=>hg.t (HI h1 g b t e1 e2)];exact h1
  ·rw[hg.kN (h4 y hy)];exact h4 y hy
  ·exact h6 t y r j e (by rw[<-hg.kN (h4 y (by rw[e];simp[Op.operands]))];exact h)
 ·refine .inr ⟨?_,h2⟩
  rw[ql fun g b t e1 e2=>hg.t (HI h1 g b t e1 e2)];exact h1
theorem iJ.set{ops:Array Oper}{oi:Oper}{v u:A}(h:iJ P ops oi p pb v σ){d:Nat}(hd:d ∉ oi.looksAt ops):iJ P ops oi p pb v (σ.set d u):=by
 rcases h with ⟨h1,h2,h3,h4,h5,h6⟩ | ⟨h1,h2⟩
 ·refine .inl ⟨?_,h2,fun X k=>?_,fun y hy=>?_,h5,fun t y r j e h=>?_⟩
  ·rw[ql (Da hd u)];exact h1
  ·exact(wT (σ:=σ) (σ2:=σ.set d u) oi.op rfl (fun x hx=>AJ hd u hx) k).trans (h3.at_ k)
  ·rw[AJ hd u hy];exact h4 y hy
  ·exact h6 t y r j e (by rw[<-AJ hd u (by rw[e];simp[Op.operands])];exact h)
 ·refine .inr ⟨?_,h2⟩
  rw[ql (Da hd u)];exact h1
theorem iJ.put{ops:Array Oper}{oi:Oper}{v u:A}(h:iJ P ops oi p pb v σ){dst:Option Tmp}(hd:∀ d,dst=some d->d ∉ oi.looksAt ops):iJ P ops oi p pb v (cX σ dst u):=by
 cases dst with
 | none=>exact h
 | some d=>exact h.set (hd d rfl)
theorem iJ.nr{ops:Array Oper}{oi:Oper}{v:A}(h:iJ P ops oi p pb v σ):v.fS p pb=true:=by
 rcases h with ⟨_,_,_,_,h5,_⟩ | ⟨_,h2⟩
 ·exact h5
 ·rw[h2];rfl
theorem Na{x y:Option Tmp}(v u:A)(h:∀ d,x=some d->y≠some d):cX (cX σ x v) y u=cX (cX σ y u) x v:=by
 cases x with
 | none=>rfl
 | some d=>cases y with
  | none=>rfl
  | some e=>exact S.set_set (fun he=>h d rfl (congrArg some he)) v u
theorem WW(x:Option Tmp)(v:A):(cX σ x v).m=σ.m:=by cases x <;>rfl
theorem Db{ops:Array Oper}{dst:Option Tmp}(h:∀ d,dst=some d->d ∉ o.looksAt ops)(v:A){x:Operand}(hx:x∈o.op.operands):ah (cX σ dst v) x=ah σ x:=by
 cases dst with
 | none=>rfl
 | some d=>exact AJ (h d rfl) v hx
theorem WX{ops:Array Oper}{dst:Option Tmp}(h:∀ d,dst=some d->d ∉ o.looksAt ops)(v:A):cW (cX σ dst v) ops o=cW σ ops o:=by
 cases dst with
 | none=>rfl
 | some d=>exact ql (Da (h d rfl) v)
/-! Calls that write blocks alone. -/
theorem Nb{σ2:S}(hm:σ2.m=σ.m)(ns:List Nat):∀ (xs:List Lf) (k:List V->Option X),jU σ2 ns xs k=jU σ ns xs k
 | [],k=>rfl
 | x :: xs,k=>by
  simp only[jU,wS hm]
  congr 2
  funext y
  exact Nb hm ns xs _
theorem WY{σ2:S}(hm:σ2.m=σ.m)(ns:List Nat)(x:A)(k:Pt->Option X):kH σ2 ns x k=kH σ ns x k:=by
 cases x <;>simp only[kH,Nb hm]
theorem WZ{σ2:S}(hm:σ2.m=σ.m)(p:PK)(x:A):od σ2 p x=od σ p x:=by
 cases p <;>simp only[od,hm]
theorem Nc{σ2:S}(hm:σ2.m=σ.m):∀ (ps:List PK) (xs:List Operand),(∀ x∈xs,ah σ2 x=ah σ x)->fo σ2 ps xs=fo σ ps xs
 | [],[],_=>rfl
 | [],_ :: _,_=>rfl
 | _ :: _,[],_=>rfl
 | p :: ps,x :: xs,h=>by
  simp only[fo]
  rw[h x (.head _),WZ hm,Nc hm ps xs (fun y hy=>h y (.tail _ hy))]
theorem Dc{σ2:S}(hm:σ2.m=σ.m)(ns:List Nat):∀ (ps:List PK) (xs:List Operand) (aq:List Mu) (k:jd ps->Option X),(∀ x∈xs,ah σ2 x=ah σ x)->eB σ2 ns ps xs aq k=eB σ ns ps xs aq k
 | [],[],[],k,_=>rfl
 | .v b t :: ps,x :: xs,aq,k,h=>by
  simp only[eB]
  rw[h x (.head _),WY hm]
  congr 1
  funext p
  congr 1
  split
  ·exact Dc hm ns ps xs aq _ (fun y hy=>h y (.tail _ hy))
  ·rfl
 | .p t g off :: ps,x :: xs,.blk r' cs vs :: aq,k,h=>by
  simp only[eB]
  split
  ·exact Dc hm ns ps xs aq _ (fun y hy=>h y (.tail _ hy))
  ·rfl
 | .s t g :: ps,x :: xs,.sl q y0 :: aq,k,h=>by
  simp only[eB]
  split
  ·exact Dc hm ns ps xs aq _ (fun y hy=>h y (.tail _ hy))
  ·rfl
 | [],[],_ :: _,k,_=>rfl
 | [],_ :: _,_,k,_=>rfl
 | .v _ _ :: _,[],_,k,_=>rfl
 | .p _ _ _ :: _,[],_,k,_=>rfl
 | .s _ _ :: _,[],_,k,_=>rfl
 | .p _ _ _ :: _,_ :: _,[],k,_=>rfl
 | .s _ _ :: _,_ :: _,[],k,_=>rfl
 | .p _ _ _ :: _,_ :: _,.sl _ _ :: _,k,_=>rfl
 | .s _ _ :: _,_ :: _,.blk _ _ _ :: _,k,_=>rfl
theorem W0{m:Nat->Option ax}{l:Lf}{v:V}{q:Nat}(h:oc m l=some (v,some q)):v.av=false:=by
 unfold oc at h
 split at h
 ·simp at h
 ·split at h
  ·rename_i y _
   cases hf:y.av with
   | true=>rw[hf]at h;simp at h
   | false=>
    rw[hf,cond_false]at h
    simp only[Option.some.injEq,Prod.mk.injEq]at h
    rw[<-h.1];exact hf
  ·cases h
 ·cases h
theorem Nd{m:Nat->Option ax}:∀ {cs:List Lf} {vs:List (V×Option Nat)},lz m cs=some vs->(∀ v∈vs,v.1.av=true)->∀ v∈vs,v.2=none
 | [],vs,h,_=>by injection h with h;subst h;simp
 | c :: cs,vs,h,hf=>by
  unfold lz at h
  split at h
  ·rename_i v tw h1 h2
   injection h with h
   subst h
   intro u hu
   rcases List.mem_cons.1 hu with rfl | hu
   ·obtain⟨x,q⟩:=u
    cases q with
    | none=>rfl
    | some q=>have:=W0 h1;rw[hf _ (.head _)]at this;cases this
   ·exact Nd h2 (fun v hv=>hf v (.tail _ hv)) u hu
  ·cases h
theorem Nf{i:Nat}:∀ (vs:List (V×Option Nat)) (j:Nat),(∀ v∈vs,v.2=none)->wH i j vs=[]
 | [],_,_=>rfl
 | (x,q) :: vs,j,h=>by
  have:=h _ (.head _)
  simp only at this
  subst this
  exact Nf vs (j+1) (fun v hv=>h v (.tail _ hv))
theorem HJ:∀ (bR:List Nat) (xs:List V),(∀ x∈xs,x.av=true)->oh bR xs=[]/\mU bR xs=[]
 | [],[],_=>⟨rfl,rfl⟩
 | [],_ :: _,_=>⟨rfl,rfl⟩
 | _ :: _,[],_=>⟨rfl,rfl⟩
 | n :: bR,x :: xs,h=>by
  simp only[oh,mU,h x (.head _),cond_true]
  exact HJ bR xs (fun x hx=>h x (.tail _ hx))
def wV(ps:List PK):Bool:=ps.all fun p=>match p with
 | .v _ _=>true
 | .p _ g _=>Nat.beq g 0
 | .s _ _=>false
theorem HK{ns:List Nat}:∀ (ps:List PK) (xs:List Operand) (aq:List Mu) (k:jd ps->Option X),wV ps=true->fo σ ps xs=some aq->eB σ ns ps xs aq k=some r->∀ (i pos c0:Nat) (y:pV (cJ ps)),
  (∀ p∈gf i aq,p.1∈eC σ ps xs)/\iB c0 pos aq (eA (cJ ps) y)=[]/\∀ (AK cn:List Nat),∀ p∈gz AK cn c0 pos aq (eA (cJ ps) y),p.1∈eC σ ps xs
 | [],[],aq,k,_,hm,h=>by
  injection hm with hm
  subst hm
  intro i pos c0 y
  exact⟨(fun p hp=>by cases hp),by simp[iB],(fun _ _ p hp=>by simp[gz]at hp)⟩
 | .v b t :: ps,x :: xs,aq,k,hf,hm,h=>by
  have iV:fo σ ps xs=some aq:=by
   unfold fo at hm
   split at hm
   ·rename_i mu fH h1 h2;exact(oe h1).elim
   ·rename_i fH h1 h2;rw[h2];exact hm
   ·cases hm
  have bQ:wV ps=true:=by simpa [wV]using hf
  unfold eB at h
  obtain⟨p,h2,_⟩:=MO h
  cases U:p.1==b with
  | false=>rw[U]at h2;cases h2
  | true=>
   rw[U,cond_true]at h2
   split at h2
   ·intro i pos c0 y
    exact HK ps xs aq _ bQ iV h2 i pos c0 y
   ·cases h2
 | .p t g off :: ps,x :: xs,aq,k,hf,hm,h=>by
  unfold fo at hm
  split at hm
  ·rename_i mu fH h1 h2
   injection hm with hm
   subst hm
   have h1:=oe h1
   cases mu with
   | sl=>exact h1.elim
   | blk r' cs vs=>
    have h1:ah σ x = .aF r' off/\sA σ (.blk r' cs vs):=h1
    have hf:Nat.beq g 0=true/\wV ps=true:=by simpa [wV]using hf
    have hg:=Nat.eq_of_beq_eq_true hf.1
    subst hg
    unfold eB at h
    split at h
    ·rename_i z hz
     have hz:dec t 0 (vs.map (·.1))=some z:=hz
     have hw:=hU t 0 _ z hz
     have HL:∀ v∈vs,v.1.av=true:=by
      intro v hv
      obtain⟨j,hj⟩:=List.mem_iff_getElem?.1 hv
      have Ng:(vs.map (·.1))[j]?=some v.1:=by rw[List.getElem?_map,hj];rfl
      have oZ:j<(enc t 0 z).length:=by rw[<-hw.1];exact(List.getElem?_eq_some_iff.1 Ng).1
      have hk:=hw.2 j _ _ Ng (List.getElem?_eq_getElem oZ)
      have nc:=fY t 0 z (by omega) j _ (List.getElem?_eq_getElem oZ)
      cases HL:v.1.av with
      | true=>rfl
      | false=>rw[hk.GV HL]at nc;cases nc
     have hn:=Nd h1.2.2.1 HL
     intro i pos c0 y
     obtain⟨k1,k2,k3⟩:=HK ps xs fH _ hf.2 h2 h (i+1) (pos+1+vs.length) c0 y.2
     have Nh:∀ u∈enc t 0 y.1,u.av=true:=by
      intro u hu
      obtain⟨j,hj⟩:=List.mem_iff_getElem?.1 hu
      exact fY t 0 y.1 (by omega) j u hj
     have uc:eC σ (.p t 0 off :: ps) (x :: xs)=r' :: eC σ ps xs:=by simp only[eC,h1.1]
     rw[uc]
     refine⟨fun p hp=>?_,?_,fun AK cn p hp=>?_⟩
     ·simp only[gf,Nf vs 0 hn,List.nil_append]at hp
      rcases List.mem_cons.1 hp with rfl | hp
      ·exact .head _
      ·exact .tail _ (k1 p hp)
     ·show oh (iA c0 (pos+1) vs) (enc t 0 y.1)++iB c0 (pos+1+vs.length) fH (eA (cJ ps) y.2)=[]
      rw[(HJ _ _ Nh).1,k2]
      rfl
     ·have hp:p∈(r',ax.blk (jV AK cn (iA c0 (pos+1) vs) cs (enc t 0 y.1))) :: (mU (iA c0 (pos+1) vs) (enc t 0 y.1)++gz AK cn c0 (pos+1+vs.length) fH (eA (cJ ps) y.2)):=hp
      rw[(HJ _ _ Nh).2,List.nil_append]at hp
      rcases List.mem_cons.1 hp with rfl | hp
      ·exact .head _
      ·exact .tail _ (k3 AK cn p hp)
    ·cases h
  ·rename_i fH h1 h2
   exact(oe h1).elim
  ·cases hm
 | .s t g :: ps,x :: xs,aq,k,hf,hm,h=>by simp[wV]at hf
 | [],_ :: _,aq,k,_,hm,h=>by cases hm
 | _ :: _,[],aq,k,_,hm,h=>by cases hm
theorem S.HM{ns:List Nat}{nr:List (Nat×ax)}(v:A)(h:v.aG ns []=v):(σ.set d v).aG ns [] nr=(σ.aG ns [] nr).set d v:=by
 refine S.ext' (fun k=>?_) fun _=>rfl
 show (aI σ.t d v k).aG ns []=aI (fun k=>(σ.t k).aG ns []) d v k
 by_cases hk:k=d
 ·subst hk;rw[aK,aK];exact h
 ·rw[aQ _ _ _ hk,aQ _ _ _ hk]
theorem Dd{n:Nat}{x:ax}:∀ {l:List (Nat×ax)},l.lookup n=some x->(n,x)∈l
 | [],h=>by cases h
 | q :: l,h=>by
  rw[List.lookup_cons]at h
  cases U:n==q.1 with
  | true=>
   rw[U]at h
   have e:n=q.1:=by simpa using U
   injection h with h
   rw[e,<-h]
   exact .head _
  | false=>rw[U]at h;exact .tail _ (Dd h)
theorem W2{τ:S}{f:Nat}{args:Array Operand}{bG:Array TypeId}{c:gy}(ho:o.op = .call { callee:=.value (.func f),args,argTypes:=bG })(hc:Φ f=some (.m c))(W3:C0 c=true)(hp:∀ n,cC o n=true->p n=true/\pb n=true)(sE:∀ n∈eC σ c.ps args.toList,p n=true)
  (h:bF P N Φ σ o some=some τ):Nonempty (mo P N Φ o p pb σ τ):=by
 have aD:∀ σ2,bF P N Φ σ2 o some=gM N σ2 o.dst c args.toList some:=by
  intro σ2
  unfold bF
  rw[show cV o.op=false by rw[ho];rfl,cond_false]
  simp only[ew,ho,hc]
 rw[aD]at h
 have AI:∀ σ2:S,(∀ x∈o.op.operands,ah σ2 x=ah σ x)->∀ x∈args.toList,ah σ2 x=ah σ x:=by
  intro σ2 aO x hx
  refine aO x ?_
  rw[ho]
  simp only[Op.operands,Call.operands]
  simp only[Array.mem_append]
  first
   | exact .inr (by simpa using hx)
   | exact .inl (by simpa using hx)
 unfold gM at h
 split at h
 ·rename_i aq iF
  cases eO:(once (gf 0 aq)&&Nat.ble aq.length 40)with
  | false=>rw[eO]at h;cases h
  | true=>
   rw[eO,cond_true]at h
   have W4:=HK c.ps args.toList aq _ W3 iF h
   obtain⟨x,h2,hd⟩:=uf _ _ _ _ h
   split at h2
   ·rename_i y hy
    obtain⟨k1,k2,k3⟩:=W4 0 (cG c.ro y.1).len (dW o.dst) y.2
    unfold sC at h2
    rw[k2]at h2
    generalize bM:tP N aq (eA (cJ c.ps) y.2) []=ok at h2
    cases ok with
    | false=>cases h2
    | true=>
     rw[cond_true]at h2
     generalize mG:(gf 0 aq).map (·.1)=ns at h2 hd
     generalize Ag:gz ns [] (dW o.dst) (cG c.ro y.1).len aq (eA (cJ c.ps) y.2)=nr at h2
     have wW:AG p ns nr:=by
      refine⟨fun n hn=>?_,fun n x hx=>?_⟩
      ·rw[<-mG]at hn
       obtain⟨q,hq,e⟩:=List.mem_map.1 (mS.1 hn)
       rw[<-e]
       exact sE _ (k1 q hq)
      ·rw[<-Ag]at hx
       exact sE _ (k3 ns [] _ (Dd hx))
     have eR:∀ σ2:S,(∀ x∈o.op.operands,ah σ2 x=ah σ x)->σ2.m=σ.m->gM N σ2 o.dst c args.toList some=iC N (σ2.aG ns [] nr) o.dst (cG c.ro y.1) some:=by
      intro σ2 aO hm
      simp only[gM]
      rw[Nc hm _ _ (AI σ2 aO),iF]
      simp only[eO,cond_true]
      rw[mG,Dc hm _ _ _ _ _ (AI σ2 aO)]
      refine(hd S _).trans ?_
      simp only[hy,sC,k2,bM,cond_true,Ag]
     have HN:∀ (σ:S) t r j,σ.t t = .aF r j->(σ.aG ns [] nr).t t = .aF r j:=by
      intro σ t r j ht
      show A.aG ns [] (σ.t t)=_
      rw[ht];rfl
     generalize er:cG c.ro y.1=res at h2 eR
     cases kO:o.dst with
     | none=>
      rw[kO]at h2
      have h2:some (σ.aG ns [] nr)=some τ:=h2
      injection h2 with h2
      exact⟨{ G:=fun σ=>σ.aG ns [] nr,u:=.undef,eq:=by rw[kO];exact h2.symm,run:=fun σ2 aO hm=>by rw[aD,eR σ2 aO hm,kO];rfl,grow:=fun σ=>.aG ns nr wW (.refl σ),set:=fun σ e v hv=>S.HM v (A.wU hv wW.ns),bp:=fun _ σ t r j ht _=>HN σ t r j ht }⟩
     | some d=>
      rw[kO]at h2
      have b6:∀ n,1000000000100000+1000*d<=n->cC o n=true:=fun n hn=>by unfold cC;rw[kO,ho];exact Nat.ble_eq_true_of_le hn
      have gR:∀ n,1000000000100000+1000*d<=n->p n=true/\pb n=true:=fun n hn=>hp n (b6 n hn)
      obtain⟨dD,h3,tW⟩:=MP h2
      injection h3 with h3
      subst h3
      cases hN:Nat.blt d N with
      | false=>simp only[iC,hN,cond_false]at h2;cases h2
      | true=>
       simp only[iC,hN,cond_true]at h2
       cases res with
       | one q=>
        simp only at h2
        split at h2
        ·rename_i u hu
         injection h2 with h2
         exact⟨{ G:=fun σ=>dF (1000000000100000+1000*d) (σ.aG ns [] nr) q.2,u:=u,eq:=by rw[kO];exact h2.symm,run:=fun σ2 aO hm=>by rw[aD,eR σ2 aO hm,kO];simp only[iC,hN,cond_true,hu];rfl,grow:=fun σ=>(Grow.aG ns nr wW (.refl σ)).trans (uv q.2 _ _ gR),set:=fun σ e v hv=>by rw[S.HM v (A.wU hv wW.ns),An v q.2 _ _ fun n hn=>A.oE hv (gR n hn).1 (gR n hn).2],bp:=fun _ σ t r j ht hr=>(uv (p:=cC o) (pb:=cC o) q.2 _ _ (fun n hn=>⟨b6 n hn,b6 n hn⟩)).bp (HN σ t r j ht) hr }⟩
        ·cases h2
       | aU ps=>
        injection h2 with h2
        exact⟨{ G:=fun σ=>eW (1000000000100000+1000*d) (σ.aG ns [] nr) ps,u:=_,eq:=by rw[kO];exact h2.symm,run:=fun σ2 aO hm=>by rw[aD,eR σ2 aO hm,kO];simp only[iC,hN,cond_true];rfl,grow:=fun σ=>(Grow.aG ns nr wW (.refl σ)).trans (AH ps _ _ gR),set:=fun σ e v hv=>by rw[S.HM v (A.wU hv wW.ns),Ho v ps _ _ fun n hn=>A.oE hv (gR n hn).1 (gR n hn).2],bp:=fun _ σ t r j ht hr=>(AH (p:=cC o) (pb:=cC o) ps _ _ (fun n hn=>⟨b6 n hn,b6 n hn⟩)).bp (HN σ t r j ht) hr }⟩
   ·cases h2
 ·cases h
def Calm(Φ:cc)(ok:Nat->Nat->Bool)(lC iG:Nat->Bool)(p pb:Nat->Bool)(σ:S)(o:Oper):Prop:=
 CZ Φ o.op=true\/(∃ f args bG c,o.op = .call { callee:=.value (.func f),args:=args,argTypes:=bG }/\Φ f=some (.m c)/\C0 c=true/\lA ok σ c.ps args.toList=true/\∀ n∈eC σ c.ps args.toList,p n=true)\/
 (∃ ty t y,o.op = .store ty (.tmp t) y/\o.dst=none/\lC t=true/\eD p (σ.t t))\/
 ∃ x y t t',o.op = .call ⟨.builtin .append,⟨[.tmp x,y]⟩,⟨[t,t']⟩⟩/\iG x=true/\(jz t=false/\Nat.beq t t'=true/\uo o.dst t=false)/\gQ p pb (σ.t x)
theorem W5{τ:S}{ty:TypeId}{t:Tmp}{y:Operand}(ho:o.op = .store ty (.tmp t) y)(hd:o.dst=none)(eV:eD p (σ.t t))(h:bF P N Φ σ o some=some τ):Nonempty (mo P N Φ o p pb σ τ):=by
 have Ad:∀ (x:A) (z:A),(∀ k,x ≠ .ptr k)->tZ x z=false:=by
  intro x z hx
  unfold tZ
  split
  ·exact absurd rfl (hx _)
  ·rfl
 have aD:∀ σ2:S,(∀ k,σ2.t t ≠ .ptr k)->bF P N Φ σ2 o some=iU P σ2 ty (σ2.t t) (ah σ2 y) some:=by
  intro σ2 De
  unfold bF
  rw[show cV o.op=false by rw[ho];rfl,cond_false]
  simp only[ew,ho,hd]
  rw[show tZ (ah σ2 (.tmp t)) (ah σ2 y)=false from Ad _ _ De,cond_false]
  rfl
 rw[aD σ (fun k hk=>by rw[hk]at eV;exact eV)]at h
 cases hx:σ.t t with
 | aF r' j=>
  rw[hx]at h eV
  have hp:p r'=true:=eV
  have key:∃ x,∀ σ2:S,σ2.m=σ.m->∀ v,v=ah σ y->iU P σ2 ty (.aF r' j) v some=some (σ2.root r' x):=by
   unfold iU at h
   split at h
   ·rename_i n xs hn dO
    split at h
    ·rename_i hlen
     simp only at h
     split at h
     ·rename_i cs bZ
      split at h
      ·rename_i hj
       cases hl:xs.all Lf.live with
       | false=>rw[hl]at h;cases h
       | true=>
        refine⟨.blk (cQ cs j xs),fun σ2 hm v hv=>?_⟩
        subst hv
        simp only[iU,hn,dO,if_pos hlen,hm,bZ,if_pos hj,hl,cond_true]
        simp only[S.root,hm]
      ·cases h
     ·cases h
    ·cases h
   ·cases h
  obtain⟨x,bC⟩:=key
  have h1:=bC σ rfl _ rfl
  rw[h]at h1
  injection h1 with h1
  refine⟨{ G:=fun σ=>σ.root r' x,u:=.undef,eq:=by rw[hd];exact h1,run:=fun σ2 aO hm=>?_,grow:=fun σ=>.rt r' x hp (.refl σ),set:=fun σ d v hv=>rfl,bp:=fun _ σ t r j ht _=>ht }⟩
  have e1:σ2.t t = .aF r' j:=(aO (.tmp t) (by rw[ho];simp[Op.operands])).trans hx
  rw[aD σ2 (fun k hk=>by rw[e1]at hk;cases hk),e1,bC σ2 hm _ (aO y (by rw[ho];simp[Op.operands])),hd]
  rfl
 | ptr k=>rw[hx]at eV;exact eV.elim
 | _=>
  rw[hx]at h
  exfalso
  revert h
  unfold iU
  split
  ·split <;>exact fun h=>by cases h
  ·exact fun h=>by cases h
def aR(e:Nat)(x:ax)(u:A)(σ:S):S:=((σ.drop e).root e x).set e u
def iK(e:Nat)(u:A):Prop:=u = .aF e 0\/u = .lf (.own [e])
structure jB (x:ax):Prop where
 drop:∀ n,x.drop n=x
 aG:∀ ns cn,x.aG ns cn=x
theorem Ni(h:oB o=true):∃ t,∃ e:Nat,o.op = .alloc t/\o.guard=none/\o.dst=some e/\e<20000:=by
 unfold oB at h
 rw[Bool.and_eq_true,Bool.and_eq_true]at h
 obtain⟨⟨h1,h2⟩,h3⟩:=h
 split at h1
 ·rename_i t ht
  split at h3
  ·rename_i e he
   exact⟨t,e,ht,by simpa using h2,he,Nat.le_of_ble_eq_true h3⟩
  ·cases h3
 ·cases h1
theorem W6{ops:Array Oper}{t:TypeId}{e:Nat}(ht:o.op = .alloc t)(hg:o.guard=none)(hd:o.dst=some e){τ:S}(h:bO P N Φ ops σ o some=some τ):∃ x,jB x/\τ=aR e x (.aF e 0) σ/\∀ σ2,bO P N Φ ops σ2 o some=some (aR e x (.aF e 0) σ2):=by
 have aD:∀ σ2,bO P N Φ ops σ2 o some=mc P N σ2 e t some:=by
  intro σ2
  unfold bO cW
  rw[hg]
  simp only
  unfold bF
  rw[show cV o.op=false by rw[ht];rfl,cond_false]
  simp only[ew,ht,cx,hd]
 rw[aD]at h
 unfold mc at h
 split at h
 ·rename_i z hz
  unfold en at h
  cases hN:Nat.blt e N with
  | false=>rw[hN]at h;cases h
  | true=>
   rw[hN,cond_true]at h
   injection h with h
   have h1:∀ (n:Nat) v,(eJ v).drop n=eJ v:=fun n v=>by unfold eJ;split <;>rfl
   have h2:∀ (ns cn:List Nat) v,(eJ v).aG ns cn=eJ v:=fun ns cn v=>by unfold eJ;split <;>rfl
   refine⟨.blk (z.cells.toList.map eJ),⟨fun n=>?_,fun ns cn=>?_⟩,h.symm,fun σ2=>(aD σ2).trans ?_⟩
   ·simp only[ax.drop,List.map_map]
    congr 1
    exact List.map_congr_left fun v _=>h1 n v
   ·simp only[ax.aG,List.map_map]
    congr 1
    exact List.map_congr_left fun v _=>h2 ns cn v
   ·unfold mc en
    rw[hz,hN]
    rfl
 ·cases h
theorem AL{σ2:S}:∀ (ps:List PK) (xs:List Operand),(∀ x∈xs,ah σ2 x=ah σ x)->eC σ2 ps xs=eC σ ps xs
 | [],[],_=>rfl
 | [],_ :: _,_=>rfl
 | .v _ _ :: _,[],_=>rfl
 | .p _ _ _ :: _,[],_=>rfl
 | .s _ _ :: _,[],_=>rfl
 | .v _ _ :: ps,x :: xs,h=>by simp only[eC];exact AL ps xs (fun y hy=>h y (.tail _ hy))
 | .s _ _ :: ps,x :: xs,h=>by simp only[eC];exact AL ps xs (fun y hy=>h y (.tail _ hy))
 | .p _ _ _ :: ps,x :: xs,h=>by
  simp only[eC]
  rw[h x (.head _),AL ps xs (fun y hy=>h y (.tail _ hy))]
theorem HO{ok:Nat->Nat->Bool}{σ2:S}(hk:∀ t r j,σ.t t = .aF r j->ok t r=true->σ2.t t = .aF r j):∀ (ps:List PK) (xs:List Operand),lA ok σ ps xs=true->lA ok σ2 ps xs=true/\eC σ2 ps xs=eC σ ps xs
 | [],[],_=>⟨rfl,rfl⟩
 | [],_ :: _,h=>by cases h
 | .v _ _ :: _,[],h=>by cases h
 | .p _ _ _ :: _,[],h=>by cases h
 | .s _ _ :: _,[],h=>by cases h
 | .s _ _ :: _,_ :: _,h=>by cases h
 | .v _ _ :: ps,x :: xs,h=>by
  simp only[lA]at h ⊢
  simp only[eC]
  exact HO hk ps xs h
 | .p _ _ _ :: ps,x :: xs,h=>by
  cases x with
  | tmp t=>
   simp only[lA,Bool.and_eq_true]at h
   obtain⟨h1,h2⟩:=h
   obtain⟨k1,k2⟩:=HO hk ps xs h2
   split at h1
   ·rename_i r' j hr
    have e:=hk t r' j hr h1
    refine⟨?_,?_⟩
    ·simp only[lA,Bool.and_eq_true]
     exact⟨by rw[e];exact h1,k1⟩
    ·simp only[eC,ah,e,hr,k2]
   ·cases h1
  | const v=>simp[lA]at h
  | global g=>simp[lA]at h
  | func f=>simp[lA]at h
theorem Calm.dh{ok:Nat->Nat->Bool}{lC iG:Nat->Bool}{σ2:S}(h:Calm Φ ok lC iG p pb σ o)(hk:∀ t r j,σ.t t = .aF r j->ok t r=true->σ2.t t = .aF r j)(hs:∀ t,lC t=true->eD p (σ.t t)->eD p (σ2.t t))(ha:∀ t,iG t=true->gQ p pb (σ.t t)->gQ p pb (σ2.t t)):Calm Φ ok lC iG p pb σ2 o:=by
 rcases h with h | ⟨f,args,bG,c,h1,h2,h3,h4,h5⟩ | ⟨ty,t,y,h1,h2,h3,h4⟩ | ⟨x,y,t,t',h1,h2,hn,h3⟩
 ·exact .inl h
 ·obtain⟨k1,k2⟩:=HO hk _ _ h4
  exact .inr (.inl ⟨f,args,bG,c,h1,h2,h3,k1,by rw[k2];exact h5⟩)
 ·exact .inr (.inr (.inl ⟨ty,t,y,h1,h2,h3,hs t h3 h4⟩))
 ·exact .inr (.inr (.inr ⟨x,y,t,t',h1,h2,hn,ha x h2 h3⟩))
theorem AM{ops:Array Oper}(hm:je o=true)(hw:cW σ ops o=some true){τ:S}(h:bO P N Φ ops σ o some=some τ):∃ (e:Nat) (x:ax) (u:A),o.dst=some e/\e<20000/\jB x/\iK e u/\τ=aR e x u σ/\
  ∀ σ2,cW σ2 ops o=some true->(∀ y∈o.op.operands,ah σ2 y=ah σ y)->bO P N Φ ops σ2 o some=some (aR e x u σ2):=by
 have aD:cV o.op=false->∀ σ2,cW σ2 ops o=some true->bO P N Φ ops σ2 o some=ew P N Φ σ2 o some:=by
  intro hv σ2 uw
  unfold bO
  rw[uw]
  simp only
  unfold bF
  rw[hv,cond_false]
 have Nj:∀ y:V,jB (.sl y):=fun y=>⟨fun _=>rfl,fun _ _=>rfl⟩
 unfold je at hm
 rw[Bool.and_eq_true]at hm
 obtain⟨HP,ox⟩:=hm
 split at ox
 ·rename_i e he
  have aW:e<20000:=Nat.le_of_ble_eq_true ox
  split at HP
  ·rename_i t ht
   have hr:=aD (by rw[ht];rfl)
   rw[hr σ hw]at h
   simp only[ew,ht,cx,he]at h
   unfold mc at h
   split at h
   ·rename_i z hz
    unfold en at h
    cases hN:Nat.blt e N with
    | false=>rw[hN]at h;cases h
    | true=>
     rw[hN,cond_true]at h
     injection h with h
     have h1:∀ (n:Nat) v,(eJ v).drop n=eJ v:=fun n v=>by unfold eJ;split <;>rfl
     have h2:∀ (ns cn:List Nat) v,(eJ v).aG ns cn=eJ v:=fun ns cn v=>by unfold eJ;split <;>rfl
     refine⟨e,.blk (z.cells.toList.map eJ),.aF e 0,he,aW,⟨fun n=>?_,fun ns cn=>?_⟩,.inl rfl,h.symm,fun σ2 uw _=>(hr σ2 uw).trans ?_⟩
     ·simp only[ax.drop,List.map_map]
      congr 1
      exact List.map_congr_left fun v _=>h1 n v
     ·simp only[ax.aG,List.map_map]
      congr 1
      exact List.map_congr_left fun v _=>h2 ns cn v
     ·simp only[ew,ht,cx,he]
      unfold mc en
      rw[hz,hN]
      rfl
   ·cases h
  ·rename_i t len parts ht
   have hr:=aD (by rw[ht];rfl)
   rw[hr σ hw]at h
   have hn:jz t=false:=by simpa using HP
   simp only[ew,ht,cx,he,hn,cond_false]at h
   obtain⟨y,h1,h2⟩:=Hj h
   injection h1 with h1
   refine⟨e,.sl y,.lf (.own [e]),he,aW,Nj y,.inr rfl,h1.symm,fun σ2 uw aO=>(hr σ2 uw).trans ?_⟩
   simp only[ew,ht,cx,he,hn,cond_false]
   refine(h2 σ2 fun q hq=>aO _ ?_).at_ _
   rw[ht]
   simp only[Op.operands]
   exact List.mem_toArray.2 (List.mem_map_of_mem (f:=(·.2)) hq)
  ·rename_i t l c ht
   have hr:=aD (by rw[ht];rfl)
   rw[hr σ hw]at h
   simp only[ew,ht,cx,he]at h
   obtain⟨y,h1,h2⟩:=Hi h
   injection h1 with h1
   refine⟨e,.sl y,.lf (.own [e]),he,aW,Nj y,.inr rfl,h1.symm,fun σ2 uw aO=>(hr σ2 uw).trans ?_⟩
   simp only[ew,ht,cx,he]
   rw[aO l (by rw[ht];simp[Op.operands]),aO c (by rw[ht];simp[Op.operands])]
   exact(h2 σ2).at_ _
  ·cases HP
 ·cases ox
theorem Df{d:Nat}{t:TypeId}{y z:A}{τ:S}(h:kD P N σ d t y z some=some τ):∃ (r:Nat) (v:V),τ=((σ.drop r).root r (.sl v)).set d (.lf (.own [r]))/\(r=d\/y = .lf (.own [r]))/\
  ∀ σ2:S,(∀ (k:V->Option S),kC σ2 z k=kC σ z k)->(∀ r v,y = .lf (.own [r])->σ.m r=some (.sl v)->σ2.m r=some (.sl v))->kD P N σ2 d t y z some=some (((σ2.drop r).root r (.sl v)).set d (.lf (.own [r]))):=by
 unfold kD at h
 split at h
 ·rename_i e tc eo
  cases hc:(Nat.beq (full tc) 0&&(zeroOf P e).any (fun z=>Nat.beq z.cells.size (aj tc)))with
  | false=>rw[hc]at h;cases h
  | true=>
   rw[hc,cond_true]at h
   obtain⟨yv,h2,hd⟩:=Hh h
   clear h
   split at h2
   ·cases h2
   ·rename_i l2 ep
    split at h2
    ·cases hL:aY l2.length with
     | false=>rw[hL]at h2;cases h2
     | true=>
      rw[hL,cond_true]at h2
      cases hN:Nat.blt d N with
      | false=>unfold en at h2;rw[hN]at h2;cases h2
      | true=>
       have h3:=h2
       unfold en at h3
       rw[hN,cond_true]at h3
       injection h3 with h3
       refine⟨d,.sl tc 2 false l2,h3.symm,.inl rfl,fun σ2 hz ox=>?_⟩
       simp only[kD,eo,hc,cond_true]
       refine(hz _).trans ((hd.at_ _).trans ?_)
       simp only[ep,hL,cond_true]
       unfold en
       rw[hN,cond_true]
    ·rename_i rr
     split at h2
     ·rename_i t' o q l hm
      split at h2
      ·rename_i dy
       cases hL:(Nat.blt d N&&(Nat.blt rr N || Nat.ble 60000 rr)&&aY (l.length+l2.length))with
       | false=>rw[hL]at h2;cases h2
       | true=>
        rw[hL,cond_true]at h2
        injection h2 with h2
        refine⟨rr,_,h2.symm,.inr rfl,fun σ2 hz ox=>?_⟩
        simp only[kD,eo,hc,cond_true]
        refine(hz _).trans ((hd.at_ _).trans ?_)
        simp only[ep,ox rr _ rfl hm,dif_pos dy,hL,cond_true]
      ·cases h2
     ·cases h2
    ·cases h2
 ·cases h
theorem HQ(h:isApp o=true):∃ x y t t',o.op = .call ⟨.builtin .append,⟨[x,y]⟩,⟨[t,t']⟩⟩/\jz t=false/\Nat.beq t t'=true/\uo o.dst t=false:=by
 unfold isApp at h
 split at h
 ·rw[Bool.and_eq_true,Bool.and_eq_true]at h
  exact⟨_,_,_,_,by assumption,by simpa using h.1.1,h.1.2,by simpa using h.2⟩
 ·cases h
theorem AN{x y:Operand}{t t':TypeId}(ho:o.op = .call ⟨.builtin .append,⟨[x,y]⟩,⟨[t,t']⟩⟩)(hn:jz t=false)(dy:Nat.beq t t'=true)(hk:uo o.dst t=false)(σ:S):bF P N Φ σ o some=cx o fun d=>kD P N σ d t (ah σ x) (ah σ y) some:=by
 unfold bF
 rw[show cV o.op=false by rw[ho];rfl,cond_false]
 simp only[ew,ho,hn,dy,cond_false,cond_true]
 unfold cx
 cases hd:o.dst with
 | none=>rfl
 | some d=>
  rw[hd]at hk
  have hk:Ax t d=false:=hk
  simp only[hk,cond_false]
theorem W7{τ:S}{x:Tmp}{y:Operand}{t t':TypeId}(ho:o.op = .call ⟨.builtin .append,⟨[.tmp x,y]⟩,⟨[t,t']⟩⟩)(hn:jz t=false)(dy:Nat.beq t t'=true)(hk:uo o.dst t=false)(hp:∀ n,cC o n=true->p n=true/\pb n=true)(eV:gQ p pb (σ.t x))(h:bF P N Φ σ o some=some τ):Nonempty (mo P N Φ o p pb σ τ):=by
 rw[AN ho hn dy hk]at h
 obtain⟨d,dM,h⟩:=dm h
 obtain⟨r,v,cr,hr,eR⟩:=Df h
 have Dg:p r=true/\pb r=true:=by
  rcases hr with hr | hr
  ·rw[hr];exact hp d (by unfold cC;rw[dM,ho];exact Nat.beq_refl d)
  ·exact eV r hr
 refine⟨{ G:=fun σ=>(σ.drop r).root r (.sl v),u:=.lf (.own [r]),eq:=by rw[dM];exact cr,run:=fun σ2 aO hm=>?_,grow:=fun σ=>.root r _ Dg.1 Dg.2 (.refl σ),set:=fun σ e v' hv=>(by rw[S.drop_set r (A.oE hv Dg.1 Dg.2)];rfl),bp:=fun ha=>(by rw[isApp,ho]at ha;simp[hn,dy,hk]at ha) }⟩
 rw[AN ho hn dy hk]
 unfold cx
 rw[dM]
 simp only
 rw[aO (.tmp x) (by rw[ho];simp[Op.operands,Call.operands]),aO y (by rw[ho];simp[Op.operands,Call.operands]),eR σ2 (fun k=>WE hm _ k) (fun r' v' _ h'=>by rw[hm];exact h')]
 rfl
theorem W8[Inhabited Wd](aJ:dB P Φ){ok:Nat->Nat->Bool}{lC iG iH:Nat->Bool}(hX:∀ x,iH x=true->eD p (σ.t x)){ops:Array Oper}{oi oj:Oper}{v:A}{τ:S}(hF:iJ P ops oi p pb v σ)(ha:oi.apart ops oj=true)(ht:Calm Φ ok lC iG p pb σ oj)(hp:∀ n,cC oj n=true->p n=true/\pb n=true)
  (h:bO P N Φ ops (cX σ oi.dst v) oj some=some τ):∃ aa,bO P N Φ ops σ oj some=some aa/\τ=cX aa oi.dst v/\iJ P ops oi p pb v aa/\(isApp oj=false->∀ t r j,σ.t t = .aF r j->oj.dst≠some t->cC oj r=false->aa.t t = .aF r j)/\
   (∀ t,eD p (σ.t t)->(oj.dst≠some t\/(oB oj=true/\p t=true)\/∃ s x f,oj.op = .fieldAddr s (.tmp x) f/\iH x=true)->eD p (aa.t t))/\
   ∀ t,gQ p pb (σ.t t)->(oj.dst≠some t\/(je oj=true/\p t=true/\pb t=true)\/(isApp oj=true\/sO Φ oj=true))->gQ p pb (aa.t t):=by
 obtain⟨a1,a2,a3⟩:=Oper.apart_spec ha
 have wX:∀ (σ:S) (u:A) t,oj.dst≠some t->(cX σ oj.dst u).t t=σ.t t:=by
  intro σ u t ht
  cases hd:oj.dst with
  | none=>rfl
  | some d=>exact aQ _ _ _ (by rintro rfl;exact ht hd)
 have wY:∀ aa,bO P N Φ ops σ oj some=some aa->∀ t,oB oj=true->oj.dst=some t->p t=true->eD p (aa.t t):=by
  intro aa bN t wY hd Hs
  obtain⟨ty,e,h1,h2,h3,_⟩:=Ni wY
  rw[h3]at hd
  injection hd with hd
  subst hd
  obtain⟨x,_,e1,_⟩:=W6 h1 h2 h3 bN
  rw[e1]
  show eD p (aI _ e (.aF e 0) e)
  rw[aK]
  exact Hs
 have fin:∀ aa,bO P N Φ ops σ oj some=some aa->(∀ t,oj.dst≠some t->eD p (σ.t t)->eD p (aa.t t))->∀ t,eD p (σ.t t)->(oj.dst≠some t\/(oB oj=true/\p t=true)\/∃ s x f,oj.op = .fieldAddr s (.tmp x) f/\iH x=true)->eD p (aa.t t):=by
  intro aa bN hk t ht HR
  rcases HR with aA | ⟨h1,h2⟩ | ⟨s,x,f,h1,h2⟩
  ·exact hk t aA ht
  ·by_cases hd:oj.dst=some t
   ·exact wY aa bN t h1 hd h2
   ·exact hk t hd ht
  ·by_cases hd:oj.dst=some t
   ·unfold bO at bN
    split at bN
    ·unfold bF at bN
     rw[show cV oj.op=true by rw[h1];rfl,cond_true]at bN
     rw[h1]at bN
     simp only[aZ]at bN
     have hx:=hX x h2
     have hx:eD p (ah σ (.tmp x)):=hx
     generalize ah σ (.tmp x)=z at hx bN
     have key:∀ v,eT N σ oj.dst v some=some aa->eD p v->eD p (aa.t t):=by
      intro v hv hA
      obtain⟨g1,_⟩:=fT hv
      injection g1 with g1
      rw[<-g1,hd]
      show eD p (aI σ.t t v t)
      rw[aK]
      exact hA
     unfold mI at bN
     split at bN
     ·cases bN
     ·split at bN
      ·split at bN
       ·exact key _ bN hx
       ·exact key _ bN trivial
       ·exact hx.elim
       ·cases bN
      ·cases bN
    ·obtain⟨g1,_⟩:=fT bN
     injection g1 with g1
     rw[<-g1,hd]
     show eD p (aI σ.t t .skip t)
     rw[aK]
     trivial
    ·cases bN
   ·exact hk t hd ht
 have W9:=ht
 have Nk:∀ aa,bO P N Φ ops σ oj some=some aa->(∀ t,oj.dst≠some t->gQ p pb (σ.t t)->gQ p pb (aa.t t))->∀ t,gQ p pb (σ.t t)->(oj.dst≠some t\/(je oj=true/\p t=true/\pb t=true)\/(isApp oj=true\/sO Φ oj=true))->gQ p pb (aa.t t):=by
  intro aa bN hk t ht HR
  rcases HR with aA | ⟨h1,h2⟩ | Xa | ux
  ·exact hk t aA ht
  ·by_cases hd:oj.dst=some t
   ·cases hw:cW σ ops oj with
    | none=>unfold bO at bN;rw[hw]at bN;cases bN
    | some b=>
     cases b with
     | true=>
      obtain⟨e,x,u,g1,g2,g3,g4,g5,_⟩:=AM h1 hw bN
      rw[hd]at g1
      injection g1 with g1
      subst g1
      rw[g5]
      intro r hr
      have hr:aI _ t u t = .lf (.own [r]):=hr
      rw[aK]at hr
      rcases g4 with g4 | g4
      ·rw[g4]at hr;cases hr
      ·rw[g4]at hr
       injection hr with hr
       injection hr with hr
       injection hr with hr
       subst hr
       exact h2
     | false=>
      unfold bO at bN
      rw[hw]at bN
      obtain⟨g1,_⟩:=fT bN
      injection g1 with g1
      rw[<-g1,hd]
      intro r hr
      have hr:aI σ.t t .skip t = .lf (.own [r]):=hr
      rw[aK]at hr
      cases hr
   ·exact hk t hd ht
  ·by_cases hd:oj.dst=some t
   ·obtain⟨x,y,t1,t2,g1,g2,g3,g4⟩:=HQ Xa
    have hT:gQ p pb (ah σ x):=by
     rcases W9 with q | ⟨f,args,bG,c,q1,_⟩ | ⟨ty,tt,yy,q1,_⟩ | ⟨x',y',t1',t2',q1,q2,q3,q4⟩
     ·rw[g1]at q;cases q
     ·rw[g1]at q1;cases q1
     ·rw[g1]at q1;cases q1
     ·rw[g1]at q1
      injection q1 with q1
      injection q1 with _ q1 _
      injection q1 with q1
      injection q1 with q1 _
      subst q1
      exact q4
    cases hw:cW σ ops oj with
    | none=>unfold bO at bN;rw[hw]at bN;cases bN
    | some b=>
     cases b with
     | true=>
      unfold bO at bN
      rw[hw]at bN
      have bN:bF P N Φ σ oj some=some aa:=bN
      rw[AN g1 g2 g3 g4]at bN
      obtain⟨d,dM,bN⟩:=dm bN
      rw[hd]at dM
      injection dM with dM
      subst dM
      obtain⟨r,v,cr,hr,_⟩:=Df bN
      rw[cr]
      intro r' bx
      have bx:aI ((σ.drop r).root r (.sl v)).t t (.lf (.own [r])) t = .lf (.own [r']):=bx
      rw[aK]at bx
      injection bx with bx
      injection bx with bx
      injection bx with bx
      subst bx
      rcases hr with hr | hr
      ·rw[hr];exact hp t (by unfold cC;rw[hd,g1];exact Nat.beq_refl t)
      ·exact hT r hr
     | false=>
      unfold bO at bN
      rw[hw]at bN
      obtain⟨g1,_⟩:=fT bN
      injection g1 with g1
      rw[<-g1,hd]
      intro r hr
      have hr:aI σ.t t .skip t = .lf (.own [r]):=hr
      rw[aK]at hr
      cases hr
   ·exact hk t hd ht
  ·by_cases hd:oj.dst=some t
   ·cases hw:cW σ ops oj with
    | none=>unfold bO at bN;rw[hw]at bN;cases bN
    | some b=>
     cases b with
     | true=>
      unfold bO at bN
      rw[hw]at bN
      have bN:bF P N Φ σ oj some=some aa:=bN
      unfold sO at ux
      split at ux
      ·rename_i f args bG ho
       split at ux
       ·rename_i c hc
        unfold bF at bN
        rw[show cV oj.op=false by rw[ho];rfl,cond_false]at bN
        simp only[ew,ho,hc]at bN
        obtain⟨d,dM,bN⟩:=dm bN
        rw[hd]at dM
        injection dM with dM
        subst dM
        obtain⟨res,dD,h1,h2,_⟩:=wL (aJ f _ hc).2 bN
        injection h2 with h2
        subst h2
        have b6:∀ n,1000000000100000+1000*t<=n->p n=true/\pb n=true:=fun n hn=>hp n (by unfold cC;rw[hd,ho];exact Nat.ble_eq_true_of_le hn)
        intro r hr
        unfold ot at h1
        cases res with
        | one q=>
         simp only at h1
         split at h1
         ·rename_i y hy
          injection h1 with h1
          rw[<-h1]at hr
          have hr:aI _ t y t=A.lf (Lf.own [r]):=hr
          rw[aK]at hr
          subst hr
          obtain⟨b,vs⟩:=q
          cases b with
          | true=>cases hy
          | false=>
           match vs,hy with
           | [v],hy=>
            have hy:some (A.lf (bif v.av then Lf.v v else Lf.own [1000000000100000+1000*t]))=some (A.lf (Lf.own [r])):=hy
            injection hy with hy
            injection hy with hy
            cases hf:v.av with
            | true=>rw[hf]at hy;cases hy
            | false=>
             rw[hf]at hy
             injection hy with hy
             injection hy with hy
             subst hy
             exact b6 _ (Nat.le_refl _)
         ·cases h1
        | aU ps=>
         injection h1 with h1
         rw[<-h1]at hr
         have hr:aI _ t _ t=A.lf (Lf.own [r]):=hr
         rw[aK]at hr
         cases hr
       ·cases ux
      ·cases ux
     | false=>
      unfold bO at bN
      rw[hw]at bN
      obtain⟨g1,_⟩:=fT bN
      injection g1 with g1
      rw[<-g1,hd]
      intro r hr
      have hr:aI σ.t t .skip t = .lf (.own [r]):=hr
      rw[aK]at hr
      cases hr
   ·exact hk t hd ht
 unfold bO at h
 rw[WX a1]at h
 split at h
 ·rename_i hw
  have Xb:Nonempty (mo P N Φ oj p pb (cX σ oi.dst v) τ):=by
   rcases ht with ht | ⟨f,args,bG,c,h1,h2,h3,h4,h5⟩ | ⟨ty,t,y,h1,h2,h3,h4⟩ | ⟨x,y,t1,t2,h1,h2,hn,h3⟩
   ·exact WU aJ ht hp h
   ·refine W2 h1 h2 h3 hp ?_ h
    rw[AL]
    ·exact h5
    ·intro x hx
     refine Db a1 v ?_
     rw[h1]
     simp only[Op.operands,Call.operands]
     simp only[Array.mem_append]
     first
      | exact .inr (by simpa using hx)
      | exact .inl (by simpa using hx)
   ·refine W5 h1 h2 ?_ h
    have e1:ah (cX σ oi.dst v) (.tmp t)=ah σ (.tmp t):=Db a1 v (by rw[h1];simp[Op.operands])
    have e1:(cX σ oi.dst v).t t=σ.t t:=e1
    rw[e1];exact h4
   ·refine W7 h1 hn.1 hn.2.1 hn.2.2 hp ?_ h
    have e1:ah (cX σ oi.dst v) (.tmp x)=ah σ (.tmp x):=Db a1 v (by rw[h1];simp[Op.operands,Call.operands])
    have e1:(cX σ oi.dst v).t x=σ.t x:=e1
    rw[e1];exact h3
  obtain⟨G,u,e,hr,hg,hs,Xc⟩:=Xb
  have oF:bO P N Φ ops σ oj some=some (cX (G σ) oj.dst u):=by
   unfold bO
   rw[hw]
   exact hr σ (fun x hx=>(Db a1 v hx).symm) (WW _ _).symm
  refine⟨cX (G σ) oj.dst u,oF,?_,(hF.grow (hg σ)).put a3,fun ug t r j ht aA b6=>?_,fin _ oF fun t aA ht=>?_,Nk _ oF fun t aA ht=>?_⟩
  ·refine e.trans ?_
   have:∀ dst,G (cX σ dst v)=cX (G σ) dst v:=by
    intro dst
    cases dst with
    | none=>rfl
    | some d=>exact hs σ d v hF.nr
   rw[this]
   exact Na _ _ a2
  ·rw[wX _ _ t aA]
   exact Xc ug σ t r j ht b6
  ·rw[wX _ _ t aA]
   exact(hg σ).st ht
  ·rw[wX _ _ t aA]
   exact(hg σ).tg ht
 ·rename_i hw
  obtain⟨h1,h2⟩:=fT h
  injection h1 with h1
  have oF:bO P N Φ ops σ oj some=some (cX σ oj.dst .skip):=by
   unfold bO
   rw[hw]
   exact(h2 σ).at_ _
  exact⟨cX σ oj.dst .skip,oF,by rw[<-h1];exact Na _ _ a2,hF.put a3,fun _ t r j ht aA _=>(by rw[wX _ _ t aA];exact ht),fin _ oF fun t aA ht=>(by rw[wX _ _ t aA];exact ht),Nk _ oF fun t aA ht=>(by rw[wX _ _ t aA];exact ht)⟩
 ·cases h
def Any(P:Program)(N:Nat)(Φ:cc)(ops:Array Oper)(K:S->Prop):Nat->Nat->S->Prop
 | 0,L,σ=>(∀ j,gO ops L j=false)/\K σ
 | f+1,L,σ=>((∀ j,gO ops L j=false)->K σ)/\∀ j,gO ops L j=true->∃ o τ,ops[j]?=some o/\bO P N Φ ops σ o some=some τ/\Any P N Φ ops K f (L ||| 2 ^ j) τ
theorem mq(L i j:Nat):(L ||| 2 ^ i).testBit j=(L.testBit j || decide (i=j)):=by
 rw[Nat.testBit_or,Nat.testBit_two_pow]
theorem AO{ops:Array Oper}{L j:Nat}:gO ops L j=true ↔ L.testBit j=false/\∃ o,ops[j]?=some o/\∀ e∈o.after,Region.binds .any e=true->L.testBit e.on=true:=by
 unfold gO
 rw[Bool.and_eq_true,Bool.not_eq_true']
 refine and_congr Iff.rfl ?_
 cases ho:ops[j]? with
 | none=>simp
 | some o=>
  simp only[List.all_eq_true,Option.some.injEq,exists_eq_left']
  constructor
  ·intro h e he U
   have:=h e (by simpa using he)
   rw[U]at this
   simpa using this
  ·intro h e he
   cases U:Region.binds .any e with
   | false=>rfl
   | true=>simpa using h e (by simpa using he) U
theorem HS{ops:Array Oper}{L i j:Nat}(h:gO ops L j=true)(aA:j≠i):gO ops (L ||| 2 ^ i) j=true:=by
 rw[AO]at h ⊢
 obtain⟨h0,o,ho,eR⟩:=h
 refine⟨?_,o,ho,fun e he U=>?_⟩
 ·rw[mq,h0];simpa using fun h=>aA h.symm
 ·rw[mq,eR e he U];rfl
theorem iJ.step{ops:Array Oper}{oi:Oper}{v:A}(hF:iJ P ops oi p pb v σ)(hN:∀ σ:S,eT N σ oi.dst v some=some (cX σ oi.dst v)):bO P N Φ ops σ oi some=some (cX σ oi.dst v):=by
 unfold bO
 rcases hF with ⟨h1,h2,h3,_,_,_⟩ | ⟨h1,h2⟩
 ·rw[h1]
  show bF P N Φ σ oi some=_
  unfold bF
  rw[h2,cond_true]
  exact(h3.at_ _).trans (hN σ)
 ·rw[h1,<-h2];exact hN σ
theorem HT{K:S->Prop}{ops:Array Oper}{i W:Nat}{oi:Oper}(hi:ops[i]?=some oi)(hW:∀ j oj,ops[j]?=some oj->W.testBit j=true->∃ e∈oj.after,Region.binds .any e=true/\(e.on=i\/W.testBit e.on=true))(E:S->S)(I:Nat->S->Prop)
  (r1:∀ L σ,I L σ->bO P N Φ ops σ oi some=some (E σ))
  (r2:∀ L σ j oj τ,I L σ->ops[j]?=some oj->j≠i->L.testBit j=false->W.testBit j=false->bO P N Φ ops (E σ) oj some=some τ->∃ aa,bO P N Φ ops σ oj some=some aa/\τ=E aa/\I (L ||| 2 ^ j) aa):
  ∀ (f L:Nat) (σ:S),(∀ j,W.testBit j=true->L.testBit j=false)->gO ops L i=true->I L σ->Any P N Φ ops K f (L ||| 2 ^ i) (E σ)->Any P N Φ ops K (f+1) L σ:=by
 intro f
 induction f with
 | zero=>
  intro L σ nh hr hI H
  refine⟨fun h=>absurd (h i) (by rw[hr];simp),fun j hj=>?_⟩
  by_cases cH:j=i
  ·subst cH;exact⟨oi,_,hi,r1 L σ hI,H⟩
  ·have:=HS hj cH
   rw[H.1 j]at this
   cases this
 | succ f ih=>
  intro L σ nh hr hI H
  refine⟨fun h=>absurd (h i) (by rw[hr];simp),fun j hj=>?_⟩
  by_cases cH:j=i
  ·subst cH;exact⟨oi,_,hi,r1 L σ hI,H⟩
  ·obtain⟨oj,τ,bJ,cr,H'⟩:=H.2 j (HS hj cH)
   obtain⟨c7,oj',Dh,eR⟩:=AO.1 hj
   rw[bJ]at Dh
   injection Dh with Dh
   subst Dh
   have cM:W.testBit j=false:=by
    cases cM:W.testBit j with
    | false=>rfl
    | true=>
     obtain⟨e,he,U,eO⟩:=hW j oj bJ cM
     have h1:=eR e he U
     rcases eO with eO | eO
     ·rw[eO,(AO.1 hr).1]at h1;cases h1
     ·rw[nh _ eO]at h1;cases h1
   obtain⟨aa,hs,uy,Xd⟩:=r2 L σ j oj τ hI bJ cH c7 cM cr
   refine⟨oj,aa,bJ,hs,ih (L ||| 2 ^ j) aa (fun k hk=>?_) (HS hr (Ne.symm cH)) Xd ?_⟩
   ·rw[mq,nh k hk]
    have:j≠k:=by rintro rfl;rw[cM]at hk;cases hk
    simpa using this
   ·rw[<-uy]
    have:L ||| 2 ^ j ||| 2 ^ i=L ||| 2 ^ i ||| 2 ^ j:=by rw[Nat.or_assoc,Nat.or_comm (2 ^ j),<-Nat.or_assoc]
    rw[this]
    exact H'
theorem Xe[Inhabited Wd](aJ:dB P Φ){ok:Nat->Nat->Bool}{lC iG iH:Nat->Bool}{K:S->Prop}{ops:Array Oper}{i W:Nat}{oi:Oper}{v:A}(hi:ops[i]?=some oi)(hN:∀ σ:S,eT N σ oi.dst v some=some (cX σ oi.dst v))
  (hW:∀ j oj,ops[j]?=some oj->W.testBit j=true->∃ e∈oj.after,Region.binds .any e=true/\(e.on=i\/W.testBit e.on=true)) (f L:Nat) (σ:S)
  (bM:∀ t r,ok t r=true->∀ j oj,ops[j]?=some oj->j≠i->L.testBit j=false->W.testBit j=false->oj.dst≠some t/\cC oj r=false/\isApp oj=false)
  (Di:∀ x,iH x=true->∀ j oj,ops[j]?=some oj->j≠i->L.testBit j=false->W.testBit j=false->oj.dst≠some x) (hX:∀ x,iH x=true->eD p (σ.t x))
  (Dj:∀ t,lC t=true->∀ j oj,ops[j]?=some oj->j≠i->L.testBit j=false->W.testBit j=false->oj.dst≠some t\/(oB oj=true/\p t=true)\/∃ s x f,oj.op = .fieldAddr s (.tmp x) f/\iH x=true)
  (Dk:∀ t,iG t=true->∀ j oj,ops[j]?=some oj->j≠i->L.testBit j=false->W.testBit j=false->oj.dst≠some t\/(je oj=true/\p t=true/\pb t=true)\/(isApp oj=true\/sO Φ oj=true))
  (uz:∀ j oj,ops[j]?=some oj->j≠i->L.testBit j=false->W.testBit j=false->oi.apart ops oj=true/\Calm Φ ok lC iG p pb σ oj/\∀ n,cC oj n=true->p n=true/\pb n=true)
  (nh:∀ j,W.testBit j=true->L.testBit j=false) (hr:gO ops L i=true) (hF:iJ P ops oi p pb v σ) (H:Any P N Φ ops K f (L ||| 2 ^ i) (cX σ oi.dst v)):Any P N Φ ops K (f+1) L σ:=by
 refine HT hi hW (fun σ=>cX σ oi.dst v)
  (fun L σ=>iJ P ops oi p pb v σ/\(∀ t r,ok t r=true->∀ j oj,ops[j]?=some oj->j≠i->L.testBit j=false->W.testBit j=false->oj.dst≠some t/\cC oj r=false/\isApp oj=false)/\
   ((∀ x,iH x=true->∀ j oj,ops[j]?=some oj->j≠i->L.testBit j=false->W.testBit j=false->oj.dst≠some x)/\∀ x,iH x=true->eD p (σ.t x))/\
   (∀ t,lC t=true->∀ j oj,ops[j]?=some oj->j≠i->L.testBit j=false->W.testBit j=false->oj.dst≠some t\/(oB oj=true/\p t=true)\/∃ s x f,oj.op = .fieldAddr s (.tmp x) f/\iH x=true)/\
   (∀ t,iG t=true->∀ j oj,ops[j]?=some oj->j≠i->L.testBit j=false->W.testBit j=false->oj.dst≠some t\/(je oj=true/\p t=true/\pb t=true)\/(isApp oj=true\/sO Φ oj=true))/\
   ∀ j oj,ops[j]?=some oj->j≠i->L.testBit j=false->W.testBit j=false->oi.apart ops oj=true/\Calm Φ ok lC iG p pb σ oj/\∀ n,cC oj n=true->p n=true/\pb n=true)
  (fun L σ h=>h.1.step hN) (fun L σ j oj τ h bJ cH c7 cM cr=>?_) f L σ nh hr ⟨hF,bM,⟨Di,hX⟩,Dj,Dk,uz⟩ H
 obtain⟨hF,bM,⟨Di,hX⟩,Dj,Dk,uz⟩:=h
 obtain⟨c1,c2,c3⟩:=uz j oj bJ cH c7 cM
 obtain⟨aa,hs,uy,Xf,pG,eV,Xg⟩:=W8 (iH:=iH) aJ hX hF c1 c2 c3 cr
 have hL:∀ k,(L ||| 2 ^ j).testBit k=false->L.testBit k=false:=by
  intro k hk
  rw[mq,Bool.or_eq_false_iff]at hk
  exact hk.1
 refine⟨aa,hs,uy,Xf,fun t r ht k lD hk ni nj nq=>bM t r ht k lD hk ni (hL k nj) nq,⟨fun x hx k lD hk ni nj nq=>Di x hx k lD hk ni (hL k nj) nq,fun x hx=>eV x (hX x hx) (.inl (Di x hx j oj bJ cH c7 cM))⟩,fun t ht k lD hk ni nj nq=>Dj t ht k lD hk ni (hL k nj) nq,fun t ht k lD hk ni nj nq=>Dk t ht k lD hk ni (hL k nj) nq,fun k lD hk ni nj nq=>?_⟩
 obtain⟨d1,d2,d3⟩:=uz k lD hk ni (hL k nj) nq
 refine⟨d1,d2.dh (fun t r j' ht h=>?_) (fun t h ht=>eV t ht (Dj t h j oj bJ cH c7 cM)) (fun t h ht=>Xg t ht (Dk t h j oj bJ cH c7 cM)),d3⟩
 obtain⟨e1,e2,e3⟩:=bM t r h j oj bJ cH c7 cM
 exact pG e3 t r j' ht e1 e2
end
end Go.Proofs.YtjldnlbiefpekaaDoor
namespace Go.Proofs.YtjldnlbiefpekaaDoor
open Go.RowKit
set_option linter.unusedVariables false
section
variable {P:Program} {w w':World} {w0:Wd} {B N:Nat} {lab af:aH} {ρ ρ':Nat->Loc} {σ:S} {a:Act} {X:Type} {d e:Nat} {r:X} {o:Oper} {Φ:cc} {p:Nat->Bool} {x:ax} {u:A}
theorem Lf.jX(l:Lf)(a b:Nat):(l.drop a).drop b=(l.drop b).drop a:=by
 cases l with
 | own k=>
  have e1:∀ n,Lf.drop n (.own k)=(bif aE n k then .dead else .own k):=fun _=>rfl
  rw[e1 a,e1 b]
  cases ha:aE a k <;>cases U:aE b k <;>simp[Lf.drop,ha,U]
 | v x=>rfl
 | dead=>rfl
theorem dX.jX(l:List Lf)(a b:Nat):(l.map (Lf.drop a)).map (Lf.drop b)=(l.map (Lf.drop b)).map (Lf.drop a):=by
 rw[List.map_map,List.map_map]
 exact List.map_congr_left fun x _=>Lf.jX x a b
theorem A.jX(y:A)(a b:Nat):(y.drop a).drop b=(y.drop b).drop a:=by
 cases y with
 | lf x=>exact congrArg A.lf (Lf.jX x a b)
 | agg cs=>exact congrArg A.agg (dX.jX cs a b)
 | aU xs=>
  refine congrArg A.aU ?_
  rw[List.map_map,List.map_map]
  refine List.map_congr_left fun q _=>?_
  simp only[Function.comp]
  rw[dX.jX]
 | ptr k=>
  have e1:∀ n,A.drop n (.ptr k)=(bif aE n k then .undef else .ptr k):=fun _=>rfl
  rw[e1 a,e1 b]
  cases ha:aE a k <;>cases U:aE b k <;>simp[A.drop,ha,U]
 | view k s i j=>
  have e1:∀ n,A.drop n (.view k s i j)=(bif aE n k then .undef else .view k s i j):=fun _=>rfl
  rw[e1 a,e1 b]
  cases ha:aE a k <;>cases U:aE b k <;>simp[A.drop,ha,U]
 | pk r j=>
  have e1:∀ n,A.drop n (.pk r j)=(bif Nat.beq r n then .undef else .pk r j):=fun _=>rfl
  rw[e1 a,e1 b]
  cases ha:Nat.beq r a <;>cases U:Nat.beq r b <;>simp only[cond_true,cond_false,A.drop,ha,U]
 | aF r j=>
  have e1:∀ n,A.drop n (.aF r j)=(bif Nat.beq r n then .undef else .aF r j):=fun _=>rfl
  rw[e1 a,e1 b]
  cases ha:Nat.beq r a <;>cases U:Nat.beq r b <;>simp only[cond_true,cond_false,A.drop,ha,U]
 | fn f cap=>
  have e1:∀ n,A.drop n (.fn f cap)=(bif cap.any (fun p=>Nat.beq p.1 n)then .undef else .fn f cap):=fun _=>rfl
  rw[e1 a,e1 b]
  cases ha:cap.any (fun p=>Nat.beq p.1 a) <;>cases U:cap.any (fun p=>Nat.beq p.1 b) <;>simp only[cond_true,cond_false,A.drop,ha,U]
 | _=>rfl
theorem ax.jX(y:ax)(a b:Nat):(y.drop a).drop b=(y.drop b).drop a:=by
 cases y with
 | blk cs=>exact congrArg ax.blk (dX.jX cs a b)
 | sl y=>rfl
 | mp l=>rfl
 | gh xs=>
  refine congrArg ax.gh ?_
  rw[List.map_map,List.map_map]
  exact List.map_congr_left fun x _=>A.jX x a b
theorem Lf.nt(l:Lf)(a:Nat)(ns cn:List Nat):(l.drop a).aG ns cn=(l.aG ns cn).drop a:=by
 cases l with
 | own k=>
  have e1:Lf.drop a (.own k)=(bif aE a k then .dead else .own k):=rfl
  have e2:Lf.aG ns cn (.own k)=(bif aT k cn || (aT k ns && !(Nat.beq k.length 1))then .dead else .own k):=rfl
  rw[e1,e2]
  cases ha:aE a k <;>cases U:(aT k cn || (aT k ns && !(Nat.beq k.length 1))) <;>simp only[cond_true,cond_false,Lf.drop,Lf.aG,ha,U]
 | v x=>rfl
 | dead=>rfl
theorem dX.nt(l:List Lf)(a:Nat)(ns cn:List Nat):(l.map (Lf.drop a)).map (Lf.aG ns cn)=(l.map (Lf.aG ns cn)).map (Lf.drop a):=by
 rw[List.map_map,List.map_map]
 exact List.map_congr_left fun x _=>Lf.nt x a ns cn
theorem A.nt(y:A)(a:Nat)(ns cn:List Nat):(y.drop a).aG ns cn=(y.aG ns cn).drop a:=by
 cases y with
 | lf x=>exact congrArg A.lf (Lf.nt x a ns cn)
 | agg cs=>exact congrArg A.agg (dX.nt cs a ns cn)
 | aU xs=>
  refine congrArg A.aU ?_
  rw[List.map_map,List.map_map]
  refine List.map_congr_left fun q _=>?_
  simp only[Function.comp]
  rw[dX.nt]
 | ptr k=>
  have e1:A.drop a (.ptr k)=(bif aE a k then .undef else .ptr k):=rfl
  have e2:A.aG ns cn (.ptr k)=(bif aT k cn || aT k ns then .undef else .ptr k):=rfl
  rw[e1,e2]
  cases ha:aE a k <;>cases U:(aT k cn || aT k ns) <;>simp only[cond_true,cond_false,A.drop,A.aG,ha,U]
 | view k s i j=>
  have e1:A.drop a (.view k s i j)=(bif aE a k then .undef else .view k s i j):=rfl
  have e2:A.aG ns cn (.view k s i j)=(bif aT k cn || aT k ns then .undef else .view k s i j):=rfl
  rw[e1,e2]
  cases ha:aE a k <;>cases U:(aT k cn || aT k ns) <;>simp only[cond_true,cond_false,A.drop,A.aG,ha,U]
 | pk r j=>
  have e1:A.drop a (.pk r j)=(bif Nat.beq r a then .undef else .pk r j):=rfl
  have e2:A.aG ns cn (.pk r j)=(bif aN r cn then .undef else .pk r j):=rfl
  rw[e1,e2]
  cases ha:Nat.beq r a <;>cases U:aN r cn <;>simp only[cond_true,cond_false,A.drop,A.aG,ha,U]
 | aF r j=>
  have e1:A.drop a (.aF r j)=(bif Nat.beq r a then .undef else .aF r j):=rfl
  have e2:A.aG ns cn (.aF r j)=(bif aN r cn then .undef else .aF r j):=rfl
  rw[e1,e2]
  cases ha:Nat.beq r a <;>cases U:aN r cn <;>simp only[cond_true,cond_false,A.drop,A.aG,ha,U]
 | fn f cap=>
  have e1:A.drop a (.fn f cap)=(bif cap.any (fun p=>Nat.beq p.1 a)then .undef else .fn f cap):=rfl
  have e2:A.aG ns cn (.fn f cap)=(bif cap.any (fun p=>aN p.1 cn)then .undef else .fn f cap):=rfl
  rw[e1,e2]
  cases ha:cap.any (fun p=>Nat.beq p.1 a) <;>cases U:cap.any (fun p=>aN p.1 cn) <;>simp only[cond_true,cond_false,A.drop,A.aG,ha,U]
 | _=>rfl
theorem ax.nt(y:ax)(a:Nat)(ns cn:List Nat):(y.drop a).aG ns cn=(y.aG ns cn).drop a:=by
 cases y with
 | blk cs=>exact congrArg ax.blk (dX.nt cs a ns cn)
 | sl y=>rfl
 | mp l=>rfl
 | gh xs=>
  refine congrArg ax.gh ?_
  rw[List.map_map,List.map_map]
  exact List.map_congr_left fun x _=>A.nt x a ns cn
theorem Dl{a b:Nat}(h:a≠b):Nat.beq a b=false:=by
 cases U:Nat.beq a b with
 | false=>rfl
 | true=>exact absurd (Nat.eq_of_beq_eq_true U) h
theorem iK.drop(h:iK e u){n:Nat}(hn:e≠n):u.drop n=u:=by
 rcases h with rfl | rfl
 ·simp only[A.drop,Dl hn,cond_false]
 ·have:aE n [e]=false:=by simp[aE,hn]
  simp only[A.drop,Lf.drop,this,cond_false]
theorem iK.aG(h:iK e u){ns cn:List Nat}(h1:aN e ns=false)(h2:aN e cn=false):u.aG ns cn=u:=by
 rcases h with rfl | rfl
 ·simp only[A.aG,h2,cond_false]
 ·have e1:aT [e] ns=false:=h1
  have e2:aT [e] cn=false:=h2
  simp only[A.aG,Lf.aG,e1,e2]
  rfl
theorem lE(k:Nat):(aR e x u σ).t k=if k=e then u else (σ.t k).drop e:=by
 by_cases hk:k=e
 ·subst hk;rw[if_pos rfl];exact aK _ _ _
 ·rw[if_neg hk];exact aQ _ _ _ hk
theorem jC(n:Nat):(aR e x u σ).m n=if n=e then some x else (σ.m n).map (ax.drop e):=by
 show aI (fun r=>bif Nat.beq r e then none else (σ.m r).map (ax.drop e)) e (some x) n=_
 by_cases hn:n=e
 ·subst hn;rw[if_pos rfl,aK]
 ·rw[if_neg hn,aQ _ _ _ hn,Dl hn];rfl
theorem HU(c:Nat)(y:ax)(k:Nat):((σ.drop c).root c y).t k=(σ.t k).drop c:=rfl
theorem HV(c:Nat)(y:ax)(n:Nat):((σ.drop c).root c y).m n=if n=c then some y else (σ.m n).map (ax.drop c):=by
 show aI (fun r=>bif Nat.beq r c then none else (σ.m r).map (ax.drop c)) c (some y) n=_
 by_cases hn:n=c
 ·subst hn;rw[if_pos rfl,aK]
 ·rw[if_neg hn,aQ _ _ _ hn,Dl hn];rfl
theorem Nl{c:Nat}(z:V)(hx:jB x)(hu:iK e u)(hc:e≠c):((aR e x u σ).drop c).root c (.sl z)=aR e x u ((σ.drop c).root c (.sl z)):=by
 refine S.ext' (fun k=>?_) fun n=>?_
 ·rw[HU,lE,lE,HU]
  by_cases hk:k=e
  ·rw[if_pos hk,if_pos hk]
   exact hu.drop hc
  ·rw[if_neg hk,if_neg hk];exact A.jX _ _ _
 ·rw[HV,jC,jC,HV]
  by_cases hn:n=c
  ·rw[if_pos hn,if_neg (by omega),if_pos hn];rfl
  ·rw[if_neg hn]
   by_cases aA:n=e
   ·rw[if_pos aA,if_pos aA]
    simp only[Option.map_some,hx.drop]
   ·rw[if_neg aA,if_neg aA,if_neg hn,Option.map_map,Option.map_map]
    congr 1
    funext y
    exact ax.jX y e c
theorem wZ(hx:jB x)(hu:iK e u):∀ (xs:List V) (c:Nat) (σ:S),e<c->dF c (aR e x u σ) xs=aR e x u (dF c σ xs)
 | [],c,σ,_=>rfl
 | y :: xs,c,σ,h=>by
  simp only[dF]
  cases hf:y.av with
  | true=>exact wZ hx hu xs (c+1) σ (by omega)
  | false=>
   simp only[cond_false]
   rw[Nl y hx hu (by omega)]
   exact wZ hx hu xs (c+1) _ (by omega)
theorem Dm(hx:jB x)(hu:iK e u):∀ (ps:List Pt) (c:Nat) (σ:S),e<c->eW c (aR e x u σ) ps=aR e x u (eW c σ ps)
 | [],c,σ,_=>rfl
 | q :: ps,c,σ,h=>by
  simp only[eW]
  rw[wZ hx hu _ _ _ h]
  exact Dm hx hu ps _ _ (by omega)
theorem sR{v:A}(hd:d≠e)(hv:v.drop e=v):(aR e x u σ).set d v=aR e x u (σ.set d v):=by
 refine S.ext' (fun k=>?_) fun n=>?_
 ·show aI (aR e x u σ).t d v k=_
  rw[lE]
  show _=if k=e then u else (aI σ.t d v k).drop e
  by_cases hk:k=d
  ·subst hk;rw[aK,if_neg hd,aK,hv]
  ·rw[aQ _ _ _ hk,aQ _ _ _ hk,lE]
 ·show (aR e x u σ).m n=_
  rw[jC,jC]
  rfl
theorem HW{v:A}{dst:Option Tmp}(hd:dst≠some e)(hv:v.drop e=v):cX (aR e x u σ) dst v=aR e x u (cX σ dst v):=by
 cases dst with
 | none=>rfl
 | some d=>exact sR (by rintro rfl;exact hd rfl) hv
theorem Xh{ns cn:List Nat}{nr:List (Nat×ax)}(hx:jB x)(hu:iK e u)(h1:aN e ns=false)(h2:aN e cn=false)(h3:∀ q∈nr,q.1≠e/\q.2.drop e=q.2):(aR e x u σ).aG ns cn nr=aR e x u (σ.aG ns cn nr):=by
 have hl:nr.lookup e=none:=by
  cases hl:nr.lookup e with
  | none=>rfl
  | some y=>exact absurd rfl (h3 _ (Dd hl)).1
 refine S.ext' (fun k=>?_) fun n=>?_
 ·show ((aR e x u σ).t k).aG ns cn=_
  rw[lE,lE]
  by_cases hk:k=e
  ·rw[if_pos hk,if_pos hk]
   exact hu.aG h1 h2
  ·rw[if_neg hk,if_neg hk]
   exact A.nt _ _ _ _
 ·rw[jC]
  show (match nr.lookup n with | some x=>some x | none=>bif aN n ns || aN n cn then none else ((aR e x u σ).m n).map (ax.aG ns cn))=if n=e then some x else (match nr.lookup n with | some x=>some x | none=>bif aN n ns || aN n cn then none else (σ.m n).map (ax.aG ns cn)).map (ax.drop e)
  by_cases hn:n=e
  ·subst hn
   rw[if_pos rfl,hl,h1,h2]
   simp only[Bool.or_false,cond_false,jC,if_true,Option.map_some,hx.aG]
  ·rw[if_neg hn]
   cases hq:nr.lookup n with
   | some y=>simp only[Option.map_some];rw[(h3 _ (Dd hq)).2]
   | none=>
    simp only
    cases (aN n ns || aN n cn)with
    | true=>rfl
    | false=>
     simp only[cond_false]
     rw[jC,if_neg hn,Option.map_map,Option.map_map]
     congr 1
     funext y
     exact ax.nt y e ns cn
/-! What a call reads. -/
theorem Nn{q:List Nat}{k:V->Option X}(h:aE e q=false):di (aR e x u σ).m q k=di σ.m q k:=sQ q k h
theorem qm{y:Operand}(h:(ah σ y).nr p=true)(hp:p e=true)(hy:y ≠ .tmp e):ah (aR e x u σ) y=ah σ y:=by
 cases y with
 | tmp t=>
  show (aR e x u σ).t t=σ.t t
  rw[lE,if_neg (by rintro rfl;exact hy rfl)]
  exact A.gN h hp
 | _=>rfl
theorem HX{l:Lf}{k:V->Option X}(h:l.nr p=true)(hp:p e=true):eg (aR e x u σ) l k=eg σ l k:=by
 cases l with
 | own q=>exact Nn (mV h hp)
 | _=>rfl
theorem Np{q:List Nat}{s i j:Nat}{k:V->Option X}(h:ct p q=true)(hp:p e=true):l7 (aR e x u σ) q s i j k=l7 σ q s i j k:=by
 unfold l7
 exact Nn (mV h hp)
theorem Xi{y:A}{k:V->Option X}(h:y.nr p=true)(hp:p e=true):kC (aR e x u σ) y k=kC σ y k:=by
 cases y with
 | lf l=>exact HX h hp
 | view q s i j=>exact Np h hp
 | _=>rfl
theorem HY(hp:p e=true):∀ (xs:List Lf) (k:List V->Option X),xs.all (Lf.nr p)=true->iZ (aR e x u σ) xs k=iZ σ xs k
 | [],k,_=>rfl
 | y :: xs,k,h=>by
  rw[List.all_cons,Bool.and_eq_true]at h
  simp only[iZ,HX h.1 hp]
  congr 1
  funext z
  exact HY hp xs _ h.2
theorem Xj{y:A}{k:Pt->Option X}(h:y.nr p=true)(hp:p e=true):iu (aR e x u σ) y k=iu σ y k:=by
 cases y with
 | lf l=>simp only[iu];exact HY hp _ _ (by simpa [A.nr]using h)
 | agg cs=>simp only[iu];exact HY hp _ _ h
 | view q s i j=>simp only[iu];exact Np h hp
 | ec cs=>cases cs <;>rfl
 | _=>rfl
theorem HZ(hp:p e=true):∀ (xs:List Operand) (k:List Pt->Option X),(∀ y∈xs,(ah σ y).nr p=true/\y ≠ .tmp e)->fF (aR e x u σ) xs k=fF σ xs k
 | [],k,_=>rfl
 | y :: xs,k,h=>by
  obtain⟨h1,h2⟩:=h y (.head _)
  simp only[fF]
  rw[qm h1 hp h2,Xj h1 hp]
  congr 1
  funext z
  exact HZ hp xs _ (fun y hy=>h y (.tail _ hy))
theorem H6{ns:List Nat}(hp:p e=true):∀ (xs:List Lf) (k:List V->Option X),xs.all (Lf.nr p)=true->jU (aR e x u σ) ns xs k=jU σ ns xs k
 | [],k,_=>rfl
 | y :: xs,k,h=>by
  rw[List.all_cons,Bool.and_eq_true]at h
  simp only[jU,HX h.1 hp]
  congr 2
  funext z
  exact H6 hp xs _ h.2
theorem Xk{ns:List Nat}{y:A}{k:Pt->Option X}(h:y.nr p=true)(hp:p e=true):kH (aR e x u σ) ns y k=kH σ ns y k:=by
 cases y with
 | lf l=>simp only[kH];exact H6 hp _ _ (by simpa [A.nr]using h)
 | agg cs=>simp only[kH];exact H6 hp _ _ h
 | _=>rfl
theorem Xl{l:Lf}(h:l.nr p=true)(hp:p e=true):oc (aR e x u σ).m l=oc σ.m l:=by
 cases l with
 | own k=>
  match k with
  | []=>rfl
  | [q]=>
   have hq:q≠e:=by
    have h:(!p q)=true:=by simpa [Lf.nr,ct]using h
    rintro rfl
    rw[hp]at h;cases h
   simp only[oc]
   rw[jC,if_neg hq]
   cases σ.m q with
   | none=>rfl
   | some y=>cases y <;>rfl
  | _ :: _ :: _=>rfl
 | v x=>rfl
 | dead=>rfl
theorem Nq(hp:p e=true):∀ (ls:List Lf),ls.all (Lf.nr p)=true->lz (aR e x u σ).m ls=lz σ.m ls
 | [],_=>rfl
 | l :: ls,h=>by
  rw[List.all_cons,Bool.and_eq_true]at h
  simp only[lz,Xl h.1 hp,Nq hp ls h.2]
theorem Nr{m:Nat->Option ax}:∀ {cs:List Lf} {vs:List (V×Option Nat)},lz m cs=some vs->cs.all (Lf.nr p)=true->∀ v∈vs,∀ q,v.2=some q->p q=false
 | [],vs,h,_=>by injection h with h;subst h;simp
 | c :: cs,vs,h,hf=>by
  rw[List.all_cons,Bool.and_eq_true]at hf
  unfold lz at h
  split at h
  ·rename_i v tw h1 h2
   injection h with h
   subst h
   intro u hu q hq
   rcases List.mem_cons.1 hu with rfl | hu
   ·unfold oc at h1
    split at h1
    ·injection h1 with h1;rw[<-h1]at hq;cases hq
    ·rename_i q'
     split at h1
     ·rename_i y _
      cases Ns:y.av with
      | true=>rw[Ns]at h1;injection h1 with h1;rw[<-h1]at hq;cases hq
      | false=>
       rw[Ns,cond_false]at h1
       injection h1 with h1
       rw[<-h1]at hq
       injection hq with hq
       subst hq
       have h3:=hf.1
       simpa [Lf.nr,ct]using h3
     ·cases h1
    ·cases h1
   ·exact Nr h2 hf.2 u hu q hq
  ·cases h
def Dn(p:Nat->Bool):Mu->Prop
 | .blk r cs vs=>p r=false/\cs.all (Lf.nr p)=true/\∀ v∈vs,∀ q,v.2=some q->p q=false
 | .sl q _=>p q=false
theorem H7(hp:p e=true):∀ (ps:List PK) (xs:List Operand) (aq:List Mu),(∀ y∈xs,(ah σ y).nr p=true/\y ≠ .tmp e)->(∀ n∈eC σ ps xs,qh σ p n=true)->fo σ ps xs=some aq->fo (aR e x u σ) ps xs=some aq/\∀ mu∈aq,Dn p mu
 | [],[],aq,_,_,h=>⟨h,by injection h with h;subst h;simp⟩
 | [],_ :: _,aq,_,_,h=>by cases h
 | _ :: _,[],aq,_,_,h=>by cases h
 | q :: ps,y :: xs,aq,hy,hl,h=>by
  obtain⟨h1,h2⟩:=hy y (.head _)
  have fk:∀ n∈eC σ ps xs,qh σ p n=true:=by
   intro n hn
   refine hl n ?_
   cases q with
   | v=>exact hn
   | s=>exact hn
   | p t g off=>
    simp only[eC]
    split
    ·exact .tail _ hn
    ·exact hn
  unfold fo at h
  have dA:∀ z,od σ q (ah σ y)=some z->od (aR e x u σ) q (ah (aR e x u σ) y)=some z/\∀ mu,z=some mu->Dn p mu:=by
   intro z hz
   rw[qm h1 hp h2]
   have fL:=oe hz
   cases q with
   | v=>
    cases z with
    | some mu=>exact fL.elim
    | none=>exact⟨hz,by simp⟩
   | p t g off=>
    cases z with
    | none=>exact fL.elim
    | some mu=>
     cases mu with
     | sl=>exact fL.elim
     | blk r' cs vs=>
      obtain⟨e1,hm,hg,hlen⟩:=fL
      have bx:p r'=false:=by
       rw[e1]at h1
       have h1:(!p r')=true:=h1
       simpa using h1
      have aA:r'≠e:=by rintro rfl;rw[hp]at bx;cases bx
      have bZ:cs.all (Lf.nr p)=true:=by
       have:=hl r' (by simp only[eC,e1];exact .head _)
       unfold qh at this
       rw[hm]at this
       exact this
      have iV:(aR e x u σ).m r'=some (.blk cs):=by
       rw[jC,if_neg aA,hm]
       simp only[Option.map_some,ax.drop,dX.gN bZ hp]
      refine⟨?_,fun mu dA=>?_⟩
      ·rw[e1]
       simp only[od,Nat.beq_refl,cond_true,iV,Nq hp cs bZ,hg]
       have:Nat.blt cs.length 999=true:=Nat.ble_eq_true_of_le hlen
       rw[this];rfl
      ·injection dA with dA
       subst dA
       exact⟨bx,bZ,Nr hg bZ⟩
   | s t g=>
    cases z with
    | none=>exact fL.elim
    | some mu=>
     cases mu with
     | blk=>exact fL.elim
     | sl q y0=>
      obtain⟨e1,hm,hf⟩:=fL
      have hq:p q=false:=by
       rw[e1]at h1
       have h1:(!p q)=true:=by simpa [A.nr,Lf.nr,ct]using h1
       simpa using h1
      have aA:q≠e:=by rintro rfl;rw[hp]at hq;cases hq
      refine⟨?_,fun mu dA=>?_⟩
      ·rw[e1]
       simp only[od]
       rw[jC,if_neg aA,hm]
       simp only[Option.map_some,ax.drop,hf,cond_false]
      ·injection dA with dA
       subst dA
       exact hq
  split at h
  ·rename_i mu fH k1 k2
   injection h with h
   subst h
   obtain⟨g1,g2⟩:=dA _ k1
   obtain⟨f1,f2⟩:=H7 hp ps xs fH (fun y h=>hy y (.tail _ h)) fk k2
   refine⟨by simp only[fo,g1,f1],fun m hm=>?_⟩
   rcases List.mem_cons.1 hm with rfl | hm
   ·exact g2 _ rfl
   ·exact f2 m hm
  ·rename_i fH k1 k2
   injection h with h
   subst h
   obtain⟨g1,g2⟩:=dA _ k1
   obtain⟨f1,f2⟩:=H7 hp ps xs fH (fun y h=>hy y (.tail _ h)) fk k2
   exact⟨by simp only[fo,g1,f1],f2⟩
  ·cases h
theorem Dp(hp:p e=true)(ns:List Nat):∀ (ps:List PK) (xs:List Operand) (aq:List Mu) (k:jd ps->Option X),(∀ y∈xs,(ah σ y).nr p=true/\y ≠ .tmp e)->eB (aR e x u σ) ns ps xs aq k=eB σ ns ps xs aq k
 | [],[],[],k,_=>rfl
 | .v b t :: ps,y :: xs,aq,k,h=>by
  obtain⟨h1,h2⟩:=h y (.head _)
  simp only[eB]
  rw[qm h1 hp h2,Xk h1 hp]
  congr 1
  funext z
  congr 1
  split
  ·exact Dp hp ns ps xs aq _ (fun y hy=>h y (.tail _ hy))
  ·rfl
 | .p t g off :: ps,y :: xs,.blk r' cs vs :: aq,k,h=>by
  simp only[eB]
  split
  ·exact Dp hp ns ps xs aq _ (fun y hy=>h y (.tail _ hy))
  ·rfl
 | .s t g :: ps,y :: xs,.sl q y0 :: aq,k,h=>by
  simp only[eB]
  split
  ·exact Dp hp ns ps xs aq _ (fun y hy=>h y (.tail _ hy))
  ·rfl
 | [],[],_ :: _,k,_=>rfl
 | [],_ :: _,_,k,_=>rfl
 | .v _ _ :: _,[],_,k,_=>rfl
 | .p _ _ _ :: _,[],_,k,_=>rfl
 | .s _ _ :: _,[],_,k,_=>rfl
 | .p _ _ _ :: _,_ :: _,[],k,_=>rfl
 | .s _ _ :: _,_ :: _,[],k,_=>rfl
 | .p _ _ _ :: _,_ :: _,.sl _ _ :: _,k,_=>rfl
 | .s _ _ :: _,_ :: _,.blk _ _ _ :: _,k,_=>rfl
theorem H8{i:Nat}:∀ (vs:List (V×Option Nat)) (j:Nat),(∀ v∈vs,∀ q,v.2=some q->p q=false)->∀ u∈wH i j vs,p u.1=false
 | [],_,_,u,hu=>by cases hu
 | (y,none) :: vs,j,h,u,hu=>H8 vs (j+1) (fun v hv=>h v (.tail _ hv)) u hu
 | (y,some q) :: vs,j,h,u,hu=>by
  rcases List.mem_cons.1 hu with rfl | hu
  ·exact h _ (.head _) q rfl
  ·exact H8 vs (j+1) (fun v hv=>h v (.tail _ hv)) u hu
theorem H9:∀ (aq:List Mu) (i:Nat),(∀ mu∈aq,Dn p mu)->∀ u∈gf i aq,p u.1=false
 | [],_,_,u,hu=>by cases hu
 | .blk r' cs vs :: aq,i,h,u,hu=>by
  obtain⟨h1,h2,h3⟩:=h _ (.head _)
  rcases List.mem_cons.1 hu with rfl | hu
  ·exact h1
  ·rcases List.mem_append.1 hu with hu | hu
   ·exact H8 vs 0 h3 u hu
   ·exact H9 aq (i+1) (fun m hm=>h m (.tail _ hm)) u hu
 | .sl q y :: aq,i,h,u,hu=>by
  rcases List.mem_cons.1 hu with rfl | hu
  ·exact h _ (.head _)
  ·exact H9 aq (i+1) (fun m hm=>h m (.tail _ hm)) u hu
theorem Ia{c0:Nat}(hc:∀ n,c0<=n->p n=false):∀ (vs:List (V×Option Nat)) (n:Nat),(∀ v∈vs,∀ q,v.2=some q->p q=false)->∀ u∈iA c0 n vs,p u=false
 | [],_,_,u,hu=>by cases hu
 | (y,none) :: vs,n,h,u,hu=>by
  rcases List.mem_cons.1 hu with rfl | hu
  ·exact hc _ (by omega)
  ·exact Ia hc vs (n+1) (fun v hv=>h v (.tail _ hv)) u hu
 | (y,some q) :: vs,n,h,u,hu=>by
  rcases List.mem_cons.1 hu with rfl | hu
  ·exact h _ (.head _) _ rfl
  ·exact Ia hc vs (n+1) (fun v hv=>h v (.tail _ hv)) u hu
theorem Ib:∀ (bR:List Nat) (xs:List V),∀ u∈oh bR xs,u∈bR
 | [],[],u,hu=>by cases hu
 | [],_ :: _,u,hu=>by cases hu
 | _ :: _,[],u,hu=>by cases hu
 | n :: bR,y :: xs,u,hu=>by
  simp only[oh]at hu
  cases hf:y.av with
  | true=>rw[hf]at hu;exact .tail _ (Ib bR xs u hu)
  | false=>
   rw[hf,cond_false]at hu
   rcases List.mem_cons.1 hu with rfl | hu
   ·exact .head _
   ·exact .tail _ (Ib bR xs u hu)
theorem Nt{ns cn:List Nat}:∀ (bR:List Nat) (ls:List Lf) (xs:List V),(∀ n∈bR,p n=false)->ls.all (Lf.nr p)=true->(jV ns cn bR ls xs).all (Lf.nr p)=true
 | [],_,_,_,_=>by simp[jV]
 | _ :: _,[],_,_,_=>by simp[jV]
 | _ :: _,_ :: _,[],_,_=>by simp[jV]
 | n :: bR,l :: ls,y :: xs,h1,h2=>by
  rw[List.all_cons,Bool.and_eq_true]at h2
  simp only[jV,List.all_cons,Bool.and_eq_true]
  refine⟨?_,Nt bR ls xs (fun n hn=>h1 n (.tail _ hn)) h2.2⟩
  cases y.plain with
  | true=>rfl
  | false=>
   simp only[cond_false]
   cases y.av with
   | true=>
    simp only[cond_true]
    cases l with
    | own k=>
     have e2:Lf.aG ns cn (.own k)=(bif aT k cn || (aT k ns && !(Nat.beq k.length 1))then .dead else .own k):=rfl
     rw[e2]
     cases (aT k cn || (aT k ns && !(Nat.beq k.length 1)))with
     | true=>rfl
     | false=>exact h2.1
    | v x=>rfl
    | dead=>rfl
   | false=>
    simp only[cond_false,Lf.nr,ct,List.getLast?_singleton]
    rw[h1 n (.head _)]
    rfl
theorem Ic:∀ (bR:List Nat) (xs:List V),∀ u∈mU bR xs,u.1∈bR/\∃ y,u.2 = .sl y
 | [],[],u,hu=>by cases hu
 | [],_ :: _,u,hu=>by cases hu
 | _ :: _,[],u,hu=>by cases hu
 | n :: bR,y :: xs,u,hu=>by
  simp only[mU]at hu
  cases hf:y.av with
  | true=>rw[hf]at hu;obtain⟨h1,h2⟩:=Ic bR xs u hu;exact⟨.tail _ h1,h2⟩
  | false=>
   rw[hf,cond_false]at hu
   rcases List.mem_cons.1 hu with rfl | hu
   ·exact⟨.head _,_,rfl⟩
   ·obtain⟨h1,h2⟩:=Ic bR xs u hu;exact⟨.tail _ h1,h2⟩
theorem Ie{c0:Nat}{ns cn:List Nat}(hp:p e=true)(hc:∀ n,c0<=n->p n=false):∀ (aq:List Mu) (outs:List In) (pos:Nat),(∀ mu∈aq,Dn p mu)->(∀ u∈iB c0 pos aq outs,p u=false)/\∀ u∈gz ns cn c0 pos aq outs,u.1≠e/\u.2.drop e=u.2
 | [],outs,pos,_=>⟨(fun u hu=>by simp[iB]at hu),(fun u hu=>by simp[gz]at hu)⟩
 | .blk _ _ _ :: _,[],pos,_=>⟨(fun u hu=>by cases hu),(fun u hu=>by cases hu)⟩
 | .sl _ _ :: _,[],pos,_=>⟨(fun u hu=>by cases hu),(fun u hu=>by cases hu)⟩
 | .blk _ _ _ :: _,.sl _ :: _,pos,_=>⟨(fun u hu=>by cases hu),(fun u hu=>by cases hu)⟩
 | .sl _ _ :: _,.blk _ :: _,pos,_=>⟨(fun u hu=>by cases hu),(fun u hu=>by cases hu)⟩
 | .blk r' cs vs :: aq,.blk xs :: outs,pos,h=>by
  obtain⟨h1,h2,h3⟩:=h _ (.head _)
  obtain⟨k1,k2⟩:=Ie (ns:=ns) (cn:=cn) hp hc aq outs (pos+1+vs.length) (fun m hm=>h m (.tail _ hm))
  have aA:∀ n,p n=false->n≠e:=by rintro n hn rfl;rw[hp]at hn;cases hn
  have b6:=Ia hc vs (pos+1) h3
  refine⟨fun u hu=>?_,fun u hu=>?_⟩
  ·simp only[iB]at hu
   rcases List.mem_append.1 hu with hu | hu
   ·exact b6 u (Ib _ _ u hu)
   ·exact k1 u hu
  ·simp only[gz]at hu
   rcases List.mem_cons.1 hu with rfl | hu
   ·refine⟨aA _ h1,?_⟩
    simp only[ax.drop]
    rw[dX.gN (Nt _ _ _ b6 h2) hp]
   ·rcases List.mem_append.1 hu with hu | hu
    ·obtain⟨g1,y,g2⟩:=Ic _ _ u hu
     exact⟨aA _ (b6 _ g1),by rw[g2];rfl⟩
    ·exact k2 u hu
 | .sl q y :: aq,.sl y' :: outs,pos,h=>by
  have h1:p q=false:=h _ (.head _)
  obtain⟨k1,k2⟩:=Ie (ns:=ns) (cn:=cn) hp hc aq outs (pos+1) (fun m hm=>h m (.tail _ hm))
  refine⟨fun u hu=>k1 u (by simpa [iB]using hu),fun u hu=>?_⟩
  simp only[gz]at hu
  cases hy:y'.fK with
  | false=>rw[hy]at hu;exact k2 u hu
  | true=>
  rw[hy]at hu
  rcases List.mem_cons.1 hu with rfl | hu
  ·exact⟨(by rintro rfl;rw[hp]at h1;cases h1),rfl⟩
  ·exact k2 u hu
theorem w4:∀ (xs:List V) (c:Nat),e<c->(fO c xs).map (Lf.drop e)=fO c xs
 | [],_,_=>rfl
 | y :: xs,c,h=>by
  simp only[fO,List.map_cons]
  rw[w4 xs (c+1) (by omega)]
  cases y.av with
  | true=>rfl
  | false=>
   have:aE e [c]=false:=by simp[aE];omega
   simp only[cond_false,Lf.drop,this]
theorem Dq{b:Bool}{xs:List Lf}{y:A}(h:mb (b,xs)=some y)(hx:xs.map (Lf.drop e)=xs):y.drop e=y:=by
 unfold mb at h
 split at h
 ·rename_i e1
  injection h with h
  subst h
  simp only[Prod.mk.injEq]at e1
  obtain⟨_,rfl⟩:=e1
  exact congrArg A.agg hx
 ·rename_i z e1
  injection h with h
  subst h
  simp only[Prod.mk.injEq]at e1
  obtain⟨_,rfl⟩:=e1
  simp only[List.map_cons,List.map_nil,List.cons.injEq,and_true]at hx
  exact congrArg A.lf hx
 ·cases h
theorem Nu:∀ (ps:List Pt) (c:Nat),e<c->(gv c ps).map (fun q=>(q.1,q.2.map (Lf.drop e)))=gv c ps
 | [],_,_=>rfl
 | q :: ps,c,h=>by
  simp only[gv,List.map_cons]
  rw[w4 _ _ h,Nu ps _ (by omega)]
theorem Dr(ps:List Pt)(c:Nat)(h:e<c):A.drop e (.aU (gv c ps)) = .aU (gv c ps):=congrArg A.aU (Nu ps c h)
theorem Xm(hx:jB x)(hu:iK e u)(he:e<20000){dst:Option Tmp}(hd:dst≠some e){res:dz}{τ:S}(h:iC N σ dst res some=some τ):iC N (aR e x u σ) dst res some=some (aR e x u τ):=by
 cases dst with
 | none=>
  have h:some σ=some τ:=h
  injection h with h
  rw[<-h]
  rfl
 | some d=>
  have nu:d≠e:=by rintro rfl;exact hd rfl
  unfold iC at h ⊢
  cases hN:Nat.blt d N with
  | false=>simp only[hN,cond_false]at h;cases h
  | true=>
   simp only[hN,cond_true]at h ⊢
   cases res with
   | one q=>
    simp only at h ⊢
    split at h
    ·rename_i y hy
     injection h with h
     subst h
     rw[wZ hx hu _ _ _ (by omega),sR nu (Dq hy (w4 _ _ (by omega)))]
    ·cases h
   | aU ps=>
    injection h with h
    subst h
    simp only
    rw[Dm hx hu _ _ _ (by omega),sR nu (Dr _ _ (by omega))]
theorem Xn(aJ:dB P Φ)(hx:jB x)(hu:iK e u)(he:e<20000)(hp:p e=true)(AP:∀ n,20000<=n->p n=false)(b5:jf Φ o=true)(hd:o.dst≠some e)(aO:∀ y∈o.op.operands,(ah σ y).nr p=true/\y ≠ .tmp e)(hl:∀ n∈jW Φ σ o,qh σ p n=true){τ:S}
  (h:bF P N Φ σ o some=some τ):bF P N Φ (aR e x u σ) o some=some (aR e x u τ):=by
 have cU:∃ f args bG,o.op = .call { callee:=.value (.func f),args:=args,argTypes:=bG }:=by
  unfold jf at b5
  split at b5
  ·exact⟨_,_,_,by assumption⟩
  ·cases b5
 obtain⟨f,args,bG,ho⟩:=cU
 have cR:∀ y∈args.toList,(ah σ y).nr p=true/\y ≠ .tmp e:=by
  intro y hy
  refine aO y ?_
  rw[ho]
  simp only[Op.operands,Call.operands]
  simp only[Array.mem_append]
  first
   | exact .inr (by simpa using hy)
   | exact .inl (by simpa using hy)
 have aD:∀ σ2,bF P N Φ σ2 o some=ew P N Φ σ2 o some:=by
  intro σ2
  unfold bF
  rw[show cV o.op=false by rw[ho];rfl,cond_false]
 rw[aD]at h ⊢
 cases hc:Φ f with
 | none=>simp only[ew,ho,hc]at h;cases h
 | some c=>
  cases c with
  | n F=>rw[jf,ho]at b5;simp[hc]at b5
  | v c=>rw[jf,ho]at b5;simp[hc]at b5
  | i c=>rw[jf,ho]at b5;simp[hc]at b5
  | d c=>rw[jf,ho]at b5;simp[hc]at b5
  | q c=>rw[jf,ho]at b5;simp[hc]at b5
  | c c=>rw[jf,ho]at b5;simp[hc]at b5
  | p c=>
   simp only[ew,ho,hc]at h ⊢
   obtain⟨d,dM,h⟩:=dm h
   have nu:d≠e:=by rintro rfl;exact hd dM
   obtain⟨res,dD,h1,h2,h3⟩:=wL (aJ f _ hc).2 h
   injection h2 with h2
   subst h2
   simp only[cx,dM]
   refine(h3 (aR e x u σ) (aR e x u dD) (fun X k=>HZ hp _ k cR) ?_).at_ _
   unfold ot at h1 ⊢
   cases res with
   | one q=>
    simp only at h1 ⊢
    split at h1
    ·rename_i y hy
     injection h1 with h1
     subst h1
     rw[wZ hx hu _ _ _ (by omega),sR nu (Dq hy (w4 _ _ (by omega)))]
    ·cases h1
   | aU ps=>
    injection h1 with h1
    subst h1
    simp only
    rw[Dm hx hu _ _ _ (by omega),sR nu (Dr _ _ (by omega))]
  | m c=>
   simp only[ew,ho,hc]at h ⊢
   have sE:∀ n∈eC σ c.ps args.toList,qh σ p n=true:=by
    intro n hn
    refine hl n ?_
    simp only[jW,ho,hc]
    exact hn
   unfold gM at h
   split at h
   ·rename_i aq iF
    obtain⟨g1,g2⟩:=H7 (x:=x) (u:=u) hp c.ps args.toList aq cR sE iF
    cases eO:(once (gf 0 aq)&&Nat.ble aq.length 40)with
    | false=>rw[eO]at h;cases h
    | true=>
     rw[eO,cond_true]at h
     obtain⟨z,h2,AQ⟩:=uf _ _ _ _ h
     simp only[gM,g1,eO,cond_true]
     rw[Dp hp _ _ _ _ _ cR]
     refine(AQ S _).trans ?_
     split at h2
     ·rename_i y hy
      unfold sC at h2 ⊢
      generalize mg:iB (dW o.dst) (cG c.ro y.1).len aq (eA (cJ c.ps) y.2)=cn at h2
      generalize bM:tP N aq (eA (cJ c.ps) y.2) cn=ok at h2
      cases ok with
      | false=>cases h2
      | true=>
       rw[cond_true]at h2
       have tL:∀ n,dW o.dst<=n->p n=false:=by
        intro n hn
        refine AP n ?_
        cases dM:o.dst with
        | none=>rw[dM]at hn;simp only[dW]at hn;omega
        | some d=>rw[dM]at hn;simp only[dW]at hn;omega
       obtain⟨k1,k2⟩:=Ie (ns:=(gf 0 aq).map (·.1)) (cn:=cn) hp tL aq (eA (cJ c.ps) y.2) (cG c.ro y.1).len g2
       rw[mg]at k1
       rw[cond_true,Xh hx hu ?_ ?_ k2]
       ·exact Xm hx hu he hd h2
       ·cases hm:aN e ((gf 0 aq).map (·.1))with
        | false=>rfl
        | true=>
         obtain⟨u,hu,e1⟩:=List.mem_map.1 (mS.1 hm)
         have:=H9 aq 0 g2 u hu
         rw[e1,hp]at this;cases this
       ·cases hm:aN e cn with
        | false=>rfl
        | true=>have:=k1 e (mS.1 hm);rw[hp]at this;cases this
     ·cases h2
   ·cases h
theorem A.Ds{y:A}(h:y.cV=true)(n:Nat):y.drop n=y:=by
 cases y with
 | lf l=>cases l <;>first | rfl | cases h
 | agg cs=>
  refine congrArg A.agg ?_
  conv=>rhs;rw[<-List.map_id cs]
  refine List.map_congr_left fun l hl=>?_
  have:=List.all_eq_true.1 h l hl
  cases l <;>first | rfl | cases this
 | _=>cases h
theorem A.Xo{y:A}(h:y.cV=true)(ns cn:List Nat):y.aG ns cn=y:=by
 cases y with
 | lf l=>cases l <;>first | rfl | cases h
 | agg cs=>
  refine congrArg A.agg ?_
  conv=>rhs;rw[<-List.map_id cs]
  refine List.map_congr_left fun l hl=>?_
  have:=List.all_eq_true.1 h l hl
  cases l <;>first | rfl | cases this
 | _=>cases h
theorem AR:∀ (xs:List V) (c:Nat) (σ:S) {t:Nat},(σ.t t).cV=true->(dF c σ xs).t t=σ.t t
 | [],c,σ,t,h=>rfl
 | y :: xs,c,σ,t,h=>by
  simp only[dF]
  cases y.av with
  | true=>exact AR xs (c+1) σ h
  | false=>
   simp only[cond_false]
   have e1:(((σ.drop c).root c (.sl y)).t t)=σ.t t:=by rw[HU];exact A.Ds h c
   rw[AR xs (c+1) _ (by rw[e1];exact h),e1]
theorem Ig:∀ (ps:List Pt) (c:Nat) (σ:S) {t:Nat},(σ.t t).cV=true->(eW c σ ps).t t=σ.t t
 | [],c,σ,t,h=>rfl
 | q :: ps,c,σ,t,h=>by
  simp only[eW]
  have e1:=AR q.2 c σ h
  rw[Ig ps _ _ (by rw[e1];exact h),e1]
theorem Xp{dst:Option Tmp}{res:dz}{τ:S}(h:iC N σ dst res some=some τ){t:Nat}(ht:(σ.t t).cV=true)(hd:dst≠some t):τ.t t=σ.t t:=by
 cases dst with
 | none=>
  have h:some σ=some τ:=h
  injection h with h
  rw[<-h]
 | some d=>
  have mY:t≠d:=by rintro rfl;exact hd rfl
  unfold iC at h
  cases hN:Nat.blt d N with
  | false=>simp only[hN,cond_false]at h;cases h
  | true=>
   simp only[hN,cond_true]at h
   cases res with
   | one q=>
    simp only at h
    split at h
    ·rename_i y hy
     injection h with h
     subst h
     exact(aQ _ _ _ mY).trans (AR _ _ _ ht)
    ·cases h
   | aU ps=>
    injection h with h
    subst h
    exact(aQ _ _ _ mY).trans (Ig _ _ _ ht)
theorem Xq(aJ:dB P Φ)(b5:jf Φ o=true){τ:S}(h:bF P N Φ σ o some=some τ){t:Nat}(ht:(σ.t t).cV=true)(hd:o.dst≠some t):τ.t t=σ.t t:=by
 have cU:∃ f args bG,o.op = .call { callee:=.value (.func f),args:=args,argTypes:=bG }:=by
  unfold jf at b5
  split at b5
  ·exact⟨_,_,_,by assumption⟩
  ·cases b5
 obtain⟨f,args,bG,ho⟩:=cU
 have aD:bF P N Φ σ o some=ew P N Φ σ o some:=by
  unfold bF
  rw[show cV o.op=false by rw[ho];rfl,cond_false]
 rw[aD]at h
 cases hc:Φ f with
 | none=>simp only[ew,ho,hc]at h;cases h
 | some c=>
  cases c with
  | n F=>rw[jf,ho]at b5;simp[hc]at b5
  | v c=>rw[jf,ho]at b5;simp[hc]at b5
  | i c=>rw[jf,ho]at b5;simp[hc]at b5
  | d c=>rw[jf,ho]at b5;simp[hc]at b5
  | q c=>rw[jf,ho]at b5;simp[hc]at b5
  | c c=>rw[jf,ho]at b5;simp[hc]at b5
  | p c=>
   simp only[ew,ho,hc]at h
   obtain⟨d,dM,h⟩:=dm h
   obtain⟨res,dD,h1,h2,h3⟩:=wL (aJ f _ hc).2 h
   injection h2 with h2
   subst h2
   have mY:t≠d:=by rintro rfl;exact hd dM
   unfold ot at h1
   cases res with
   | one q=>
    simp only at h1
    split at h1
    ·rename_i y hy
     injection h1 with h1
     subst h1
     exact(aQ _ _ _ mY).trans (AR _ _ _ ht)
    ·cases h1
   | aU ps=>
    injection h1 with h1
    subst h1
    exact(aQ _ _ _ mY).trans (Ig _ _ _ ht)
  | m c=>
   simp only[ew,ho,hc]at h
   unfold gM at h
   split at h
   ·rename_i aq iF
    cases eO:(once (gf 0 aq)&&Nat.ble aq.length 40)with
    | false=>rw[eO]at h;cases h
    | true=>
     rw[eO,cond_true]at h
     obtain⟨z,h2,AQ⟩:=uf _ _ _ _ h
     split at h2
     ·rename_i y hy
      unfold sC at h2
      generalize tP N aq (eA (cJ c.ps) y.2) (iB (dW o.dst) (cG c.ro y.1).len aq (eA (cJ c.ps) y.2))=ok at h2
      cases ok with
      | false=>cases h2
      | true=>
       rw[cond_true]at h2
       have e1:∀ ns cn nr,(σ.aG ns cn nr).t t=σ.t t:=fun ns cn nr=>A.Xo ht ns cn
       have:=Xp (t:=t) h2 (by rw[e1];exact ht) hd
       rw[this,e1]
     ·cases h2
   ·cases h
theorem Xr{e':Nat}{x':ax}{u':A}(hx:jB x)(hu:iK e u)(bC:jB x')(gp:iK e' u')(h:e≠e'):aR e' x' u' (aR e x u σ)=aR e x u (aR e' x' u' σ):=by
 refine S.ext' (fun k=>?_) fun n=>?_
 ·simp only[lE]
  by_cases h1:k=e'
  ·subst h1
   rw[if_pos rfl,if_neg (Ne.symm h),if_pos rfl,gp.drop (Ne.symm h)]
  ·rw[if_neg h1]
   by_cases h2:k=e
   ·subst h2
    rw[if_pos rfl,if_pos rfl,hu.drop h]
   ·rw[if_neg h2,if_neg h2,if_neg h1,A.jX]
 ·simp only[jC]
  by_cases h1:n=e'
  ·subst h1
   rw[if_pos rfl,if_neg (Ne.symm h),if_pos rfl,Option.map_some,bC.1]
  ·rw[if_neg h1]
   by_cases h2:n=e
   ·subst h2
    rw[if_pos rfl,if_pos rfl,Option.map_some,hx.1]
   ·rw[if_neg h2,if_neg h2,if_neg h1]
    cases σ.m n with
    | none=>rfl
    | some y=>simp only[Option.map_some,ax.jX]
theorem Xs(hx:jB x)(hu:iK e u)(hp:p e=true)(hm:je o=true)(hd:o.dst≠some e)(aO:∀ y∈o.op.operands,(ah σ y).nr p=true/\y ≠ .tmp e){τ:S}
  (h:bF P N Φ σ o some=some τ):bF P N Φ (aR e x u σ) o some=some (aR e x u τ):=by
 obtain⟨e',x',u',k7,tM,bC,gp,cr,eR⟩:=AM (o:={ o with guard:=none }) (ops:=#[]) (σ:=σ) (Φ:=Φ) (P:=P) (N:=N) hm rfl h
 have aA:e≠e':=by rintro rfl;exact hd k7
 have h2:=eR (aR e x u σ) rfl fun y hy=>qm (aO y hy).1 hp (aO y hy).2
 rw[Xr hx hu bC gp aA,<-cr]at h2
 exact h2
theorem Xt(hm:je o=true){τ:S}(h:bF P N Φ σ o some=some τ){t:Nat}(ht:(σ.t t).cV=true)(hd:o.dst≠some t):τ.t t=σ.t t:=by
 obtain⟨e',x',u',k7,tM,bC,gp,cr,eR⟩:=AM (o:={ o with guard:=none }) (ops:=#[]) (σ:=σ) (Φ:=Φ) (P:=P) (N:=N) hm rfl h
 have aA:t≠e':=by rintro rfl;exact hd k7
 rw[cr,lE,if_neg aA,A.Ds ht]
theorem Xu(hx:jB x)(hu:iK e u)(hp:p e=true)(hm:isApp o=true)(hd:o.dst≠some e)(aO:∀ y∈o.op.operands,(ah σ y).nr p=true/\y ≠ .tmp e){τ:S}
  (h:bF P N Φ σ o some=some τ):bF P N Φ (aR e x u σ) o some=some (aR e x u τ):=by
 obtain⟨a,b,t,t',ho,hn,dy,hk⟩:=HQ hm
 have ha:=aO a (by rw[ho];simp[Op.operands,Call.operands])
 have U:=aO b (by rw[ho];simp[Op.operands,Call.operands])
 rw[AN ho hn dy hk]at h ⊢
 obtain⟨d,dM,h⟩:=dm h
 obtain⟨r,v,cr,hr,eR⟩:=Df h
 have nu:d≠e:=by rintro rfl;exact hd dM
 have AS:r≠e:=by
  rcases hr with h1 | h1
  ·rw[h1];exact nu
  ·rintro rfl
   have h2:=ha.1
   rw[h1]at h2
   simp[A.nr,Lf.nr,ct,hp]at h2
 unfold cx
 rw[dM]
 simp only
 rw[qm ha.1 hp ha.2,qm U.1 hp U.2,eR (aR e x u σ) (fun k=>Xi U.1 hp) (fun r' v' bx iV=>?_)]
 ·rw[Nl v hx hu (Ne.symm AS),sR nu ?_,cr]
  have:aE e [r]=false:=by simp[aE,AS]
  simp only[A.drop,Lf.drop,this,cond_false]
 ·have aA:r'≠e:=by
   rintro rfl
   have h2:=ha.1
   rw[bx]at h2
   simp[A.nr,Lf.nr,ct,hp]at h2
  rw[jC,if_neg aA,iV]
  rfl
theorem Xv(hm:isApp o=true){τ:S}(h:bF P N Φ σ o some=some τ){t:Nat}(ht:(σ.t t).cV=true)(hd:o.dst≠some t):τ.t t=σ.t t:=by
 obtain⟨a,b,t1,t2,ho,hn,dy,hk⟩:=HQ hm
 rw[AN ho hn dy hk]at h
 obtain⟨d,dM,h⟩:=dm h
 obtain⟨r,v,cr,hr,eR⟩:=Df h
 have aA:t≠d:=by rintro rfl;exact hd dM
 rw[cr]
 show aI ((σ.drop r).root r (.sl v)).t d _ t=_
 rw[aQ _ _ _ aA]
 exact A.Ds ht r
theorem Nv(ho:∃ ty t y,o.op = .store ty (.tmp t) y/\o.dst=none/\∃ r j,σ.t t = .aF r j){τ:S}(h:bF P N Φ σ o some=some τ):∃ t y r j cs xs,o.op.operands = #[.tmp t,y]/\σ.t t = .aF r j/\(ah σ y).rS=some xs/\σ.m r=some (.blk cs)/\τ=σ.root r (.blk (cQ cs j xs))/\
  ∀ (σ2:S) (w5:List Lf),σ2.t t = .aF r j->ah σ2 y=ah σ y->σ2.m r=some (.blk w5)->w5.length=cs.length->bF P N Φ σ2 o some=some (σ2.root r (.blk (cQ w5 j xs))):=by
 obtain⟨ty,t,y,ho,hd,r,j,ht⟩:=ho
 have aD:∀ σ2:S,σ2.t t = .aF r j->bF P N Φ σ2 o some=iU P σ2 ty (.aF r j) (ah σ2 y) some:=by
  intro σ2 h2
  unfold bF
  rw[show cV o.op=false by rw[ho];rfl,cond_false]
  simp only[ew,ho,hd]
  have e1:ah σ2 (.tmp t) = .aF r j:=h2
  rw[e1,show tZ (.aF r j) (ah σ2 y)=false from rfl,cond_false]
 rw[aD σ ht]at h
 unfold iU at h
 split at h
 ·rename_i n xs hn dO
  split at h
  ·rename_i hlen
   simp only at h
   split at h
   ·rename_i cs bZ
    split at h
    ·rename_i hj
     cases hl:xs.all Lf.live with
     | false=>rw[hl]at h;cases h
     | true=>
      rw[hl,cond_true]at h
      injection h with h
      refine⟨t,y,r,j,cs,xs,by rw[ho];rfl,ht,dO,bZ,h.symm,fun σ2 w5 h1 h2 h3 h4=>?_⟩
      rw[aD σ2 h1,h2]
      simp only[iU,hn,dO,if_pos hlen,h3]
      rw[if_pos (by rw[h4];exact hj),hl]
      rfl
    ·cases h
   ·cases h
  ·cases h
 ·cases h
theorem Nw(hm:AA o=true)(hs:qg σ o=true):∃ ty t y,o.op = .store ty (.tmp t) y/\o.dst=none/\∃ r j,σ.t t = .aF r j:=by
 unfold AA at hm
 rw[Bool.and_eq_true]at hm
 obtain⟨h1,h2⟩:=hm
 split at h1
 ·rename_i ty t y ho
  refine⟨ty,t,y,ho,Option.isNone_iff_eq_none.1 h2,?_⟩
  unfold qg at hs
  rw[ho]at hs
  simp only at hs
  split at hs
  ·exact⟨_,_,by assumption⟩
  ·cases hs
 ·cases h1
theorem Xw{y:A}{xs:List Lf}(h:y.rS=some xs)(hn:y.nr p=true):xs.all (Lf.nr p)=true:=by
 cases y with
 | lf l=>injection h with h;subst h;simpa [A.nr]using hn
 | agg cs=>injection h with h;subst h;exact hn
 | _=>cases h
theorem Xx(hx:jB x)(hu:iK e u)(hp:p e=true)(hm:AA o=true)(hs:qg σ o=true)(aO:∀ y∈o.op.operands,(ah σ y).nr p=true/\y ≠ .tmp e){τ:S}
  (h:bF P N Φ σ o some=some τ):bF P N Φ (aR e x u σ) o some=some (aR e x u τ):=by
 obtain⟨t,y,r,j,cs,xs,g1,g2,g3,g4,g5,g6⟩:=Nv (Nw hm hs) h
 have ht:=aO (.tmp t) (by rw[g1];simp)
 have hy:=aO y (by rw[g1];simp)
 have e1:(aR e x u σ).t t = .aF r j:=(qm ht.1 hp ht.2).trans g2
 have AS:r≠e:=by
  have h2:(ah σ (.tmp t)).nr p=true:=ht.1
  have h3:ah σ (.tmp t) = .aF r j:=g2
  rw[h3]at h2
  exact WO h2 hp
 have e3:(aR e x u σ).m r=some (.blk (cs.map (Lf.drop e))):=by
  rw[jC,if_neg AS,g4];rfl
 have dO:=dX.gN (Xw g3 hy.1) hp
 rw[g6 (aR e x u σ) _ e1 (qm hy.1 hp hy.2) e3 (by rw[List.length_map]),g5]
 congr 1
 refine S.ext' (fun k=>?_) fun n=>?_
 ·show (aR e x u σ).t k=(aR e x u (σ.root r (.blk (cQ cs j xs)))).t k
  rw[lE,lE]
  rfl
 ·show aI (aR e x u σ).m r (some (.blk (cQ (cs.map (Lf.drop e)) j xs))) n=(aR e x u (σ.root r (.blk (cQ cs j xs)))).m n
  rw[jC]
  by_cases hn:n=r
  ·subst hn
   rw[aK,if_neg AS]
   show _=(aI σ.m n (some (ax.blk (cQ cs j xs))) n).map (ax.drop e)
   rw[aK]
   simp only[Option.map_some,ax.drop,cQ,List.map_append,List.map_take,List.map_drop,dO]
  ·rw[aQ _ _ _ hn,jC]
   have:(σ.root r (.blk (cQ cs j xs))).m n=σ.m n:=aQ _ _ _ hn
   rw[this]
theorem Xy(hm:AA o=true)(hs:qg σ o=true){τ:S}(h:bF P N Φ σ o some=some τ)(t:Nat):τ.t t=σ.t t:=by
 obtain⟨_,_,r,j,cs,xs,_,_,_,_,g5,_⟩:=Nv (Nw hm hs) h
 rw[g5]
 rfl
theorem Xz(aJ:dB P Φ)(hx:jB x)(hu:iK e u)(he:e<20000)(hp:p e=true)(AP:∀ n,20000<=n->p n=false)(b5:AB Φ o=true)(eV:qg σ o=true)(hd:o.dst≠some e)(aO:∀ y∈o.op.operands,(ah σ y).nr p=true/\y ≠ .tmp e)(hl:∀ n∈jW Φ σ o,qh σ p n=true){τ:S}
  (h:bF P N Φ σ o some=some τ):bF P N Φ (aR e x u σ) o some=some (aR e x u τ):=by
 unfold AB at b5
 rw[Bool.or_eq_true,Bool.or_eq_true,Bool.or_eq_true]at b5
 rcases b5 with ((hc | hc) | hc) | hc
 ·exact Xn aJ hx hu he hp AP hc hd aO hl h
 ·exact Xs hx hu hp hc hd aO h
 ·exact Xu hx hu hp hc hd aO h
 ·exact Xx hx hu hp hc eV aO h
theorem XA(aJ:dB P Φ)(b5:AB Φ o=true)(eV:qg σ o=true){τ:S}(h:bF P N Φ σ o some=some τ){t:Nat}(ht:(σ.t t).cV=true)(hd:o.dst≠some t):τ.t t=σ.t t:=by
 unfold AB at b5
 rw[Bool.or_eq_true,Bool.or_eq_true,Bool.or_eq_true]at b5
 rcases b5 with ((hc | hc) | hc) | hc
 ·exact Xq aJ hc h ht hd
 ·exact Xt hc h ht hd
 ·exact Xv hc h ht hd
 ·exact Xy hc eV h t
end
end Go.Proofs.YtjldnlbiefpekaaDoor
namespace Go.Proofs.YtjldnlbiefpekaaDoor
open Go.RowKit
set_option linter.unusedVariables false
section
variable {P:Program} {w w':World} {w0:Wd} {B N:Nat} {lab af:aH} {ρ ρ':Nat->Loc} {σ:S} {a:Act} {X:Type} {d:Nat} {r:X} {o:Oper} {Φ:cc} {p:Nat->Bool} {ops:Array Oper}
theorem Ih{i W j:Nat}{oj:Oper}(bJ:ops[j]?=some oj)(h:Az ops i W j=true):∃ e∈oj.after,Region.binds .any e=true/\(e.on=i\/W.testBit e.on=true):=by
 unfold Az at h
 rw[bJ]at h
 obtain⟨e,he,U⟩:=List.any_eq_true.1 h
 rw[Bool.and_eq_true,Bool.or_eq_true]at U
 refine⟨e,by simpa using he,U.1,U.2.imp (fun h=>Nat.eq_of_beq_eq_true h) id⟩
theorem Dt{g:Oper->Bool}{oi:Oper}{i L W:Nat}:∀ (n j:Nat),wP g ops oi i L W n j=true->∀ k,j<=k->k<j+n->k=i\/L.testBit k=true\/(W.testBit k=true/\Az ops i W k=true)\/(W.testBit k=false/\∀ ok,ops[k]?=some ok->g ok=true/\oi.apart ops ok=true)
 | 0,j,_,k,h1,h2=>by omega
 | n+1,j,h,k,h1,h2=>by
  unfold wP at h
  rw[Bool.and_eq_true,Bool.or_eq_true,Bool.or_eq_true]at h
  by_cases hk:k=j
  ·subst hk
   rcases h.1 with (h | h) | h
   ·exact .inl (Nat.eq_of_beq_eq_true h)
   ·exact .inr (.inl h)
   ·cases hw:W.testBit k with
    | true=>rw[hw,cond_true]at h;exact .inr (.inr (.inl ⟨rfl,h⟩))
    | false=>
     rw[hw,cond_false]at h
     refine .inr (.inr (.inr ⟨rfl,fun ok bM=>?_⟩))
     rw[bM,Bool.and_eq_true]at h
     exact h
  ·exact Dt n (j+1) h.2 k (by omega) (by omega)
theorem jY{g:Oper->Bool}{i L W:Nat}:∀ (n j:Nat) (k:Nat),j<=k->k<j+n->k≠i->L.testBit k=false->W.testBit k=false->∀ ok,ops[k]?=some ok->g ok=true->ey g ops i L W n j=true
 | 0,j,k,h1,h2,_,_,_,_,_,_=>by omega
 | n+1,j,k,h1,h2,hi,hL,hW,ok,bM,hm=>by
  unfold ey
  rw[Bool.or_eq_true]
  by_cases hk:k=j
  ·subst hk
   refine .inl ?_
   have U:Nat.beq k i=false:=by
    cases U:Nat.beq k i with
    | false=>rfl
    | true=>exact absurd (Nat.eq_of_beq_eq_true U) hi
   rw[bM,U,hL,hW]
   simpa using hm
  ·exact .inr (jY n (j+1) k (by omega) (by omega) hi hL hW ok bM hm)
theorem Nx{g:Oper->Bool}{i L W:Nat}:∀ (n j:Nat),ey g ops i L W n j=true->∃ k ok,ops[k]?=some ok/\k≠i/\L.testBit k=false/\W.testBit k=false/\g ok=true
 | 0,j,h=>by cases h
 | n+1,j,h=>by
  unfold ey at h
  rw[Bool.or_eq_true]at h
  rcases h with h | h
  ·rw[Bool.and_eq_true,Bool.not_eq_true',Bool.or_eq_false_iff,Bool.or_eq_false_iff]at h
   obtain⟨⟨⟨h1,h2⟩,h3⟩,h4⟩:=h
   split at h4
   ·rename_i ok bM
    exact⟨j,ok,bM,(by rintro rfl;rw[Nat.beq_refl]at h1;cases h1),h2,h3,h4⟩
   ·cases h4
  ·exact Nx n (j+1) h
theorem XB[Inhabited Wd]{L i:Nat}{k:S->Option X}(hv:cV o.op=true\/cW σ ops o=some false)(hn:HB σ (oC Φ ops i L (waits ops i ops.size 0 0) σ) (qf σ ops i L (waits ops i ops.size 0 0)) o=true)(h:sP P N Φ ops L i σ o k=some r):
  ∃ v,k (cX σ o.dst v)=some r/\iJ P ops o (oC Φ ops i L (waits ops i ops.size 0 0) σ) (qf σ ops i L (waits ops i ops.size 0 0)) v σ/\∀ σ:S,eT N σ o.dst v some=some (cX σ o.dst v):=by
 unfold sP at h
 unfold HB at hn
 rw[Bool.and_eq_true]at hn
 split at h
 ·rename_i hw
  obtain⟨v,h1,hd,_⟩:=wR (w0:=default) (N:=N) h
  cases hc:v.fS (oC Φ ops i L (waits ops i ops.size 0 0) σ) (qf σ ops i L (waits ops i ops.size 0 0))with
  | false=>rw[hc]at h1;cases h1
  | true=>
   rw[hc,cond_true]at h1
   obtain⟨h2,h3⟩:=fT h1
   have hv:cV o.op=true:=hv.resolve_right (by rw[hw];simp)
   refine⟨v,h2,.inl ⟨hw,hv,hd,fun y hy=>List.all_eq_true.1 hn.1 y (by simpa using hy),hc,fun t y r j e hy=>?_⟩,fun σ=>(h3 σ).at_ _⟩
   have h4:=hn.2
   rw[e]at h4
   simp only[hy]at h4
   simpa using h4
 ·rename_i hw
  obtain⟨h2,h3⟩:=fT h
  exact⟨.skip,h2,.inr ⟨hw,rfl⟩,fun σ=>(h3 σ).at_ _⟩
 ·cases h
theorem w6{i L W n:Nat}(h:sN Φ ops i L W σ n=true):oC Φ ops i L W σ n=true:=by unfold oC;rw[h];rfl
theorem XC{i L W:Nat}(h:zq Φ ops i L W σ o=true):∃ ty t y,o.op = .store ty (.tmp t) y/\o.dst=none/\C3 Φ ops i L W σ t=true/\(∀ k,σ.t t ≠ .ptr k)/\∀ r j,σ.t t = .aF r j->sM σ o=[r]:=by
 unfold zq at h
 split at h
 ·rename_i ty t y ho
  rw[Bool.and_eq_true,Bool.and_eq_true]at h
  refine⟨ty,t,y,ho,by simpa using h.1.1,h.1.2,fun k hk=>?_,fun r j hr=>by simp only[sM,ho,hr]⟩
  have h3:=h.2
  rw[hk]at h3
  cases h3
 ·cases h
theorem XD{i L W:Nat}(h:Hz Φ ops i L W o=true):∃ x y t t',o.op = .call ⟨.builtin .append,⟨[.tmp x,y]⟩,⟨[t,t']⟩⟩/\iG Φ ops i L W x=true/\(jz t=false/\Nat.beq t t'=true/\uo o.dst t=false):=by
 unfold Hz at h
 split at h
 ·rw[Bool.and_eq_true,Bool.and_eq_true,Bool.and_eq_true]at h
  exact⟨_,_,_,_,by assumption,h.1,by simpa using h.2.1.1,h.2.1.2,by simpa using h.2.2⟩
 ·cases h
theorem XE{i L W:Nat}(h:Hy Φ ops i L W σ o=true):∃ f args bG c,o.op = .call { callee:=.value (.func f),args:=args,argTypes:=bG }/\Φ f=some (.m c)/\C0 c=true/\lA (fun t r=>!ey (fR t) ops i L W ops.size 0 && !ey (fun ok=>cC ok r) ops i L W ops.size 0 && !ey isApp ops i L W ops.size 0) σ c.ps args.toList=true/\jW Φ σ o=eC σ c.ps args.toList:=by
 unfold Hy at h
 split at h
 ·rename_i f args bG ho
  split at h
  ·rename_i c hc
   rw[Bool.and_eq_true]at h
   exact⟨f,args,bG,c,ho,hc,h.1,h.2,by simp only[jW,ho,hc]⟩
  ·cases h
 ·cases h
theorem AT{p:Nat->Bool}:∀ (ps:List PK) (xs:List Operand),(∀ x∈xs,(ah σ x).nr p=true)->∀ n∈eC σ ps xs,p n=false
 | [],[],_,n,hn=>by cases hn
 | [],_ :: _,_,n,hn=>by cases hn
 | .v _ _ :: _,[],_,n,hn=>by cases hn
 | .p _ _ _ :: _,[],_,n,hn=>by cases hn
 | .s _ _ :: _,[],_,n,hn=>by cases hn
 | .v _ _ :: ps,x :: xs,h,n,hn=>AT ps xs (fun y hy=>h y (.tail _ hy)) n hn
 | .s _ _ :: ps,x :: xs,h,n,hn=>AT ps xs (fun y hy=>h y (.tail _ hy)) n hn
 | .p _ _ _ :: ps,x :: xs,h,n,hn=>by
  simp only[eC]at hn
  split at hn
  ·rename_i r' j hr
   rcases List.mem_cons.1 hn with rfl | hn
   ·have h1:=h x (.head _)
    rw[hr]at h1
    have h1:(!p n)=true:=h1
    simpa using h1
   ·exact AT ps xs (fun y hy=>h y (.tail _ hy)) n hn
  ·exact AT ps xs (fun y hy=>h y (.tail _ hy)) n hn
theorem Ii{dst:Option Tmp}{g:Bool}{k:S->Option X}(h:splitK σ dst g k=some r):k σ=some r:=by
 unfold splitK at h
 cases g with
 | false=>exact h
 | true=>
  rw[cond_true]at h
  split at h
  ·rename_i d
   split at h
   ·rename_i b U
    have:∀ c,b=c->σ.set d (.lf (.v (.bool c)))=σ:=by
     rintro c rfl
     refine S.ext' (fun k=>?_) fun _=>rfl
     show aI _ _ _ _=_
     by_cases hk:k=d
     ·subst hk;rw[aK,U]
     ·rw[aQ _ _ _ hk]
    cases b with
    | true=>rw[cond_true,this true rfl]at h;exact h
    | false=>rw[cond_false,this false rfl]at h;exact h
   ·exact h
  ·exact h
theorem Ny{L j:Nat}(h:gO ops L j=true):j<ops.size:=by
 obtain⟨_,o,ho,_⟩:=AO.1 h
 exact(Array.getElem?_eq_some_iff.1 ho).1
theorem w7{L j:Nat}:j∈(List.range ops.size).filter (gO ops L) ↔ gO ops L j=true:=by
 rw[List.mem_filter,List.mem_range]
 exact⟨fun h=>h.2,fun h=>⟨Ny h,h⟩⟩
structure Nz (ops:Array Oper) (p:Nat->Bool) (σ:S) (o:Oper):Prop where
 is:je o=true
 want:cW σ ops o=some true
 ac6:∀ y∈o.op.operands,(ah σ y).cV=true/\∀ t,y = .tmp t->p t=false
 guard:∀ g c t,o.guard=some (g,c)->(ops[g]?).bind (·.dst)=some t->p t=false
theorem AU[Inhabited Wd](aJ:dB P Φ):∀ (f L:Nat) (σ:S) (k:S->Option X),gP P N Φ ops f L σ k=some r->Any P N Φ ops (fun τ=>k τ=some r) f L σ
 | 0,L,σ,k,h=>by
  unfold gP at h
  split at h
  ·rename_i hr
   refine⟨fun j=>?_,h⟩
   cases hj:gO ops L j with
   | false=>rfl
   | true=>have:=w7.2 hj;rw[hr]at this;cases this
  ·cases h
 | f+1,L,σ,k,h=>by
  unfold gP at h
  split at h
  ·rename_i hr
   refine⟨fun _=>h,fun j hj=>?_⟩
   have:=w7.2 hj;rw[hr]at this;cases this
  ·rename_i i hr
   have hi:gO ops L i=true:=w7.1 (by rw[hr];exact .head _)
   refine⟨fun h=>absurd (h i) (by rw[hi];simp),fun j hj=>?_⟩
   have hj:=w7.2 hj
   rw[hr]at hj
   obtain rfl:=List.mem_singleton.1 hj
   split at h
   ·rename_i o ho
    obtain⟨τ,h1,h2⟩:=HH aJ h
    exact⟨o,τ,ho,h2,AU aJ f _ τ k (Ii h1)⟩
   ·cases h
  ·rename_i rs hn hs
   split at h
   ·rename_i i hf
    have hc:=List.find?_some hf
    have hm:=List.mem_of_find?_eq_some hf
    have hi:=w7.1 hm
    split at h
    ·rename_i o ho
     unfold M0 at hc
     rw[ho,Bool.and_eq_true,Bool.and_eq_true,Bool.and_eq_true]at hc
     obtain⟨⟨⟨c1,c2⟩,c3⟩,c4⟩:=hc
     have c1:cV o.op=true\/cW σ ops o=some false:=by
      rw[Bool.or_eq_true]at c1
      refine c1.imp id fun c1=>?_
      split at c1
      ·rename_i b U
       rw[U]
       cases b <;>first | rfl | cases c1
      ·cases c1
     obtain⟨v,h1,hF,hN⟩:=XB c1 c4 h
     have nc:=Dt _ _ c3
     have c2:=Nat.eq_of_beq_eq_true c2
     have uB:∀ j,(waits ops i ops.size 0 0).testBit j=true->(L ||| 2 ^ i).testBit j=false:=by
      intro j hj
      have:((L ||| 2 ^ i) &&& waits ops i ops.size 0 0).testBit j=false:=by rw[c2];exact Nat.zero_testBit j
      rw[Nat.testBit_and,hj,Bool.and_true]at this
      exact this
     have nh:∀ j,(waits ops i ops.size 0 0).testBit j=true->L.testBit j=false:=by
      intro j hj
      have:=uB j hj
      rw[mq,Bool.or_eq_false_iff]at this
      exact this.1
     refine Xe (W:=waits ops i ops.size 0 0) (ok:=fun t r=>!ey (fR t) ops i L (waits ops i ops.size 0 0) ops.size 0 && !ey (fun ok=>cC ok r) ops i L (waits ops i ops.size 0 0) ops.size 0 && !ey isApp ops i L (waits ops i ops.size 0 0) ops.size 0) (lC:=C3 Φ ops i L (waits ops i ops.size 0 0) σ) (iH:=iH Φ ops i L (waits ops i ops.size 0 0) σ) (iG:=iG Φ ops i L (waits ops i ops.size 0 0)) aJ ho hN (fun j oj bJ hj=>?_) f L σ (fun t r bM j oj bJ cH c7 cM=>?_) (fun x hx j oj bJ cH c7 cM=>?_) (fun x hx=>?_) (fun t bM j oj bJ cH c7 cM=>?_) (fun t bM j oj bJ cH c7 cM=>?_) (fun j oj bJ cH c7 cM=>?_) nh hi hF (AU aJ f _ _ k (Ii h1))
     ·have aW:=(Array.getElem?_eq_some_iff.1 bJ).1
      rcases nc j (by omega) (by omega)with e | e | e | e
      ·subst e
       have:=uB j hj
       rw[mq]at this
       simp at this
      ·rw[nh j hj]at e;cases e
      ·exact Ih bJ e.2
      ·rw[hj]at e;cases e.1
     ·have aW:=(Array.getElem?_eq_some_iff.1 bJ).1
      rw[Bool.and_eq_true,Bool.and_eq_true,Bool.not_eq_true',Bool.not_eq_true',Bool.not_eq_true']at bM
      refine⟨fun hd=>?_,?_,?_⟩
      ·have:=jY (g:=fR t) ops.size 0 j (by omega) (by omega) cH c7 cM oj bJ (by unfold fR;rw[hd];exact Nat.beq_refl t)
       rw[bM.1.1]at this;cases this
      ·cases hn:cC oj r with
       | false=>rfl
       | true=>
        have:=jY (g:=fun ok=>cC ok r) ops.size 0 j (by omega) (by omega) cH c7 cM oj bJ hn
        rw[bM.1.2]at this;cases this
      ·cases hn:isApp oj with
       | false=>rfl
       | true=>
        have:=jY (g:=isApp) ops.size 0 j (by omega) (by omega) cH c7 cM oj bJ hn
        rw[bM.2]at this;cases this
     ·have aW:=(Array.getElem?_eq_some_iff.1 bJ).1
      unfold iH at hx
      rw[Bool.and_eq_true]at hx
      intro hd
      have:=jY (g:=fR x) ops.size 0 j (by omega) (by omega) cH c7 cM oj bJ (by unfold fR;rw[hd];exact Nat.beq_refl x)
      rw[this]at hx
      cases hx.1
     ·unfold iH at hx
      rw[Bool.and_eq_true]at hx
      have hx:=hx.2
      cases hz:σ.t x with
      | aF r j=>rw[hz]at hx;exact hx
      | ec cs=>trivial
      | _=>rw[hz]at hx;cases hx
     ·have aW:=(Array.getElem?_eq_some_iff.1 bJ).1
      by_cases hd:oj.dst=some t
      ·refine .inr ?_
       have mY:fR t oj=true:=by unfold fR;rw[hd];exact Nat.beq_refl t
       cases wY:oB oj with
       | false=>
        cases AV:C2 Φ ops i L (waits ops i ops.size 0 0) σ oj with
        | false=>
         have:=jY (g:=fun ok=>fR t ok && !(oB ok || C2 Φ ops i L (waits ops i ops.size 0 0) σ ok)) ops.size 0 j (by omega) (by omega) cH c7 cM oj bJ (by rw[mY,wY,AV];rfl)
         unfold C3 at bM
         rw[this]at bM;cases bM
        | true=>
         unfold C2 at AV
         split at AV
         ·rename_i s x f nv
          exact .inr ⟨s,x,f,nv,AV⟩
         ·cases AV
       | true=>
        refine .inl ⟨rfl,?_⟩
        refine w6 ?_
        unfold sN
        rw[Bool.or_eq_true]
        refine .inl (jY (g:=fun o=>cC o t) _ 0 j (by omega) (by omega) cH c7 cM oj bJ ?_)
        obtain⟨ty,e,h1,_,h3,_⟩:=Ni wY
        unfold cC
        rw[hd,h1]
        exact Nat.beq_refl t
      ·exact .inl hd
     ·have aW:=(Array.getElem?_eq_some_iff.1 bJ).1
      by_cases hd:oj.dst=some t
      ·refine .inr ?_
       have mY:fR t oj=true:=by unfold fR;rw[hd];exact Nat.beq_refl t
       cases ld:je oj with
       | false=>
        cases XF:isApp oj with
        | true=>exact .inr (.inl rfl)
        | false=>
         cases ux:sO Φ oj with
         | true=>exact .inr (.inr rfl)
         | false=>
          have:=jY (g:=fun ok=>fR t ok && !(je ok || isApp ok || sO Φ ok)) ops.size 0 j (by omega) (by omega) cH c7 cM oj bJ (by rw[mY,ld,XF,ux];rfl)
          unfold iG at bM
          rw[this]at bM;cases bM
       | true=>
        refine .inl ?_
        have b6:cC oj t=true:=by
         unfold je at ld
         rw[Bool.and_eq_true]at ld
         have h1:=ld.1
         unfold cC
         rw[hd]
         split at h1
         ·rename_i pP;simp only[pP];exact Nat.beq_refl t
         ·rename_i pP;simp only[pP];exact Nat.beq_refl t
         ·rename_i pP;simp only[pP];exact Nat.beq_refl t
         ·cases h1
        have h9:=jY (g:=fun o=>cC o t) ops.size 0 j (by omega) (by omega) cH c7 cM oj bJ b6
        refine⟨rfl,?_,?_⟩
        ·refine w6 ?_;unfold sN;rw[Bool.or_eq_true];exact .inl h9
        ·unfold qf;rw[Bool.or_eq_true];exact .inl h9
      ·exact .inl hd
     ·have aW:=(Array.getElem?_eq_some_iff.1 bJ).1
      rcases nc j (by omega) (by omega)with e | e | e | e
      ·exact absurd e cH
      ·rw[c7]at e;cases e
      ·rw[cM]at e;cases e.1
      ·obtain⟨e1,e2⟩:=e.2 oj bJ
       refine⟨e2,?_,fun n hn=>?_⟩
       ·rw[Bool.or_eq_true,Bool.or_eq_true,Bool.or_eq_true]at e1
        rcases e1 with ((e1 | e1) | e1) | e1
        ·exact .inl e1
        ·obtain⟨f',args,bG,c,g1,g2,g3,g4,g5⟩:=XE e1
         refine .inr (.inl ⟨f',args,bG,c,g1,g2,g3,g4,fun n hn=>?_⟩)
         refine w6 ?_
         unfold sN
         rw[Bool.or_eq_true]
         refine .inr (jY (g:=fun o=>aN n (jW Φ σ o) || aN n (sM σ o)) _ 0 j (by omega) (by omega) cH c7 cM oj bJ ?_)
         rw[g5,mS.2 hn]
         rfl
        ·obtain⟨ty,t,y,g1,g2,g3,g4,g5⟩:=XC e1
         refine .inr (.inr (.inl ⟨ty,t,y,g1,g2,g3,?_⟩))
         cases hx:σ.t t with
         | aF r' j'=>
          show oC Φ ops i L (waits ops i ops.size 0 0) σ r'=true
          refine w6 ?_
          unfold sN
          rw[Bool.or_eq_true]
          refine .inr (jY (g:=fun o=>aN r' (jW Φ σ o) || aN r' (sM σ o)) _ 0 j (by omega) (by omega) cH c7 cM oj bJ ?_)
          rw[g5 r' j' hx,Bool.or_eq_true]
          exact .inr (mS.2 (.head _))
         | ptr k=>exact absurd hx (g4 k)
         | _=>trivial
        ·obtain⟨x,y,t1,t2,g1,g2,g3⟩:=XD e1
         refine .inr (.inr (.inr ⟨x,y,t1,t2,g1,g2,g3,fun r' bx=>⟨?_,?_⟩⟩))
         ·refine w6 ?_
          unfold sN
          rw[Bool.or_eq_true]
          refine .inr (jY (g:=fun o=>aN r' (jW Φ σ o) || aN r' (sM σ o)) _ 0 j (by omega) (by omega) cH c7 cM oj bJ ?_)
          have:sM σ oj=[r']:=by simp only[sM,g1,bx]
          rw[this,Bool.or_eq_true]
          exact .inr (mS.2 (.head _))
         ·unfold qf
          rw[Bool.or_eq_true]
          refine .inr (jY (g:=fun o=>aN r' (C1 σ o)) _ 0 j (by omega) (by omega) cH c7 cM oj bJ ?_)
          have:C1 σ oj=[r']:=by simp only[C1,g1,bx]
          rw[this]
          exact mS.2 (.head _)
       ·have h9:=jY (g:=fun o=>cC o n) ops.size 0 j (by omega) (by omega) cH c7 cM oj bJ hn
        refine⟨?_,?_⟩
        ·refine w6 ?_
         unfold sN
         rw[Bool.or_eq_true]
         exact .inl h9
        ·unfold qf
         rw[Bool.or_eq_true]
         exact .inl h9
    ·cases h
   ·split at h
    ·rename_i i hf
     have hc:=List.find?_some hf
     have hm:=List.mem_of_find?_eq_some hf
     have hi:=w7.1 hm
     split at h
     ·rename_i o ho
      unfold M1 at hc
      rw[ho,Bool.and_eq_true,Bool.and_eq_true,Bool.and_eq_true,Bool.and_eq_true,Bool.and_eq_true]at hc
      obtain⟨⟨⟨⟨⟨c1,c2⟩,c3⟩,c4⟩,c5⟩,c6⟩:=hc
      have nc:=Dt _ _ c3
      have c2:=Nat.eq_of_beq_eq_true c2
      have uB:∀ j,(waits ops i ops.size 0 0).testBit j=true->(L ||| 2 ^ i).testBit j=false:=by
       intro j hj
       have:((L ||| 2 ^ i) &&& waits ops i ops.size 0 0).testBit j=false:=by rw[c2];exact Nat.zero_testBit j
       rw[Nat.testBit_and,hj,Bool.and_true]at this
       exact this
      have nh:∀ j,(waits ops i ops.size 0 0).testBit j=true->L.testBit j=false:=by
       intro j hj
       have:=uB j hj
       rw[mq,Bool.or_eq_false_iff]at this
       exact this.1
      obtain⟨τ,h1,h2⟩:=HH aJ h
      generalize hp:(fun n=>ey (fun o=>wQ o n) ops i L (waits ops i ops.size 0 0) ops.size 0)=p at c4 c5
      have NA:∀ j oj e,ops[j]?=some oj->j≠i->L.testBit j=false->(waits ops i ops.size 0 0).testBit j=false->oj.dst=some e->p e=true:=by
       intro j oj e bJ cH c7 cM hd
       have aW:=(Array.getElem?_eq_some_iff.1 bJ).1
       rw[<-hp]
       exact jY (g:=fun o=>wQ o e) _ 0 j (by omega) (by omega) cH c7 cM oj bJ (by unfold wQ fR;rw[hd];exact Nat.beq_refl e)
      have uz:∀ j oj,ops[j]?=some oj->j≠i->L.testBit j=false->(waits ops i ops.size 0 0).testBit j=false->HC ops i L (waits ops i ops.size 0 0) σ oj=true/\o.apart ops oj=true:=by
       intro j oj bJ cH c7 cM
       have aW:=(Array.getElem?_eq_some_iff.1 bJ).1
       rcases nc j (by omega) (by omega)with e | e | e | e
       ·exact absurd e cH
       ·rw[c7]at e;cases e
       ·rw[cM]at e;cases e.1
       ·exact e.2 oj bJ
      have ld:∀ j oj,ops[j]?=some oj->j≠i->L.testBit j=false->(waits ops i ops.size 0 0).testBit j=false->Nz ops p σ oj:=by
       intro j oj bJ cH c7 cM
       have U:=(uz j oj bJ cH c7 cM).1
       unfold HC at U
       rw[Bool.and_eq_true,Bool.and_eq_true,Bool.and_eq_true]at U
       obtain⟨⟨⟨b1,b2⟩,b3⟩,b4⟩:=U
       have De:∀ t,ey (fR t) ops i L (waits ops i ops.size 0 0) ops.size 0=false->p t=false:=fun t ht=>by rw[<-hp];exact ht
       refine⟨b1,?_,fun y hy=>?_,fun g c t hg ht=>?_⟩
       ·split at b2
        ·rename_i b ig;rw[ig,b2]
        ·cases b2
       ·have:=List.all_eq_true.1 b3 y (by simpa using hy)
        rw[Bool.and_eq_true]at this
        refine⟨this.1,fun t ht=>?_⟩
        have h2:=this.2
        rw[ht]at h2
        exact De t (by simpa using h2)
       ·rw[hg]at b4
        simp only[ht]at b4
        exact De t (by simpa using b4)
      have AP:∀ n,20000<=n->p n=false:=by
       intro n hn
       cases gR:p n with
       | false=>rfl
       | true=>
        rw[<-hp]at gR
        obtain⟨k',lD,kP,Du,XG,XH,Dv⟩:=Nx _ _ gR
        have hm:=(ld k' lD kP Du XG XH).is
        unfold je at hm
        rw[Bool.and_eq_true]at hm
        have hm:=hm.2
        unfold wQ fR at Dv
        split at Dv
        ·rename_i e he
         rw[he]at hm
         have h1:e=n:=Nat.eq_of_beq_eq_true Dv
         subst h1
         exact absurd (Nat.le_of_ble_eq_true hm) (Nat.not_le_of_gt (Nat.lt_succ_of_le hn))
        ·cases Dv
      have hE:τ=(bO P N Φ ops σ o some).getD σ:=by rw[h2];rfl
      refine HT (W:=waits ops i ops.size 0 0) ho (fun j oj bJ hj=>?_) (fun σ=>(bO P N Φ ops σ o some).getD σ)
       (fun L' aa=>((bO P N Φ ops aa o some).isSome=true/\HA aa p o=true/\(jW Φ aa o).all (qh aa p)=true/\qg aa o=true)/\(∀ j,L'.testBit j=false->L.testBit j=false)/\
        ∀ j oj,ops[j]?=some oj->j≠i->L'.testBit j=false->(waits ops i ops.size 0 0).testBit j=false->Nz ops p aa oj)
       (fun L' aa hI=>?_) (fun L' aa j oj dD hI bJ cH c7 cM cr=>?_) f L σ nh hi ⟨⟨by rw[h2];rfl,c4,c5,c6⟩,fun _ h=>h,ld⟩ (by rw[<-hE];exact AU aJ f _ τ k (Ii h1))
      ·have aW:=(Array.getElem?_eq_some_iff.1 bJ).1
       rcases nc j (by omega) (by omega)with e | e | e | e
       ·subst e
        have:=uB j hj
        rw[mq]at this
        simp at this
       ·rw[nh j hj]at e;cases e
       ·exact Ih bJ e.2
       ·rw[hj]at e;cases e.1
      ·obtain⟨z,hz⟩:=Option.isSome_iff_exists.1 hI.1.1
       rw[hz];rfl
      ·obtain⟨⟨i1,i2,i3,i6⟩,i4,i5⟩:=hI
       have ap:=(uz j oj bJ cH (i4 j c7) cM).2
       obtain⟨m1,m2,m3,m4⟩:=i5 j oj bJ cH c7 cM
       obtain⟨a1,a2,a3⟩:=Oper.apart_spec ap
       obtain⟨z,hz⟩:=Option.isSome_iff_exists.1 i1
       have XI:(bO P N Φ ops aa o some).getD aa=z:=by rw[hz];rfl
       have cr:bO P N Φ ops z oj some=some dD:=by rw[<-XI];exact cr
       have NB:∀ t,(aa.t t).cV=true->o.dst≠some t->z.t t=aa.t t:=by
        intro t ht hd
        unfold bO at hz
        split at hz
        ·exact XA aJ c1 i6 hz ht hd
        ·obtain⟨g1,_⟩:=fT hz
         injection g1 with g1
         rw[<-g1]
         cases kO:o.dst with
         | none=>rfl
         | some d=>exact aQ _ _ _ (by rintro rfl;exact hd kO)
        ·cases hz
       have XJ:∀ g c t,oj.guard=some (g,c)->(ops[g]?).bind (·.dst)=some t->(aa.t t).cV=true\/aa.t t = .skip:=by
        intro g c t hg ht
        unfold cW at m2
        rw[hg]at m2
        simp only[ht]at m2
        split at m2
        ·rename_i b U;left;rw[U];rfl
        ·rename_i U;exact .inr U
        ·cases m2
       have XK:∀ g c t,oj.guard=some (g,c)->(ops[g]?).bind (·.dst)=some t->o.dst≠some t:=by
        intro g c t hg ht hd
        refine a1 t hd (List.mem_append_right _ ?_)
        rw[hg]
        simp only[ht]
        simp
       have XL:cW z ops oj=some true:=by
        rw[ql (σ:=aa) fun g c t hg ht=>?_]
        ·exact m2
        ·rcases XJ g c t hg ht with h | h
         ·exact NB t h (XK g c t hg ht)
         ·exfalso
          unfold cW at m2
          rw[hg]at m2
          simp only[ht,h]at m2
          cases m2
       have XM:∀ y∈oj.op.operands,ah z y=ah aa y:=by
        intro y hy
        cases y with
        | tmp t=>
         refine NB t (m3 _ hy).1 fun hd=>?_
         exact a1 t hd (List.mem_append_left _ (List.mem_filterMap.2 ⟨.tmp t,by simpa using hy,rfl⟩))
        | _=>rfl
       obtain⟨e,x,u,hd,he,hx,hu,uy,eR⟩:=AM m1 XL cr
       have uC:=NA j oj e bJ cH (i4 j c7) cM hd
       have NC:=a3 e hd
       have aO:∀ y∈o.op.operands,(ah aa y).nr p=true/\y ≠ .tmp e:=by
        intro y hy
        refine⟨List.all_eq_true.1 i2 y (by simpa using hy),?_⟩
        rintro rfl
        exact NC (List.mem_append_left _ (List.mem_filterMap.2 ⟨.tmp e,by simpa using hy,rfl⟩))
       have kO:o.dst≠some e:=fun h=>a2 e h hd
       have qp:cW (aR e x u aa) ops o=cW aa ops o:=by
        have hw:∃ b,cW aa ops o=some b:=by
         unfold bO at hz
         cases hw:cW aa ops o with
         | none=>rw[hw]at hz;cases hz
         | some b=>exact⟨b,rfl⟩
        obtain⟨b,hw⟩:=hw
        refine ql fun g c t' o3 ND=>?_
        rw[lE,if_neg ?_]
        ·exact A.oE (p:=p) (pb:=p) (HI hw g c t' o3 ND) uC uC
        ·rintro rfl
         refine NC (List.mem_append_right _ ?_)
         rw[o3]
         simp only[ND]
         simp
       have oF:bO P N Φ ops (aR e x u aa) o some=some (aR e x u z):=by
        unfold bO at hz ⊢
        rw[qp]
        split at hz
        ·rename_i hw
         exact Xz aJ hx hu he uC AP c1 i6 kO aO (fun n hn=>List.all_eq_true.1 i3 n hn) hz
        ·rename_i hw
         obtain⟨g1,g2⟩:=fT hz
         injection g1 with g1
         refine((g2 (aR e x u aa)).at_ _).trans ?_
         rw[<-g1,HW kO rfl]
        ·cases hz
       have Ij:∀ y∈o.op.operands,ah (aR e x u aa) y=ah aa y:=fun y hy=>qm (aO y hy).1 uC (aO y hy).2
       have hL:∀ k,(L' ||| 2 ^ j).testBit k=false->L'.testBit k=false/\k≠j:=by
        intro k hk
        rw[mq,Bool.or_eq_false_iff]at hk
        refine⟨hk.1,?_⟩
        rintro rfl
        simp at hk
       refine⟨aR e x u aa,eR aa m2 (fun y hy=>(XM y hy).symm),?_,⟨by rw[oF];rfl,?_,?_,?_⟩,fun k hk=>i4 k (hL k hk).1,fun k lD hk ni nj nq=>?_⟩
       ·rw[uy,oF];rfl
       ·unfold HA
        rw[List.all_eq_true]
        intro y hy
        rw[Ij y (by simpa using hy)]
        exact(aO y (by simpa using hy)).1
       ·have XN:jW Φ (aR e x u aa) o=jW Φ aa o:=by
         unfold jW
         split
         ·rename_i f' args bG nv
          split
          ·refine AL _ _ fun y hy=>Ij y ?_
           rw[nv]
           simp only[Op.operands,Call.operands]
           simp only[Array.mem_append]
           first
            | exact .inr (by simpa using hy)
            | exact .inl (by simpa using hy)
          ·rfl
         ·rfl
        rw[XN,List.all_eq_true]
        intro n hn
        have h3:=List.all_eq_true.1 i3 n hn
        have aA:n≠e:=by
         rintro rfl
         have gR:p n=false:=by
          unfold jW at hn
          split at hn
          ·rename_i f' args bG nv
           split at hn
           ·refine AT _ _ (fun y hy=>(aO y ?_).1) n hn
            rw[nv]
            simp only[Op.operands,Call.operands]
            simp only[Array.mem_append]
            first
             | exact .inr (by simpa using hy)
             | exact .inl (by simpa using hy)
           ·cases hn
          ·cases hn
         rw[uC]at gR;cases gR
        unfold qh at h3 ⊢
        rw[jC,if_neg aA]
        cases hm:aa.m n with
        | none=>rfl
        | some y=>
         cases y with
         | sl=>rfl
         | mp=>rfl
         | gh=>rfl
         | blk cs=>
          rw[hm]at h3
          simp only[Option.map_some,ax.drop,dX.gN h3 uC]
          exact h3
       ·unfold qg at i6 ⊢
        split
        ·rename_i ty t y nv
         rw[nv]at i6
         have e1:(aR e x u aa).t t=aa.t t:=Ij (.tmp t) (by rw[nv];simp[Op.operands])
         rw[e1]
         exact i6
        ·rfl
       ·obtain⟨n1,n2,n3,n4⟩:=i5 k lD hk ni (hL k nj).1 nq
        have XO:∀ t,p t=false->t≠e:=by rintro t ht rfl;rw[uC]at ht;cases ht
        have NF:∀ t,(aa.t t).cV=true->p t=false->(aR e x u aa).t t=aa.t t:=by
         intro t ht XP
         rw[lE,if_neg (XO t XP)]
         exact A.Ds ht e
        refine⟨n1,?_,fun y hy=>?_,n4⟩
        ·rw[ql (σ:=aa) fun g c t hg ht=>?_]
         ·exact n2
         ·unfold cW at n2
          rw[hg]at n2
          simp only[ht]at n2
          split at n2
          ·rename_i b U
           exact NF t (by rw[U];rfl) (n4 g c t hg ht)
          ·rename_i U;cases n2
          ·cases n2
        ·refine⟨?_,(n3 y hy).2⟩
         cases y with
         | tmp t=>
          show ((aR e x u aa).t t).cV=true
          rw[NF t (n3 _ hy).1 ((n3 _ hy).2 t rfl)]
          exact(n3 _ hy).1
         | const v=>exact(n3 _ hy).1
         | global g=>exact(n3 _ hy).1
         | func f=>exact(n3 _ hy).1
     ·cases h
    ·cases h
theorem w8{b:Bool}(h:cW σ ops o=some b)(hR:Rl w0 N lab ρ σ a w):Region.wanted o (yielded ops a.tmps)=b:=by
 unfold cW at h
 split at h
 ·rename_i hg
  injection h with h
  subst h
  simp[Region.wanted,hg]
 ·rename_i j want hg
  split at h
  ·rename_i t ht
   have w9:=hR.tmp t
   rw[Array.getD_eq_getD_getElem?]at w9
   split at h
   ·rename_i c hc
    rw[hc]at w9
    have hv:=w9.2.rR
    injection h with h
    subst h
    cases hx:a.tmps[t]? with
    | none=>rw[hx]at hv;cases hv
    | some v=>
     rw[hx]at hv
     have hv:v = .bool c:=hv
     subst hv
     simp only[Region.wanted,hg,yielded,ht,Option.bind_some,hx]
     cases c <;>cases want <;>rfl
   ·rename_i hc
    rw[hc]at w9
    injection h with h
    subst h
    cases hx:a.tmps[t]? with
    | none=>simp[Region.wanted,hg,yielded,ht,hx]
    | some v=>
     rw[hx]at w9
     have hv:v=undef:=w9
     subst hv
     simp only[Region.wanted,hg,yielded,ht,Option.bind_some,hx,undef]
     cases want <;>rfl
   ·cases h
  ·cases h
structure nw (ops:Array Oper) (listed:Array Bool) (L:Nat):Prop where
 size:listed.size=ops.size
 bit:∀ j,j<ops.size->listed[j]?=some (L.testBit j)
 out:∀ j,ops.size<=j->L.testBit j=false
theorem nw.NG{listed:Array Bool}{L:Nat}(h:nw ops listed L)(j:Nat):listed.getD j false=L.testBit j:=by
 rw[Array.getD_eq_getD_getElem?]
 by_cases hj:j<ops.size
 ·rw[h.bit j hj];rfl
 ·rw[h.out j (by omega),Array.getElem?_eq_none (by rw[h.size];omega)];rfl
theorem nw.ready{listed:Array Bool}{L:Nat}(h:nw ops listed L)(j:Nat):j∈Region.ready .any ops listed ↔ gO ops L j=true:=by
 rw[mem_ready,AO]
 constructor
 ·rintro⟨h0,o,ho,eR⟩
  have hj:=(Array.getElem?_eq_some_iff.1 ho).1
  rw[Array.getD_eq_getD_getElem?,h.bit j hj]at h0
  exact⟨h0,o,ho,fun e he U=>by rw[<-h.NG];exact eR e he U⟩
 ·rintro⟨h0,o,ho,eR⟩
  have hj:=(Array.getElem?_eq_some_iff.1 ho).1
  exact⟨by rw[Array.getD_eq_getD_getElem?,h.bit j hj];exact h0,o,ho,fun e he U=>by rw[h.NG];exact eR e he U⟩
theorem nw.set{listed:Array Bool}{L i:Nat}(h:nw ops listed L)(hi:i<ops.size):nw ops (listed.setIfInBounds i true) (L ||| 2 ^ i):=by
 refine⟨by simp[h.size],fun j hj=>?_,fun j hj=>?_⟩
 ·rw[mq]
  by_cases Aj:i=j
  ·subst Aj
   rw[Array.getElem?_setIfInBounds_self_of_lt (by rw[h.size];exact hi)]
   simp
  ·rw[Array.getElem?_setIfInBounds_ne Aj,h.bit j hj]
   simp[Aj]
 ·rw[mq,h.out j hj]
  have:i≠j:=by omega
  simpa using this
theorem nw.start:nw ops (Array.replicate ops.size false) 0:=
 ⟨by simp,fun j hj=>by simp[hj],fun j _=>Nat.zero_testBit j⟩
theorem XQ(aJ:dB P Φ){k:S->Option X}{i:Nat}(hi:ops[i]?=some o)(h:bO P N Φ ops σ o k=some r):∃ τ,k τ=some r/\∀ a w (K:Act->World->Prop) (Q:Exit->Act->World->Prop),R w0 N σ a w->(∀ a' w',R w0 N τ a' w'->K a' w')->wpOp P ops Q i K a w:=by
 unfold bO at h
 split at h
 ·rename_i hw
  obtain⟨τ,h1,cU⟩:=C5 (w0:=w0) aJ h
  refine⟨τ,h1,fun a w K Q hR hK=>?_⟩
  obtain⟨lab,ρ,aB⟩:=hR
  unfold wpOp
  rw[hi]
  simp only[w8 hw aB,if_true]
  exact .inl (cU a w K Q ⟨lab,ρ,aB⟩ hK)
 ·rename_i hw
  unfold eT at h
  split at h
  ·rename_i hd
   refine⟨σ,h,fun a w K Q hR hK=>?_⟩
   obtain⟨lab,ρ,aB⟩:=hR
   unfold wpOp
   rw[hi]
   simp only[w8 hw aB,hd]
   exact hK _ _ ⟨lab,ρ,aB⟩
  ·rename_i d hd
   cases hN:Nat.blt d N with
   | false=>rw[hN]at h;cases h
   | true=>
    rw[hN,cond_true]at h
    refine⟨_,h,fun a w K Q hR hK=>?_⟩
    obtain⟨lab,ρ,aB⟩:=hR
    unfold wpOp
    rw[hi]
    simp only[w8 hw aB,hd]
    exact hK _ _ ⟨lab,ρ,aB.set rfl (by have:=Nat.le_of_ble_eq_true hN;omega)⟩
 ·cases h
theorem NH(aJ:dB P Φ){K:S->Prop}{Q:Exit->Act->World->Prop}(hQ:∀ τ,K τ->∀ a w,R w0 N τ a w->Q .normal a w):
  ∀ (f L:Nat) (σ:S) (listed:Array Bool),Any P N Φ ops K f L σ->nw ops listed L->∀ a w,R w0 N σ a w->wpAny P .any ops Q f listed a w
 | 0,L,σ,listed,h,hs,a,w,hR=>by
  refine⟨List.eq_nil_iff_forall_not_mem.2 fun j hj=>?_,hQ σ h.2 a w hR⟩
  rw[hs.ready,h.1 j]at hj
  cases hj
 | f+1,L,σ,listed,h,hs,a,w,hR=>by
  refine⟨fun hr=>hQ σ (h.1 fun j=>?_) a w hR,fun j hj=>?_⟩
  ·cases hj:gO ops L j with
   | false=>rfl
   | true=>
    have:=(hs.ready j).2 hj
    rw[hr]at this
    cases this
  ·have kB:=(hs.ready j).1 hj
   obtain⟨o,τ,ho,hd,hA⟩:=h.2 j kB
   obtain⟨dD,h1,hw⟩:=XQ (w0:=w0) aJ ho hd
   injection h1 with h1
   subst h1
   exact hw a w _ Q hR fun a' w' aB=>NH aJ hQ f (L ||| 2 ^ j) _ _ hA (hs.set (Ny kB)) a' w' aB
theorem R.drawn(hR:R w0 N σ a w):R w0 N σ a { w with drawn:=w.drawn+1 }:=by
 obtain⟨lab,ρ,h⟩:=hR
 exact⟨lab,ρ,h.grow ⟨rfl,rfl,rfl,Nat.le_refl _,fun _ _=>rfl⟩ (fun _ _=>rfl) (fun b k U hl=>absurd (h.bh b k hl).2.1 (Nat.not_lt.2 U))⟩
end
end Go.Proofs.YtjldnlbiefpekaaDoor
