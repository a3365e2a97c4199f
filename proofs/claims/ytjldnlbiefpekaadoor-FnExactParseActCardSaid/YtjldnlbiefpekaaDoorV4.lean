/-
  Running the program over pure contents, and that it follows (part 4). Nothing here is a claim.
-/
import Derived.Test.YtjldnlbiefpekaaDoorV3
set_option linter.unusedSimpArgs false
namespace Go.Proofs.YtjldnlbiefpekaaDoor
open Go.RowKit
set_option linter.unusedVariables false
section
variable {P:Program} {w w':World} {w0:Wd} {B N:Nat} {lab af:aG} {ρ ρ':Nat->Loc} {σ:S} {a:Act} {X:Type} {d:Nat} {r:X} {o:Oper} {Φ:b5}
/-! What an operation gives hangs on its operands and on the roots alone. -/
theorem vF{σ2:S}(hm:σ2.m=σ.m)(x:Lf)(k:V->Option X):dP σ2 x k=dP σ x k:=by
 cases x <;>simp only[dP,hm]
theorem UU{σ2:S}(hm:σ2.m=σ.m)(t:TypeId)(x:A)(k:A->Option X):eF P σ2 t x k=eF P σ t x k:=by
 simp only[eF,hm]
theorem UW{σ2:S}(hm:σ2.m=σ.m)(t:TypeId)(x i:A)(k:A->Option X):jv P σ2 t x i k=jv P σ t x i k:=by
 simp only[jv,hm]
theorem LB{σ2:S}(hm:σ2.m=σ.m)(q:List Nat)(s i j:Nat)(k:V->Option X):lJ σ2 q s i j k=lJ σ q s i j k:=by
 simp only[lJ,hm]
theorem UX{σ2:S}(hm:σ2.m=σ.m)(x:A)(k:V->Option X):jT σ2 x k=jT σ x k:=by
 cases x <;>simp only[jT,vF hm,LB hm]
theorem UY{σ2:S}(hm:σ2.m=σ.m)(t:TypeId)(x:A)(lo hi:Option A)(k:A->Option X):jY P σ2 t x lo hi k=jY P σ t x lo hi k:=by
 unfold jY
 split
 ·simp only[q8,hm]
 ·rfl
theorem UZ{σ2:S}(hm:σ2.m=σ.m)(t t':TypeId)(x:A)(k:A->Option X):jc P σ2 t t' x k=jc P σ t t' x k:=by
 unfold jc
 split <;>simp only[vF hm]
theorem U0{σ2:S}(hm:σ2.m=σ.m)(t:TypeId)(x:A)(k:A->Option X):gY P σ2 t x k=gY P σ t x k:=by
 cases x <;>simp only[gY,vF hm]
theorem U1{σ2:S}(hm:σ2.m=σ.m)(op:BinOp)(t:TypeId)(x y:A)(k:A->Option X):gb P σ2 op t x y k=gb P σ op t x y k:=by
 simp only[gb,vF hm]
theorem BZ{σ2:S}{op:BinOp}{t:TypeId}{x y:A}{k:A->Option X}(h:∀ l,x = .lf l->∀ (k:V->Option X),dP σ2 l k=dP σ l k):gb P σ2 op t x y k=gb P σ op t x y k:=by
 unfold gb
 split
 ·rfl
 ·split
  ·exact h _ rfl _
  ·rfl
 ·rfl
theorem U2{σ2:S}(t:TypeId)(parts:List (Nat×Operand))(h:∀ p∈parts,ah σ2 p.2=ah σ p.2)(k:A->Option X):nq P σ2 t parts k=nq P σ t parts k:=by
 have e:(parts.map fun p=>(p.1,ah σ2 p.2))=parts.map fun p=>(p.1,ah σ p.2):=List.map_congr_left fun p hp=>by rw[h p hp]
 simp only[nq,e]
theorem LC{σ2:S}(hm:σ2.m=σ.m):∀ (xs:List Lf) (k:List V->Option X),iO σ2 xs k=iO σ xs k
 | [],k=>rfl
 | x :: xs,k=>by
  simp only[iO,vF hm]
  congr 1
  funext y
  exact LC hm xs _
theorem U3{σ2:S}(hm:σ2.m=σ.m)(x:A)(k:Pt->Option X):gZ σ2 x k=gZ σ x k:=by
 unfold gZ
 simp only[LC hm,LB hm,hm]
theorem LD{σ2:S}(hm:σ2.m=σ.m):∀ (xs:List Operand) (k:List Pt->Option X),(∀ x∈xs,ah σ2 x=ah σ x)->fo σ2 xs k=fo σ xs k
 | [],k,_=>rfl
 | x :: xs,k,h=>by
  simp only[fo,U3 hm,h x (.head _)]
  congr 1
  funext p
  exact LD hm xs _ (fun y hy=>h y (.tail _ hy))
theorem vG{σ2:S}(op:Op)(hm:σ2.m=σ.m)(h:∀ x∈op.operands,ah σ2 x=ah σ x)(k:A->Option X):aX P σ2 op k=aX P σ op k:=by
 unfold aX
 split
 ·rw[h _ (by simp[Op.operands])]
 ·rw[h _ (by simp[Op.operands])]
 ·rename_i c x y;rw[h c (by simp[Op.operands]),h x (by simp[Op.operands]),h y (by simp[Op.operands])]
 ·rename_i t parts
  exact U2 t _ (fun p hp=>h p.2 (by simp only[Op.operands];exact List.mem_toArray.2 (List.mem_map_of_mem (f:=(·.2)) hp))) k
 ·rename_i t x;rw[h x (by simp[Op.operands]),UU hm]
 ·rename_i op t x y yt;rw[h x (by simp[Op.operands]),h y (by simp[Op.operands]),U1 hm]
 ·rename_i op t x;rw[h x (by simp[Op.operands])]
 ·rename_i s d x;rw[h x (by simp[Op.operands]),UZ hm]
 ·rename_i s x f;rw[h x (by simp[Op.operands])]
 ·rename_i s x f;rw[h x (by simp[Op.operands])]
 ·rename_i t x i;rw[h x (by simp[Op.operands]),h i (by simp[Op.operands]),UW hm]
 ·rename_i t x i;rw[h x (by simp[Op.operands]),h i (by simp[Op.operands])]
 ·rename_i x i;rw[h x (by simp[Op.operands])]
 ·rename_i x;rw[h x (by simp[Op.operands])]
 ·rename_i x t;rw[h x (by simp[Op.operands,Call.operands]),U0 hm]
 ·rename_i x y t t';rw[h x (by simp[Op.operands,Call.operands]),h y (by simp[Op.operands,Call.operands])]
 ·rename_i x y t t';rw[h x (by simp[Op.operands,Call.operands]),h y (by simp[Op.operands,Call.operands])]
 ·rename_i t x lo hi
  have e:∀ z:Option Operand,(∀ y,z=some y->ah σ2 y=ah σ y)->z.map (ah σ2)=z.map (ah σ):=by
   intro z hz
   cases z with
   | none=>rfl
   | some z=>exact congrArg some (hz z rfl)
  rw[h x (by simp[Op.operands]),e lo (fun y hy=>h y (by subst hy;simp[Op.operands])),e hi (fun y hy=>h y (by subst hy;simp[Op.operands])),UY hm]
 ·rfl
/-! .. and a root that it does not name is of no account. -/
def B0(n:Nat)(x:au)(m:Nat->Option au):Nat->Option au:=aH (fun r=>bif Nat.beq r n then none else (m r).map (au.drop n)) n (some x)
theorem LF{n:Nat}{x:au}{m:Nat->Option au}{q:Nat}(h:q≠n):B0 n x m q=(m q).map (au.drop n):=by
 have U:Nat.beq q n=false:=by
  cases U:Nat.beq q n with
  | false=>rfl
  | true=>exact absurd (Nat.eq_of_beq_eq_true U) h
 unfold B0
 rw[aQ _ _ _ h,U]
 rfl
theorem rW{n:Nat}{x:au}{m:Nat->Option au}:∀ (q:List Nat) (k:V->Option X),aD n q=false->c7 (B0 n x m) q k=c7 m q k
 | [],_,_=>rfl
 | [y],k,h=>by
  have hy:y≠n:=by rintro rfl;simp[aD]at h
  simp only[c7,LF hy]
  cases m y with
  | none=>rfl
  | some z=>cases z <;>rfl
 | [_,_],_,_=>rfl
 | [j,i,s],k,h=>rfl
 | j :: i :: s :: q0 :: q,k,h=>by
  have h':aD n (q0 :: q)=false:=by simpa [aD]using h
  simp only[c7]
  exact rW (q0 :: q) _ h'
theorem U4{n:Nat}{t:TypeId}{cs:List Lf}{y:A}(h:aS (fun X k=>fF (X:=X) P t cs k) y):aS (fun X k=>fF (X:=X) P t (cs.map (Lf.drop n)) k) (y.drop n):=by
 have h1:=h.at_ (X:=A) (fun z=>some z)
 unfold fF at h1
 split at h1
 ·rename_i sz hsz
  split at h1
  ·rename_i hl
   split at h1
   ·rename_i hr
    injection h1 with h1
    subst h1
    intro X k
    simp only[fF,hsz,List.length_map,if_pos hl,hr]
    rfl
   ·rename_i hr
    split at h1
    ·rename_i z
     injection h1 with h1
     subst h1
     intro X k
     simp only[List.length_singleton]at hl
     simp only[fF,hsz,List.map_cons,List.map_nil,List.length_singleton,if_pos hl,hr]
     rfl
    ·cases h1
   ·cases h1
  ·cases h1
 ·cases h1
theorem A.nS{p pb:Nat->Bool}{x:A}{n:Nat}(h:x.fK p pb=true)(hn:p n=true)(U:pb n=true):x.drop n=x:=by
 cases x with
 | lf x=>exact congrArg A.lf (Lf.gG h hn)
 | agg cs=>exact congrArg A.agg (dM.gG h hn)
 | aU xs=>exact A.gG (x:=.aU xs) (p:=p) h hn
 | ptr k=>exact A.gG (x:=.ptr k) (p:=p) h hn
 | view k s i j=>exact A.gG (x:=.view k s i j) (p:=p) h hn
 | pk r j=>exact A.gG (x:=.pk r j) (p:=pb) h U
 | aE r j=>exact A.gG (x:=.aE r j) (p:=pb) h U
 | fn f cap=>exact A.gG (x:=.fn f cap) (p:=pb) h U
 | _=>rfl
theorem U5{p pb:Nat->Bool}{r j n:Nat}(h:(A.aE r j).fK p pb=true)(hn:pb n=true):r≠n:=by
 rintro rfl
 have h:(!pb r)=true:=h
 rw[hn]at h
 cases h
theorem U6{p:Nat->Bool}{r j n:Nat}(h:(A.aE r j).nr p=true)(hn:p n=true):r≠n:=by
 rintro rfl
 have h:(!p r)=true:=h
 rw[hn]at h
 cases h
theorem U7{p pb:Nat->Bool}{n:Nat}{x:au}{op:Op}{v:A}(h:aS (fun X k=>aX (X:=X) P σ op k) v)(hn:p n=true)(s5:pb n=true)(aO:∀ y∈op.operands,(ah σ y).fK p pb=true)(hv:v.fK p pb=true):
  aS (fun X k=>aX (X:=X) P ((σ.drop n).root n x) op k) v:=by
 have ho:∀ y∈op.operands,ah ((σ.drop n).root n x) y=ah σ y:=by
  intro y hy
  have:=A.nS (aO y hy) hn s5
  cases y with
  | tmp t=>exact this
  | const v=>rfl
  | global g=>rfl
  | func f=>rfl
 have hm:((σ.drop n).root n x).m=B0 n x σ.m:=rfl
 have F8:=A.nS hv hn s5
 have qf:∀ y∈op.operands,ah ⟨((σ.drop n).root n x).t,σ.m⟩ y=ah σ y:=by
  intro y hy
  rw[<-ho y hy]
  cases y <;>rfl
 -- an operation that does not look at the roots
 have zq:(∀ (X:Type) (k:A->Option X),aX P ⟨((σ.drop n).root n x).t,σ.m⟩ op k=aX P ((σ.drop n).root n x) op k)->aS (fun X k=>aX (X:=X) P ((σ.drop n).root n x) op k) v:=by
  intro he X k
  exact(he X k).symm.trans ((vG (σ:=σ) (σ2:=⟨((σ.drop n).root n x).t,σ.m⟩) op rfl qf k).trans (h.at_ k))
 have h0:=h.at_ (X:=A) (fun z=>some z)
 unfold aX at h0
 split at h0
 case h_5 t y=>
  intro X k
  have hy:=aO y (by simp[Op.operands])
  have dc:=ho y (by simp[Op.operands])
  simp only[aX]
  rw[dc]
  generalize ah σ y=u at h0 hy
  have hd:aS (fun X k=>eF (X:=X) P σ t u k) v:=by
   obtain⟨y',h1,h2⟩:=yW h0
   injection h1 with h1
   subst h1
   exact h2
  unfold eF at h0 ⊢
  split at h0
  ·cases h0
  ·rename_i sz hsz
   split at h0
   ·rename_i r' j
    split at h0
    ·rename_i cs bU
     obtain⟨y',h1,h2⟩:=o7 h0
     injection h1 with h1
     subst h1
     have h3:=U4 (n:=n) h2
     rw[F8]at h3
     rw[hm,LF (U5 hy s5),bU]
     simp only[Option.map_some,au.drop]
     rw[<-List.map_drop,<-List.map_take]
     exact h3.at_ k
    ·cases h0
   ·obtain⟨y',h1,h2⟩:=o7 h0
    injection h1 with h1
    subst h1
    exact h2.at_ k
   ·rename_i j i s q
    have hq:aD n q=false:=by
     have hk:cg p (j :: i :: s :: q)=true:=hy
     have:=mw hk hn
     cases q with
     | nil=>
      obtain⟨z,_,hg,_⟩:=lT _ _ h0
      cases hg
     | cons q0 q=>simpa [aD]using this
    rw[hm,rW q _ hq]
    have h3:=hd.at_ k
    unfold eF at h3
    rw[hsz]at h3
    exact h3
   ·cases h0
 case h_6 op t x y yt=>
  intro X k
  have hx:=aO x (by simp[Op.operands])
  have zu:=ho x (by simp[Op.operands])
  have dc:=ho y (by simp[Op.operands])
  have h1:=h.at_ k
  simp only[aX]at h1 ⊢
  rw[zu,dc,<-h1]
  generalize ah σ x=u at hx
  refine BZ fun l e k=>?_
  subst e
  cases l with
  | own q=>
   have hk:cg p q=true:=hx
   simp only[dP]
   rw[hm,rW q _ (mw hk hn)]
  | v z=>rfl
  | dead=>rfl
 case h_11 t y i=>
  intro X k
  have hy:=aO y (by simp[Op.operands])
  have dc:=ho y (by simp[Op.operands])
  have zw:=ho i (by simp[Op.operands])
  have h1:=h.at_ k
  simp only[aX]at h1 ⊢
  rw[dc,zw,<-h1]
  generalize ah σ y=u at hy
  unfold jv
  split
  ·rfl
  ·split
   ·split
    ·rfl
    ·rename_i q
     have hk:cg p q=true:=hy
     rw[hm,rW q _ (mw hk hn)]
    ·rfl
   ·rfl
 case h_8 t t2 y=>
  intro X k
  have hy:=aO y (by simp[Op.operands])
  have dc:=ho y (by simp[Op.operands])
  have h1:=h.at_ k
  simp only[aX]at h1 ⊢
  rw[dc,<-h1]
  generalize ah σ y=u at hy
  unfold jc
  split
  ·rfl
  ·rename_i z _
   cases z with
   | own q=>
    have hk:cg p q=true:=hy
    simp only[dP]
    rw[hm,rW q _ (mw hk hn)]
   | v z=>rfl
   | dead=>rfl
  ·rfl
 case h_15 y t=>
  intro X k
  have hy:=aO y (by simp[Op.operands,Call.operands])
  have dc:=ho y (by simp[Op.operands,Call.operands])
  have h1:=h.at_ k
  simp only[aX]at h1 ⊢
  rw[dc,<-h1]
  generalize ah σ y=u at hy
  unfold gY
  split
  ·rename_i z
   cases z with
   | own q=>
    have hk:cg p q=true:=hy
    simp only[dP]
    rw[hm,rW q _ (mw hk hn)]
   | v z=>rfl
   | dead=>rfl
  ·rfl
  ·rfl
 case h_18 t y lo hi=>
  intro X k
  have hy:=aO y (by simp[Op.operands])
  have dc:=ho y (by simp[Op.operands])
  have e:∀ z:Option Operand,(∀ y,z=some y->ah ((σ.drop n).root n x) y=ah σ y)->z.map (ah ((σ.drop n).root n x))=z.map (ah σ):=by
   intro z hz
   cases z with
   | none=>rfl
   | some z=>exact congrArg some (hz z rfl)
  have h1:=h.at_ k
  simp only[aX]at h1 ⊢
  rw[dc,e lo (fun y hy=>ho y (by subst hy;simp[Op.operands])),e hi (fun y hy=>ho y (by subst hy;simp[Op.operands])),<-h1]
  generalize ah σ y=u at hy
  unfold jY
  split
  ·rename_i q
   have hk:cg p q=true:=hy
   unfold q8
   split
   ·split
    ·rw[hm,rW q _ (mw hk hn)]
    ·rfl
   ·rfl
  ·rfl
 case h_19=>cases h0
 all_goals exact zq fun X k=>rfl
/-! .. nor are roots that a call writes. -/
def B1(ns:List Nat)(nr:List (Nat×au))(m:Nat->Option au):Nat->Option au:=fun r=>match nr.lookup r with
 | some x=>some x
 | none=>bif aM r ns || aM r []then none else (m r).map (au.aF ns [])
structure zx (p:Nat->Bool) (ns:List Nat) (nr:List (Nat×au)):Prop where
 ns:∀ n,aM n ns=true->p n=true
 nr:∀ n x,nr.lookup n=some x->p n=true
theorem LG{p:Nat->Bool}{ns:List Nat}{nr:List (Nat×au)}{m:Nat->Option au}(U:zx p ns nr){q:Nat}(h:p q=false):B1 ns nr m q=(m q).map (au.aF ns []):=by
 unfold B1
 cases h1:nr.lookup q with
 | some x=>rw[U.nr q x h1]at h;cases h
 | none=>
  cases h2:aM q ns with
  | true=>rw[U.ns q h2]at h;cases h
  | false=>rfl
theorem F9{p:Nat->Bool}{ns:List Nat}{k:List Nat}(h:cg p k=true)(U:∀ n,aM n ns=true->p n=true):aT k ns=false:=by
 unfold cg at h
 unfold aT
 cases hr:k.getLast? with
 | none=>rfl
 | some r=>
  rw[hr]at h
  have h:(!p r)=true:=h
  show aM r ns=false
  cases h2:aM r ns with
  | false=>rfl
  | true=>rw[U r h2]at h;cases h
theorem Ga(k:List Nat):aT k []=false:=by
 unfold aT
 split <;>rfl
theorem Lf.mC{p:Nat->Bool}{x:Lf}{ns:List Nat}(h:x.nr p=true)(U:∀ n,aM n ns=true->p n=true):x.aF ns []=x:=by
 cases x with
 | own k=>
  have e:Lf.aF ns [] (.own k)=(bif aT k [] || (aT k ns && !(Nat.beq k.length 1))then .dead else .own k):=rfl
  rw[e,F9 h U,Ga]
  rfl
 | v x=>rfl
 | dead=>rfl
theorem dM.mC{p:Nat->Bool}{xs:List Lf}{ns:List Nat}(h:xs.all (Lf.nr p)=true)(U:∀ n,aM n ns=true->p n=true):xs.map (Lf.aF ns [])=xs:=by
 conv=>rhs;rw[<-List.map_id xs]
 exact List.map_congr_left fun x hx=>Lf.mC (List.all_eq_true.1 h x hx) U
theorem A.mC{p:Nat->Bool}{x:A}{ns:List Nat}(h:x.nr p=true)(U:∀ n,aM n ns=true->p n=true):x.aF ns []=x:=by
 cases x with
 | lf x=>exact congrArg A.lf (Lf.mC h U)
 | agg cs=>exact congrArg A.agg (dM.mC h U)
 | aU xs=>
  refine congrArg A.aU ?_
  conv=>rhs;rw[<-List.map_id xs]
  refine List.map_congr_left fun q hq=>?_
  have:=dM.mC (List.all_eq_true.1 h q hq) U
  simp only[id]
  rw[this]
 | ptr k=>
  have e:A.aF ns [] (.ptr k)=(bif aT k [] || aT k ns then .undef else .ptr k):=rfl
  rw[e,F9 h U,Ga];rfl
 | view k s i j=>
  have e:A.aF ns [] (.view k s i j)=(bif aT k [] || aT k ns then .undef else .view k s i j):=rfl
  rw[e,F9 h U,Ga];rfl
 | pk r j=>rfl
 | aE r j=>rfl
 | fn f cap=>
  have e:A.aF ns [] (.fn f cap)=(bif cap.any (fun p=>aM p.1 [])then .undef else .fn f cap):=rfl
  have:cap.any (fun p=>aM p.1 [])=false:=by
   rw[List.any_eq_false]
   intro q hq U
   cases U
  rw[e,this];rfl
 | _=>rfl
theorem A.vH{p pb:Nat->Bool}{x:A}{ns:List Nat}(h:x.fK p pb=true)(U:∀ n,aM n ns=true->p n=true):x.aF ns []=x:=by
 cases x with
 | lf x=>exact A.mC (x:=.lf x) (p:=p) h U
 | agg cs=>exact A.mC (x:=.agg cs) (p:=p) h U
 | aU xs=>exact A.mC (x:=.aU xs) (p:=p) h U
 | ptr k=>exact A.mC (x:=.ptr k) (p:=p) h U
 | view k s i j=>exact A.mC (x:=.view k s i j) (p:=p) h U
 | pk r j=>rfl
 | aE r j=>rfl
 | fn f cap=>
  have e:A.aF ns [] (.fn f cap)=(bif cap.any (fun p=>aM p.1 [])then .undef else .fn f cap):=rfl
  have:cap.any (fun p=>aM p.1 [])=false:=by
   rw[List.any_eq_false]
   intro q hq U
   cases U
  rw[e,this];rfl
 | _=>rfl
theorem tB{p:Nat->Bool}{ns:List Nat}{nr:List (Nat×au)}{m:Nat->Option au}(U:zx p ns nr):∀ (q:List Nat) (k:V->Option X),cg p q=true->c7 (B1 ns nr m) q k=c7 m q k
 | [],_,_=>rfl
 | [y],k,h=>by
  have hy:p y=false:=by simpa [cg]using h
  simp only[c7,LG U hy]
  cases m y with
  | none=>rfl
  | some z=>cases z <;>rfl
 | [_,_],_,_=>rfl
 | [j,i,s],k,h=>rfl
 | j :: i :: s :: q0 :: q,k,h=>by
  have h':cg p (q0 :: q)=true:=by simpa [cg,List.getLast?_cons_cons]using h
  simp only[c7]
  exact tB U (q0 :: q) _ h'
theorem U8{ns:List Nat}{t:TypeId}{cs:List Lf}{y:A}(h:aS (fun X k=>fF (X:=X) P t cs k) y):aS (fun X k=>fF (X:=X) P t (cs.map (Lf.aF ns [])) k) (y.aF ns []):=by
 have h1:=h.at_ (X:=A) (fun z=>some z)
 unfold fF at h1
 split at h1
 ·rename_i sz hsz
  split at h1
  ·rename_i hl
   split at h1
   ·rename_i hr
    injection h1 with h1
    subst h1
    intro X k
    simp only[fF,hsz,List.length_map,if_pos hl,hr]
    rfl
   ·rename_i hr
    split at h1
    ·rename_i z
     injection h1 with h1
     subst h1
     intro X k
     simp only[List.length_singleton]at hl
     simp only[fF,hsz,List.map_cons,List.map_nil,List.length_singleton,if_pos hl,hr]
     rfl
    ·cases h1
   ·cases h1
  ·cases h1
 ·cases h1
theorem U9{p pb:Nat->Bool}{ns:List Nat}{nr:List (Nat×au)}{op:Op}{v:A}(h:aS (fun X k=>aX (X:=X) P σ op k) v)(U:zx p ns nr)(aO:∀ y∈op.operands,(ah σ y).fK p pb=true)(hv:v.fK p pb=true)(kP:∀ t y r j,op = .load t y->ah σ y = .aE r j->p r=false):
  aS (fun X k=>aX (X:=X) P (σ.aF ns [] nr) op k) v:=by
 have ho:∀ y∈op.operands,ah (σ.aF ns [] nr) y=ah σ y:=by
  intro y hy
  have:=A.vH (aO y hy) U.ns
  cases y with
  | tmp t=>exact this
  | const v=>rfl
  | global g=>rfl
  | func f=>rfl
 have hm:(σ.aF ns [] nr).m=B1 ns nr σ.m:=rfl
 have F8:=A.vH hv U.ns
 have qf:∀ y∈op.operands,ah ⟨(σ.aF ns [] nr).t,σ.m⟩ y=ah σ y:=by
  intro y hy
  rw[<-ho y hy]
  cases y <;>rfl
 have zq:(∀ (X:Type) (k:A->Option X),aX P ⟨(σ.aF ns [] nr).t,σ.m⟩ op k=aX P (σ.aF ns [] nr) op k)->aS (fun X k=>aX (X:=X) P (σ.aF ns [] nr) op k) v:=by
  intro he X k
  exact(he X k).symm.trans ((vG (σ:=σ) (σ2:=⟨(σ.aF ns [] nr).t,σ.m⟩) op rfl qf k).trans (h.at_ k))
 have h0:=h.at_ (X:=A) (fun z=>some z)
 unfold aX at h0
 split at h0
 case h_5 t y=>
  intro X k
  have hy:=aO y (by simp[Op.operands])
  have dc:=ho y (by simp[Op.operands])
  simp only[aX]
  rw[dc]
  have kP:=fun r j e=>kP t y r j rfl e
  generalize ah σ y=u at h0 hy kP
  have hd:aS (fun X k=>eF (X:=X) P σ t u k) v:=by
   obtain⟨y',h1,h2⟩:=yW h0
   injection h1 with h1
   subst h1
   exact h2
  unfold eF at h0 ⊢
  split at h0
  ·cases h0
  ·rename_i sz hsz
   split at h0
   ·rename_i r' j
    split at h0
    ·rename_i cs bU
     obtain⟨y',h1,h2⟩:=o7 h0
     injection h1 with h1
     subst h1
     have h3:=U8 (ns:=ns) h2
     rw[F8]at h3
     have hp:p r'=false:=kP r' _ rfl
     rw[hm,LG U hp,bU]
     simp only[Option.map_some,au.aF]
     rw[<-List.map_drop,<-List.map_take]
     exact h3.at_ k
    ·cases h0
   ·obtain⟨y',h1,h2⟩:=o7 h0
    injection h1 with h1
    subst h1
    exact h2.at_ k
   ·rename_i j i s q
    have hq:cg p q=true:=by
     have hk:cg p (j :: i :: s :: q)=true:=hy
     cases q with
     | nil=>
      obtain⟨z,_,hg,_⟩:=lT _ _ h0
      cases hg
     | cons q0 q=>simpa [cg,List.getLast?_cons_cons]using hk
    rw[hm,tB U q _ hq]
    have h3:=hd.at_ k
    unfold eF at h3
    rw[hsz]at h3
    exact h3
   ·cases h0
 case h_6 op t x y yt=>
  intro X k
  have hx:=aO x (by simp[Op.operands])
  have zu:=ho x (by simp[Op.operands])
  have dc:=ho y (by simp[Op.operands])
  have h1:=h.at_ k
  simp only[aX]at h1 ⊢
  rw[zu,dc,<-h1]
  generalize ah σ x=u at hx
  refine BZ fun l e k=>?_
  subst e
  cases l with
  | own q=>
   have hk:cg p q=true:=hx
   simp only[dP]
   rw[hm,tB U q _ hk]
  | v z=>rfl
  | dead=>rfl
 case h_11 t y i=>
  intro X k
  have hy:=aO y (by simp[Op.operands])
  have dc:=ho y (by simp[Op.operands])
  have zw:=ho i (by simp[Op.operands])
  have h1:=h.at_ k
  simp only[aX]at h1 ⊢
  rw[dc,zw,<-h1]
  generalize ah σ y=u at hy
  unfold jv
  split
  ·rfl
  ·split
   ·split
    ·rfl
    ·rename_i q
     have hk:cg p q=true:=hy
     rw[hm,tB U q _ hk]
    ·rfl
   ·rfl
 case h_8 t t2 y=>
  intro X k
  have hy:=aO y (by simp[Op.operands])
  have dc:=ho y (by simp[Op.operands])
  have h1:=h.at_ k
  simp only[aX]at h1 ⊢
  rw[dc,<-h1]
  generalize ah σ y=u at hy
  unfold jc
  split
  ·rfl
  ·rename_i z _
   cases z with
   | own q=>
    have hk:cg p q=true:=hy
    simp only[dP]
    rw[hm,tB U q _ hk]
   | v z=>rfl
   | dead=>rfl
  ·rfl
 case h_15 y t=>
  intro X k
  have hy:=aO y (by simp[Op.operands,Call.operands])
  have dc:=ho y (by simp[Op.operands,Call.operands])
  have h1:=h.at_ k
  simp only[aX]at h1 ⊢
  rw[dc,<-h1]
  generalize ah σ y=u at hy
  unfold gY
  split
  ·rename_i z
   cases z with
   | own q=>
    have hk:cg p q=true:=hy
    simp only[dP]
    rw[hm,tB U q _ hk]
   | v z=>rfl
   | dead=>rfl
  ·rfl
  ·rfl
 case h_18 t y lo hi=>
  intro X k
  have hy:=aO y (by simp[Op.operands])
  have dc:=ho y (by simp[Op.operands])
  have e:∀ z:Option Operand,(∀ y,z=some y->ah (σ.aF ns [] nr) y=ah σ y)->z.map (ah (σ.aF ns [] nr))=z.map (ah σ):=by
   intro z hz
   cases z with
   | none=>rfl
   | some z=>exact congrArg some (hz z rfl)
  have h1:=h.at_ k
  simp only[aX]at h1 ⊢
  rw[dc,e lo (fun y hy=>ho y (by subst hy;simp[Op.operands])),e hi (fun y hy=>ho y (by subst hy;simp[Op.operands])),<-h1]
  generalize ah σ y=u at hy
  unfold jY
  split
  ·rename_i q
   have hk:cg p q=true:=hy
   unfold q8
   split
   ·split
    ·rw[hm,tB U q _ hk]
    ·rfl
   ·rfl
  ·rfl
 case h_19=>cases h0
 all_goals exact zq fun X k=>rfl
/-! .. nor is a root that is written. -/
theorem pF{p:Nat->Bool}{n:Nat}{x:au}{m:Nat->Option au}(hn:p n=true):∀ (q:List Nat) (k:V->Option X),cg p q=true->c7 (aH m n (some x)) q k=c7 m q k
 | [],_,_=>rfl
 | [y],k,h=>by
  have hy:p y=false:=by simpa [cg]using h
  simp only[c7]
  rw[aQ _ _ _ (by rintro rfl;rw[hn]at hy;cases hy)]
 | [_,_],_,_=>rfl
 | [j,i,s],k,h=>rfl
 | j :: i :: s :: q0 :: q,k,h=>by
  have h':cg p (q0 :: q)=true:=by simpa [cg,List.getLast?_cons_cons]using h
  simp only[c7]
  exact pF hn (q0 :: q) _ h'
theorem Va{p pb:Nat->Bool}{n:Nat}{x:au}{op:Op}{v:A}(h:aS (fun X k=>aX (X:=X) P σ op k) v)(hn:p n=true)(aO:∀ y∈op.operands,(ah σ y).fK p pb=true)(hv:v.fK p pb=true)(kP:∀ t y r j,op = .load t y->ah σ y = .aE r j->p r=false):
  aS (fun X k=>aX (X:=X) P (σ.root n x) op k) v:=by
 have ho:∀ y∈op.operands,ah (σ.root n x) y=ah σ y:=by
  intro y hy
  cases y <;>rfl
 have hm:(σ.root n x).m=aH σ.m n (some x):=rfl
 have qf:∀ y∈op.operands,ah ⟨(σ.root n x).t,σ.m⟩ y=ah σ y:=by
  intro y hy
  rw[<-ho y hy]
  cases y <;>rfl
 have zq:(∀ (X:Type) (k:A->Option X),aX P ⟨(σ.root n x).t,σ.m⟩ op k=aX P (σ.root n x) op k)->aS (fun X k=>aX (X:=X) P (σ.root n x) op k) v:=by
  intro he X k
  exact(he X k).symm.trans ((vG (σ:=σ) (σ2:=⟨(σ.root n x).t,σ.m⟩) op rfl qf k).trans (h.at_ k))
 have h0:=h.at_ (X:=A) (fun z=>some z)
 unfold aX at h0
 split at h0
 case h_5 t y=>
  intro X k
  have hy:=aO y (by simp[Op.operands])
  have dc:=ho y (by simp[Op.operands])
  simp only[aX]
  rw[dc]
  have kP:=fun r j e=>kP t y r j rfl e
  generalize ah σ y=u at h0 hy kP
  have hd:aS (fun X k=>eF (X:=X) P σ t u k) v:=by
   obtain⟨y',h1,h2⟩:=yW h0
   injection h1 with h1
   subst h1
   exact h2
  unfold eF at h0 ⊢
  split at h0
  ·cases h0
  ·rename_i sz hsz
   split at h0
   ·rename_i r' j
    split at h0
    ·rename_i cs bU
     obtain⟨y',h1,h2⟩:=o7 h0
     injection h1 with h1
     subst h1
     have hp:p r'=false:=kP r' _ rfl
     rw[hm,aQ _ _ _ (by rintro rfl;rw[hn]at hp;cases hp),bU]
     exact h2.at_ k
    ·cases h0
   ·obtain⟨y',h1,h2⟩:=o7 h0
    injection h1 with h1
    subst h1
    exact h2.at_ k
   ·rename_i j i s q
    have hq:cg p q=true:=by
     have hk:cg p (j :: i :: s :: q)=true:=hy
     cases q with
     | nil=>
      obtain⟨z,_,hg,_⟩:=lT _ _ h0
      cases hg
     | cons q0 q=>simpa [cg,List.getLast?_cons_cons]using hk
    rw[hm,pF hn q _ hq]
    have h3:=hd.at_ k
    unfold eF at h3
    rw[hsz]at h3
    exact h3
   ·cases h0
 case h_6 op t x y yt=>
  intro X k
  have hx:=aO x (by simp[Op.operands])
  have zu:=ho x (by simp[Op.operands])
  have dc:=ho y (by simp[Op.operands])
  have h1:=h.at_ k
  simp only[aX]at h1 ⊢
  rw[zu,dc,<-h1]
  generalize ah σ x=u at hx
  refine BZ fun l e k=>?_
  subst e
  cases l with
  | own q=>
   have hk:cg p q=true:=hx
   simp only[dP]
   rw[hm,pF hn q _ hk]
  | v z=>rfl
  | dead=>rfl
 case h_11 t y i=>
  intro X k
  have hy:=aO y (by simp[Op.operands])
  have dc:=ho y (by simp[Op.operands])
  have zw:=ho i (by simp[Op.operands])
  have h1:=h.at_ k
  simp only[aX]at h1 ⊢
  rw[dc,zw,<-h1]
  generalize ah σ y=u at hy
  unfold jv
  split
  ·rfl
  ·split
   ·split
    ·rfl
    ·rename_i q
     have hk:cg p q=true:=hy
     rw[hm,pF hn q _ hk]
    ·rfl
   ·rfl
 case h_8 t t2 y=>
  intro X k
  have hy:=aO y (by simp[Op.operands])
  have dc:=ho y (by simp[Op.operands])
  have h1:=h.at_ k
  simp only[aX]at h1 ⊢
  rw[dc,<-h1]
  generalize ah σ y=u at hy
  unfold jc
  split
  ·rfl
  ·rename_i z _
   cases z with
   | own q=>
    have hk:cg p q=true:=hy
    simp only[dP]
    rw[hm,pF hn q _ hk]
   | v z=>rfl
   | dead=>rfl
  ·rfl
 case h_15 y t=>
  intro X k
  have hy:=aO y (by simp[Op.operands,Call.operands])
  have dc:=ho y (by simp[Op.operands,Call.operands])
  have h1:=h.at_ k
  simp only[aX]at h1 ⊢
  rw[dc,<-h1]
  generalize ah σ y=u at hy
  unfold gY
  split
  ·rename_i z
   cases z with
   | own q=>
    have hk:cg p q=true:=hy
    simp only[dP]
    rw[hm,pF hn q _ hk]
   | v z=>rfl
   | dead=>rfl
  ·rfl
  ·rfl
 case h_18 t y lo hi=>
  intro X k
  have hy:=aO y (by simp[Op.operands])
  have dc:=ho y (by simp[Op.operands])
  have e:∀ z:Option Operand,(∀ y,z=some y->ah (σ.root n x) y=ah σ y)->z.map (ah (σ.root n x))=z.map (ah σ):=by
   intro z hz
   cases z with
   | none=>rfl
   | some z=>exact congrArg some (hz z rfl)
  have h1:=h.at_ k
  simp only[aX]at h1 ⊢
  rw[dc,e lo (fun y hy=>ho y (by subst hy;simp[Op.operands])),e hi (fun y hy=>ho y (by subst hy;simp[Op.operands])),<-h1]
  generalize ah σ y=u at hy
  unfold jY
  split
  ·rename_i q
   have hk:cg p q=true:=hy
   unfold q8
   split
   ·split
    ·rw[hm,pF hn q _ hk]
    ·rfl
   ·rfl
  ·rfl
 case h_19=>cases h0
 all_goals exact zq fun X k=>rfl
end
end Go.Proofs.YtjldnlbiefpekaaDoor
namespace Go.Proofs.YtjldnlbiefpekaaDoor
open Go.RowKit
set_option linter.unusedVariables false
def cR(σ:S):Option Tmp->A->S
 | none,_=>σ
 | some d,v=>σ.set d v
inductive Grow (p pb:Nat->Bool):S->S->Prop
 | refl (σ:S):Grow p pb σ σ
 | root {σ aa:S} (n:Nat) (x:au):p n=true->pb n=true->Grow p pb σ aa->Grow p pb σ ((aa.drop n).root n x)
 | aF {σ aa:S} (ns:List Nat) (nr:List (Nat×au)):zx p ns nr->Grow p pb σ aa->Grow p pb σ (aa.aF ns [] nr)
 | rt {σ aa:S} (n:Nat) (x:au):p n=true->Grow p pb σ aa->Grow p pb σ (aa.root n x)
section
variable {P:Program} {w w':World} {w0:Wd} {B N:Nat} {lab af:aG} {ρ ρ':Nat->Loc} {σ:S} {a:Act} {X:Type} {d:Nat} {r:X} {o:Oper} {Φ:b5} {p pb:Nat->Bool}
theorem fL{dst:Option Tmp}{x:A}{k:S->Option X}(h:eK N σ dst x k=some r):k (cR σ dst x)=some r/\∀ (σ2:S),aS (fun X k=>eK (X:=X) N σ2 dst x k) (cR σ2 dst x):=by
 unfold eK at h
 split at h
 ·exact⟨h,fun _ X k=>rfl⟩
 ·rename_i d
  cases hN:Nat.blt d N with
  | false=>rw[hN]at h;cases h
  | true=>rw[hN]at h;exact⟨h,fun _ X k=>by simp only[eK,hN,cond_true];rfl⟩
theorem LH[Inhabited Wd]{f:Nat}{dst:Option Tmp}{c:mz}{xs:List A}{k:S->Option X}(hc:lU P f c)(h:tq N σ dst c xs k=some r):∃ τ,k τ=some r/\aS (fun X k=>tq (X:=X) N σ dst c xs k) τ:=by
 unfold tq at h
 obtain⟨aa,y,h1,h2,_⟩:=hc _ _ _ _ _ _ h
 obtain⟨h3,h4⟩:=fL h1
 exact⟨_,h3,fun X k=>(h2 X _).trans ((h4 aa).at_ k)⟩
theorem Grow.t{σ aa:S}(h:Grow p pb σ aa){g:Nat}(hg:(σ.t g).fK p pb=true):aa.t g=σ.t g:=by
 induction h with
 | refl=>rfl
 | root n x hn U _ ih=>
  show (A.drop n _)=_
  rw[ih]
  exact A.nS hg hn U
 | aF ns nr U _ ih=>
  show (A.aF ns [] _)=_
  rw[ih]
  exact A.vH hg U.ns
 | rt n x hn _ ih=>exact ih
theorem Grow.bp{σ aa:S}(h:Grow p pb σ aa){t r j:Nat}(ht:σ.t t = .aE r j)(hr:pb r=false):aa.t t = .aE r j:=by
 rw[<-ht]
 refine h.t ?_
 rw[ht]
 show (!pb r)=true
 rw[hr];rfl
def ek(p:Nat->Bool):A->Prop
 | .aE r _=>p r=true
 | .ptr _=>False
 | _=>True
theorem ek.drop{x:A}(h:ek p x)(n:Nat):ek p (x.drop n):=by
 cases x with
 | aE r j=>
  have e:A.drop n (.aE r j)=(bif Nat.beq r n then .undef else .aE r j):=rfl
  rw[e]
  cases Nat.beq r n with
  | true=>trivial
  | false=>exact h
 | ptr k=>exact h.elim
 | view k s i j=>
  have e:A.drop n (.view k s i j)=(bif aD n k then .undef else .view k s i j):=rfl
  rw[e]
  cases aD n k <;>trivial
 | pk r j=>
  have e:A.drop n (.pk r j)=(bif Nat.beq r n then .undef else .pk r j):=rfl
  rw[e]
  cases Nat.beq r n <;>trivial
 | fn f cap=>
  have e:A.drop n (.fn f cap)=(bif cap.any (fun p=>Nat.beq p.1 n)then .undef else .fn f cap):=rfl
  rw[e]
  cases (cap.any fun p=>Nat.beq p.1 n) <;>trivial
 | _=>trivial
theorem ek.aF{x:A}(h:ek p x)(ns cn:List Nat):ek p (x.aF ns cn):=by
 cases x with
 | aE r j=>
  have e:A.aF ns cn (.aE r j)=(bif aM r cn then .undef else .aE r j):=rfl
  rw[e]
  cases aM r cn with
  | true=>trivial
  | false=>exact h
 | ptr k=>exact h.elim
 | view k s i j=>
  have e:A.aF ns cn (.view k s i j)=(bif aT k cn || aT k ns then .undef else .view k s i j):=rfl
  rw[e]
  cases (aT k cn || aT k ns) <;>trivial
 | pk r j=>
  have e:A.aF ns cn (.pk r j)=(bif aM r cn then .undef else .pk r j):=rfl
  rw[e]
  cases aM r cn <;>trivial
 | fn f cap=>
  have e:A.aF ns cn (.fn f cap)=(bif cap.any (fun p=>aM p.1 cn)then .undef else .fn f cap):=rfl
  rw[e]
  cases (cap.any fun p=>aM p.1 cn) <;>trivial
 | _=>trivial
theorem Grow.st{p':Nat->Bool}{σ aa:S}(h:Grow p pb σ aa){t:Nat}(ht:ek p' (σ.t t)):ek p' (aa.t t):=by
 induction h with
 | refl=>exact ht
 | root n x hn U _ ih=>exact ih.drop n
 | aF ns nr U _ ih=>exact ih.aF ns []
 | rt n x hn _ ih=>exact ih
theorem Grow.ki{σ aa:S}(h:Grow p pb σ aa){x:Operand}(hx:(ah σ x).fK p pb=true):ah aa x=ah σ x:=by
 cases x with
 | tmp t=>exact h.t hx
 | const v=>rfl
 | global g=>rfl
 | func f=>rfl
theorem Grow.val{σ aa:S}(h:Grow p pb σ aa){op:Op}{v:A}(hd:aS (fun X k=>aX (X:=X) P σ op k) v)(aO:∀ y∈op.operands,(ah σ y).fK p pb=true)(hv:v.fK p pb=true)(kP:∀ t y r j,op = .load t y->ah σ y = .aE r j->p r=false):aS (fun X k=>aX (X:=X) P aa op k) v:=by
 have hl:∀ {aa:S},Grow p pb σ aa->∀ t y r j,op = .load t y->ah aa y = .aE r j->p r=false:=by
  intro aa hg t y r j e h
  refine kP t y r j e ?_
  rw[<-hg.ki (aO y (by rw[e];simp[Op.operands]))]
  exact h
 induction h with
 | refl=>exact hd
 | root n x hn U hg ih=>
  exact U7 ih hn U (fun y hy=>by rw[hg.ki (aO y hy)];exact aO y hy) hv
 | aF ns nr U hg ih=>
  exact U9 ih U (fun y hy=>by rw[hg.ki (aO y hy)];exact aO y hy) hv (hl hg)
 | rt n x hn hg ih=>
  exact Va ih hn (fun y hy=>by rw[hg.ki (aO y hy)];exact aO y hy) hv (hl hg)
theorem Grow.trans{σ aa nO:S}(h:Grow p pb σ aa)(h':Grow p pb aa nO):Grow p pb σ nO:=by
 induction h' with
 | refl=>exact h
 | root n x hn U _ ih=>exact .root n x hn U ih
 | aF ns nr U _ ih=>exact .aF ns nr U ih
 | rt n x hn _ ih=>exact .rt n x hn ih
theorem tC:∀ (xs:List V) (c:Nat) (σ:S),(∀ n,c<=n->p n=true/\pb n=true)->Grow p pb σ (dw c σ xs)
 | [],c,σ,h=>.refl σ
 | x :: xs,c,σ,h=>by
  simp only[dw]
  cases hf:x.av with
  | true=>exact tC xs (c+1) σ (fun n hn=>h n (by omega))
  | false=>exact .trans (.root c (.sl x) (h c (Nat.le_refl _)).1 (h c (Nat.le_refl _)).2 (.refl σ)) (tC xs (c+1) _ (fun n hn=>h n (by omega)))
theorem zy:∀ (ps:List Pt) (c:Nat) (σ:S),(∀ n,c<=n->p n=true/\pb n=true)->Grow p pb σ (eN c σ ps)
 | [],c,σ,h=>.refl σ
 | q :: ps,c,σ,h=>(tC q.2 c σ h).trans (zy ps _ _ (fun n hn=>h n (by omega)))
theorem pG{σ2:S}{ops:Array Oper}(h:∀ g b t,o.guard=some (g,b)->(ops[g]?).bind (·.dst)=some t->σ2.t t=σ.t t):cQ σ2 ops o=cQ σ ops o:=by
 unfold cQ
 split
 ·rfl
 ·rename_i g b hg
  split
  ·rename_i t ht
   rw[h g b t hg ht]
  ·rfl
def gJ(p pb:Nat->Bool)(x:A):Prop:=∀ r,x = .lf (.own [r])->p r=true/\pb r=true
theorem gJ.drop{p pb:Nat->Bool}{x:A}(h:gJ p pb x)(n:Nat):gJ p pb (x.drop n):=by
 intro r hr
 refine h r ?_
 cases x with
 | lf l=>
  cases l with
  | own k=>
   have e:A.drop n (.lf (.own k)) = .lf (bif aD n k then .dead else .own k):=rfl
   rw[e]at hr
   cases U:aD n k with
   | true=>rw[U]at hr;cases hr
   | false=>rw[U]at hr;exact hr
  | v z=>cases hr
  | dead=>cases hr
 | aE q j=>
  have e:A.drop n (.aE q j)=(bif Nat.beq q n then .undef else .aE q j):=rfl
  rw[e]at hr
  cases U:Nat.beq q n <;>rw[U]at hr <;>cases hr
 | ptr k=>
  have e:A.drop n (.ptr k)=(bif aD n k then .undef else .ptr k):=rfl
  rw[e]at hr
  cases U:aD n k <;>rw[U]at hr <;>cases hr
 | view k s i j=>
  have e:A.drop n (.view k s i j)=(bif aD n k then .undef else .view k s i j):=rfl
  rw[e]at hr
  cases U:aD n k <;>rw[U]at hr <;>cases hr
 | pk q j=>
  have e:A.drop n (.pk q j)=(bif Nat.beq q n then .undef else .pk q j):=rfl
  rw[e]at hr
  cases U:Nat.beq q n <;>rw[U]at hr <;>cases hr
 | fn f cap=>
  have e:A.drop n (.fn f cap)=(bif cap.any (fun p=>Nat.beq p.1 n)then .undef else .fn f cap):=rfl
  rw[e]at hr
  cases U:(cap.any fun p=>Nat.beq p.1 n) <;>rw[U]at hr <;>cases hr
 | _=>cases hr
theorem gJ.aF{p pb:Nat->Bool}{x:A}(h:gJ p pb x)(ns cn:List Nat):gJ p pb (x.aF ns cn):=by
 intro r hr
 refine h r ?_
 cases x with
 | lf l=>
  have e:A.aF ns cn (.lf l) = .lf (l.aF ns cn):=rfl
  rw[e]at hr
  injection hr with hr
  unfold Lf.aF at hr
  split at hr
  ·rename_i k
   cases U:(aT k cn || (aT k ns && !Nat.beq k.length 1)) <;>simp_all
  ·rw[hr]
 | aE q j=>
  have e:A.aF ns cn (.aE q j)=(bif aM q cn then .undef else .aE q j):=rfl
  rw[e]at hr
  cases U:aM q cn <;>rw[U]at hr <;>cases hr
 | ptr k=>
  unfold A.aF at hr
  simp only at hr
  exfalso
  revert hr
  cases (aT k cn || aT k ns) <;>simp
 | view k s i j=>
  have e:A.aF ns cn (.view k s i j)=(bif aT k cn || aT k ns then .undef else .view k s i j):=rfl
  rw[e]at hr
  cases U:(aT k cn || aT k ns) <;>rw[U]at hr <;>cases hr
 | pk q j=>
  have e:A.aF ns cn (.pk q j)=(bif aM q cn then .undef else .pk q j):=rfl
  rw[e]at hr
  cases U:aM q cn <;>rw[U]at hr <;>cases hr
 | fn f cap=>
  have e:A.aF ns cn (.fn f cap)=(bif cap.any (fun p=>aM p.1 cn)then .undef else .fn f cap):=rfl
  rw[e]at hr
  cases U:(cap.any fun p=>aM p.1 cn) <;>rw[U]at hr <;>cases hr
 | _=>cases hr
theorem Grow.tg{p' LI:Nat->Bool}{σ aa:S}(h:Grow p pb σ aa){t:Nat}(ht:gJ p' LI (σ.t t)):gJ p' LI (aa.t t):=by
 induction h with
 | refl=>exact ht
 | root n x hn U _ ih=>exact ih.drop n
 | aF ns nr U _ ih=>exact ih.aF ns []
 | rt n x hn _ ih=>exact ih
structure lV (P:Program) (N:Nat) (Φ:b5) (o:Oper) (p pb:Nat->Bool) (je τ:S) where
 G:S->S
 u:A
 eq:τ=cR (G je) o.dst u
 run:∀ σ2:S,(∀ x∈o.op.operands,ah σ2 x=ah je x)->σ2.m=je.m->bC P N Φ σ2 o some=some (cR (G σ2) o.dst u)
 grow:∀ σ,Grow p pb σ (G σ)
 set:∀ (σ:S) d v,(A.fK p pb v)=true->G (σ.set d v)=(G σ).set d v
 bp:isApp o=false->∀ (σ:S) t r j,σ.t t = .aE r j->cu o r=false->(G σ).t t = .aE r j
theorem lV.new{je:S}{d:Nat}(hd:o.dst=some d)(hp:p d=true/\pb d=true)(bW:cu o d=true)(x:au)(u:A){τ:S}(e:τ=((je.drop d).root d x).set d u)
  (hr:∀ σ2:S,(∀ x∈o.op.operands,ah σ2 x=ah je x)->bC P N Φ σ2 o some=some (((σ2.drop d).root d x).set d u)):Nonempty (lV P N Φ o p pb je τ):=
 ⟨{ G:=fun σ=>(σ.drop d).root d x,u:=u,eq:=by rw[hd];exact e,run:=fun σ2 h _=>by rw[hr σ2 h,hd];rfl,grow:=fun σ=>.root d x hp.1 hp.2 (.refl σ),
    set:=fun σ e v hv=>by rw[S.drop_set d (A.nS hv hp.1 hp.2)];rfl
    bp:=fun _ σ t r j ht hr=>by
     show A.drop d (σ.t t)=_
     rw[ht]
     have:Nat.beq r d=false:=by
      cases U:Nat.beq r d with
      | false=>rfl
      | true=>rw[Nat.eq_of_beq_eq_true U,bW]at hr;cases hr
     simp only[A.drop,this,cond_false] }⟩
theorem Vb[Inhabited Wd](aI:dn P Φ){τ:S}(ht:BS Φ o.op=true)(hp:∀ n,cu o n=true->p n=true/\pb n=true)(h:bC P N Φ σ o some=some τ):Nonempty (lV P N Φ o p pb σ τ):=by
 have h0:=h
 unfold bC at h
 cases hv:cP o.op with
 | true=>
  rw[hv,cond_true]at h
  obtain⟨v,h1,hd,_⟩:=vE (w0:=default) (N:=N) h
  obtain⟨h2,h3⟩:=fL h1
  injection h2 with h2
  refine⟨{ G:=fun σ=>σ,u:=v,eq:=h2.symm,run:=fun σ2 ho hm=>?_,grow:=.refl,set:=fun _ _ _ _=>rfl,bp:=fun _ _ _ _ _ h _=>h }⟩
  unfold bC
  rw[hv,cond_true,vG o.op hm ho]
  refine(hd.at_ _).trans ?_
  exact(h3 σ2).at_ _
 | false=>
  rw[hv,cond_false]at h
  have aC:∀ σ2,bC P N Φ σ2 o some=dV P N Φ σ2 o some:=fun σ2=>by unfold bC;rw[hv,cond_false]
  unfold dV at h aC
  unfold BS at ht
  rw[hv,Bool.false_or]at ht
  split at h
  ·rename_i e ho
   obtain⟨d,hd,h⟩:=c9 h
   obtain⟨x,y,h1,_,h2⟩:=K2 h
   injection h1 with h1
   have bW:cu o d=true:=by unfold cu;rw[hd,ho];exact Nat.beq_refl d
   refine lV.new hd (hp d bW) bW x y h1.symm fun σ2 _=>?_
   rw[aC,ho]
   simp only[ck,hd]
   exact(h2 σ2).at_ _
  ·rename_i e x ho
   obtain⟨d,hd,h⟩:=c9 h
   obtain⟨y,u,h1,h2⟩:=K7 h
   injection h1 with h1
   have bW:cu o d=true:=by unfold cu;rw[hd,ho];exact Nat.beq_refl d
   refine lV.new hd (hp d bW) bW _ _ h1.symm fun σ2 aO=>?_
   rw[aC,ho]
   simp only[ck,hd]
   rw[aO x (by rw[ho];simp[Op.operands])]
   exact(h2 σ2).at_ _
  ·rename_i t len parts ho
   obtain⟨d,hd,h⟩:=c9 h
   have bW:cu o d=true:=by unfold cu;rw[hd,ho];exact Nat.beq_refl d
   cases hn:jf t with
   | true=>
    rw[hn,cond_true]at h
    obtain⟨y,u,h1,h2⟩:=La h
    injection h1 with h1
    refine lV.new hd (hp d bW) bW _ _ h1.symm fun σ2 aO=>?_
    rw[aC,ho]
    simp only[ck,hd,hn,cond_true]
    refine(h2 σ2 fun q hq=>aO _ ?_).at_ _
    rw[ho]
    simp only[Op.operands]
    exact List.mem_toArray.2 (List.mem_map_of_mem (f:=(·.2)) hq)
   | false=>
    rw[hn,cond_false]at h
    obtain⟨y,h1,h2⟩:=FP h
    injection h1 with h1
    refine lV.new hd (hp d bW) bW _ _ h1.symm fun σ2 aO=>?_
    rw[aC,ho]
    simp only[ck,hd,hn,cond_false]
    refine(h2 σ2 fun q hq=>aO _ ?_).at_ _
    rw[ho]
    simp only[Op.operands]
    exact List.mem_toArray.2 (List.mem_map_of_mem (f:=(·.2)) hq)
  ·rename_i t x y ho
   rw[ho]at ht
   cases ht
  ·rename_i t l c ho
   obtain⟨d,hd,h⟩:=c9 h
   obtain⟨y,h1,h2⟩:=FO h
   injection h1 with h1
   have bW:cu o d=true:=by unfold cu;rw[hd,ho];exact Nat.beq_refl d
   refine lV.new hd (hp d bW) bW _ _ h1.symm fun σ2 aO=>?_
   rw[aC,ho]
   simp only[ck,hd]
   rw[aO l (by rw[ho];simp[Op.operands]),aO c (by rw[ho];simp[Op.operands])]
   exact(h2 σ2).at_ _
  ·rename_i f args bD ho
   split at h
   rotate_left
   ·rename_i c hc
    rw[ho]at ht
    simp[hc]at ht
   ·rename_i c hc
    rw[ho]at ht
    simp[hc]at ht
   ·rename_i F hc
    rw[ho]at ht
    simp[hc]at ht
   ·rename_i c hc
    rw[ho]at ht
    simp[hc]at ht
   ·rename_i c hc
    rw[ho]at ht
    simp[hc]at ht
   ·rename_i c hc
    rw[ho]at ht
    simp[hc]at ht
   ·rename_i c hc
    rw[ho]at ht
    simp[hc]at ht
   ·cases h
   ·rename_i c hc
    obtain⟨d,hd,h⟩:=c9 h
    obtain⟨res,dr,h1,h2,h3⟩:=vw (aI f _ hc).2 h
    injection h2 with h2
    subst h2
    have bW:∀ n,1000000000100000+1000*d<=n->cu o n=true:=fun n hn=>by unfold cu;rw[hd,ho];exact Nat.ble_eq_true_of_le hn
    have gK:∀ n,1000000000100000+1000*d<=n->p n=true/\pb n=true:=fun n hn=>hp n (bW n hn)
    have zz:∀ σ2:S,(∀ x∈o.op.operands,ah σ2 x=ah σ x)->σ2.m=σ.m->∀ (X:Type) (k:List Pt->Option X),fo σ2 args.toList k=fo σ args.toList k:=by
     intro σ2 aO hm X k
     refine LD hm _ _ fun x hx=>aO x ?_
     rw[ho]
     simp only[Op.operands,Call.operands]
     simp only[Array.mem_append]
     first
      | exact .inr (by simpa using hx)
      | exact .inl (by simpa using hx)
    unfold nJ at h1 h3
    cases res with
    | one q=>
     simp only at h1 h3
     split at h1
     ·rename_i y hy
      injection h1 with h1
      refine⟨{ G:=fun σ=>dw (1000000000100000+1000*d) σ q.2,u:=y,eq:=by rw[hd];exact h1.symm,run:=fun σ2 aO hm=>?_,grow:=fun σ=>tC q.2 _ σ gK,set:=fun σ e v hv=>yZ v q.2 _ σ fun n hn=>A.nS hv (gK n hn).1 (gK n hn).2,bp:=fun _ σ t r j ht hr=>(tC (p:=cu o) (pb:=cu o) q.2 _ σ (fun n hn=>⟨bW n hn,bW n hn⟩)).bp ht hr }⟩
      rw[aC,ho]
      simp only[ck,hd,hc]
      exact(h3 σ2 ((dw (1000000000100000+1000*d) σ2 q.2).set d y) (zz σ2 aO hm) (by rw[hy])).at_ _
     ·cases h1
    | aU ps=>
     injection h1 with h1
     refine⟨{ G:=fun σ=>eN (1000000000100000+1000*d) σ ps,u:=_,eq:=by rw[hd];exact h1.symm,run:=fun σ2 aO hm=>?_,grow:=fun σ=>zy ps _ σ gK,set:=fun σ e v hv=>FR v ps _ σ fun n hn=>A.nS hv (gK n hn).1 (gK n hn).2,bp:=fun _ σ t r j ht hr=>(zy (p:=cu o) (pb:=cu o) ps _ σ (fun n hn=>⟨bW n hn,bW n hn⟩)).bp ht hr }⟩
     rw[aC,ho]
     simp only[ck,hd,hc]
     exact(h3 σ2 _ (zz σ2 aO hm) rfl).at_ _
  ·rename_i x y t t' ho
   rw[ho]at ht
   cases ht
  ·rename_i t ho
   rw[ho]at ht
   cases ht
  ·rename_i t x i ho
   rw[ho]at ht
   cases ht
  ·rename_i t x i v ho
   rw[ho]at ht
   cases ht
  ·rename_i t args bD ho
   rw[ho]at ht
   cases ht
  ·rename_i f zl ho
   rw[ho]at ht
   cases ht
  ·cases h
theorem B2[Inhabited Wd](aI:dn P Φ){k:S->Option X}(h:bC P N Φ σ o k=some r):∃ τ,k τ=some r/\∀ (X':Type) (k':S->Option X'),bC P N Φ σ o k'=k' τ:=by
 unfold bC at h ⊢
 cases hv:cP o.op with
 | true=>
  rw[hv,cond_true]at h
  obtain⟨v,h1,hd,_⟩:=vE (w0:=default) (N:=N) h
  obtain⟨h2,h3⟩:=fL h1
  refine⟨_,h2,fun X' k'=>?_⟩
  rw[cond_true]
  exact(hd.at_ (fun v=>eK N σ o.dst v k')).trans ((h3 σ).at_ _)
 | false=>
  rw[hv,cond_false]at h
  show ∃ τ,k τ=some r/\∀ (X':Type) (k':S->Option X'),dV P N Φ σ o k'=k' τ
  unfold dV at h ⊢
  split at h
  ·obtain⟨d,hd,h⟩:=c9 h
   obtain⟨x,y,h1,_,h2⟩:=K2 h
   exact⟨_,h1,fun _ _=>by simp only[ck,hd];exact(h2 σ).at_ _⟩
  ·obtain⟨d,hd,h⟩:=c9 h
   obtain⟨y,u,h1,h2⟩:=K7 h
   exact⟨_,h1,fun _ _=>by simp only[ck,hd];exact(h2 σ).at_ _⟩
  ·rename_i t len parts ho
   obtain⟨d,hd,h⟩:=c9 h
   cases hn:jf t with
   | true=>
    rw[hn,cond_true]at h
    obtain⟨y,u,h1,h2⟩:=La h
    exact⟨_,h1,fun _ _=>by simp only[ck,hd,cond_true];exact(h2 σ fun _ _=>rfl).at_ _⟩
   | false=>
    rw[hn,cond_false]at h
    obtain⟨y,h1,h2⟩:=FP h
    exact⟨_,h1,fun _ _=>by simp only[ck,hd,cond_false];exact(h2 σ fun _ _=>rfl).at_ _⟩
  ·split at h
   ·rename_i t x y ho _ hd
    cases hn:s9 (ah σ x) (ah σ y)with
    | true=>
     rw[hn,cond_true]at h
     obtain⟨τ,h1,h2⟩:=Uf h
     exact⟨τ,h1,fun _ _=>by simp only[cond_true];exact h2.at_ _⟩
    | false=>
     rw[hn,cond_false]at h
     obtain⟨τ,h1,h2⟩:=K4 h
     exact⟨τ,h1,fun _ _=>by simp only[cond_false];exact h2.at_ _⟩
   ·cases h
  ·obtain⟨d,hd,h⟩:=c9 h
   obtain⟨y,h1,h2⟩:=FO h
   exact⟨_,h1,fun _ _=>by simp only[ck,hd];exact(h2 σ).at_ _⟩
  ·rename_i f args bD ho
   split at h
   ·rename_i c hc
    obtain⟨d,hd,h⟩:=c9 h
    obtain⟨res,τ,h1,h2,h3⟩:=vw (aI f _ hc).2 h
    exact⟨τ,h2,fun _ _=>by simp only[ck,hd];exact(h3 σ τ (fun _ _=>rfl) h1).at_ _⟩
   ·rename_i c hc
    obtain⟨τ,h1,h2⟩:=FV h
    exact⟨τ,h1,fun _ _=>h2.at_ _⟩
   ·rename_i c hc
    obtain⟨d,hd,h⟩:=c9 h
    obtain⟨τ,h1,h2⟩:=Un h
    exact⟨τ,h1,fun _ _=>by simp only[ck,hd];exact h2.at_ _⟩
   ·rename_i F hc
    obtain⟨d,hd,h⟩:=c9 h
    split at h
    ·rename_i x hx
     obtain⟨τ,h1,h2⟩:=Ug h
     exact⟨τ,h1,fun _ _=>by simp only[ck,hd];exact h2.at_ _⟩
    ·cases h
   ·rename_i c hc
    obtain⟨τ,h1,h2⟩:=LH (aI f _ hc).2 h
    exact⟨τ,h1,fun _ _=>h2.at_ _⟩
   ·rename_i c hc
    obtain⟨τ,h1,h2⟩:=TO (fun h=>let ⟨τ,g1,g2⟩:=FV h;⟨τ,g1,fun X k=>g2 X k⟩) h
    exact⟨τ,h1,h2⟩
   ·rename_i c hc
    obtain⟨d,hd,h⟩:=c9 h
    obtain⟨τ,h1,h2⟩:=T4 (aI f _ hc).2 h
    exact⟨τ,h1,fun _ _=>by simp only[ck,hd];exact h2.at_ _⟩
   ·rename_i c hc
    obtain⟨τ,h1,h2⟩:=Uu h
    exact⟨τ,h1,h2⟩
   ·cases h
  ·rename_i x y t t' ho
   cases di:Nat.beq t t' with
   | false=>
    rw[di,cond_false]at h
    obtain⟨d,hd,h⟩:=c9 h
    obtain⟨τ,h1,h2⟩:=UG h
    exact⟨τ,h1,fun _ _=>by simp only[cond_false,ck,hd];exact h2.at_ _⟩
   | true=>
    rw[di,cond_true]at h
    obtain⟨d,hd,h⟩:=c9 h
    cases hn:jf t with
    | true=>
     rw[hn,cond_true]at h
     obtain⟨τ,h1,h2⟩:=Ud h
     exact⟨τ,h1,fun _ _=>by simp only[cond_true,ck,hd];exact h2.at_ _⟩
    | false=>
     rw[hn,cond_false]at h
     cases hk:zk t d with
     | true=>
      rw[hk,cond_true]at h
      obtain⟨τ,h1,h2⟩:=UO h
      exact⟨τ,h1,fun _ _=>by simp only[cond_true,cond_false,ck,hd,hk];exact h2.at_ _⟩
     | false=>
      rw[hk,cond_false]at h
      obtain⟨τ,h1,h2⟩:=T0 h
      exact⟨τ,h1,fun _ _=>by simp only[cond_true,cond_false,ck,hd,hk];exact h2.at_ _⟩
  ·rename_i t ho
   obtain⟨d,hd,h⟩:=c9 h
   obtain⟨τ,h1,h2⟩:=UI h
   exact⟨τ,h1,fun _ _=>by simp only[ck,hd];exact h2.at_ _⟩
  ·rename_i t x i ho
   obtain⟨v,h1,h2,_⟩:=Lv (w0:=default) (N:=N) h
   obtain⟨h3,h4⟩:=fL h1
   exact⟨_,h3,fun _ _=>(h2.at_ _).trans ((h4 σ).at_ _)⟩
  ·rename_i t x i v ho
   split at h
   ·rename_i hd
    obtain⟨τ,h1,h2,_⟩:=Lx (w0:=default) (N:=N) h
    exact⟨τ,h1,fun _ _=>h2.at_ _⟩
   ·cases h
  ·rename_i t args bD ho
   split at h
   ·rename_i f cap bV
    split at h
    ·rename_i c hc
     obtain⟨τ,h1,h2⟩:=LH (aI f _ hc).2 h
     exact⟨τ,h1,fun _ _=>h2.at_ _⟩
    ·cases h
   ·cases h
  ·rename_i f zl ho
   split at h
   ·rename_i ps dD
    obtain⟨h3,h4⟩:=fL h
    exact⟨_,h3,fun _ _=>(h4 σ).at_ _⟩
   ·cases h
  ·cases h
theorem Vc[Inhabited Wd](aI:dn P Φ){k:S->Option X}(h:bC P N Φ σ o k=some r):∃ τ,k τ=some r/\bC P N Φ σ o some=some τ:=
 let ⟨τ,h1,h2⟩:=B2 aI h
 ⟨τ,h1,h2 S some⟩
theorem Gb[Inhabited Wd](aI:dn P Φ){ops:Array Oper}{k:S->Option X}(h:bL P N Φ ops σ o k=some r):∃ τ,k τ=some r/\bL P N Φ ops σ o some=some τ:=by
 unfold bL at h ⊢
 split at h
 ·exact Vc aI h
 ·obtain⟨h1,h2⟩:=fL h
  exact⟨_,h1,(h2 σ).at_ _⟩
 ·cases h
theorem Gc{ops:Array Oper}{b:Bool}(h:cQ σ ops o=some b):∀ g c t,o.guard=some (g,c)->(ops[g]?).bind (·.dst)=some t->(σ.t t).fK p pb=true:=by
 intro g c t hg ht
 unfold cQ at h
 rw[hg]at h
 simp only[ht]at h
 split at h
 ·rename_i U;rw[U];rfl
 ·rename_i U;rw[U];rfl
 ·cases h
theorem zA{ops:Array Oper}{d:Nat}(h:d ∉ o.looksAt ops)(v:A){x:Operand}(hx:x∈o.op.operands):ah (σ.set d v) x=ah σ x:=by
 cases x with
 | tmp t=>
  have:t≠d:=by
   rintro rfl
   exact h (List.mem_append_left _ (List.mem_filterMap.2 ⟨.tmp t,by simpa using hx,rfl⟩))
  exact aQ _ _ _ this
 | _=>rfl
theorem B3{ops:Array Oper}{d:Nat}(h:d ∉ o.looksAt ops)(v:A):∀ g b t,o.guard=some (g,b)->(ops[g]?).bind (·.dst)=some t->(σ.set d v).t t=σ.t t:=by
 intro g b t hg ht
 have:t≠d:=by
  rintro rfl
  refine h (List.mem_append_right _ ?_)
  rw[hg]
  simp only[ht]
  simp
 exact aQ _ _ _ this
def iw(P:Program)(ops:Array Oper)(oi:Oper)(p pb:Nat->Bool)(v:A)(σ:S):Prop:=
 (cQ σ ops oi=some true/\cP oi.op=true/\aS (fun X k=>aX (X:=X) P σ oi.op k) v/\(∀ y∈oi.op.operands,(ah σ y).fK p pb=true)/\v.fK p pb=true/\∀ t y r j,oi.op = .load t y->ah σ y = .aE r j->p r=false)\/(cQ σ ops oi=some false/\v = .skip)
theorem iw.grow{ops:Array Oper}{oi:Oper}{v:A}(h:iw P ops oi p pb v σ){aa:S}(hg:Grow p pb σ aa):iw P ops oi p pb v aa:=by
 rcases h with ⟨h1,h2,h3,h4,h5,h6⟩ | ⟨h1,h2⟩
 ·refine .inl ⟨?_,h2,hg.val h3 h4 h5 h6,fun y hy=>?_,h5,fun t y r j e h=>?_⟩
  ·rw[pG fun g b t e1 e2=>hg.t (Gc h1 g b t e1 e2)];exact h1
  ·rw[hg.ki (h4 y hy)];exact h4 y hy
  ·exact h6 t y r j e (by rw[<-hg.ki (h4 y (by rw[e];simp[Op.operands]))];exact h)
 ·refine .inr ⟨?_,h2⟩
  rw[pG fun g b t e1 e2=>hg.t (Gc h1 g b t e1 e2)];exact h1
theorem iw.set{ops:Array Oper}{oi:Oper}{v u:A}(h:iw P ops oi p pb v σ){d:Nat}(hd:d ∉ oi.looksAt ops):iw P ops oi p pb v (σ.set d u):=by
 rcases h with ⟨h1,h2,h3,h4,h5,h6⟩ | ⟨h1,h2⟩
 ·refine .inl ⟨?_,h2,fun X k=>?_,fun y hy=>?_,h5,fun t y r j e h=>?_⟩
  ·rw[pG (B3 hd u)];exact h1
  ·exact(vG (σ:=σ) (σ2:=σ.set d u) oi.op rfl (fun x hx=>zA hd u hx) k).trans (h3.at_ k)
  ·rw[zA hd u hy];exact h4 y hy
  ·exact h6 t y r j e (by rw[<-zA hd u (by rw[e];simp[Op.operands])];exact h)
 ·refine .inr ⟨?_,h2⟩
  rw[pG (B3 hd u)];exact h1
theorem iw.put{ops:Array Oper}{oi:Oper}{v u:A}(h:iw P ops oi p pb v σ){dst:Option Tmp}(hd:∀ d,dst=some d->d ∉ oi.looksAt ops):iw P ops oi p pb v (cR σ dst u):=by
 cases dst with
 | none=>exact h
 | some d=>exact h.set (hd d rfl)
theorem iw.nr{ops:Array Oper}{oi:Oper}{v:A}(h:iw P ops oi p pb v σ):v.fK p pb=true:=by
 rcases h with ⟨_,_,_,_,h5,_⟩ | ⟨_,h2⟩
 ·exact h5
 ·rw[h2];rfl
theorem LJ{x y:Option Tmp}(v u:A)(h:∀ d,x=some d->y≠some d):cR (cR σ x v) y u=cR (cR σ y u) x v:=by
 cases x with
 | none=>rfl
 | some d=>cases y with
  | none=>rfl
  | some e=>exact S.set_set (fun he=>h d rfl (congrArg some he)) v u
theorem Vd(x:Option Tmp)(v:A):(cR σ x v).m=σ.m:=by cases x <;>rfl
theorem B4{ops:Array Oper}{dst:Option Tmp}(h:∀ d,dst=some d->d ∉ o.looksAt ops)(v:A){x:Operand}(hx:x∈o.op.operands):ah (cR σ dst v) x=ah σ x:=by
 cases dst with
 | none=>rfl
 | some d=>exact zA (h d rfl) v hx
theorem Ve{ops:Array Oper}{dst:Option Tmp}(h:∀ d,dst=some d->d ∉ o.looksAt ops)(v:A):cQ (cR σ dst v) ops o=cQ σ ops o:=by
 cases dst with
 | none=>rfl
 | some d=>exact pG (B3 (h d rfl) v)
/-! Calls that write blocks alone. -/
theorem LK{σ2:S}(hm:σ2.m=σ.m)(ns:List Nat):∀ (xs:List Lf) (k:List V->Option X),jC σ2 ns xs k=jC σ ns xs k
 | [],k=>rfl
 | x :: xs,k=>by
  simp only[jC,vF hm]
  congr 2
  funext y
  exact LK hm ns xs _
theorem Vf{σ2:S}(hm:σ2.m=σ.m)(ns:List Nat)(x:A)(k:Pt->Option X):jZ σ2 ns x k=jZ σ ns x k:=by
 cases x <;>simp only[jZ,LK hm]
theorem Vg{σ2:S}(hm:σ2.m=σ.m)(p:PK)(x:A):nA σ2 p x=nA σ p x:=by
 cases p <;>simp only[nA,hm]
theorem LL{σ2:S}(hm:σ2.m=σ.m):∀ (ps:List PK) (xs:List Operand),(∀ x∈xs,ah σ2 x=ah σ x)->eY σ2 ps xs=eY σ ps xs
 | [],[],_=>rfl
 | [],_ :: _,_=>rfl
 | _ :: _,[],_=>rfl
 | p :: ps,x :: xs,h=>by
  simp only[eY]
  rw[h x (.head _),Vg hm,LL hm ps xs (fun y hy=>h y (.tail _ hy))]
theorem B5{σ2:S}(hm:σ2.m=σ.m)(ns:List Nat):∀ (ps:List PK) (xs:List Operand) (ak:List Mu) (k:iS ps->Option X),(∀ x∈xs,ah σ2 x=ah σ x)->dZ σ2 ns ps xs ak k=dZ σ ns ps xs ak k
 | [],[],[],k,_=>rfl
 | .v b t :: ps,x :: xs,ak,k,h=>by
  simp only[dZ]
  rw[h x (.head _),Vf hm]
  congr 1
  funext p
  congr 1
  split
  ·exact B5 hm ns ps xs ak _ (fun y hy=>h y (.tail _ hy))
  ·rfl
 | .p t g off :: ps,x :: xs,.blk r' cs vs :: ak,k,h=>by
  simp only[dZ]
  split
  ·exact B5 hm ns ps xs ak _ (fun y hy=>h y (.tail _ hy))
  ·rfl
 | .s t g :: ps,x :: xs,.sl q y0 :: ak,k,h=>by
  simp only[dZ]
  split
  ·exact B5 hm ns ps xs ak _ (fun y hy=>h y (.tail _ hy))
  ·rfl
 | [],[],_ :: _,k,_=>rfl
 | [],_ :: _,_,k,_=>rfl
 | .v _ _ :: _,[],_,k,_=>rfl
 | .p _ _ _ :: _,[],_,k,_=>rfl
 | .s _ _ :: _,[],_,k,_=>rfl
 | .p _ _ _ :: _,_ :: _,[],k,_=>rfl
 | .s _ _ :: _,_ :: _,[],k,_=>rfl
 | .p _ _ _ :: _,_ :: _,.sl _ _ :: _,k,_=>rfl
 | .s _ _ :: _,_ :: _,.blk _ _ _ :: _,k,_=>rfl
theorem Vh{m:Nat->Option au}{l:Lf}{v:V}{q:Nat}(h:ny m l=some (v,some q)):v.av=false:=by
 unfold ny at h
 split at h
 ·simp at h
 ·split at h
  ·rename_i y _
   cases hf:y.av with
   | true=>rw[hf]at h;simp at h
   | false=>
    rw[hf,cond_false]at h
    simp only[Option.some.injEq,Prod.mk.injEq]at h
    rw[<-h.1];exact hf
  ·cases h
 ·cases h
theorem LM{m:Nat->Option au}:∀ {cs:List Lf} {vs:List (V×Option Nat)},kT m cs=some vs->(∀ v∈vs,v.1.av=true)->∀ v∈vs,v.2=none
 | [],vs,h,_=>by injection h with h;subst h;simp
 | c :: cs,vs,h,hf=>by
  unfold kT at h
  split at h
  ·rename_i v sE h1 h2
   injection h with h
   subst h
   intro u hu
   rcases List.mem_cons.1 hu with rfl | hu
   ·obtain⟨x,q⟩:=u
    cases q with
    | none=>rfl
    | some q=>have:=Vh h1;rw[hf _ (.head _)]at this;cases this
   ·exact LM h2 (fun v hv=>hf v (.tail _ hv)) u hu
  ·cases h
theorem LN{i:Nat}:∀ (vs:List (V×Option Nat)) (j:Nat),(∀ v∈vs,v.2=none)->vp i j vs=[]
 | [],_,_=>rfl
 | (x,q) :: vs,j,h=>by
  have:=h _ (.head _)
  simp only at this
  subst this
  exact LN vs (j+1) (fun v hv=>h v (.tail _ hv))
theorem Gd:∀ (bM:List Nat) (xs:List V),(∀ x∈xs,x.av=true)->nE bM xs=[]/\mo bM xs=[]
 | [],[],_=>⟨rfl,rfl⟩
 | [],_ :: _,_=>⟨rfl,rfl⟩
 | _ :: _,[],_=>⟨rfl,rfl⟩
 | n :: bM,x :: xs,h=>by
  simp only[nE,mo,h x (.head _),cond_true]
  exact Gd bM xs (fun x hx=>h x (.tail _ hx))
def vI(ps:List PK):Bool:=ps.all fun p=>match p with
 | .v _ _=>true
 | .p _ g _=>Nat.beq g 0
 | .s _ _=>false
theorem Ge{ns:List Nat}:∀ (ps:List PK) (xs:List Operand) (ak:List Mu) (k:iS ps->Option X),vI ps=true->eY σ ps xs=some ak->dZ σ ns ps xs ak k=some r->∀ (i pos c0:Nat) (y:oY (cF ps)),
  (∀ p∈fT i ak,p.1∈ec σ ps xs)/\ic c0 pos ak (dY (cF ps) y)=[]/\∀ (zB cn:List Nat),∀ p∈gj zB cn c0 pos ak (dY (cF ps) y),p.1∈ec σ ps xs
 | [],[],ak,k,_,hm,h=>by
  injection hm with hm
  subst hm
  intro i pos c0 y
  exact⟨(fun p hp=>by cases hp),by simp[ic],(fun _ _ p hp=>by simp[gj]at hp)⟩
 | .v b t :: ps,x :: xs,ak,k,hf,hm,h=>by
  have iL:eY σ ps xs=some ak:=by
   unfold eY at hm
   split at hm
   ·rename_i mu fq h1 h2;exact(nB h1).elim
   ·rename_i fq h1 h2;rw[h2];exact hm
   ·cases hm
  have bO:vI ps=true:=by simpa [vI]using hf
  unfold dZ at h
  obtain⟨p,h2,_⟩:=Ln h
  cases U:p.1==b with
  | false=>rw[U]at h2;cases h2
  | true=>
   rw[U,cond_true]at h2
   split at h2
   ·intro i pos c0 y
    exact Ge ps xs ak _ bO iL h2 i pos c0 y
   ·cases h2
 | .p t g off :: ps,x :: xs,ak,k,hf,hm,h=>by
  unfold eY at hm
  split at hm
  ·rename_i mu fq h1 h2
   injection hm with hm
   subst hm
   have h1:=nB h1
   cases mu with
   | sl=>exact h1.elim
   | blk r' cs vs=>
    have h1:ah σ x = .aE r' off/\rG σ (.blk r' cs vs):=h1
    have hf:Nat.beq g 0=true/\vI ps=true:=by simpa [vI]using hf
    have hg:=Nat.eq_of_beq_eq_true hf.1
    subst hg
    unfold dZ at h
    split at h
    ·rename_i z hz
     have hz:dec t 0 (vs.map (·.1))=some z:=hz
     have hw:=gS t 0 _ z hz
     have Gf:∀ v∈vs,v.1.av=true:=by
      intro v hv
      obtain⟨j,hj⟩:=List.mem_iff_getElem?.1 hv
      have LO:(vs.map (·.1))[j]?=some v.1:=by rw[List.getElem?_map,hj];rfl
      have ou:j<(enc t 0 z).length:=by rw[<-hw.1];exact(List.getElem?_eq_some_iff.1 LO).1
      have hk:=hw.2 j _ _ LO (List.getElem?_eq_getElem ou)
      have mD:=fP t 0 z (by omega) j _ (List.getElem?_eq_getElem ou)
      cases Gf:v.1.av with
      | true=>rfl
      | false=>rw[hk.Fv Gf]at mD;cases mD
     have hn:=LM h1.2.2.1 Gf
     intro i pos c0 y
     obtain⟨k1,k2,k3⟩:=Ge ps xs fq _ hf.2 h2 h (i+1) (pos+1+vs.length) c0 y.2
     have LP:∀ u∈enc t 0 y.1,u.av=true:=by
      intro u hu
      obtain⟨j,hj⟩:=List.mem_iff_getElem?.1 hu
      exact fP t 0 y.1 (by omega) j u hj
     have tf:ec σ (.p t 0 off :: ps) (x :: xs)=r' :: ec σ ps xs:=by simp only[ec,h1.1]
     rw[tf]
     refine⟨fun p hp=>?_,?_,fun zB cn p hp=>?_⟩
     ·simp only[fT,LN vs 0 hn,List.nil_append]at hp
      rcases List.mem_cons.1 hp with rfl | hp
      ·exact .head _
      ·exact .tail _ (k1 p hp)
     ·show nE (ia c0 (pos+1) vs) (enc t 0 y.1)++ic c0 (pos+1+vs.length) fq (dY (cF ps) y.2)=[]
      rw[(Gd _ _ LP).1,k2]
      rfl
     ·have hp:p∈(r',au.blk (jD zB cn (ia c0 (pos+1) vs) cs (enc t 0 y.1))) :: (mo (ia c0 (pos+1) vs) (enc t 0 y.1)++gj zB cn c0 (pos+1+vs.length) fq (dY (cF ps) y.2)):=hp
      rw[(Gd _ _ LP).2,List.nil_append]at hp
      rcases List.mem_cons.1 hp with rfl | hp
      ·exact .head _
      ·exact .tail _ (k3 zB cn p hp)
    ·cases h
  ·rename_i fq h1 h2
   exact(nB h1).elim
  ·cases hm
 | .s t g :: ps,x :: xs,ak,k,hf,hm,h=>by simp[vI]at hf
 | [],_ :: _,ak,k,_,hm,h=>by cases hm
 | _ :: _,[],ak,k,_,hm,h=>by cases hm
theorem S.Gg{ns:List Nat}{nr:List (Nat×au)}(v:A)(h:v.aF ns []=v):(σ.set d v).aF ns [] nr=(σ.aF ns [] nr).set d v:=by
 refine S.ext' (fun k=>?_) fun _=>rfl
 show (aH σ.t d v k).aF ns []=aH (fun k=>(σ.t k).aF ns []) d v k
 by_cases hk:k=d
 ·subst hk;rw[aJ,aJ];exact h
 ·rw[aQ _ _ _ hk,aQ _ _ _ hk]
theorem B6{n:Nat}{x:au}:∀ {l:List (Nat×au)},l.lookup n=some x->(n,x)∈l
 | [],h=>by cases h
 | q :: l,h=>by
  rw[List.lookup_cons]at h
  cases U:n==q.1 with
  | true=>
   rw[U]at h
   have e:n=q.1:=by simpa using U
   injection h with h
   rw[e,<-h]
   exact .head _
  | false=>rw[U]at h;exact .tail _ (B6 h)
theorem Vi{τ:S}{f:Nat}{args:Array Operand}{bD:Array TypeId}{c:gE}(ho:o.op = .call { callee:=.value (.func f),args,argTypes:=bD })(hc:Φ f=some (.m c))(Vj:BT c=true)(hp:∀ n,cu o n=true->p n=true/\pb n=true)(rK:∀ n∈ec σ c.ps args.toList,p n=true)
  (h:bC P N Φ σ o some=some τ):Nonempty (lV P N Φ o p pb σ τ):=by
 have aC:∀ σ2,bC P N Φ σ2 o some=gF N σ2 o.dst c args.toList some:=by
  intro σ2
  unfold bC
  rw[show cP o.op=false by rw[ho];rfl,cond_false]
  simp only[dV,ho,hc]
 rw[aC]at h
 have zz:∀ σ2:S,(∀ x∈o.op.operands,ah σ2 x=ah σ x)->∀ x∈args.toList,ah σ2 x=ah σ x:=by
  intro σ2 aO x hx
  refine aO x ?_
  rw[ho]
  simp only[Op.operands,Call.operands]
  simp only[Array.mem_append]
  first
   | exact .inr (by simpa using hx)
   | exact .inl (by simpa using hx)
 unfold gF at h
 split at h
 ·rename_i ak ij
  cases eG:(once (fT 0 ak)&&Nat.ble ak.length 40)with
  | false=>rw[eG]at h;cases h
  | true=>
   rw[eG,cond_true]at h
   have Vk:=Ge c.ps args.toList ak _ Vj ij h
   obtain⟨x,h2,hd⟩:=tn _ _ _ _ h
   split at h2
   ·rename_i y hy
    obtain⟨k1,k2,k3⟩:=Vk 0 (cC c.ro y.1).len (dL o.dst) y.2
    unfold rI at h2
    rw[k2]at h2
    generalize bJ:sX N ak (dY (cF c.ps) y.2) []=ok at h2
    cases ok with
    | false=>cases h2
    | true=>
     rw[cond_true]at h2
     generalize l5:(fT 0 ak).map (·.1)=ns at h2 hd
     generalize yS:gj ns [] (dL o.dst) (cC c.ro y.1).len ak (dY (cF c.ps) y.2)=nr at h2
     have vJ:zx p ns nr:=by
      refine⟨fun n hn=>?_,fun n x hx=>?_⟩
      ·rw[<-l5]at hn
       obtain⟨q,hq,e⟩:=List.mem_map.1 (mm.1 hn)
       rw[<-e]
       exact rK _ (k1 q hq)
      ·rw[<-yS]at hx
       exact rK _ (k3 ns [] _ (B6 hx))
     have eH:∀ σ2:S,(∀ x∈o.op.operands,ah σ2 x=ah σ x)->σ2.m=σ.m->gF N σ2 o.dst c args.toList some=ig N (σ2.aF ns [] nr) o.dst (cC c.ro y.1) some:=by
      intro σ2 aO hm
      simp only[gF]
      rw[LL hm _ _ (zz σ2 aO),ij]
      simp only[eG,cond_true]
      rw[l5,B5 hm _ _ _ _ _ (zz σ2 aO)]
      refine(hd S _).trans ?_
      simp only[hy,rI,k2,bJ,cond_true,yS]
     have Gh:∀ (σ:S) t r j,σ.t t = .aE r j->(σ.aF ns [] nr).t t = .aE r j:=by
      intro σ t r j ht
      show A.aF ns [] (σ.t t)=_
      rw[ht];rfl
     generalize dU:cC c.ro y.1=res at h2 eH
     cases kj:o.dst with
     | none=>
      rw[kj]at h2
      have h2:some (σ.aF ns [] nr)=some τ:=h2
      injection h2 with h2
      exact⟨{ G:=fun σ=>σ.aF ns [] nr,u:=.undef,eq:=by rw[kj];exact h2.symm,run:=fun σ2 aO hm=>by rw[aC,eH σ2 aO hm,kj];rfl,grow:=fun σ=>.aF ns nr vJ (.refl σ),set:=fun σ e v hv=>S.Gg v (A.vH hv vJ.ns),bp:=fun _ σ t r j ht _=>Gh σ t r j ht }⟩
     | some d=>
      rw[kj]at h2
      have bW:∀ n,1000000000100000+1000*d<=n->cu o n=true:=fun n hn=>by unfold cu;rw[kj,ho];exact Nat.ble_eq_true_of_le hn
      have gK:∀ n,1000000000100000+1000*d<=n->p n=true/\pb n=true:=fun n hn=>hp n (bW n hn)
      obtain⟨dr,h3,s6⟩:=Lo h2
      injection h3 with h3
      subst h3
      cases hN:Nat.blt d N with
      | false=>simp only[ig,hN,cond_false]at h2;cases h2
      | true=>
       simp only[ig,hN,cond_true]at h2
       cases res with
       | one q=>
        simp only at h2
        split at h2
        ·rename_i u hu
         injection h2 with h2
         exact⟨{ G:=fun σ=>dw (1000000000100000+1000*d) (σ.aF ns [] nr) q.2,u:=u,eq:=by rw[kj];exact h2.symm,run:=fun σ2 aO hm=>by rw[aC,eH σ2 aO hm,kj];simp only[ig,hN,cond_true,hu];rfl,grow:=fun σ=>(Grow.aF ns nr vJ (.refl σ)).trans (tC q.2 _ _ gK),set:=fun σ e v hv=>by rw[S.Gg v (A.vH hv vJ.ns),yZ v q.2 _ _ fun n hn=>A.nS hv (gK n hn).1 (gK n hn).2],bp:=fun _ σ t r j ht hr=>(tC (p:=cu o) (pb:=cu o) q.2 _ _ (fun n hn=>⟨bW n hn,bW n hn⟩)).bp (Gh σ t r j ht) hr }⟩
        ·cases h2
       | aU ps=>
        injection h2 with h2
        exact⟨{ G:=fun σ=>eN (1000000000100000+1000*d) (σ.aF ns [] nr) ps,u:=_,eq:=by rw[kj];exact h2.symm,run:=fun σ2 aO hm=>by rw[aC,eH σ2 aO hm,kj];simp only[ig,hN,cond_true];rfl,grow:=fun σ=>(Grow.aF ns nr vJ (.refl σ)).trans (zy ps _ _ gK),set:=fun σ e v hv=>by rw[S.Gg v (A.vH hv vJ.ns),FR v ps _ _ fun n hn=>A.nS hv (gK n hn).1 (gK n hn).2],bp:=fun _ σ t r j ht hr=>(zy (p:=cu o) (pb:=cu o) ps _ _ (fun n hn=>⟨bW n hn,bW n hn⟩)).bp (Gh σ t r j ht) hr }⟩
   ·cases h2
 ·cases h
def Calm(Φ:b5)(ok:Nat->Nat->Bool)(kW iq:Nat->Bool)(p pb:Nat->Bool)(σ:S)(o:Oper):Prop:=
 BS Φ o.op=true\/(∃ f args bD c,o.op = .call { callee:=.value (.func f),args:=args,argTypes:=bD }/\Φ f=some (.m c)/\BT c=true/\kU ok σ c.ps args.toList=true/\∀ n∈ec σ c.ps args.toList,p n=true)\/
 (∃ ty t y,o.op = .store ty (.tmp t) y/\o.dst=none/\kW t=true/\ek p (σ.t t))\/
 ∃ x y t t',o.op = .call ⟨.builtin .append,⟨[.tmp x,y]⟩,⟨[t,t']⟩⟩/\iq x=true/\(jf t=false/\Nat.beq t t'=true/\tw o.dst t=false)/\gJ p pb (σ.t x)
theorem Vl{τ:S}{ty:TypeId}{t:Tmp}{y:Operand}(ho:o.op = .store ty (.tmp t) y)(hd:o.dst=none)(eM:ek p (σ.t t))(h:bC P N Φ σ o some=some τ):Nonempty (lV P N Φ o p pb σ τ):=by
 have yP:∀ (x:A) (z:A),(∀ k,x ≠ .ptr k)->s9 x z=false:=by
  intro x z hx
  unfold s9
  split
  ·exact absurd rfl (hx _)
  ·rfl
 have aC:∀ σ2:S,(∀ k,σ2.t t ≠ .ptr k)->bC P N Φ σ2 o some=iK P σ2 ty (σ2.t t) (ah σ2 y) some:=by
  intro σ2 B7
  unfold bC
  rw[show cP o.op=false by rw[ho];rfl,cond_false]
  simp only[dV,ho,hd]
  rw[show s9 (ah σ2 (.tmp t)) (ah σ2 y)=false from yP _ _ B7,cond_false]
  rfl
 rw[aC σ (fun k hk=>by rw[hk]at eM;exact eM)]at h
 cases hx:σ.t t with
 | aE r' j=>
  rw[hx]at h eM
  have hp:p r'=true:=eM
  have key:∃ x,∀ σ2:S,σ2.m=σ.m->∀ v,v=ah σ y->iK P σ2 ty (.aE r' j) v some=some (σ2.root r' x):=by
   unfold iK at h
   split at h
   ·rename_i n xs hn dB
    split at h
    ·rename_i hlen
     simp only at h
     split at h
     ·rename_i cs bU
      split at h
      ·rename_i hj
       cases hl:xs.all Lf.live with
       | false=>rw[hl]at h;cases h
       | true=>
        refine⟨.blk (cL cs j xs),fun σ2 hm v hv=>?_⟩
        subst hv
        simp only[iK,hn,dB,if_pos hlen,hm,bU,if_pos hj,hl,cond_true]
        simp only[S.root,hm]
      ·cases h
     ·cases h
    ·cases h
   ·cases h
  obtain⟨x,bx⟩:=key
  have h1:=bx σ rfl _ rfl
  rw[h]at h1
  injection h1 with h1
  refine⟨{ G:=fun σ=>σ.root r' x,u:=.undef,eq:=by rw[hd];exact h1,run:=fun σ2 aO hm=>?_,grow:=fun σ=>.rt r' x hp (.refl σ),set:=fun σ d v hv=>rfl,bp:=fun _ σ t r j ht _=>ht }⟩
  have e1:σ2.t t = .aE r' j:=(aO (.tmp t) (by rw[ho];simp[Op.operands])).trans hx
  rw[aC σ2 (fun k hk=>by rw[e1]at hk;cases hk),e1,bx σ2 hm _ (aO y (by rw[ho];simp[Op.operands])),hd]
  rfl
 | ptr k=>rw[hx]at eM;exact eM.elim
 | _=>
  rw[hx]at h
  exfalso
  revert h
  unfold iK
  split
  ·split <;>exact fun h=>by cases h
  ·exact fun h=>by cases h
def aR(e:Nat)(x:au)(u:A)(σ:S):S:=((σ.drop e).root e x).set e u
def iy(e:Nat)(u:A):Prop:=u = .aE e 0\/u = .lf (.own [e])
structure jh (x:au):Prop where
 drop:∀ n,x.drop n=x
 aF:∀ ns cn,x.aF ns cn=x
theorem LQ(h:nP o=true):∃ t,∃ e:Nat,o.op = .alloc t/\o.guard=none/\o.dst=some e/\e<20000:=by
 unfold nP at h
 rw[Bool.and_eq_true,Bool.and_eq_true]at h
 obtain⟨⟨h1,h2⟩,h3⟩:=h
 split at h1
 ·rename_i t ht
  split at h3
  ·rename_i e he
   exact⟨t,e,ht,by simpa using h2,he,Nat.le_of_ble_eq_true h3⟩
  ·cases h3
 ·cases h1
theorem Vm{ops:Array Oper}{t:TypeId}{e:Nat}(ht:o.op = .alloc t)(hg:o.guard=none)(hd:o.dst=some e){τ:S}(h:bL P N Φ ops σ o some=some τ):∃ x,jh x/\τ=aR e x (.aE e 0) σ/\∀ σ2,bL P N Φ ops σ2 o some=some (aR e x (.aE e 0) σ2):=by
 have aC:∀ σ2,bL P N Φ ops σ2 o some=lO P N σ2 e t some:=by
  intro σ2
  unfold bL cQ
  rw[hg]
  simp only
  unfold bC
  rw[show cP o.op=false by rw[ht];rfl,cond_false]
  simp only[dV,ht,ck,hd]
 rw[aC]at h
 unfold lO at h
 split at h
 ·rename_i z hz
  unfold dR at h
  cases hN:Nat.blt e N with
  | false=>rw[hN]at h;cases h
  | true=>
   rw[hN,cond_true]at h
   injection h with h
   have h1:∀ (n:Nat) v,(ey v).drop n=ey v:=fun n v=>by unfold ey;split <;>rfl
   have h2:∀ (ns cn:List Nat) v,(ey v).aF ns cn=ey v:=fun ns cn v=>by unfold ey;split <;>rfl
   refine⟨.blk (z.cells.toList.map ey),⟨fun n=>?_,fun ns cn=>?_⟩,h.symm,fun σ2=>(aC σ2).trans ?_⟩
   ·simp only[au.drop,List.map_map]
    congr 1
    exact List.map_congr_left fun v _=>h1 n v
   ·simp only[au.aF,List.map_map]
    congr 1
    exact List.map_congr_left fun v _=>h2 ns cn v
   ·unfold lO dR
    rw[hz,hN]
    rfl
 ·cases h
theorem zC{σ2:S}:∀ (ps:List PK) (xs:List Operand),(∀ x∈xs,ah σ2 x=ah σ x)->ec σ2 ps xs=ec σ ps xs
 | [],[],_=>rfl
 | [],_ :: _,_=>rfl
 | .v _ _ :: _,[],_=>rfl
 | .p _ _ _ :: _,[],_=>rfl
 | .s _ _ :: _,[],_=>rfl
 | .v _ _ :: ps,x :: xs,h=>by simp only[ec];exact zC ps xs (fun y hy=>h y (.tail _ hy))
 | .s _ _ :: ps,x :: xs,h=>by simp only[ec];exact zC ps xs (fun y hy=>h y (.tail _ hy))
 | .p _ _ _ :: ps,x :: xs,h=>by
  simp only[ec]
  rw[h x (.head _),zC ps xs (fun y hy=>h y (.tail _ hy))]
theorem Gi{ok:Nat->Nat->Bool}{σ2:S}(hk:∀ t r j,σ.t t = .aE r j->ok t r=true->σ2.t t = .aE r j):∀ (ps:List PK) (xs:List Operand),kU ok σ ps xs=true->kU ok σ2 ps xs=true/\ec σ2 ps xs=ec σ ps xs
 | [],[],_=>⟨rfl,rfl⟩
 | [],_ :: _,h=>by cases h
 | .v _ _ :: _,[],h=>by cases h
 | .p _ _ _ :: _,[],h=>by cases h
 | .s _ _ :: _,[],h=>by cases h
 | .s _ _ :: _,_ :: _,h=>by cases h
 | .v _ _ :: ps,x :: xs,h=>by
  simp only[kU]at h ⊢
  simp only[ec]
  exact Gi hk ps xs h
 | .p _ _ _ :: ps,x :: xs,h=>by
  cases x with
  | tmp t=>
   simp only[kU,Bool.and_eq_true]at h
   obtain⟨h1,h2⟩:=h
   obtain⟨k1,k2⟩:=Gi hk ps xs h2
   split at h1
   ·rename_i r' j hr
    have e:=hk t r' j hr h1
    refine⟨?_,?_⟩
    ·simp only[kU,Bool.and_eq_true]
     exact⟨by rw[e];exact h1,k1⟩
    ·simp only[ec,ah,e,hr,k2]
   ·cases h1
  | const v=>simp[kU]at h
  | global g=>simp[kU]at h
  | func f=>simp[kU]at h
theorem Calm.cZ{ok:Nat->Nat->Bool}{kW iq:Nat->Bool}{σ2:S}(h:Calm Φ ok kW iq p pb σ o)(hk:∀ t r j,σ.t t = .aE r j->ok t r=true->σ2.t t = .aE r j)(hs:∀ t,kW t=true->ek p (σ.t t)->ek p (σ2.t t))(ha:∀ t,iq t=true->gJ p pb (σ.t t)->gJ p pb (σ2.t t)):Calm Φ ok kW iq p pb σ2 o:=by
 rcases h with h | ⟨f,args,bD,c,h1,h2,h3,h4,h5⟩ | ⟨ty,t,y,h1,h2,h3,h4⟩ | ⟨x,y,t,t',h1,h2,hn,h3⟩
 ·exact .inl h
 ·obtain⟨k1,k2⟩:=Gi hk _ _ h4
  exact .inr (.inl ⟨f,args,bD,c,h1,h2,h3,k1,by rw[k2];exact h5⟩)
 ·exact .inr (.inr (.inl ⟨ty,t,y,h1,h2,h3,hs t h3 h4⟩))
 ·exact .inr (.inr (.inr ⟨x,y,t,t',h1,h2,hn,ha x h2 h3⟩))
theorem zD{ops:Array Oper}(hm:iT o=true)(hw:cQ σ ops o=some true){τ:S}(h:bL P N Φ ops σ o some=some τ):∃ (e:Nat) (x:au) (u:A),o.dst=some e/\e<20000/\jh x/\iy e u/\τ=aR e x u σ/\
  ∀ σ2,cQ σ2 ops o=some true->(∀ y∈o.op.operands,ah σ2 y=ah σ y)->bL P N Φ ops σ2 o some=some (aR e x u σ2):=by
 have aC:cP o.op=false->∀ σ2,cQ σ2 ops o=some true->bL P N Φ ops σ2 o some=dV P N Φ σ2 o some:=by
  intro hv σ2 tD
  unfold bL
  rw[tD]
  simp only
  unfold bC
  rw[hv,cond_false]
 have LR:∀ y:V,jh (.sl y):=fun y=>⟨fun _=>rfl,fun _ _=>rfl⟩
 unfold iT at hm
 rw[Bool.and_eq_true]at hm
 obtain⟨Gj,nL⟩:=hm
 split at nL
 ·rename_i e he
  have aV:e<20000:=Nat.le_of_ble_eq_true nL
  split at Gj
  ·rename_i t ht
   have hr:=aC (by rw[ht];rfl)
   rw[hr σ hw]at h
   simp only[dV,ht,ck,he]at h
   unfold lO at h
   split at h
   ·rename_i z hz
    unfold dR at h
    cases hN:Nat.blt e N with
    | false=>rw[hN]at h;cases h
    | true=>
     rw[hN,cond_true]at h
     injection h with h
     have h1:∀ (n:Nat) v,(ey v).drop n=ey v:=fun n v=>by unfold ey;split <;>rfl
     have h2:∀ (ns cn:List Nat) v,(ey v).aF ns cn=ey v:=fun ns cn v=>by unfold ey;split <;>rfl
     refine⟨e,.blk (z.cells.toList.map ey),.aE e 0,he,aV,⟨fun n=>?_,fun ns cn=>?_⟩,.inl rfl,h.symm,fun σ2 tD _=>(hr σ2 tD).trans ?_⟩
     ·simp only[au.drop,List.map_map]
      congr 1
      exact List.map_congr_left fun v _=>h1 n v
     ·simp only[au.aF,List.map_map]
      congr 1
      exact List.map_congr_left fun v _=>h2 ns cn v
     ·simp only[dV,ht,ck,he]
      unfold lO dR
      rw[hz,hN]
      rfl
   ·cases h
  ·rename_i t len parts ht
   have hr:=aC (by rw[ht];rfl)
   rw[hr σ hw]at h
   have hn:jf t=false:=by simpa using Gj
   simp only[dV,ht,ck,he,hn,cond_false]at h
   obtain⟨y,h1,h2⟩:=FP h
   injection h1 with h1
   refine⟨e,.sl y,.lf (.own [e]),he,aV,LR y,.inr rfl,h1.symm,fun σ2 tD aO=>(hr σ2 tD).trans ?_⟩
   simp only[dV,ht,ck,he,hn,cond_false]
   refine(h2 σ2 fun q hq=>aO _ ?_).at_ _
   rw[ht]
   simp only[Op.operands]
   exact List.mem_toArray.2 (List.mem_map_of_mem (f:=(·.2)) hq)
  ·rename_i t l c ht
   have hr:=aC (by rw[ht];rfl)
   rw[hr σ hw]at h
   simp only[dV,ht,ck,he]at h
   obtain⟨y,h1,h2⟩:=FO h
   injection h1 with h1
   refine⟨e,.sl y,.lf (.own [e]),he,aV,LR y,.inr rfl,h1.symm,fun σ2 tD aO=>(hr σ2 tD).trans ?_⟩
   simp only[dV,ht,ck,he]
   rw[aO l (by rw[ht];simp[Op.operands]),aO c (by rw[ht];simp[Op.operands])]
   exact(h2 σ2).at_ _
  ·cases Gj
 ·cases nL
theorem B8{d:Nat}{t:TypeId}{y z:A}{τ:S}(h:jW P N σ d t y z some=some τ):∃ (r:Nat) (v:V),τ=((σ.drop r).root r (.sl v)).set d (.lf (.own [r]))/\(r=d\/y = .lf (.own [r]))/\
  ∀ σ2:S,(∀ (k:V->Option S),jT σ2 z k=jT σ z k)->(∀ r v,y = .lf (.own [r])->σ.m r=some (.sl v)->σ2.m r=some (.sl v))->jW P N σ2 d t y z some=some (((σ2.drop r).root r (.sl v)).set d (.lf (.own [r]))):=by
 unfold jW at h
 split at h
 ·rename_i e tc dS
  cases hc:(Nat.beq (full tc) 0&&(zeroOf P e).any (fun z=>Nat.beq z.cells.size (aj tc)))with
  | false=>rw[hc]at h;cases h
  | true=>
   rw[hc,cond_true]at h
   obtain⟨yv,h2,hd⟩:=FN h
   clear h
   split at h2
   ·cases h2
   ·rename_i l2 ez
    split at h2
    ·cases hL:bz l2.length with
     | false=>rw[hL]at h2;cases h2
     | true=>
      rw[hL,cond_true]at h2
      cases hN:Nat.blt d N with
      | false=>unfold dR at h2;rw[hN]at h2;cases h2
      | true=>
       have h3:=h2
       unfold dR at h3
       rw[hN,cond_true]at h3
       injection h3 with h3
       refine⟨d,.sl tc 2 false l2,h3.symm,.inl rfl,fun σ2 hz nL=>?_⟩
       simp only[jW,dS,hc,cond_true]
       refine(hz _).trans ((hd.at_ _).trans ?_)
       simp only[ez,hL,cond_true]
       unfold dR
       rw[hN,cond_true]
    ·rename_i rr
     split at h2
     ·rename_i t' o q l hm
      split at h2
      ·rename_i di
       cases hL:(Nat.blt d N&&(Nat.blt rr N || Nat.ble 60000 rr)&&bz (l.length+l2.length))with
       | false=>rw[hL]at h2;cases h2
       | true=>
        rw[hL,cond_true]at h2
        injection h2 with h2
        refine⟨rr,_,h2.symm,.inr rfl,fun σ2 hz nL=>?_⟩
        simp only[jW,dS,hc,cond_true]
        refine(hz _).trans ((hd.at_ _).trans ?_)
        simp only[ez,nL rr _ rfl hm,dif_pos di,hL,cond_true]
      ·cases h2
     ·cases h2
    ·cases h2
 ·cases h
theorem Gk(h:isApp o=true):∃ x y t t',o.op = .call ⟨.builtin .append,⟨[x,y]⟩,⟨[t,t']⟩⟩/\jf t=false/\Nat.beq t t'=true/\tw o.dst t=false:=by
 unfold isApp at h
 split at h
 ·rw[Bool.and_eq_true,Bool.and_eq_true]at h
  exact⟨_,_,_,_,by assumption,by simpa using h.1.1,h.1.2,by simpa using h.2⟩
 ·cases h
theorem zE{x y:Operand}{t t':TypeId}(ho:o.op = .call ⟨.builtin .append,⟨[x,y]⟩,⟨[t,t']⟩⟩)(hn:jf t=false)(di:Nat.beq t t'=true)(hk:tw o.dst t=false)(σ:S):bC P N Φ σ o some=ck o fun d=>jW P N σ d t (ah σ x) (ah σ y) some:=by
 unfold bC
 rw[show cP o.op=false by rw[ho];rfl,cond_false]
 simp only[dV,ho,hn,di,cond_false,cond_true]
 unfold ck
 cases hd:o.dst with
 | none=>rfl
 | some d=>
  rw[hd]at hk
  have hk:zk t d=false:=hk
  simp only[hk,cond_false]
theorem Vn{τ:S}{x:Tmp}{y:Operand}{t t':TypeId}(ho:o.op = .call ⟨.builtin .append,⟨[.tmp x,y]⟩,⟨[t,t']⟩⟩)(hn:jf t=false)(di:Nat.beq t t'=true)(hk:tw o.dst t=false)(hp:∀ n,cu o n=true->p n=true/\pb n=true)(eM:gJ p pb (σ.t x))(h:bC P N Φ σ o some=some τ):Nonempty (lV P N Φ o p pb σ τ):=by
 rw[zE ho hn di hk]at h
 obtain⟨d,dz,h⟩:=c9 h
 obtain⟨r,v,cc,hr,eH⟩:=B8 h
 have B9:p r=true/\pb r=true:=by
  rcases hr with hr | hr
  ·rw[hr];exact hp d (by unfold cu;rw[dz,ho];exact Nat.beq_refl d)
  ·exact eM r hr
 refine⟨{ G:=fun σ=>(σ.drop r).root r (.sl v),u:=.lf (.own [r]),eq:=by rw[dz];exact cc,run:=fun σ2 aO hm=>?_,grow:=fun σ=>.root r _ B9.1 B9.2 (.refl σ),set:=fun σ e v' hv=>(by rw[S.drop_set r (A.nS hv B9.1 B9.2)];rfl),bp:=fun ha=>(by rw[isApp,ho]at ha;simp[hn,di,hk]at ha) }⟩
 rw[zE ho hn di hk]
 unfold ck
 rw[dz]
 simp only
 rw[aO (.tmp x) (by rw[ho];simp[Op.operands,Call.operands]),aO y (by rw[ho];simp[Op.operands,Call.operands]),eH σ2 (fun k=>UX hm _ k) (fun r' v' _ h'=>by rw[hm];exact h')]
 rfl
theorem Vo[Inhabited Wd](aI:dn P Φ){ok:Nat->Nat->Bool}{kW iq ir:Nat->Bool}(hX:∀ x,ir x=true->ek p (σ.t x)){ops:Array Oper}{oi oj:Oper}{v:A}{τ:S}(hF:iw P ops oi p pb v σ)(ha:oi.apart ops oj=true)(ht:Calm Φ ok kW iq p pb σ oj)(hp:∀ n,cu oj n=true->p n=true/\pb n=true)
  (h:bL P N Φ ops (cR σ oi.dst v) oj some=some τ):∃ aa,bL P N Φ ops σ oj some=some aa/\τ=cR aa oi.dst v/\iw P ops oi p pb v aa/\(isApp oj=false->∀ t r j,σ.t t = .aE r j->oj.dst≠some t->cu oj r=false->aa.t t = .aE r j)/\
   (∀ t,ek p (σ.t t)->(oj.dst≠some t\/(nP oj=true/\p t=true)\/∃ s x f,oj.op = .fieldAddr s (.tmp x) f/\ir x=true)->ek p (aa.t t))/\
   ∀ t,gJ p pb (σ.t t)->(oj.dst≠some t\/(iT oj=true/\p t=true/\pb t=true)\/(isApp oj=true\/rU Φ oj=true))->gJ p pb (aa.t t):=by
 obtain⟨a1,a2,a3⟩:=Oper.apart_spec ha
 have vL:∀ (σ:S) (u:A) t,oj.dst≠some t->(cR σ oj.dst u).t t=σ.t t:=by
  intro σ u t ht
  cases hd:oj.dst with
  | none=>rfl
  | some d=>exact aQ _ _ _ (by rintro rfl;exact ht hd)
 have vM:∀ aa,bL P N Φ ops σ oj some=some aa->∀ t,nP oj=true->oj.dst=some t->p t=true->ek p (aa.t t):=by
  intro aa bK t vM hd FW
  obtain⟨ty,e,h1,h2,h3,_⟩:=LQ vM
  rw[h3]at hd
  injection hd with hd
  subst hd
  obtain⟨x,_,e1,_⟩:=Vm h1 h2 h3 bK
  rw[e1]
  show ek p (aH _ e (.aE e 0) e)
  rw[aJ]
  exact FW
 have fin:∀ aa,bL P N Φ ops σ oj some=some aa->(∀ t,oj.dst≠some t->ek p (σ.t t)->ek p (aa.t t))->∀ t,ek p (σ.t t)->(oj.dst≠some t\/(nP oj=true/\p t=true)\/∃ s x f,oj.op = .fieldAddr s (.tmp x) f/\ir x=true)->ek p (aa.t t):=by
  intro aa bK hk t ht Gl
  rcases Gl with az | ⟨h1,h2⟩ | ⟨s,x,f,h1,h2⟩
  ·exact hk t az ht
  ·by_cases hd:oj.dst=some t
   ·exact vM aa bK t h1 hd h2
   ·exact hk t hd ht
  ·by_cases hd:oj.dst=some t
   ·unfold bL at bK
    split at bK
    ·unfold bC at bK
     rw[show cP oj.op=true by rw[h1];rfl,cond_true]at bK
     rw[h1]at bK
     simp only[aX]at bK
     have hx:=hX x h2
     have hx:ek p (ah σ (.tmp x)):=hx
     generalize ah σ (.tmp x)=z at hx bK
     have key:∀ v,eK N σ oj.dst v some=some aa->ek p v->ek p (aa.t t):=by
      intro v hv hA
      obtain⟨g1,_⟩:=fL hv
      injection g1 with g1
      rw[<-g1,hd]
      show ek p (aH σ.t t v t)
      rw[aJ]
      exact hA
     unfold l7 at bK
     split at bK
     ·cases bK
     ·split at bK
      ·split at bK
       ·exact key _ bK hx
       ·exact key _ bK trivial
       ·exact hx.elim
       ·cases bK
      ·cases bK
    ·obtain⟨g1,_⟩:=fL bK
     injection g1 with g1
     rw[<-g1,hd]
     show ek p (aH σ.t t .skip t)
     rw[aJ]
     trivial
    ·cases bK
   ·exact hk t hd ht
 have Vp:=ht
 have LS:∀ aa,bL P N Φ ops σ oj some=some aa->(∀ t,oj.dst≠some t->gJ p pb (σ.t t)->gJ p pb (aa.t t))->∀ t,gJ p pb (σ.t t)->(oj.dst≠some t\/(iT oj=true/\p t=true/\pb t=true)\/(isApp oj=true\/rU Φ oj=true))->gJ p pb (aa.t t):=by
  intro aa bK hk t ht Gl
  rcases Gl with az | ⟨h1,h2⟩ | Vq | tE
  ·exact hk t az ht
  ·by_cases hd:oj.dst=some t
   ·cases hw:cQ σ ops oj with
    | none=>unfold bL at bK;rw[hw]at bK;cases bK
    | some b=>
     cases b with
     | true=>
      obtain⟨e,x,u,g1,g2,g3,g4,g5,_⟩:=zD h1 hw bK
      rw[hd]at g1
      injection g1 with g1
      subst g1
      rw[g5]
      intro r hr
      have hr:aH _ t u t = .lf (.own [r]):=hr
      rw[aJ]at hr
      rcases g4 with g4 | g4
      ·rw[g4]at hr;cases hr
      ·rw[g4]at hr
       injection hr with hr
       injection hr with hr
       injection hr with hr
       subst hr
       exact h2
     | false=>
      unfold bL at bK
      rw[hw]at bK
      obtain⟨g1,_⟩:=fL bK
      injection g1 with g1
      rw[<-g1,hd]
      intro r hr
      have hr:aH σ.t t .skip t = .lf (.own [r]):=hr
      rw[aJ]at hr
      cases hr
   ·exact hk t hd ht
  ·by_cases hd:oj.dst=some t
   ·obtain⟨x,y,t1,t2,g1,g2,g3,g4⟩:=Gk Vq
    have hT:gJ p pb (ah σ x):=by
     rcases Vp with q | ⟨f,args,bD,c,q1,_⟩ | ⟨ty,tt,yy,q1,_⟩ | ⟨x',y',t1',t2',q1,q2,q3,q4⟩
     ·rw[g1]at q;cases q
     ·rw[g1]at q1;cases q1
     ·rw[g1]at q1;cases q1
     ·rw[g1]at q1
      injection q1 with q1
      injection q1 with _ q1 _
      injection q1 with q1
      injection q1 with q1 _
      subst q1
      exact q4
    cases hw:cQ σ ops oj with
    | none=>unfold bL at bK;rw[hw]at bK;cases bK
    | some b=>
     cases b with
     | true=>
      unfold bL at bK
      rw[hw]at bK
      have bK:bC P N Φ σ oj some=some aa:=bK
      rw[zE g1 g2 g3 g4]at bK
      obtain⟨d,dz,bK⟩:=c9 bK
      rw[hd]at dz
      injection dz with dz
      subst dz
      obtain⟨r,v,cc,hr,_⟩:=B8 bK
      rw[cc]
      intro r' bq
      have bq:aH ((σ.drop r).root r (.sl v)).t t (.lf (.own [r])) t = .lf (.own [r']):=bq
      rw[aJ]at bq
      injection bq with bq
      injection bq with bq
      injection bq with bq
      subst bq
      rcases hr with hr | hr
      ·rw[hr];exact hp t (by unfold cu;rw[hd,g1];exact Nat.beq_refl t)
      ·exact hT r hr
     | false=>
      unfold bL at bK
      rw[hw]at bK
      obtain⟨g1,_⟩:=fL bK
      injection g1 with g1
      rw[<-g1,hd]
      intro r hr
      have hr:aH σ.t t .skip t = .lf (.own [r]):=hr
      rw[aJ]at hr
      cases hr
   ·exact hk t hd ht
  ·by_cases hd:oj.dst=some t
   ·cases hw:cQ σ ops oj with
    | none=>unfold bL at bK;rw[hw]at bK;cases bK
    | some b=>
     cases b with
     | true=>
      unfold bL at bK
      rw[hw]at bK
      have bK:bC P N Φ σ oj some=some aa:=bK
      unfold rU at tE
      split at tE
      ·rename_i f args bD ho
       split at tE
       ·rename_i c hc
        unfold bC at bK
        rw[show cP oj.op=false by rw[ho];rfl,cond_false]at bK
        simp only[dV,ho,hc]at bK
        obtain⟨d,dz,bK⟩:=c9 bK
        rw[hd]at dz
        injection dz with dz
        subst dz
        obtain⟨res,dr,h1,h2,_⟩:=vw (aI f _ hc).2 bK
        injection h2 with h2
        subst h2
        have bW:∀ n,1000000000100000+1000*t<=n->p n=true/\pb n=true:=fun n hn=>hp n (by unfold cu;rw[hd,ho];exact Nat.ble_eq_true_of_le hn)
        intro r hr
        unfold nJ at h1
        cases res with
        | one q=>
         simp only at h1
         split at h1
         ·rename_i y hy
          injection h1 with h1
          rw[<-h1]at hr
          have hr:aH _ t y t=A.lf (Lf.own [r]):=hr
          rw[aJ]at hr
          subst hr
          obtain⟨b,vs⟩:=q
          cases b with
          | true=>cases hy
          | false=>
           match vs,hy with
           | [v],hy=>
            have hy:some (A.lf (bif v.av then Lf.v v else Lf.own [1000000000100000+1000*t]))=some (A.lf (Lf.own [r])):=hy
            injection hy with hy
            injection hy with hy
            cases hf:v.av with
            | true=>rw[hf]at hy;cases hy
            | false=>
             rw[hf]at hy
             injection hy with hy
             injection hy with hy
             subst hy
             exact bW _ (Nat.le_refl _)
         ·cases h1
        | aU ps=>
         injection h1 with h1
         rw[<-h1]at hr
         have hr:aH _ t _ t=A.lf (Lf.own [r]):=hr
         rw[aJ]at hr
         cases hr
       ·cases tE
      ·cases tE
     | false=>
      unfold bL at bK
      rw[hw]at bK
      obtain⟨g1,_⟩:=fL bK
      injection g1 with g1
      rw[<-g1,hd]
      intro r hr
      have hr:aH σ.t t .skip t = .lf (.own [r]):=hr
      rw[aJ]at hr
      cases hr
   ·exact hk t hd ht
 unfold bL at h
 rw[Ve a1]at h
 split at h
 ·rename_i hw
  have Vr:Nonempty (lV P N Φ oj p pb (cR σ oi.dst v) τ):=by
   rcases ht with ht | ⟨f,args,bD,c,h1,h2,h3,h4,h5⟩ | ⟨ty,t,y,h1,h2,h3,h4⟩ | ⟨x,y,t1,t2,h1,h2,hn,h3⟩
   ·exact Vb aI ht hp h
   ·refine Vi h1 h2 h3 hp ?_ h
    rw[zC]
    ·exact h5
    ·intro x hx
     refine B4 a1 v ?_
     rw[h1]
     simp only[Op.operands,Call.operands]
     simp only[Array.mem_append]
     first
      | exact .inr (by simpa using hx)
      | exact .inl (by simpa using hx)
   ·refine Vl h1 h2 ?_ h
    have e1:ah (cR σ oi.dst v) (.tmp t)=ah σ (.tmp t):=B4 a1 v (by rw[h1];simp[Op.operands])
    have e1:(cR σ oi.dst v).t t=σ.t t:=e1
    rw[e1];exact h4
   ·refine Vn h1 hn.1 hn.2.1 hn.2.2 hp ?_ h
    have e1:ah (cR σ oi.dst v) (.tmp x)=ah σ (.tmp x):=B4 a1 v (by rw[h1];simp[Op.operands,Call.operands])
    have e1:(cR σ oi.dst v).t x=σ.t x:=e1
    rw[e1];exact h3
  obtain⟨G,u,e,hr,hg,hs,Vs⟩:=Vr
  have nT:bL P N Φ ops σ oj some=some (cR (G σ) oj.dst u):=by
   unfold bL
   rw[hw]
   exact hr σ (fun x hx=>(B4 a1 v hx).symm) (Vd _ _).symm
  refine⟨cR (G σ) oj.dst u,nT,?_,(hF.grow (hg σ)).put a3,fun BK t r j ht az bW=>?_,fin _ nT fun t az ht=>?_,LS _ nT fun t az ht=>?_⟩
  ·refine e.trans ?_
   have:∀ dst,G (cR σ dst v)=cR (G σ) dst v:=by
    intro dst
    cases dst with
    | none=>rfl
    | some d=>exact hs σ d v hF.nr
   rw[this]
   exact LJ _ _ a2
  ·rw[vL _ _ t az]
   exact Vs BK σ t r j ht bW
  ·rw[vL _ _ t az]
   exact(hg σ).st ht
  ·rw[vL _ _ t az]
   exact(hg σ).tg ht
 ·rename_i hw
  obtain⟨h1,h2⟩:=fL h
  injection h1 with h1
  have nT:bL P N Φ ops σ oj some=some (cR σ oj.dst .skip):=by
   unfold bL
   rw[hw]
   exact(h2 σ).at_ _
  exact⟨cR σ oj.dst .skip,nT,by rw[<-h1];exact LJ _ _ a2,hF.put a3,fun _ t r j ht az _=>(by rw[vL _ _ t az];exact ht),fin _ nT fun t az ht=>(by rw[vL _ _ t az];exact ht),LS _ nT fun t az ht=>(by rw[vL _ _ t az];exact ht)⟩
 ·cases h
def Any(P:Program)(N:Nat)(Φ:b5)(ops:Array Oper)(K:S->Prop):Nat->Nat->S->Prop
 | 0,L,σ=>(∀ j,gH ops L j=false)/\K σ
 | f+1,L,σ=>((∀ j,gH ops L j=false)->K σ)/\∀ j,gH ops L j=true->∃ o τ,ops[j]?=some o/\bL P N Φ ops σ o some=some τ/\Any P N Φ ops K f (L ||| 2 ^ j) τ
theorem lW(L i j:Nat):(L ||| 2 ^ i).testBit j=(L.testBit j || decide (i=j)):=by
 rw[Nat.testBit_or,Nat.testBit_two_pow]
theorem zF{ops:Array Oper}{L j:Nat}:gH ops L j=true ↔ L.testBit j=false/\∃ o,ops[j]?=some o/\∀ e∈o.after,Region.binds .any e=true->L.testBit e.on=true:=by
 unfold gH
 rw[Bool.and_eq_true,Bool.not_eq_true']
 refine and_congr Iff.rfl ?_
 cases ho:ops[j]? with
 | none=>simp
 | some o=>
  simp only[List.all_eq_true,Option.some.injEq,exists_eq_left']
  constructor
  ·intro h e he U
   have:=h e (by simpa using he)
   rw[U]at this
   simpa using this
  ·intro h e he
   cases U:Region.binds .any e with
   | false=>rfl
   | true=>simpa using h e (by simpa using he) U
theorem Gm{ops:Array Oper}{L i j:Nat}(h:gH ops L j=true)(az:j≠i):gH ops (L ||| 2 ^ i) j=true:=by
 rw[zF]at h ⊢
 obtain⟨h0,o,ho,eH⟩:=h
 refine⟨?_,o,ho,fun e he U=>?_⟩
 ·rw[lW,h0];simpa using fun h=>az h.symm
 ·rw[lW,eH e he U];rfl
theorem iw.step{ops:Array Oper}{oi:Oper}{v:A}(hF:iw P ops oi p pb v σ)(hN:∀ σ:S,eK N σ oi.dst v some=some (cR σ oi.dst v)):bL P N Φ ops σ oi some=some (cR σ oi.dst v):=by
 unfold bL
 rcases hF with ⟨h1,h2,h3,_,_,_⟩ | ⟨h1,h2⟩
 ·rw[h1]
  show bC P N Φ σ oi some=_
  unfold bC
  rw[h2,cond_true]
  exact(h3.at_ _).trans (hN σ)
 ·rw[h1,<-h2];exact hN σ
theorem Gn{K:S->Prop}{ops:Array Oper}{i W:Nat}{oi:Oper}(hi:ops[i]?=some oi)(hW:∀ j oj,ops[j]?=some oj->W.testBit j=true->∃ e∈oj.after,Region.binds .any e=true/\(e.on=i\/W.testBit e.on=true))(E:S->S)(I:Nat->S->Prop)
  (r1:∀ L σ,I L σ->bL P N Φ ops σ oi some=some (E σ))
  (r2:∀ L σ j oj τ,I L σ->ops[j]?=some oj->j≠i->L.testBit j=false->W.testBit j=false->bL P N Φ ops (E σ) oj some=some τ->∃ aa,bL P N Φ ops σ oj some=some aa/\τ=E aa/\I (L ||| 2 ^ j) aa):
  ∀ (f L:Nat) (σ:S),(∀ j,W.testBit j=true->L.testBit j=false)->gH ops L i=true->I L σ->Any P N Φ ops K f (L ||| 2 ^ i) (E σ)->Any P N Φ ops K (f+1) L σ:=by
 intro f
 induction f with
 | zero=>
  intro L σ mE hr hI H
  refine⟨fun h=>absurd (h i) (by rw[hr];simp),fun j hj=>?_⟩
  by_cases cD:j=i
  ·subst cD;exact⟨oi,_,hi,r1 L σ hI,H⟩
  ·have:=Gm hj cD
   rw[H.1 j]at this
   cases this
 | succ f ih=>
  intro L σ mE hr hI H
  refine⟨fun h=>absurd (h i) (by rw[hr];simp),fun j hj=>?_⟩
  by_cases cD:j=i
  ·subst cD;exact⟨oi,_,hi,r1 L σ hI,H⟩
  ·obtain⟨oj,τ,bG,cc,H'⟩:=H.2 j (Gm hj cD)
   obtain⟨cU,oj',Ca,eH⟩:=zF.1 hj
   rw[bG]at Ca
   injection Ca with Ca
   subst Ca
   have cI:W.testBit j=false:=by
    cases cI:W.testBit j with
    | false=>rfl
    | true=>
     obtain⟨e,he,U,eG⟩:=hW j oj bG cI
     have h1:=eH e he U
     rcases eG with eG | eG
     ·rw[eG,(zF.1 hr).1]at h1;cases h1
     ·rw[mE _ eG]at h1;cases h1
   obtain⟨aa,hs,tF,Vt⟩:=r2 L σ j oj τ hI bG cD cU cI cc
   refine⟨oj,aa,bG,hs,ih (L ||| 2 ^ j) aa (fun k hk=>?_) (Gm hr (Ne.symm cD)) Vt ?_⟩
   ·rw[lW,mE k hk]
    have:j≠k:=by rintro rfl;rw[cI]at hk;cases hk
    simpa using this
   ·rw[<-tF]
    have:L ||| 2 ^ j ||| 2 ^ i=L ||| 2 ^ i ||| 2 ^ j:=by rw[Nat.or_assoc,Nat.or_comm (2 ^ j),<-Nat.or_assoc]
    rw[this]
    exact H'
theorem Vu[Inhabited Wd](aI:dn P Φ){ok:Nat->Nat->Bool}{kW iq ir:Nat->Bool}{K:S->Prop}{ops:Array Oper}{i W:Nat}{oi:Oper}{v:A}(hi:ops[i]?=some oi)(hN:∀ σ:S,eK N σ oi.dst v some=some (cR σ oi.dst v))
  (hW:∀ j oj,ops[j]?=some oj->W.testBit j=true->∃ e∈oj.after,Region.binds .any e=true/\(e.on=i\/W.testBit e.on=true)) (f L:Nat) (σ:S)
  (bJ:∀ t r,ok t r=true->∀ j oj,ops[j]?=some oj->j≠i->L.testBit j=false->W.testBit j=false->oj.dst≠some t/\cu oj r=false/\isApp oj=false)
  (Cb:∀ x,ir x=true->∀ j oj,ops[j]?=some oj->j≠i->L.testBit j=false->W.testBit j=false->oj.dst≠some x) (hX:∀ x,ir x=true->ek p (σ.t x))
  (Cc:∀ t,kW t=true->∀ j oj,ops[j]?=some oj->j≠i->L.testBit j=false->W.testBit j=false->oj.dst≠some t\/(nP oj=true/\p t=true)\/∃ s x f,oj.op = .fieldAddr s (.tmp x) f/\ir x=true)
  (Cd:∀ t,iq t=true->∀ j oj,ops[j]?=some oj->j≠i->L.testBit j=false->W.testBit j=false->oj.dst≠some t\/(iT oj=true/\p t=true/\pb t=true)\/(isApp oj=true\/rU Φ oj=true))
  (tG:∀ j oj,ops[j]?=some oj->j≠i->L.testBit j=false->W.testBit j=false->oi.apart ops oj=true/\Calm Φ ok kW iq p pb σ oj/\∀ n,cu oj n=true->p n=true/\pb n=true)
  (mE:∀ j,W.testBit j=true->L.testBit j=false) (hr:gH ops L i=true) (hF:iw P ops oi p pb v σ) (H:Any P N Φ ops K f (L ||| 2 ^ i) (cR σ oi.dst v)):Any P N Φ ops K (f+1) L σ:=by
 refine Gn hi hW (fun σ=>cR σ oi.dst v)
  (fun L σ=>iw P ops oi p pb v σ/\(∀ t r,ok t r=true->∀ j oj,ops[j]?=some oj->j≠i->L.testBit j=false->W.testBit j=false->oj.dst≠some t/\cu oj r=false/\isApp oj=false)/\
   ((∀ x,ir x=true->∀ j oj,ops[j]?=some oj->j≠i->L.testBit j=false->W.testBit j=false->oj.dst≠some x)/\∀ x,ir x=true->ek p (σ.t x))/\
   (∀ t,kW t=true->∀ j oj,ops[j]?=some oj->j≠i->L.testBit j=false->W.testBit j=false->oj.dst≠some t\/(nP oj=true/\p t=true)\/∃ s x f,oj.op = .fieldAddr s (.tmp x) f/\ir x=true)/\
   (∀ t,iq t=true->∀ j oj,ops[j]?=some oj->j≠i->L.testBit j=false->W.testBit j=false->oj.dst≠some t\/(iT oj=true/\p t=true/\pb t=true)\/(isApp oj=true\/rU Φ oj=true))/\
   ∀ j oj,ops[j]?=some oj->j≠i->L.testBit j=false->W.testBit j=false->oi.apart ops oj=true/\Calm Φ ok kW iq p pb σ oj/\∀ n,cu oj n=true->p n=true/\pb n=true)
  (fun L σ h=>h.1.step hN) (fun L σ j oj τ h bG cD cU cI cc=>?_) f L σ mE hr ⟨hF,bJ,⟨Cb,hX⟩,Cc,Cd,tG⟩ H
 obtain⟨hF,bJ,⟨Cb,hX⟩,Cc,Cd,tG⟩:=h
 obtain⟨c1,c2,c3⟩:=tG j oj bG cD cU cI
 obtain⟨aa,hs,tF,Vv,oJ,eM,Vw⟩:=Vo (ir:=ir) aI hX hF c1 c2 c3 cc
 have hL:∀ k,(L ||| 2 ^ j).testBit k=false->L.testBit k=false:=by
  intro k hk
  rw[lW,Bool.or_eq_false_iff]at hk
  exact hk.1
 refine⟨aa,hs,tF,Vv,fun t r ht k kX hk mF mG mH=>bJ t r ht k kX hk mF (hL k mG) mH,⟨fun x hx k kX hk mF mG mH=>Cb x hx k kX hk mF (hL k mG) mH,fun x hx=>eM x (hX x hx) (.inl (Cb x hx j oj bG cD cU cI))⟩,fun t ht k kX hk mF mG mH=>Cc t ht k kX hk mF (hL k mG) mH,fun t ht k kX hk mF mG mH=>Cd t ht k kX hk mF (hL k mG) mH,fun k kX hk mF mG mH=>?_⟩
 obtain⟨d1,d2,d3⟩:=tG k kX hk mF (hL k mG) mH
 refine⟨d1,d2.cZ (fun t r j' ht h=>?_) (fun t h ht=>eM t ht (Cc t h j oj bG cD cU cI)) (fun t h ht=>Vw t ht (Cd t h j oj bG cD cU cI)),d3⟩
 obtain⟨e1,e2,e3⟩:=bJ t r h j oj bG cD cU cI
 exact oJ e3 t r j' ht e1 e2
end
end Go.Proofs.YtjldnlbiefpekaaDoor
namespace Go.Proofs.YtjldnlbiefpekaaDoor
open Go.RowKit
set_option linter.unusedVariables false
section
variable {P:Program} {w w':World} {w0:Wd} {B N:Nat} {lab af:aG} {ρ ρ':Nat->Loc} {σ:S} {a:Act} {X:Type} {d e:Nat} {r:X} {o:Oper} {Φ:b5} {p:Nat->Bool} {x:au} {u:A}
theorem Lf.jF(l:Lf)(a b:Nat):(l.drop a).drop b=(l.drop b).drop a:=by
 cases l with
 | own k=>
  have e1:∀ n,Lf.drop n (.own k)=(bif aD n k then .dead else .own k):=fun _=>rfl
  rw[e1 a,e1 b]
  cases ha:aD a k <;>cases U:aD b k <;>simp[Lf.drop,ha,U]
 | v x=>rfl
 | dead=>rfl
theorem dM.jF(l:List Lf)(a b:Nat):(l.map (Lf.drop a)).map (Lf.drop b)=(l.map (Lf.drop b)).map (Lf.drop a):=by
 rw[List.map_map,List.map_map]
 exact List.map_congr_left fun x _=>Lf.jF x a b
theorem A.jF(y:A)(a b:Nat):(y.drop a).drop b=(y.drop b).drop a:=by
 cases y with
 | lf x=>exact congrArg A.lf (Lf.jF x a b)
 | agg cs=>exact congrArg A.agg (dM.jF cs a b)
 | aU xs=>
  refine congrArg A.aU ?_
  rw[List.map_map,List.map_map]
  refine List.map_congr_left fun q _=>?_
  simp only[Function.comp]
  rw[dM.jF]
 | ptr k=>
  have e1:∀ n,A.drop n (.ptr k)=(bif aD n k then .undef else .ptr k):=fun _=>rfl
  rw[e1 a,e1 b]
  cases ha:aD a k <;>cases U:aD b k <;>simp[A.drop,ha,U]
 | view k s i j=>
  have e1:∀ n,A.drop n (.view k s i j)=(bif aD n k then .undef else .view k s i j):=fun _=>rfl
  rw[e1 a,e1 b]
  cases ha:aD a k <;>cases U:aD b k <;>simp[A.drop,ha,U]
 | pk r j=>
  have e1:∀ n,A.drop n (.pk r j)=(bif Nat.beq r n then .undef else .pk r j):=fun _=>rfl
  rw[e1 a,e1 b]
  cases ha:Nat.beq r a <;>cases U:Nat.beq r b <;>simp only[cond_true,cond_false,A.drop,ha,U]
 | aE r j=>
  have e1:∀ n,A.drop n (.aE r j)=(bif Nat.beq r n then .undef else .aE r j):=fun _=>rfl
  rw[e1 a,e1 b]
  cases ha:Nat.beq r a <;>cases U:Nat.beq r b <;>simp only[cond_true,cond_false,A.drop,ha,U]
 | fn f cap=>
  have e1:∀ n,A.drop n (.fn f cap)=(bif cap.any (fun p=>Nat.beq p.1 n)then .undef else .fn f cap):=fun _=>rfl
  rw[e1 a,e1 b]
  cases ha:cap.any (fun p=>Nat.beq p.1 a) <;>cases U:cap.any (fun p=>Nat.beq p.1 b) <;>simp only[cond_true,cond_false,A.drop,ha,U]
 | _=>rfl
theorem au.jF(y:au)(a b:Nat):(y.drop a).drop b=(y.drop b).drop a:=by
 cases y with
 | blk cs=>exact congrArg au.blk (dM.jF cs a b)
 | sl y=>rfl
 | mp l=>rfl
 | gh xs=>
  refine congrArg au.gh ?_
  rw[List.map_map,List.map_map]
  exact List.map_congr_left fun x _=>A.jF x a b
theorem Lf.mI(l:Lf)(a:Nat)(ns cn:List Nat):(l.drop a).aF ns cn=(l.aF ns cn).drop a:=by
 cases l with
 | own k=>
  have e1:Lf.drop a (.own k)=(bif aD a k then .dead else .own k):=rfl
  have e2:Lf.aF ns cn (.own k)=(bif aT k cn || (aT k ns && !(Nat.beq k.length 1))then .dead else .own k):=rfl
  rw[e1,e2]
  cases ha:aD a k <;>cases U:(aT k cn || (aT k ns && !(Nat.beq k.length 1))) <;>simp only[cond_true,cond_false,Lf.drop,Lf.aF,ha,U]
 | v x=>rfl
 | dead=>rfl
theorem dM.mI(l:List Lf)(a:Nat)(ns cn:List Nat):(l.map (Lf.drop a)).map (Lf.aF ns cn)=(l.map (Lf.aF ns cn)).map (Lf.drop a):=by
 rw[List.map_map,List.map_map]
 exact List.map_congr_left fun x _=>Lf.mI x a ns cn
theorem A.mI(y:A)(a:Nat)(ns cn:List Nat):(y.drop a).aF ns cn=(y.aF ns cn).drop a:=by
 cases y with
 | lf x=>exact congrArg A.lf (Lf.mI x a ns cn)
 | agg cs=>exact congrArg A.agg (dM.mI cs a ns cn)
 | aU xs=>
  refine congrArg A.aU ?_
  rw[List.map_map,List.map_map]
  refine List.map_congr_left fun q _=>?_
  simp only[Function.comp]
  rw[dM.mI]
 | ptr k=>
  have e1:A.drop a (.ptr k)=(bif aD a k then .undef else .ptr k):=rfl
  have e2:A.aF ns cn (.ptr k)=(bif aT k cn || aT k ns then .undef else .ptr k):=rfl
  rw[e1,e2]
  cases ha:aD a k <;>cases U:(aT k cn || aT k ns) <;>simp only[cond_true,cond_false,A.drop,A.aF,ha,U]
 | view k s i j=>
  have e1:A.drop a (.view k s i j)=(bif aD a k then .undef else .view k s i j):=rfl
  have e2:A.aF ns cn (.view k s i j)=(bif aT k cn || aT k ns then .undef else .view k s i j):=rfl
  rw[e1,e2]
  cases ha:aD a k <;>cases U:(aT k cn || aT k ns) <;>simp only[cond_true,cond_false,A.drop,A.aF,ha,U]
 | pk r j=>
  have e1:A.drop a (.pk r j)=(bif Nat.beq r a then .undef else .pk r j):=rfl
  have e2:A.aF ns cn (.pk r j)=(bif aM r cn then .undef else .pk r j):=rfl
  rw[e1,e2]
  cases ha:Nat.beq r a <;>cases U:aM r cn <;>simp only[cond_true,cond_false,A.drop,A.aF,ha,U]
 | aE r j=>
  have e1:A.drop a (.aE r j)=(bif Nat.beq r a then .undef else .aE r j):=rfl
  have e2:A.aF ns cn (.aE r j)=(bif aM r cn then .undef else .aE r j):=rfl
  rw[e1,e2]
  cases ha:Nat.beq r a <;>cases U:aM r cn <;>simp only[cond_true,cond_false,A.drop,A.aF,ha,U]
 | fn f cap=>
  have e1:A.drop a (.fn f cap)=(bif cap.any (fun p=>Nat.beq p.1 a)then .undef else .fn f cap):=rfl
  have e2:A.aF ns cn (.fn f cap)=(bif cap.any (fun p=>aM p.1 cn)then .undef else .fn f cap):=rfl
  rw[e1,e2]
  cases ha:cap.any (fun p=>Nat.beq p.1 a) <;>cases U:cap.any (fun p=>aM p.1 cn) <;>simp only[cond_true,cond_false,A.drop,A.aF,ha,U]
 | _=>rfl
theorem au.mI(y:au)(a:Nat)(ns cn:List Nat):(y.drop a).aF ns cn=(y.aF ns cn).drop a:=by
 cases y with
 | blk cs=>exact congrArg au.blk (dM.mI cs a ns cn)
 | sl y=>rfl
 | mp l=>rfl
 | gh xs=>
  refine congrArg au.gh ?_
  rw[List.map_map,List.map_map]
  exact List.map_congr_left fun x _=>A.mI x a ns cn
theorem Ce{a b:Nat}(h:a≠b):Nat.beq a b=false:=by
 cases U:Nat.beq a b with
 | false=>rfl
 | true=>exact absurd (Nat.eq_of_beq_eq_true U) h
theorem iy.drop(h:iy e u){n:Nat}(hn:e≠n):u.drop n=u:=by
 rcases h with rfl | rfl
 ·simp only[A.drop,Ce hn,cond_false]
 ·have:aD n [e]=false:=by simp[aD,hn]
  simp only[A.drop,Lf.drop,this,cond_false]
theorem iy.aF(h:iy e u){ns cn:List Nat}(h1:aM e ns=false)(h2:aM e cn=false):u.aF ns cn=u:=by
 rcases h with rfl | rfl
 ·simp only[A.aF,h2,cond_false]
 ·have e1:aT [e] ns=false:=h1
  have e2:aT [e] cn=false:=h2
  simp only[A.aF,Lf.aF,e1,e2]
  rfl
theorem kY(k:Nat):(aR e x u σ).t k=if k=e then u else (σ.t k).drop e:=by
 by_cases hk:k=e
 ·subst hk;rw[if_pos rfl];exact aJ _ _ _
 ·rw[if_neg hk];exact aQ _ _ _ hk
theorem ji(n:Nat):(aR e x u σ).m n=if n=e then some x else (σ.m n).map (au.drop e):=by
 show aH (fun r=>bif Nat.beq r e then none else (σ.m r).map (au.drop e)) e (some x) n=_
 by_cases hn:n=e
 ·subst hn;rw[if_pos rfl,aJ]
 ·rw[if_neg hn,aQ _ _ _ hn,Ce hn];rfl
theorem Gq(c:Nat)(y:au)(k:Nat):((σ.drop c).root c y).t k=(σ.t k).drop c:=rfl
theorem Gr(c:Nat)(y:au)(n:Nat):((σ.drop c).root c y).m n=if n=c then some y else (σ.m n).map (au.drop c):=by
 show aH (fun r=>bif Nat.beq r c then none else (σ.m r).map (au.drop c)) c (some y) n=_
 by_cases hn:n=c
 ·subst hn;rw[if_pos rfl,aJ]
 ·rw[if_neg hn,aQ _ _ _ hn,Ce hn];rfl
theorem LU{c:Nat}(z:V)(hx:jh x)(hu:iy e u)(hc:e≠c):((aR e x u σ).drop c).root c (.sl z)=aR e x u ((σ.drop c).root c (.sl z)):=by
 refine S.ext' (fun k=>?_) fun n=>?_
 ·rw[Gq,kY,kY,Gq]
  by_cases hk:k=e
  ·rw[if_pos hk,if_pos hk]
   exact hu.drop hc
  ·rw[if_neg hk,if_neg hk];exact A.jF _ _ _
 ·rw[Gr,ji,ji,Gr]
  by_cases hn:n=c
  ·rw[if_pos hn,if_neg (by omega),if_pos hn];rfl
  ·rw[if_neg hn]
   by_cases az:n=e
   ·rw[if_pos az,if_pos az]
    simp only[Option.map_some,hx.drop]
   ·rw[if_neg az,if_neg az,if_neg hn,Option.map_map,Option.map_map]
    congr 1
    funext y
    exact au.jF y e c
theorem vN(hx:jh x)(hu:iy e u):∀ (xs:List V) (c:Nat) (σ:S),e<c->dw c (aR e x u σ) xs=aR e x u (dw c σ xs)
 | [],c,σ,_=>rfl
 | y :: xs,c,σ,h=>by
  simp only[dw]
  cases hf:y.av with
  | true=>exact vN hx hu xs (c+1) σ (by omega)
  | false=>
   simp only[cond_false]
   rw[LU y hx hu (by omega)]
   exact vN hx hu xs (c+1) _ (by omega)
theorem Cf(hx:jh x)(hu:iy e u):∀ (ps:List Pt) (c:Nat) (σ:S),e<c->eN c (aR e x u σ) ps=aR e x u (eN c σ ps)
 | [],c,σ,_=>rfl
 | q :: ps,c,σ,h=>by
  simp only[eN]
  rw[vN hx hu _ _ _ h]
  exact Cf hx hu ps _ _ (by omega)
theorem rX{v:A}(hd:d≠e)(hv:v.drop e=v):(aR e x u σ).set d v=aR e x u (σ.set d v):=by
 refine S.ext' (fun k=>?_) fun n=>?_
 ·show aH (aR e x u σ).t d v k=_
  rw[kY]
  show _=if k=e then u else (aH σ.t d v k).drop e
  by_cases hk:k=d
  ·subst hk;rw[aJ,if_neg hd,aJ,hv]
  ·rw[aQ _ _ _ hk,aQ _ _ _ hk,kY]
 ·show (aR e x u σ).m n=_
  rw[ji,ji]
  rfl
theorem Gs{v:A}{dst:Option Tmp}(hd:dst≠some e)(hv:v.drop e=v):cR (aR e x u σ) dst v=aR e x u (cR σ dst v):=by
 cases dst with
 | none=>rfl
 | some d=>exact rX (by rintro rfl;exact hd rfl) hv
theorem Vx{ns cn:List Nat}{nr:List (Nat×au)}(hx:jh x)(hu:iy e u)(h1:aM e ns=false)(h2:aM e cn=false)(h3:∀ q∈nr,q.1≠e/\q.2.drop e=q.2):(aR e x u σ).aF ns cn nr=aR e x u (σ.aF ns cn nr):=by
 have hl:nr.lookup e=none:=by
  cases hl:nr.lookup e with
  | none=>rfl
  | some y=>exact absurd rfl (h3 _ (B6 hl)).1
 refine S.ext' (fun k=>?_) fun n=>?_
 ·show ((aR e x u σ).t k).aF ns cn=_
  rw[kY,kY]
  by_cases hk:k=e
  ·rw[if_pos hk,if_pos hk]
   exact hu.aF h1 h2
  ·rw[if_neg hk,if_neg hk]
   exact A.mI _ _ _ _
 ·rw[ji]
  show (match nr.lookup n with | some x=>some x | none=>bif aM n ns || aM n cn then none else ((aR e x u σ).m n).map (au.aF ns cn))=if n=e then some x else (match nr.lookup n with | some x=>some x | none=>bif aM n ns || aM n cn then none else (σ.m n).map (au.aF ns cn)).map (au.drop e)
  by_cases hn:n=e
  ·subst hn
   rw[if_pos rfl,hl,h1,h2]
   simp only[Bool.or_false,cond_false,ji,if_true,Option.map_some,hx.aF]
  ·rw[if_neg hn]
   cases hq:nr.lookup n with
   | some y=>simp only[Option.map_some];rw[(h3 _ (B6 hq)).2]
   | none=>
    simp only
    cases (aM n ns || aM n cn)with
    | true=>rfl
    | false=>
     simp only[cond_false]
     rw[ji,if_neg hn,Option.map_map,Option.map_map]
     congr 1
     funext y
     exact au.mI y e ns cn
/-! What a call reads. -/
theorem LV{q:List Nat}{k:V->Option X}(h:aD e q=false):c7 (aR e x u σ).m q k=c7 σ.m q k:=rW q k h
theorem pH{y:Operand}(h:(ah σ y).nr p=true)(hp:p e=true)(hy:y ≠ .tmp e):ah (aR e x u σ) y=ah σ y:=by
 cases y with
 | tmp t=>
  show (aR e x u σ).t t=σ.t t
  rw[kY,if_neg (by rintro rfl;exact hy rfl)]
  exact A.gG h hp
 | _=>rfl
theorem Gt{l:Lf}{k:V->Option X}(h:l.nr p=true)(hp:p e=true):dP (aR e x u σ) l k=dP σ l k:=by
 cases l with
 | own q=>exact LV (mw h hp)
 | _=>rfl
theorem LW{q:List Nat}{s i j:Nat}{k:V->Option X}(h:cg p q=true)(hp:p e=true):lJ (aR e x u σ) q s i j k=lJ σ q s i j k:=by
 unfold lJ
 exact LV (mw h hp)
theorem Vy{y:A}{k:V->Option X}(h:y.nr p=true)(hp:p e=true):jT (aR e x u σ) y k=jT σ y k:=by
 cases y with
 | lf l=>exact Gt h hp
 | view q s i j=>exact LW h hp
 | _=>rfl
theorem Gu(hp:p e=true):∀ (xs:List Lf) (k:List V->Option X),xs.all (Lf.nr p)=true->iO (aR e x u σ) xs k=iO σ xs k
 | [],k,_=>rfl
 | y :: xs,k,h=>by
  rw[List.all_cons,Bool.and_eq_true]at h
  simp only[iO,Gt h.1 hp]
  congr 1
  funext z
  exact Gu hp xs _ h.2
theorem Vz{y:A}{k:Pt->Option X}(h:y.nr p=true)(hp:p e=true):gZ (aR e x u σ) y k=gZ σ y k:=by
 cases y with
 | lf l=>simp only[gZ];exact Gu hp _ _ (by simpa [A.nr]using h)
 | agg cs=>simp only[gZ];exact Gu hp _ _ h
 | view q s i j=>simp only[gZ];exact LW h hp
 | dO cs=>cases cs <;>rfl
 | _=>rfl
theorem Gw(hp:p e=true):∀ (xs:List Operand) (k:List Pt->Option X),(∀ y∈xs,(ah σ y).nr p=true/\y ≠ .tmp e)->fo (aR e x u σ) xs k=fo σ xs k
 | [],k,_=>rfl
 | y :: xs,k,h=>by
  obtain⟨h1,h2⟩:=h y (.head _)
  simp only[fo]
  rw[pH h1 hp h2,Vz h1 hp]
  congr 1
  funext z
  exact Gw hp xs _ (fun y hy=>h y (.tail _ hy))
theorem Gx{ns:List Nat}(hp:p e=true):∀ (xs:List Lf) (k:List V->Option X),xs.all (Lf.nr p)=true->jC (aR e x u σ) ns xs k=jC σ ns xs k
 | [],k,_=>rfl
 | y :: xs,k,h=>by
  rw[List.all_cons,Bool.and_eq_true]at h
  simp only[jC,Gt h.1 hp]
  congr 2
  funext z
  exact Gx hp xs _ h.2
theorem VA{ns:List Nat}{y:A}{k:Pt->Option X}(h:y.nr p=true)(hp:p e=true):jZ (aR e x u σ) ns y k=jZ σ ns y k:=by
 cases y with
 | lf l=>simp only[jZ];exact Gx hp _ _ (by simpa [A.nr]using h)
 | agg cs=>simp only[jZ];exact Gx hp _ _ h
 | _=>rfl
theorem VB{l:Lf}(h:l.nr p=true)(hp:p e=true):ny (aR e x u σ).m l=ny σ.m l:=by
 cases l with
 | own k=>
  match k with
  | []=>rfl
  | [q]=>
   have hq:q≠e:=by
    have h:(!p q)=true:=by simpa [Lf.nr,cg]using h
    rintro rfl
    rw[hp]at h;cases h
   simp only[ny]
   rw[ji,if_neg hq]
   cases σ.m q with
   | none=>rfl
   | some y=>cases y <;>rfl
  | _ :: _ :: _=>rfl
 | v x=>rfl
 | dead=>rfl
theorem LX(hp:p e=true):∀ (ls:List Lf),ls.all (Lf.nr p)=true->kT (aR e x u σ).m ls=kT σ.m ls
 | [],_=>rfl
 | l :: ls,h=>by
  rw[List.all_cons,Bool.and_eq_true]at h
  simp only[kT,VB h.1 hp,LX hp ls h.2]
theorem LY{m:Nat->Option au}:∀ {cs:List Lf} {vs:List (V×Option Nat)},kT m cs=some vs->cs.all (Lf.nr p)=true->∀ v∈vs,∀ q,v.2=some q->p q=false
 | [],vs,h,_=>by injection h with h;subst h;simp
 | c :: cs,vs,h,hf=>by
  rw[List.all_cons,Bool.and_eq_true]at hf
  unfold kT at h
  split at h
  ·rename_i v sE h1 h2
   injection h with h
   subst h
   intro u hu q hq
   rcases List.mem_cons.1 hu with rfl | hu
   ·unfold ny at h1
    split at h1
    ·injection h1 with h1;rw[<-h1]at hq;cases hq
    ·rename_i q'
     split at h1
     ·rename_i y _
      cases LZ:y.av with
      | true=>rw[LZ]at h1;injection h1 with h1;rw[<-h1]at hq;cases hq
      | false=>
       rw[LZ,cond_false]at h1
       injection h1 with h1
       rw[<-h1]at hq
       injection hq with hq
       subst hq
       have h3:=hf.1
       simpa [Lf.nr,cg]using h3
     ·cases h1
    ·cases h1
   ·exact LY h2 hf.2 u hu q hq
  ·cases h
def Cg(p:Nat->Bool):Mu->Prop
 | .blk r cs vs=>p r=false/\cs.all (Lf.nr p)=true/\∀ v∈vs,∀ q,v.2=some q->p q=false
 | .sl q _=>p q=false
theorem Gy(hp:p e=true):∀ (ps:List PK) (xs:List Operand) (ak:List Mu),(∀ y∈xs,(ah σ y).nr p=true/\y ≠ .tmp e)->(∀ n∈ec σ ps xs,pq σ p n=true)->eY σ ps xs=some ak->eY (aR e x u σ) ps xs=some ak/\∀ mu∈ak,Cg p mu
 | [],[],ak,_,_,h=>⟨h,by injection h with h;subst h;simp⟩
 | [],_ :: _,ak,_,_,h=>by cases h
 | _ :: _,[],ak,_,_,h=>by cases h
 | q :: ps,y :: xs,ak,hy,hl,h=>by
  obtain⟨h1,h2⟩:=hy y (.head _)
  have eW:∀ n∈ec σ ps xs,pq σ p n=true:=by
   intro n hn
   refine hl n ?_
   cases q with
   | v=>exact hn
   | s=>exact hn
   | p t g off=>
    simp only[ec]
    split
    ·exact .tail _ hn
    ·exact hn
  unfold eY at h
  have dm:∀ z,nA σ q (ah σ y)=some z->nA (aR e x u σ) q (ah (aR e x u σ) y)=some z/\∀ mu,z=some mu->Cg p mu:=by
   intro z hz
   rw[pH h1 hp h2]
   have fD:=nB hz
   cases q with
   | v=>
    cases z with
    | some mu=>exact fD.elim
    | none=>exact⟨hz,by simp⟩
   | p t g off=>
    cases z with
    | none=>exact fD.elim
    | some mu=>
     cases mu with
     | sl=>exact fD.elim
     | blk r' cs vs=>
      obtain⟨e1,hm,hg,hlen⟩:=fD
      have bq:p r'=false:=by
       rw[e1]at h1
       have h1:(!p r')=true:=h1
       simpa using h1
      have az:r'≠e:=by rintro rfl;rw[hp]at bq;cases bq
      have bU:cs.all (Lf.nr p)=true:=by
       have:=hl r' (by simp only[ec,e1];exact .head _)
       unfold pq at this
       rw[hm]at this
       exact this
      have iL:(aR e x u σ).m r'=some (.blk cs):=by
       rw[ji,if_neg az,hm]
       simp only[Option.map_some,au.drop,dM.gG bU hp]
      refine⟨?_,fun mu dm=>?_⟩
      ·rw[e1]
       simp only[nA,Nat.beq_refl,cond_true,iL,LX hp cs bU,hg]
       have:Nat.blt cs.length 999=true:=Nat.ble_eq_true_of_le hlen
       rw[this];rfl
      ·injection dm with dm
       subst dm
       exact⟨bq,bU,LY hg bU⟩
   | s t g=>
    cases z with
    | none=>exact fD.elim
    | some mu=>
     cases mu with
     | blk=>exact fD.elim
     | sl q y0=>
      obtain⟨e1,hm,hf⟩:=fD
      have hq:p q=false:=by
       rw[e1]at h1
       have h1:(!p q)=true:=by simpa [A.nr,Lf.nr,cg]using h1
       simpa using h1
      have az:q≠e:=by rintro rfl;rw[hp]at hq;cases hq
      refine⟨?_,fun mu dm=>?_⟩
      ·rw[e1]
       simp only[nA]
       rw[ji,if_neg az,hm]
       simp only[Option.map_some,au.drop,hf,cond_false]
      ·injection dm with dm
       subst dm
       exact hq
  split at h
  ·rename_i mu fq k1 k2
   injection h with h
   subst h
   obtain⟨g1,g2⟩:=dm _ k1
   obtain⟨f1,f2⟩:=Gy hp ps xs fq (fun y h=>hy y (.tail _ h)) eW k2
   refine⟨by simp only[eY,g1,f1],fun m hm=>?_⟩
   rcases List.mem_cons.1 hm with rfl | hm
   ·exact g2 _ rfl
   ·exact f2 m hm
  ·rename_i fq k1 k2
   injection h with h
   subst h
   obtain⟨g1,g2⟩:=dm _ k1
   obtain⟨f1,f2⟩:=Gy hp ps xs fq (fun y h=>hy y (.tail _ h)) eW k2
   exact⟨by simp only[eY,g1,f1],f2⟩
  ·cases h
theorem Ch(hp:p e=true)(ns:List Nat):∀ (ps:List PK) (xs:List Operand) (ak:List Mu) (k:iS ps->Option X),(∀ y∈xs,(ah σ y).nr p=true/\y ≠ .tmp e)->dZ (aR e x u σ) ns ps xs ak k=dZ σ ns ps xs ak k
 | [],[],[],k,_=>rfl
 | .v b t :: ps,y :: xs,ak,k,h=>by
  obtain⟨h1,h2⟩:=h y (.head _)
  simp only[dZ]
  rw[pH h1 hp h2,VA h1 hp]
  congr 1
  funext z
  congr 1
  split
  ·exact Ch hp ns ps xs ak _ (fun y hy=>h y (.tail _ hy))
  ·rfl
 | .p t g off :: ps,y :: xs,.blk r' cs vs :: ak,k,h=>by
  simp only[dZ]
  split
  ·exact Ch hp ns ps xs ak _ (fun y hy=>h y (.tail _ hy))
  ·rfl
 | .s t g :: ps,y :: xs,.sl q y0 :: ak,k,h=>by
  simp only[dZ]
  split
  ·exact Ch hp ns ps xs ak _ (fun y hy=>h y (.tail _ hy))
  ·rfl
 | [],[],_ :: _,k,_=>rfl
 | [],_ :: _,_,k,_=>rfl
 | .v _ _ :: _,[],_,k,_=>rfl
 | .p _ _ _ :: _,[],_,k,_=>rfl
 | .s _ _ :: _,[],_,k,_=>rfl
 | .p _ _ _ :: _,_ :: _,[],k,_=>rfl
 | .s _ _ :: _,_ :: _,[],k,_=>rfl
 | .p _ _ _ :: _,_ :: _,.sl _ _ :: _,k,_=>rfl
 | .s _ _ :: _,_ :: _,.blk _ _ _ :: _,k,_=>rfl
theorem Gz{i:Nat}:∀ (vs:List (V×Option Nat)) (j:Nat),(∀ v∈vs,∀ q,v.2=some q->p q=false)->∀ u∈vp i j vs,p u.1=false
 | [],_,_,u,hu=>by cases hu
 | (y,none) :: vs,j,h,u,hu=>Gz vs (j+1) (fun v hv=>h v (.tail _ hv)) u hu
 | (y,some q) :: vs,j,h,u,hu=>by
  rcases List.mem_cons.1 hu with rfl | hu
  ·exact h _ (.head _) q rfl
  ·exact Gz vs (j+1) (fun v hv=>h v (.tail _ hv)) u hu
theorem GA:∀ (ak:List Mu) (i:Nat),(∀ mu∈ak,Cg p mu)->∀ u∈fT i ak,p u.1=false
 | [],_,_,u,hu=>by cases hu
 | .blk r' cs vs :: ak,i,h,u,hu=>by
  obtain⟨h1,h2,h3⟩:=h _ (.head _)
  rcases List.mem_cons.1 hu with rfl | hu
  ·exact h1
  ·rcases List.mem_append.1 hu with hu | hu
   ·exact Gz vs 0 h3 u hu
   ·exact GA ak (i+1) (fun m hm=>h m (.tail _ hm)) u hu
 | .sl q y :: ak,i,h,u,hu=>by
  rcases List.mem_cons.1 hu with rfl | hu
  ·exact h _ (.head _)
  ·exact GA ak (i+1) (fun m hm=>h m (.tail _ hm)) u hu
theorem GB{c0:Nat}(hc:∀ n,c0<=n->p n=false):∀ (vs:List (V×Option Nat)) (n:Nat),(∀ v∈vs,∀ q,v.2=some q->p q=false)->∀ u∈ia c0 n vs,p u=false
 | [],_,_,u,hu=>by cases hu
 | (y,none) :: vs,n,h,u,hu=>by
  rcases List.mem_cons.1 hu with rfl | hu
  ·exact hc _ (by omega)
  ·exact GB hc vs (n+1) (fun v hv=>h v (.tail _ hv)) u hu
 | (y,some q) :: vs,n,h,u,hu=>by
  rcases List.mem_cons.1 hu with rfl | hu
  ·exact h _ (.head _) _ rfl
  ·exact GB hc vs (n+1) (fun v hv=>h v (.tail _ hv)) u hu
theorem GC:∀ (bM:List Nat) (xs:List V),∀ u∈nE bM xs,u∈bM
 | [],[],u,hu=>by cases hu
 | [],_ :: _,u,hu=>by cases hu
 | _ :: _,[],u,hu=>by cases hu
 | n :: bM,y :: xs,u,hu=>by
  simp only[nE]at hu
  cases hf:y.av with
  | true=>rw[hf]at hu;exact .tail _ (GC bM xs u hu)
  | false=>
   rw[hf,cond_false]at hu
   rcases List.mem_cons.1 hu with rfl | hu
   ·exact .head _
   ·exact .tail _ (GC bM xs u hu)
theorem L0{ns cn:List Nat}:∀ (bM:List Nat) (ls:List Lf) (xs:List V),(∀ n∈bM,p n=false)->ls.all (Lf.nr p)=true->(jD ns cn bM ls xs).all (Lf.nr p)=true
 | [],_,_,_,_=>by simp[jD]
 | _ :: _,[],_,_,_=>by simp[jD]
 | _ :: _,_ :: _,[],_,_=>by simp[jD]
 | n :: bM,l :: ls,y :: xs,h1,h2=>by
  rw[List.all_cons,Bool.and_eq_true]at h2
  simp only[jD,List.all_cons,Bool.and_eq_true]
  refine⟨?_,L0 bM ls xs (fun n hn=>h1 n (.tail _ hn)) h2.2⟩
  cases y.plain with
  | true=>rfl
  | false=>
   simp only[cond_false]
   cases y.av with
   | true=>
    simp only[cond_true]
    cases l with
    | own k=>
     have e2:Lf.aF ns cn (.own k)=(bif aT k cn || (aT k ns && !(Nat.beq k.length 1))then .dead else .own k):=rfl
     rw[e2]
     cases (aT k cn || (aT k ns && !(Nat.beq k.length 1)))with
     | true=>rfl
     | false=>exact h2.1
    | v x=>rfl
    | dead=>rfl
   | false=>
    simp only[cond_false,Lf.nr,cg,List.getLast?_singleton]
    rw[h1 n (.head _)]
    rfl
theorem GD:∀ (bM:List Nat) (xs:List V),∀ u∈mo bM xs,u.1∈bM/\∃ y,u.2 = .sl y
 | [],[],u,hu=>by cases hu
 | [],_ :: _,u,hu=>by cases hu
 | _ :: _,[],u,hu=>by cases hu
 | n :: bM,y :: xs,u,hu=>by
  simp only[mo]at hu
  cases hf:y.av with
  | true=>rw[hf]at hu;obtain⟨h1,h2⟩:=GD bM xs u hu;exact⟨.tail _ h1,h2⟩
  | false=>
   rw[hf,cond_false]at hu
   rcases List.mem_cons.1 hu with rfl | hu
   ·exact⟨.head _,_,rfl⟩
   ·obtain⟨h1,h2⟩:=GD bM xs u hu;exact⟨.tail _ h1,h2⟩
theorem GF{c0:Nat}{ns cn:List Nat}(hp:p e=true)(hc:∀ n,c0<=n->p n=false):∀ (ak:List Mu) (outs:List In) (pos:Nat),(∀ mu∈ak,Cg p mu)->(∀ u∈ic c0 pos ak outs,p u=false)/\∀ u∈gj ns cn c0 pos ak outs,u.1≠e/\u.2.drop e=u.2
 | [],outs,pos,_=>⟨(fun u hu=>by simp[ic]at hu),(fun u hu=>by simp[gj]at hu)⟩
 | .blk _ _ _ :: _,[],pos,_=>⟨(fun u hu=>by cases hu),(fun u hu=>by cases hu)⟩
 | .sl _ _ :: _,[],pos,_=>⟨(fun u hu=>by cases hu),(fun u hu=>by cases hu)⟩
 | .blk _ _ _ :: _,.sl _ :: _,pos,_=>⟨(fun u hu=>by cases hu),(fun u hu=>by cases hu)⟩
 | .sl _ _ :: _,.blk _ :: _,pos,_=>⟨(fun u hu=>by cases hu),(fun u hu=>by cases hu)⟩
 | .blk r' cs vs :: ak,.blk xs :: outs,pos,h=>by
  obtain⟨h1,h2,h3⟩:=h _ (.head _)
  obtain⟨k1,k2⟩:=GF (ns:=ns) (cn:=cn) hp hc ak outs (pos+1+vs.length) (fun m hm=>h m (.tail _ hm))
  have az:∀ n,p n=false->n≠e:=by rintro n hn rfl;rw[hp]at hn;cases hn
  have bW:=GB hc vs (pos+1) h3
  refine⟨fun u hu=>?_,fun u hu=>?_⟩
  ·simp only[ic]at hu
   rcases List.mem_append.1 hu with hu | hu
   ·exact bW u (GC _ _ u hu)
   ·exact k1 u hu
  ·simp only[gj]at hu
   rcases List.mem_cons.1 hu with rfl | hu
   ·refine⟨az _ h1,?_⟩
    simp only[au.drop]
    rw[dM.gG (L0 _ _ _ bW h2) hp]
   ·rcases List.mem_append.1 hu with hu | hu
    ·obtain⟨g1,y,g2⟩:=GD _ _ u hu
     exact⟨az _ (bW _ g1),by rw[g2];rfl⟩
    ·exact k2 u hu
 | .sl q y :: ak,.sl y' :: outs,pos,h=>by
  have h1:p q=false:=h _ (.head _)
  obtain⟨k1,k2⟩:=GF (ns:=ns) (cn:=cn) hp hc ak outs (pos+1) (fun m hm=>h m (.tail _ hm))
  refine⟨fun u hu=>k1 u (by simpa [ic]using hu),fun u hu=>?_⟩
  simp only[gj]at hu
  cases hy:y'.fC with
  | false=>rw[hy]at hu;exact k2 u hu
  | true=>
  rw[hy]at hu
  rcases List.mem_cons.1 hu with rfl | hu
  ·exact⟨(by rintro rfl;rw[hp]at h1;cases h1),rfl⟩
  ·exact k2 u hu
theorem vO:∀ (xs:List V) (c:Nat),e<c->(fG c xs).map (Lf.drop e)=fG c xs
 | [],_,_=>rfl
 | y :: xs,c,h=>by
  simp only[fG,List.map_cons]
  rw[vO xs (c+1) (by omega)]
  cases y.av with
  | true=>rfl
  | false=>
   have:aD e [c]=false:=by simp[aD];omega
   simp only[cond_false,Lf.drop,this]
theorem Ci{b:Bool}{xs:List Lf}{y:A}(h:lN (b,xs)=some y)(hx:xs.map (Lf.drop e)=xs):y.drop e=y:=by
 unfold lN at h
 split at h
 ·rename_i e1
  injection h with h
  subst h
  simp only[Prod.mk.injEq]at e1
  obtain⟨_,rfl⟩:=e1
  exact congrArg A.agg hx
 ·rename_i z e1
  injection h with h
  subst h
  simp only[Prod.mk.injEq]at e1
  obtain⟨_,rfl⟩:=e1
  simp only[List.map_cons,List.map_nil,List.cons.injEq,and_true]at hx
  exact congrArg A.lf hx
 ·cases h
theorem L1:∀ (ps:List Pt) (c:Nat),e<c->(gf c ps).map (fun q=>(q.1,q.2.map (Lf.drop e)))=gf c ps
 | [],_,_=>rfl
 | q :: ps,c,h=>by
  simp only[gf,List.map_cons]
  rw[vO _ _ h,L1 ps _ (by omega)]
theorem Cj(ps:List Pt)(c:Nat)(h:e<c):A.drop e (.aU (gf c ps)) = .aU (gf c ps):=congrArg A.aU (L1 ps c h)
theorem VC(hx:jh x)(hu:iy e u)(he:e<20000){dst:Option Tmp}(hd:dst≠some e){res:dj}{τ:S}(h:ig N σ dst res some=some τ):ig N (aR e x u σ) dst res some=some (aR e x u τ):=by
 cases dst with
 | none=>
  have h:some σ=some τ:=h
  injection h with h
  rw[<-h]
  rfl
 | some d=>
  have mJ:d≠e:=by rintro rfl;exact hd rfl
  unfold ig at h ⊢
  cases hN:Nat.blt d N with
  | false=>simp only[hN,cond_false]at h;cases h
  | true=>
   simp only[hN,cond_true]at h ⊢
   cases res with
   | one q=>
    simp only at h ⊢
    split at h
    ·rename_i y hy
     injection h with h
     subst h
     rw[vN hx hu _ _ _ (by omega),rX mJ (Ci hy (vO _ _ (by omega)))]
    ·cases h
   | aU ps=>
    injection h with h
    subst h
    simp only
    rw[Cf hx hu _ _ _ (by omega),rX mJ (Cj _ _ (by omega))]
theorem VD(aI:dn P Φ)(hx:jh x)(hu:iy e u)(he:e<20000)(hp:p e=true)(zG:∀ n,20000<=n->p n=false)(bV:iU Φ o=true)(hd:o.dst≠some e)(aO:∀ y∈o.op.operands,(ah σ y).nr p=true/\y ≠ .tmp e)(hl:∀ n∈jE Φ σ o,pq σ p n=true){τ:S}
  (h:bC P N Φ σ o some=some τ):bC P N Φ (aR e x u σ) o some=some (aR e x u τ):=by
 have cO:∃ f args bD,o.op = .call { callee:=.value (.func f),args:=args,argTypes:=bD }:=by
  unfold iU at bV
  split at bV
  ·exact⟨_,_,_,by assumption⟩
  ·cases bV
 obtain⟨f,args,bD,ho⟩:=cO
 have cX:∀ y∈args.toList,(ah σ y).nr p=true/\y ≠ .tmp e:=by
  intro y hy
  refine aO y ?_
  rw[ho]
  simp only[Op.operands,Call.operands]
  simp only[Array.mem_append]
  first
   | exact .inr (by simpa using hy)
   | exact .inl (by simpa using hy)
 have aC:∀ σ2,bC P N Φ σ2 o some=dV P N Φ σ2 o some:=by
  intro σ2
  unfold bC
  rw[show cP o.op=false by rw[ho];rfl,cond_false]
 rw[aC]at h ⊢
 cases hc:Φ f with
 | none=>simp only[dV,ho,hc]at h;cases h
 | some c=>
  cases c with
  | n F=>rw[iU,ho]at bV;simp[hc]at bV
  | v c=>rw[iU,ho]at bV;simp[hc]at bV
  | i c=>rw[iU,ho]at bV;simp[hc]at bV
  | d c=>rw[iU,ho]at bV;simp[hc]at bV
  | q c=>rw[iU,ho]at bV;simp[hc]at bV
  | c c=>rw[iU,ho]at bV;simp[hc]at bV
  | p c=>
   simp only[dV,ho,hc]at h ⊢
   obtain⟨d,dz,h⟩:=c9 h
   have mJ:d≠e:=by rintro rfl;exact hd dz
   obtain⟨res,dr,h1,h2,h3⟩:=vw (aI f _ hc).2 h
   injection h2 with h2
   subst h2
   simp only[ck,dz]
   refine(h3 (aR e x u σ) (aR e x u dr) (fun X k=>Gw hp _ k cX) ?_).at_ _
   unfold nJ at h1 ⊢
   cases res with
   | one q=>
    simp only at h1 ⊢
    split at h1
    ·rename_i y hy
     injection h1 with h1
     subst h1
     rw[vN hx hu _ _ _ (by omega),rX mJ (Ci hy (vO _ _ (by omega)))]
    ·cases h1
   | aU ps=>
    injection h1 with h1
    subst h1
    simp only
    rw[Cf hx hu _ _ _ (by omega),rX mJ (Cj _ _ (by omega))]
  | m c=>
   simp only[dV,ho,hc]at h ⊢
   have rK:∀ n∈ec σ c.ps args.toList,pq σ p n=true:=by
    intro n hn
    refine hl n ?_
    simp only[jE,ho,hc]
    exact hn
   unfold gF at h
   split at h
   ·rename_i ak ij
    obtain⟨g1,g2⟩:=Gy (x:=x) (u:=u) hp c.ps args.toList ak cX rK ij
    cases eG:(once (fT 0 ak)&&Nat.ble ak.length 40)with
    | false=>rw[eG]at h;cases h
    | true=>
     rw[eG,cond_true]at h
     obtain⟨z,h2,zH⟩:=tn _ _ _ _ h
     simp only[gF,g1,eG,cond_true]
     rw[Ch hp _ _ _ _ _ cX]
     refine(zH S _).trans ?_
     split at h2
     ·rename_i y hy
      unfold rI at h2 ⊢
      generalize lR:ic (dL o.dst) (cC c.ro y.1).len ak (dY (cF c.ps) y.2)=cn at h2
      generalize bJ:sX N ak (dY (cF c.ps) y.2) cn=ok at h2
      cases ok with
      | false=>cases h2
      | true=>
       rw[cond_true]at h2
       have sS:∀ n,dL o.dst<=n->p n=false:=by
        intro n hn
        refine zG n ?_
        cases dz:o.dst with
        | none=>rw[dz]at hn;simp only[dL]at hn;omega
        | some d=>rw[dz]at hn;simp only[dL]at hn;omega
       obtain⟨k1,k2⟩:=GF (ns:=(fT 0 ak).map (·.1)) (cn:=cn) hp sS ak (dY (cF c.ps) y.2) (cC c.ro y.1).len g2
       rw[lR]at k1
       rw[cond_true,Vx hx hu ?_ ?_ k2]
       ·exact VC hx hu he hd h2
       ·cases hm:aM e ((fT 0 ak).map (·.1))with
        | false=>rfl
        | true=>
         obtain⟨u,hu,e1⟩:=List.mem_map.1 (mm.1 hm)
         have:=GA ak 0 g2 u hu
         rw[e1,hp]at this;cases this
       ·cases hm:aM e cn with
        | false=>rfl
        | true=>have:=k1 e (mm.1 hm);rw[hp]at this;cases this
     ·cases h2
   ·cases h
theorem A.Ck{y:A}(h:y.cP=true)(n:Nat):y.drop n=y:=by
 cases y with
 | lf l=>cases l <;>first | rfl | cases h
 | agg cs=>
  refine congrArg A.agg ?_
  conv=>rhs;rw[<-List.map_id cs]
  refine List.map_congr_left fun l hl=>?_
  have:=List.all_eq_true.1 h l hl
  cases l <;>first | rfl | cases this
 | _=>cases h
theorem A.VE{y:A}(h:y.cP=true)(ns cn:List Nat):y.aF ns cn=y:=by
 cases y with
 | lf l=>cases l <;>first | rfl | cases h
 | agg cs=>
  refine congrArg A.agg ?_
  conv=>rhs;rw[<-List.map_id cs]
  refine List.map_congr_left fun l hl=>?_
  have:=List.all_eq_true.1 h l hl
  cases l <;>first | rfl | cases this
 | _=>cases h
theorem zI:∀ (xs:List V) (c:Nat) (σ:S) {t:Nat},(σ.t t).cP=true->(dw c σ xs).t t=σ.t t
 | [],c,σ,t,h=>rfl
 | y :: xs,c,σ,t,h=>by
  simp only[dw]
  cases y.av with
  | true=>exact zI xs (c+1) σ h
  | false=>
   simp only[cond_false]
   have e1:(((σ.drop c).root c (.sl y)).t t)=σ.t t:=by rw[Gq];exact A.Ck h c
   rw[zI xs (c+1) _ (by rw[e1];exact h),e1]
theorem GG:∀ (ps:List Pt) (c:Nat) (σ:S) {t:Nat},(σ.t t).cP=true->(eN c σ ps).t t=σ.t t
 | [],c,σ,t,h=>rfl
 | q :: ps,c,σ,t,h=>by
  simp only[eN]
  have e1:=zI q.2 c σ h
  rw[GG ps _ _ (by rw[e1];exact h),e1]
theorem VF{dst:Option Tmp}{res:dj}{τ:S}(h:ig N σ dst res some=some τ){t:Nat}(ht:(σ.t t).cP=true)(hd:dst≠some t):τ.t t=σ.t t:=by
 cases dst with
 | none=>
  have h:some σ=some τ:=h
  injection h with h
  rw[<-h]
 | some d=>
  have mB:t≠d:=by rintro rfl;exact hd rfl
  unfold ig at h
  cases hN:Nat.blt d N with
  | false=>simp only[hN,cond_false]at h;cases h
  | true=>
   simp only[hN,cond_true]at h
   cases res with
   | one q=>
    simp only at h
    split at h
    ·rename_i y hy
     injection h with h
     subst h
     exact(aQ _ _ _ mB).trans (zI _ _ _ ht)
    ·cases h
   | aU ps=>
    injection h with h
    subst h
    exact(aQ _ _ _ mB).trans (GG _ _ _ ht)
theorem VG(aI:dn P Φ)(bV:iU Φ o=true){τ:S}(h:bC P N Φ σ o some=some τ){t:Nat}(ht:(σ.t t).cP=true)(hd:o.dst≠some t):τ.t t=σ.t t:=by
 have cO:∃ f args bD,o.op = .call { callee:=.value (.func f),args:=args,argTypes:=bD }:=by
  unfold iU at bV
  split at bV
  ·exact⟨_,_,_,by assumption⟩
  ·cases bV
 obtain⟨f,args,bD,ho⟩:=cO
 have aC:bC P N Φ σ o some=dV P N Φ σ o some:=by
  unfold bC
  rw[show cP o.op=false by rw[ho];rfl,cond_false]
 rw[aC]at h
 cases hc:Φ f with
 | none=>simp only[dV,ho,hc]at h;cases h
 | some c=>
  cases c with
  | n F=>rw[iU,ho]at bV;simp[hc]at bV
  | v c=>rw[iU,ho]at bV;simp[hc]at bV
  | i c=>rw[iU,ho]at bV;simp[hc]at bV
  | d c=>rw[iU,ho]at bV;simp[hc]at bV
  | q c=>rw[iU,ho]at bV;simp[hc]at bV
  | c c=>rw[iU,ho]at bV;simp[hc]at bV
  | p c=>
   simp only[dV,ho,hc]at h
   obtain⟨d,dz,h⟩:=c9 h
   obtain⟨res,dr,h1,h2,h3⟩:=vw (aI f _ hc).2 h
   injection h2 with h2
   subst h2
   have mB:t≠d:=by rintro rfl;exact hd dz
   unfold nJ at h1
   cases res with
   | one q=>
    simp only at h1
    split at h1
    ·rename_i y hy
     injection h1 with h1
     subst h1
     exact(aQ _ _ _ mB).trans (zI _ _ _ ht)
    ·cases h1
   | aU ps=>
    injection h1 with h1
    subst h1
    exact(aQ _ _ _ mB).trans (GG _ _ _ ht)
  | m c=>
   simp only[dV,ho,hc]at h
   unfold gF at h
   split at h
   ·rename_i ak ij
    cases eG:(once (fT 0 ak)&&Nat.ble ak.length 40)with
    | false=>rw[eG]at h;cases h
    | true=>
     rw[eG,cond_true]at h
     obtain⟨z,h2,zH⟩:=tn _ _ _ _ h
     split at h2
     ·rename_i y hy
      unfold rI at h2
      generalize sX N ak (dY (cF c.ps) y.2) (ic (dL o.dst) (cC c.ro y.1).len ak (dY (cF c.ps) y.2))=ok at h2
      cases ok with
      | false=>cases h2
      | true=>
       rw[cond_true]at h2
       have e1:∀ ns cn nr,(σ.aF ns cn nr).t t=σ.t t:=fun ns cn nr=>A.VE ht ns cn
       have:=VF (t:=t) h2 (by rw[e1];exact ht) hd
       rw[this,e1]
     ·cases h2
   ·cases h
theorem VH{e':Nat}{x':au}{u':A}(hx:jh x)(hu:iy e u)(bx:jh x')(fZ:iy e' u')(h:e≠e'):aR e' x' u' (aR e x u σ)=aR e x u (aR e' x' u' σ):=by
 refine S.ext' (fun k=>?_) fun n=>?_
 ·simp only[kY]
  by_cases h1:k=e'
  ·subst h1
   rw[if_pos rfl,if_neg (Ne.symm h),if_pos rfl,fZ.drop (Ne.symm h)]
  ·rw[if_neg h1]
   by_cases h2:k=e
   ·subst h2
    rw[if_pos rfl,if_pos rfl,hu.drop h]
   ·rw[if_neg h2,if_neg h2,if_neg h1,A.jF]
 ·simp only[ji]
  by_cases h1:n=e'
  ·subst h1
   rw[if_pos rfl,if_neg (Ne.symm h),if_pos rfl,Option.map_some,bx.1]
  ·rw[if_neg h1]
   by_cases h2:n=e
   ·subst h2
    rw[if_pos rfl,if_pos rfl,Option.map_some,hx.1]
   ·rw[if_neg h2,if_neg h2,if_neg h1]
    cases σ.m n with
    | none=>rfl
    | some y=>simp only[Option.map_some,au.jF]
theorem VI(hx:jh x)(hu:iy e u)(hp:p e=true)(hm:iT o=true)(hd:o.dst≠some e)(aO:∀ y∈o.op.operands,(ah σ y).nr p=true/\y ≠ .tmp e){τ:S}
  (h:bC P N Φ σ o some=some τ):bC P N Φ (aR e x u σ) o some=some (aR e x u τ):=by
 obtain⟨e',x',u',kK,sU,bx,fZ,cc,eH⟩:=zD (o:={ o with guard:=none }) (ops:=#[]) (σ:=σ) (Φ:=Φ) (P:=P) (N:=N) hm rfl h
 have az:e≠e':=by rintro rfl;exact hd kK
 have h2:=eH (aR e x u σ) rfl fun y hy=>pH (aO y hy).1 hp (aO y hy).2
 rw[VH hx hu bx fZ az,<-cc]at h2
 exact h2
theorem VJ(hm:iT o=true){τ:S}(h:bC P N Φ σ o some=some τ){t:Nat}(ht:(σ.t t).cP=true)(hd:o.dst≠some t):τ.t t=σ.t t:=by
 obtain⟨e',x',u',kK,sU,bx,fZ,cc,eH⟩:=zD (o:={ o with guard:=none }) (ops:=#[]) (σ:=σ) (Φ:=Φ) (P:=P) (N:=N) hm rfl h
 have az:t≠e':=by rintro rfl;exact hd kK
 rw[cc,kY,if_neg az,A.Ck ht]
theorem VK(hx:jh x)(hu:iy e u)(hp:p e=true)(hm:isApp o=true)(hd:o.dst≠some e)(aO:∀ y∈o.op.operands,(ah σ y).nr p=true/\y ≠ .tmp e){τ:S}
  (h:bC P N Φ σ o some=some τ):bC P N Φ (aR e x u σ) o some=some (aR e x u τ):=by
 obtain⟨a,b,t,t',ho,hn,di,hk⟩:=Gk hm
 have ha:=aO a (by rw[ho];simp[Op.operands,Call.operands])
 have U:=aO b (by rw[ho];simp[Op.operands,Call.operands])
 rw[zE ho hn di hk]at h ⊢
 obtain⟨d,dz,h⟩:=c9 h
 obtain⟨r,v,cc,hr,eH⟩:=B8 h
 have mJ:d≠e:=by rintro rfl;exact hd dz
 have zJ:r≠e:=by
  rcases hr with h1 | h1
  ·rw[h1];exact mJ
  ·rintro rfl
   have h2:=ha.1
   rw[h1]at h2
   simp[A.nr,Lf.nr,cg,hp]at h2
 unfold ck
 rw[dz]
 simp only
 rw[pH ha.1 hp ha.2,pH U.1 hp U.2,eH (aR e x u σ) (fun k=>Vy U.1 hp) (fun r' v' bq iL=>?_)]
 ·rw[LU v hx hu (Ne.symm zJ),rX mJ ?_,cc]
  have:aD e [r]=false:=by simp[aD,zJ]
  simp only[A.drop,Lf.drop,this,cond_false]
 ·have az:r'≠e:=by
   rintro rfl
   have h2:=ha.1
   rw[bq]at h2
   simp[A.nr,Lf.nr,cg,hp]at h2
  rw[ji,if_neg az,iL]
  rfl
theorem VL(hm:isApp o=true){τ:S}(h:bC P N Φ σ o some=some τ){t:Nat}(ht:(σ.t t).cP=true)(hd:o.dst≠some t):τ.t t=σ.t t:=by
 obtain⟨a,b,t1,t2,ho,hn,di,hk⟩:=Gk hm
 rw[zE ho hn di hk]at h
 obtain⟨d,dz,h⟩:=c9 h
 obtain⟨r,v,cc,hr,eH⟩:=B8 h
 have az:t≠d:=by rintro rfl;exact hd dz
 rw[cc]
 show aH ((σ.drop r).root r (.sl v)).t d _ t=_
 rw[aQ _ _ _ az]
 exact A.Ck ht r
theorem L2(ho:∃ ty t y,o.op = .store ty (.tmp t) y/\o.dst=none/\∃ r j,σ.t t = .aE r j){τ:S}(h:bC P N Φ σ o some=some τ):∃ t y r j cs xs,o.op.operands = #[.tmp t,y]/\σ.t t = .aE r j/\(ah σ y).qS=some xs/\σ.m r=some (.blk cs)/\τ=σ.root r (.blk (cL cs j xs))/\
  ∀ (σ2:S) (vP:List Lf),σ2.t t = .aE r j->ah σ2 y=ah σ y->σ2.m r=some (.blk vP)->vP.length=cs.length->bC P N Φ σ2 o some=some (σ2.root r (.blk (cL vP j xs))):=by
 obtain⟨ty,t,y,ho,hd,r,j,ht⟩:=ho
 have aC:∀ σ2:S,σ2.t t = .aE r j->bC P N Φ σ2 o some=iK P σ2 ty (.aE r j) (ah σ2 y) some:=by
  intro σ2 h2
  unfold bC
  rw[show cP o.op=false by rw[ho];rfl,cond_false]
  simp only[dV,ho,hd]
  have e1:ah σ2 (.tmp t) = .aE r j:=h2
  rw[e1,show s9 (.aE r j) (ah σ2 y)=false from rfl,cond_false]
 rw[aC σ ht]at h
 unfold iK at h
 split at h
 ·rename_i n xs hn dB
  split at h
  ·rename_i hlen
   simp only at h
   split at h
   ·rename_i cs bU
    split at h
    ·rename_i hj
     cases hl:xs.all Lf.live with
     | false=>rw[hl]at h;cases h
     | true=>
      rw[hl,cond_true]at h
      injection h with h
      refine⟨t,y,r,j,cs,xs,by rw[ho];rfl,ht,dB,bU,h.symm,fun σ2 vP h1 h2 h3 h4=>?_⟩
      rw[aC σ2 h1,h2]
      simp only[iK,hn,dB,if_pos hlen,h3]
      rw[if_pos (by rw[h4];exact hj),hl]
      rfl
    ·cases h
   ·cases h
  ·cases h
 ·cases h
theorem L3(hm:zn o=true)(hs:pn σ o=true):∃ ty t y,o.op = .store ty (.tmp t) y/\o.dst=none/\∃ r j,σ.t t = .aE r j:=by
 unfold zn at hm
 rw[Bool.and_eq_true]at hm
 obtain⟨h1,h2⟩:=hm
 split at h1
 ·rename_i ty t y ho
  refine⟨ty,t,y,ho,Option.isNone_iff_eq_none.1 h2,?_⟩
  unfold pn at hs
  rw[ho]at hs
  simp only at hs
  split at hs
  ·exact⟨_,_,by assumption⟩
  ·cases hs
 ·cases h1
theorem VM{y:A}{xs:List Lf}(h:y.qS=some xs)(hn:y.nr p=true):xs.all (Lf.nr p)=true:=by
 cases y with
 | lf l=>injection h with h;subst h;simpa [A.nr]using hn
 | agg cs=>injection h with h;subst h;exact hn
 | _=>cases h
theorem VN(hx:jh x)(hu:iy e u)(hp:p e=true)(hm:zn o=true)(hs:pn σ o=true)(aO:∀ y∈o.op.operands,(ah σ y).nr p=true/\y ≠ .tmp e){τ:S}
  (h:bC P N Φ σ o some=some τ):bC P N Φ (aR e x u σ) o some=some (aR e x u τ):=by
 obtain⟨t,y,r,j,cs,xs,g1,g2,g3,g4,g5,g6⟩:=L2 (L3 hm hs) h
 have ht:=aO (.tmp t) (by rw[g1];simp)
 have hy:=aO y (by rw[g1];simp)
 have e1:(aR e x u σ).t t = .aE r j:=(pH ht.1 hp ht.2).trans g2
 have zJ:r≠e:=by
  have h2:(ah σ (.tmp t)).nr p=true:=ht.1
  have h3:ah σ (.tmp t) = .aE r j:=g2
  rw[h3]at h2
  exact U6 h2 hp
 have e3:(aR e x u σ).m r=some (.blk (cs.map (Lf.drop e))):=by
  rw[ji,if_neg zJ,g4];rfl
 have dB:=dM.gG (VM g3 hy.1) hp
 rw[g6 (aR e x u σ) _ e1 (pH hy.1 hp hy.2) e3 (by rw[List.length_map]),g5]
 congr 1
 refine S.ext' (fun k=>?_) fun n=>?_
 ·show (aR e x u σ).t k=(aR e x u (σ.root r (.blk (cL cs j xs)))).t k
  rw[kY,kY]
  rfl
 ·show aH (aR e x u σ).m r (some (.blk (cL (cs.map (Lf.drop e)) j xs))) n=(aR e x u (σ.root r (.blk (cL cs j xs)))).m n
  rw[ji]
  by_cases hn:n=r
  ·subst hn
   rw[aJ,if_neg zJ]
   show _=(aH σ.m n (some (au.blk (cL cs j xs))) n).map (au.drop e)
   rw[aJ]
   simp only[Option.map_some,au.drop,cL,List.map_append,List.map_take,List.map_drop,dB]
  ·rw[aQ _ _ _ hn,ji]
   have:(σ.root r (.blk (cL cs j xs))).m n=σ.m n:=aQ _ _ _ hn
   rw[this]
theorem VO(hm:zn o=true)(hs:pn σ o=true){τ:S}(h:bC P N Φ σ o some=some τ)(t:Nat):τ.t t=σ.t t:=by
 obtain⟨_,_,r,j,cs,xs,_,_,_,_,g5,_⟩:=L2 (L3 hm hs) h
 rw[g5]
 rfl
theorem VP(aI:dn P Φ)(hx:jh x)(hu:iy e u)(he:e<20000)(hp:p e=true)(zG:∀ n,20000<=n->p n=false)(bV:zo Φ o=true)(eM:pn σ o=true)(hd:o.dst≠some e)(aO:∀ y∈o.op.operands,(ah σ y).nr p=true/\y ≠ .tmp e)(hl:∀ n∈jE Φ σ o,pq σ p n=true){τ:S}
  (h:bC P N Φ σ o some=some τ):bC P N Φ (aR e x u σ) o some=some (aR e x u τ):=by
 unfold zo at bV
 rw[Bool.or_eq_true,Bool.or_eq_true,Bool.or_eq_true]at bV
 rcases bV with ((hc | hc) | hc) | hc
 ·exact VD aI hx hu he hp zG hc hd aO hl h
 ·exact VI hx hu hp hc hd aO h
 ·exact VK hx hu hp hc hd aO h
 ·exact VN hx hu hp hc eM aO h
theorem VQ(aI:dn P Φ)(bV:zo Φ o=true)(eM:pn σ o=true){τ:S}(h:bC P N Φ σ o some=some τ){t:Nat}(ht:(σ.t t).cP=true)(hd:o.dst≠some t):τ.t t=σ.t t:=by
 unfold zo at bV
 rw[Bool.or_eq_true,Bool.or_eq_true,Bool.or_eq_true]at bV
 rcases bV with ((hc | hc) | hc) | hc
 ·exact VG aI hc h ht hd
 ·exact VJ hc h ht hd
 ·exact VL hc h ht hd
 ·exact VO hc eM h t
end
end Go.Proofs.YtjldnlbiefpekaaDoor
namespace Go.Proofs.YtjldnlbiefpekaaDoor
open Go.RowKit
set_option linter.unusedVariables false
section
variable {P:Program} {w w':World} {w0:Wd} {B N:Nat} {lab af:aG} {ρ ρ':Nat->Loc} {σ:S} {a:Act} {X:Type} {d:Nat} {r:X} {o:Oper} {Φ:b5} {p:Nat->Bool} {ops:Array Oper}
theorem GH{i W j:Nat}{oj:Oper}(bG:ops[j]?=some oj)(h:zm ops i W j=true):∃ e∈oj.after,Region.binds .any e=true/\(e.on=i\/W.testBit e.on=true):=by
 unfold zm at h
 rw[bG]at h
 obtain⟨e,he,U⟩:=List.any_eq_true.1 h
 rw[Bool.and_eq_true,Bool.or_eq_true]at U
 refine⟨e,by simpa using he,U.1,U.2.imp (fun h=>Nat.eq_of_beq_eq_true h) id⟩
theorem Cl{g:Oper->Bool}{oi:Oper}{i L W:Nat}:∀ (n j:Nat),vC g ops oi i L W n j=true->∀ k,j<=k->k<j+n->k=i\/L.testBit k=true\/(W.testBit k=true/\zm ops i W k=true)\/(W.testBit k=false/\∀ ok,ops[k]?=some ok->g ok=true/\oi.apart ops ok=true)
 | 0,j,_,k,h1,h2=>by omega
 | n+1,j,h,k,h1,h2=>by
  unfold vC at h
  rw[Bool.and_eq_true,Bool.or_eq_true,Bool.or_eq_true]at h
  by_cases hk:k=j
  ·subst hk
   rcases h.1 with (h | h) | h
   ·exact .inl (Nat.eq_of_beq_eq_true h)
   ·exact .inr (.inl h)
   ·cases hw:W.testBit k with
    | true=>rw[hw,cond_true]at h;exact .inr (.inr (.inl ⟨rfl,h⟩))
    | false=>
     rw[hw,cond_false]at h
     refine .inr (.inr (.inr ⟨rfl,fun ok bJ=>?_⟩))
     rw[bJ,Bool.and_eq_true]at h
     exact h
  ·exact Cl n (j+1) h.2 k (by omega) (by omega)
theorem jG{g:Oper->Bool}{i L W:Nat}:∀ (n j:Nat) (k:Nat),j<=k->k<j+n->k≠i->L.testBit k=false->W.testBit k=false->∀ ok,ops[k]?=some ok->g ok=true->dW g ops i L W n j=true
 | 0,j,k,h1,h2,_,_,_,_,_,_=>by omega
 | n+1,j,k,h1,h2,hi,hL,hW,ok,bJ,hm=>by
  unfold dW
  rw[Bool.or_eq_true]
  by_cases hk:k=j
  ·subst hk
   refine .inl ?_
   have U:Nat.beq k i=false:=by
    cases U:Nat.beq k i with
    | false=>rfl
    | true=>exact absurd (Nat.eq_of_beq_eq_true U) hi
   rw[bJ,U,hL,hW]
   simpa using hm
  ·exact .inr (jG n (j+1) k (by omega) (by omega) hi hL hW ok bJ hm)
theorem L4{g:Oper->Bool}{i L W:Nat}:∀ (n j:Nat),dW g ops i L W n j=true->∃ k ok,ops[k]?=some ok/\k≠i/\L.testBit k=false/\W.testBit k=false/\g ok=true
 | 0,j,h=>by cases h
 | n+1,j,h=>by
  unfold dW at h
  rw[Bool.or_eq_true]at h
  rcases h with h | h
  ·rw[Bool.and_eq_true,Bool.not_eq_true',Bool.or_eq_false_iff,Bool.or_eq_false_iff]at h
   obtain⟨⟨⟨h1,h2⟩,h3⟩,h4⟩:=h
   split at h4
   ·rename_i ok bJ
    exact⟨j,ok,bJ,(by rintro rfl;rw[Nat.beq_refl]at h1;cases h1),h2,h3,h4⟩
   ·cases h4
  ·exact L4 n (j+1) h
theorem VR[Inhabited Wd]{L i:Nat}{k:S->Option X}(hv:cP o.op=true\/cQ σ ops o=some false)(hn:F5 σ (nQ Φ ops i L (waits ops i ops.size 0 0) σ) (pg σ ops i L (waits ops i ops.size 0 0)) o=true)(h:rV P N Φ ops L i σ o k=some r):
  ∃ v,k (cR σ o.dst v)=some r/\iw P ops o (nQ Φ ops i L (waits ops i ops.size 0 0) σ) (pg σ ops i L (waits ops i ops.size 0 0)) v σ/\∀ σ:S,eK N σ o.dst v some=some (cR σ o.dst v):=by
 unfold rV at h
 unfold F5 at hn
 rw[Bool.and_eq_true]at hn
 split at h
 ·rename_i hw
  obtain⟨v,h1,hd,_⟩:=vE (w0:=default) (N:=N) h
  cases hc:v.fK (nQ Φ ops i L (waits ops i ops.size 0 0) σ) (pg σ ops i L (waits ops i ops.size 0 0))with
  | false=>rw[hc]at h1;cases h1
  | true=>
   rw[hc,cond_true]at h1
   obtain⟨h2,h3⟩:=fL h1
   have hv:cP o.op=true:=hv.resolve_right (by rw[hw];simp)
   refine⟨v,h2,.inl ⟨hw,hv,hd,fun y hy=>List.all_eq_true.1 hn.1 y (by simpa using hy),hc,fun t y r j e hy=>?_⟩,fun σ=>(h3 σ).at_ _⟩
   have h4:=hn.2
   rw[e]at h4
   simp only[hy]at h4
   simpa using h4
 ·rename_i hw
  obtain⟨h2,h3⟩:=fL h
  exact⟨.skip,h2,.inr ⟨hw,rfl⟩,fun σ=>(h3 σ).at_ _⟩
 ·cases h
theorem vQ{i L W n:Nat}(h:rT Φ ops i L W σ n=true):nQ Φ ops i L W σ n=true:=by unfold nQ;rw[h];rfl
theorem VS{i L W:Nat}(h:xY Φ ops i L W σ o=true):∃ ty t y,o.op = .store ty (.tmp t) y/\o.dst=none/\BW Φ ops i L W σ t=true/\(∀ k,σ.t t ≠ .ptr k)/\∀ r j,σ.t t = .aE r j->rS σ o=[r]:=by
 unfold xY at h
 split at h
 ·rename_i ty t y ho
  rw[Bool.and_eq_true,Bool.and_eq_true]at h
  refine⟨ty,t,y,ho,by simpa using h.1.1,h.1.2,fun k hk=>?_,fun r j hr=>by simp only[rS,ho,hr]⟩
  have h3:=h.2
  rw[hk]at h3
  cases h3
 ·cases h
theorem VT{i L W:Nat}(h:F3 Φ ops i L W o=true):∃ x y t t',o.op = .call ⟨.builtin .append,⟨[.tmp x,y]⟩,⟨[t,t']⟩⟩/\iq Φ ops i L W x=true/\(jf t=false/\Nat.beq t t'=true/\tw o.dst t=false):=by
 unfold F3 at h
 split at h
 ·rw[Bool.and_eq_true,Bool.and_eq_true,Bool.and_eq_true]at h
  exact⟨_,_,_,_,by assumption,h.1,by simpa using h.2.1.1,h.2.1.2,by simpa using h.2.2⟩
 ·cases h
theorem VU{i L W:Nat}(h:F2 Φ ops i L W σ o=true):∃ f args bD c,o.op = .call { callee:=.value (.func f),args:=args,argTypes:=bD }/\Φ f=some (.m c)/\BT c=true/\kU (fun t r=>!dW (fJ t) ops i L W ops.size 0 && !dW (fun ok=>cu ok r) ops i L W ops.size 0 && !dW isApp ops i L W ops.size 0) σ c.ps args.toList=true/\jE Φ σ o=ec σ c.ps args.toList:=by
 unfold F2 at h
 split at h
 ·rename_i f args bD ho
  split at h
  ·rename_i c hc
   rw[Bool.and_eq_true]at h
   exact⟨f,args,bD,c,ho,hc,h.1,h.2,by simp only[jE,ho,hc]⟩
  ·cases h
 ·cases h
theorem zK{p:Nat->Bool}:∀ (ps:List PK) (xs:List Operand),(∀ x∈xs,(ah σ x).nr p=true)->∀ n∈ec σ ps xs,p n=false
 | [],[],_,n,hn=>by cases hn
 | [],_ :: _,_,n,hn=>by cases hn
 | .v _ _ :: _,[],_,n,hn=>by cases hn
 | .p _ _ _ :: _,[],_,n,hn=>by cases hn
 | .s _ _ :: _,[],_,n,hn=>by cases hn
 | .v _ _ :: ps,x :: xs,h,n,hn=>zK ps xs (fun y hy=>h y (.tail _ hy)) n hn
 | .s _ _ :: ps,x :: xs,h,n,hn=>zK ps xs (fun y hy=>h y (.tail _ hy)) n hn
 | .p _ _ _ :: ps,x :: xs,h,n,hn=>by
  simp only[ec]at hn
  split at hn
  ·rename_i r' j hr
   rcases List.mem_cons.1 hn with rfl | hn
   ·have h1:=h x (.head _)
    rw[hr]at h1
    have h1:(!p n)=true:=h1
    simpa using h1
   ·exact zK ps xs (fun y hy=>h y (.tail _ hy)) n hn
  ·exact zK ps xs (fun y hy=>h y (.tail _ hy)) n hn
theorem GI{dst:Option Tmp}{g:Bool}{k:S->Option X}(h:splitK σ dst g k=some r):k σ=some r:=by
 unfold splitK at h
 cases g with
 | false=>exact h
 | true=>
  rw[cond_true]at h
  split at h
  ·rename_i d
   split at h
   ·rename_i b U
    have:∀ c,b=c->σ.set d (.lf (.v (.bool c)))=σ:=by
     rintro c rfl
     refine S.ext' (fun k=>?_) fun _=>rfl
     show aH _ _ _ _=_
     by_cases hk:k=d
     ·subst hk;rw[aJ,U]
     ·rw[aQ _ _ _ hk]
    cases b with
    | true=>rw[cond_true,this true rfl]at h;exact h
    | false=>rw[cond_false,this false rfl]at h;exact h
   ·exact h
  ·exact h
theorem L5{L j:Nat}(h:gH ops L j=true):j<ops.size:=by
 obtain⟨_,o,ho,_⟩:=zF.1 h
 exact(Array.getElem?_eq_some_iff.1 ho).1
theorem vR{L j:Nat}:j∈(List.range ops.size).filter (gH ops L) ↔ gH ops L j=true:=by
 rw[List.mem_filter,List.mem_range]
 exact⟨fun h=>h.2,fun h=>⟨L5 h,h⟩⟩
structure L6 (ops:Array Oper) (p:Nat->Bool) (σ:S) (o:Oper):Prop where
 is:iT o=true
 want:cQ σ ops o=some true
 abf:∀ y∈o.op.operands,(ah σ y).cP=true/\∀ t,y = .tmp t->p t=false
 guard:∀ g c t,o.guard=some (g,c)->(ops[g]?).bind (·.dst)=some t->p t=false
theorem zL[Inhabited Wd](aI:dn P Φ):∀ (f L:Nat) (σ:S) (k:S->Option X),gI P N Φ ops f L σ k=some r->Any P N Φ ops (fun τ=>k τ=some r) f L σ
 | 0,L,σ,k,h=>by
  unfold gI at h
  split at h
  ·rename_i hr
   refine⟨fun j=>?_,h⟩
   cases hj:gH ops L j with
   | false=>rfl
   | true=>have:=vR.2 hj;rw[hr]at this;cases this
  ·cases h
 | f+1,L,σ,k,h=>by
  unfold gI at h
  split at h
  ·rename_i hr
   refine⟨fun _=>h,fun j hj=>?_⟩
   have:=vR.2 hj;rw[hr]at this;cases this
  ·rename_i i hr
   have hi:gH ops L i=true:=vR.1 (by rw[hr];exact .head _)
   refine⟨fun h=>absurd (h i) (by rw[hi];simp),fun j hj=>?_⟩
   have hj:=vR.2 hj
   rw[hr]at hj
   obtain rfl:=List.mem_singleton.1 hj
   split at h
   ·rename_i o ho
    obtain⟨τ,h1,h2⟩:=Gb aI h
    exact⟨o,τ,ho,h2,zL aI f _ τ k (GI h1)⟩
   ·cases h
  ·rename_i rs hn hs
   split at h
   ·rename_i i hf
    have hc:=List.find?_some hf
    have hm:=List.mem_of_find?_eq_some hf
    have hi:=vR.1 hm
    split at h
    ·rename_i o ho
     unfold Lz at hc
     rw[ho,Bool.and_eq_true,Bool.and_eq_true,Bool.and_eq_true]at hc
     obtain⟨⟨⟨c1,c2⟩,c3⟩,c4⟩:=hc
     have c1:cP o.op=true\/cQ σ ops o=some false:=by
      rw[Bool.or_eq_true]at c1
      refine c1.imp id fun c1=>?_
      split at c1
      ·rename_i b U
       rw[U]
       cases b <;>first | rfl | cases c1
      ·cases c1
     obtain⟨v,h1,hF,hN⟩:=VR c1 c4 h
     have mD:=Cl _ _ c3
     have c2:=Nat.eq_of_beq_eq_true c2
     have tH:∀ j,(waits ops i ops.size 0 0).testBit j=true->(L ||| 2 ^ i).testBit j=false:=by
      intro j hj
      have:((L ||| 2 ^ i) &&& waits ops i ops.size 0 0).testBit j=false:=by rw[c2];exact Nat.zero_testBit j
      rw[Nat.testBit_and,hj,Bool.and_true]at this
      exact this
     have mE:∀ j,(waits ops i ops.size 0 0).testBit j=true->L.testBit j=false:=by
      intro j hj
      have:=tH j hj
      rw[lW,Bool.or_eq_false_iff]at this
      exact this.1
     refine Vu (W:=waits ops i ops.size 0 0) (ok:=fun t r=>!dW (fJ t) ops i L (waits ops i ops.size 0 0) ops.size 0 && !dW (fun ok=>cu ok r) ops i L (waits ops i ops.size 0 0) ops.size 0 && !dW isApp ops i L (waits ops i ops.size 0 0) ops.size 0) (kW:=BW Φ ops i L (waits ops i ops.size 0 0) σ) (ir:=ir Φ ops i L (waits ops i ops.size 0 0) σ) (iq:=iq Φ ops i L (waits ops i ops.size 0 0)) aI ho hN (fun j oj bG hj=>?_) f L σ (fun t r bJ j oj bG cD cU cI=>?_) (fun x hx j oj bG cD cU cI=>?_) (fun x hx=>?_) (fun t bJ j oj bG cD cU cI=>?_) (fun t bJ j oj bG cD cU cI=>?_) (fun j oj bG cD cU cI=>?_) mE hi hF (zL aI f _ _ k (GI h1))
     ·have aV:=(Array.getElem?_eq_some_iff.1 bG).1
      rcases mD j (by omega) (by omega)with e | e | e | e
      ·subst e
       have:=tH j hj
       rw[lW]at this
       simp at this
      ·rw[mE j hj]at e;cases e
      ·exact GH bG e.2
      ·rw[hj]at e;cases e.1
     ·have aV:=(Array.getElem?_eq_some_iff.1 bG).1
      rw[Bool.and_eq_true,Bool.and_eq_true,Bool.not_eq_true',Bool.not_eq_true',Bool.not_eq_true']at bJ
      refine⟨fun hd=>?_,?_,?_⟩
      ·have:=jG (g:=fJ t) ops.size 0 j (by omega) (by omega) cD cU cI oj bG (by unfold fJ;rw[hd];exact Nat.beq_refl t)
       rw[bJ.1.1]at this;cases this
      ·cases hn:cu oj r with
       | false=>rfl
       | true=>
        have:=jG (g:=fun ok=>cu ok r) ops.size 0 j (by omega) (by omega) cD cU cI oj bG hn
        rw[bJ.1.2]at this;cases this
      ·cases hn:isApp oj with
       | false=>rfl
       | true=>
        have:=jG (g:=isApp) ops.size 0 j (by omega) (by omega) cD cU cI oj bG hn
        rw[bJ.2]at this;cases this
     ·have aV:=(Array.getElem?_eq_some_iff.1 bG).1
      unfold ir at hx
      rw[Bool.and_eq_true]at hx
      intro hd
      have:=jG (g:=fJ x) ops.size 0 j (by omega) (by omega) cD cU cI oj bG (by unfold fJ;rw[hd];exact Nat.beq_refl x)
      rw[this]at hx
      cases hx.1
     ·unfold ir at hx
      rw[Bool.and_eq_true]at hx
      have hx:=hx.2
      cases hz:σ.t x with
      | aE r j=>rw[hz]at hx;exact hx
      | dO cs=>trivial
      | _=>rw[hz]at hx;cases hx
     ·have aV:=(Array.getElem?_eq_some_iff.1 bG).1
      by_cases hd:oj.dst=some t
      ·refine .inr ?_
       have mB:fJ t oj=true:=by unfold fJ;rw[hd];exact Nat.beq_refl t
       cases vM:nP oj with
       | false=>
        cases zM:BV Φ ops i L (waits ops i ops.size 0 0) σ oj with
        | false=>
         have:=jG (g:=fun ok=>fJ t ok && !(nP ok || BV Φ ops i L (waits ops i ops.size 0 0) σ ok)) ops.size 0 j (by omega) (by omega) cD cU cI oj bG (by rw[mB,vM,zM];rfl)
         unfold BW at bJ
         rw[this]at bJ;cases bJ
        | true=>
         unfold BV at zM
         split at zM
         ·rename_i s x f mK
          exact .inr ⟨s,x,f,mK,zM⟩
         ·cases zM
       | true=>
        refine .inl ⟨rfl,?_⟩
        refine vQ ?_
        unfold rT
        rw[Bool.or_eq_true]
        refine .inl (jG (g:=fun o=>cu o t) _ 0 j (by omega) (by omega) cD cU cI oj bG ?_)
        obtain⟨ty,e,h1,_,h3,_⟩:=LQ vM
        unfold cu
        rw[hd,h1]
        exact Nat.beq_refl t
      ·exact .inl hd
     ·have aV:=(Array.getElem?_eq_some_iff.1 bG).1
      by_cases hd:oj.dst=some t
      ·refine .inr ?_
       have mB:fJ t oj=true:=by unfold fJ;rw[hd];exact Nat.beq_refl t
       cases kN:iT oj with
       | false=>
        cases VV:isApp oj with
        | true=>exact .inr (.inl rfl)
        | false=>
         cases tE:rU Φ oj with
         | true=>exact .inr (.inr rfl)
         | false=>
          have:=jG (g:=fun ok=>fJ t ok && !(iT ok || isApp ok || rU Φ ok)) ops.size 0 j (by omega) (by omega) cD cU cI oj bG (by rw[mB,kN,VV,tE];rfl)
          unfold iq at bJ
          rw[this]at bJ;cases bJ
       | true=>
        refine .inl ?_
        have bW:cu oj t=true:=by
         unfold iT at kN
         rw[Bool.and_eq_true]at kN
         have h1:=kN.1
         unfold cu
         rw[hd]
         split at h1
         ·rename_i oS;simp only[oS];exact Nat.beq_refl t
         ·rename_i oS;simp only[oS];exact Nat.beq_refl t
         ·rename_i oS;simp only[oS];exact Nat.beq_refl t
         ·cases h1
        have h9:=jG (g:=fun o=>cu o t) ops.size 0 j (by omega) (by omega) cD cU cI oj bG bW
        refine⟨rfl,?_,?_⟩
        ·refine vQ ?_;unfold rT;rw[Bool.or_eq_true];exact .inl h9
        ·unfold pg;rw[Bool.or_eq_true];exact .inl h9
      ·exact .inl hd
     ·have aV:=(Array.getElem?_eq_some_iff.1 bG).1
      rcases mD j (by omega) (by omega)with e | e | e | e
      ·exact absurd e cD
      ·rw[cU]at e;cases e
      ·rw[cI]at e;cases e.1
      ·obtain⟨e1,e2⟩:=e.2 oj bG
       refine⟨e2,?_,fun n hn=>?_⟩
       ·rw[Bool.or_eq_true,Bool.or_eq_true,Bool.or_eq_true]at e1
        rcases e1 with ((e1 | e1) | e1) | e1
        ·exact .inl e1
        ·obtain⟨f',args,bD,c,g1,g2,g3,g4,g5⟩:=VU e1
         refine .inr (.inl ⟨f',args,bD,c,g1,g2,g3,g4,fun n hn=>?_⟩)
         refine vQ ?_
         unfold rT
         rw[Bool.or_eq_true]
         refine .inr (jG (g:=fun o=>aM n (jE Φ σ o) || aM n (rS σ o)) _ 0 j (by omega) (by omega) cD cU cI oj bG ?_)
         rw[g5,mm.2 hn]
         rfl
        ·obtain⟨ty,t,y,g1,g2,g3,g4,g5⟩:=VS e1
         refine .inr (.inr (.inl ⟨ty,t,y,g1,g2,g3,?_⟩))
         cases hx:σ.t t with
         | aE r' j'=>
          show nQ Φ ops i L (waits ops i ops.size 0 0) σ r'=true
          refine vQ ?_
          unfold rT
          rw[Bool.or_eq_true]
          refine .inr (jG (g:=fun o=>aM r' (jE Φ σ o) || aM r' (rS σ o)) _ 0 j (by omega) (by omega) cD cU cI oj bG ?_)
          rw[g5 r' j' hx,Bool.or_eq_true]
          exact .inr (mm.2 (.head _))
         | ptr k=>exact absurd hx (g4 k)
         | _=>trivial
        ·obtain⟨x,y,t1,t2,g1,g2,g3⟩:=VT e1
         refine .inr (.inr (.inr ⟨x,y,t1,t2,g1,g2,g3,fun r' bq=>⟨?_,?_⟩⟩))
         ·refine vQ ?_
          unfold rT
          rw[Bool.or_eq_true]
          refine .inr (jG (g:=fun o=>aM r' (jE Φ σ o) || aM r' (rS σ o)) _ 0 j (by omega) (by omega) cD cU cI oj bG ?_)
          have:rS σ oj=[r']:=by simp only[rS,g1,bq]
          rw[this,Bool.or_eq_true]
          exact .inr (mm.2 (.head _))
         ·unfold pg
          rw[Bool.or_eq_true]
          refine .inr (jG (g:=fun o=>aM r' (BU σ o)) _ 0 j (by omega) (by omega) cD cU cI oj bG ?_)
          have:BU σ oj=[r']:=by simp only[BU,g1,bq]
          rw[this]
          exact mm.2 (.head _)
       ·have h9:=jG (g:=fun o=>cu o n) ops.size 0 j (by omega) (by omega) cD cU cI oj bG hn
        refine⟨?_,?_⟩
        ·refine vQ ?_
         unfold rT
         rw[Bool.or_eq_true]
         exact .inl h9
        ·unfold pg
         rw[Bool.or_eq_true]
         exact .inl h9
    ·cases h
   ·split at h
    ·rename_i i hf
     have hc:=List.find?_some hf
     have hm:=List.mem_of_find?_eq_some hf
     have hi:=vR.1 hm
     split at h
     ·rename_i o ho
      unfold LA at hc
      rw[ho,Bool.and_eq_true,Bool.and_eq_true,Bool.and_eq_true,Bool.and_eq_true,Bool.and_eq_true]at hc
      obtain⟨⟨⟨⟨⟨c1,c2⟩,c3⟩,c4⟩,c5⟩,c6⟩:=hc
      have mD:=Cl _ _ c3
      have c2:=Nat.eq_of_beq_eq_true c2
      have tH:∀ j,(waits ops i ops.size 0 0).testBit j=true->(L ||| 2 ^ i).testBit j=false:=by
       intro j hj
       have:((L ||| 2 ^ i) &&& waits ops i ops.size 0 0).testBit j=false:=by rw[c2];exact Nat.zero_testBit j
       rw[Nat.testBit_and,hj,Bool.and_true]at this
       exact this
      have mE:∀ j,(waits ops i ops.size 0 0).testBit j=true->L.testBit j=false:=by
       intro j hj
       have:=tH j hj
       rw[lW,Bool.or_eq_false_iff]at this
       exact this.1
      obtain⟨τ,h1,h2⟩:=Gb aI h
      generalize hp:(fun n=>dW (fun o=>vD o n) ops i L (waits ops i ops.size 0 0) ops.size 0)=p at c4 c5
      have L7:∀ j oj e,ops[j]?=some oj->j≠i->L.testBit j=false->(waits ops i ops.size 0 0).testBit j=false->oj.dst=some e->p e=true:=by
       intro j oj e bG cD cU cI hd
       have aV:=(Array.getElem?_eq_some_iff.1 bG).1
       rw[<-hp]
       exact jG (g:=fun o=>vD o e) _ 0 j (by omega) (by omega) cD cU cI oj bG (by unfold vD fJ;rw[hd];exact Nat.beq_refl e)
      have tG:∀ j oj,ops[j]?=some oj->j≠i->L.testBit j=false->(waits ops i ops.size 0 0).testBit j=false->F6 ops i L (waits ops i ops.size 0 0) σ oj=true/\o.apart ops oj=true:=by
       intro j oj bG cD cU cI
       have aV:=(Array.getElem?_eq_some_iff.1 bG).1
       rcases mD j (by omega) (by omega)with e | e | e | e
       ·exact absurd e cD
       ·rw[cU]at e;cases e
       ·rw[cI]at e;cases e.1
       ·exact e.2 oj bG
      have kN:∀ j oj,ops[j]?=some oj->j≠i->L.testBit j=false->(waits ops i ops.size 0 0).testBit j=false->L6 ops p σ oj:=by
       intro j oj bG cD cU cI
       have U:=(tG j oj bG cD cU cI).1
       unfold F6 at U
       rw[Bool.and_eq_true,Bool.and_eq_true,Bool.and_eq_true]at U
       obtain⟨⟨⟨b1,b2⟩,b3⟩,b4⟩:=U
       have B7:∀ t,dW (fJ t) ops i L (waits ops i ops.size 0 0) ops.size 0=false->p t=false:=fun t ht=>by rw[<-hp];exact ht
       refine⟨b1,?_,fun y hy=>?_,fun g c t hg ht=>?_⟩
       ·split at b2
        ·rename_i b gV;rw[gV,b2]
        ·cases b2
       ·have:=List.all_eq_true.1 b3 y (by simpa using hy)
        rw[Bool.and_eq_true]at this
        refine⟨this.1,fun t ht=>?_⟩
        have h2:=this.2
        rw[ht]at h2
        exact B7 t (by simpa using h2)
       ·rw[hg]at b4
        simp only[ht]at b4
        exact B7 t (by simpa using b4)
      have zG:∀ n,20000<=n->p n=false:=by
       intro n hn
       cases gK:p n with
       | false=>rfl
       | true=>
        rw[<-hp]at gK
        obtain⟨k',kX,ko,Cm,VW,VX,Cn⟩:=L4 _ _ gK
        have hm:=(kN k' kX ko Cm VW VX).is
        unfold iT at hm
        rw[Bool.and_eq_true]at hm
        have hm:=hm.2
        unfold vD fJ at Cn
        split at Cn
        ·rename_i e he
         rw[he]at hm
         have h1:e=n:=Nat.eq_of_beq_eq_true Cn
         subst h1
         exact absurd (Nat.le_of_ble_eq_true hm) (Nat.not_le_of_gt (Nat.lt_succ_of_le hn))
        ·cases Cn
      have hE:τ=(bL P N Φ ops σ o some).getD σ:=by rw[h2];rfl
      refine Gn (W:=waits ops i ops.size 0 0) ho (fun j oj bG hj=>?_) (fun σ=>(bL P N Φ ops σ o some).getD σ)
       (fun L' aa=>((bL P N Φ ops aa o some).isSome=true/\F4 aa p o=true/\(jE Φ aa o).all (pq aa p)=true/\pn aa o=true)/\(∀ j,L'.testBit j=false->L.testBit j=false)/\
        ∀ j oj,ops[j]?=some oj->j≠i->L'.testBit j=false->(waits ops i ops.size 0 0).testBit j=false->L6 ops p aa oj)
       (fun L' aa hI=>?_) (fun L' aa j oj dr hI bG cD cU cI cc=>?_) f L σ mE hi ⟨⟨by rw[h2];rfl,c4,c5,c6⟩,fun _ h=>h,kN⟩ (by rw[<-hE];exact zL aI f _ τ k (GI h1))
      ·have aV:=(Array.getElem?_eq_some_iff.1 bG).1
       rcases mD j (by omega) (by omega)with e | e | e | e
       ·subst e
        have:=tH j hj
        rw[lW]at this
        simp at this
       ·rw[mE j hj]at e;cases e
       ·exact GH bG e.2
       ·rw[hj]at e;cases e.1
      ·obtain⟨z,hz⟩:=Option.isSome_iff_exists.1 hI.1.1
       rw[hz];rfl
      ·obtain⟨⟨i1,i2,i3,i6⟩,i4,i5⟩:=hI
       have ap:=(tG j oj bG cD (i4 j cU) cI).2
       obtain⟨m1,m2,m3,m4⟩:=i5 j oj bG cD cU cI
       obtain⟨a1,a2,a3⟩:=Oper.apart_spec ap
       obtain⟨z,hz⟩:=Option.isSome_iff_exists.1 i1
       have VY:(bL P N Φ ops aa o some).getD aa=z:=by rw[hz];rfl
       have cc:bL P N Φ ops z oj some=some dr:=by rw[<-VY];exact cc
       have L8:∀ t,(aa.t t).cP=true->o.dst≠some t->z.t t=aa.t t:=by
        intro t ht hd
        unfold bL at hz
        split at hz
        ·exact VQ aI c1 i6 hz ht hd
        ·obtain⟨g1,_⟩:=fL hz
         injection g1 with g1
         rw[<-g1]
         cases kj:o.dst with
         | none=>rfl
         | some d=>exact aQ _ _ _ (by rintro rfl;exact hd kj)
        ·cases hz
       have VZ:∀ g c t,oj.guard=some (g,c)->(ops[g]?).bind (·.dst)=some t->(aa.t t).cP=true\/aa.t t = .skip:=by
        intro g c t hg ht
        unfold cQ at m2
        rw[hg]at m2
        simp only[ht]at m2
        split at m2
        ·rename_i b U;left;rw[U];rfl
        ·rename_i U;exact .inr U
        ·cases m2
       have V0:∀ g c t,oj.guard=some (g,c)->(ops[g]?).bind (·.dst)=some t->o.dst≠some t:=by
        intro g c t hg ht hd
        refine a1 t hd (List.mem_append_right _ ?_)
        rw[hg]
        simp only[ht]
        simp
       have V1:cQ z ops oj=some true:=by
        rw[pG (σ:=aa) fun g c t hg ht=>?_]
        ·exact m2
        ·rcases VZ g c t hg ht with h | h
         ·exact L8 t h (V0 g c t hg ht)
         ·exfalso
          unfold cQ at m2
          rw[hg]at m2
          simp only[ht,h]at m2
          cases m2
       have V2:∀ y∈oj.op.operands,ah z y=ah aa y:=by
        intro y hy
        cases y with
        | tmp t=>
         refine L8 t (m3 _ hy).1 fun hd=>?_
         exact a1 t hd (List.mem_append_left _ (List.mem_filterMap.2 ⟨.tmp t,by simpa using hy,rfl⟩))
        | _=>rfl
       obtain⟨e,x,u,hd,he,hx,hu,tF,eH⟩:=zD m1 V1 cc
       have tI:=L7 j oj e bG cD (i4 j cU) cI hd
       have L9:=a3 e hd
       have aO:∀ y∈o.op.operands,(ah aa y).nr p=true/\y ≠ .tmp e:=by
        intro y hy
        refine⟨List.all_eq_true.1 i2 y (by simpa using hy),?_⟩
        rintro rfl
        exact L9 (List.mem_append_left _ (List.mem_filterMap.2 ⟨.tmp e,by simpa using hy,rfl⟩))
       have kj:o.dst≠some e:=fun h=>a2 e h hd
       have pI:cQ (aR e x u aa) ops o=cQ aa ops o:=by
        have hw:∃ b,cQ aa ops o=some b:=by
         unfold bL at hz
         cases hw:cQ aa ops o with
         | none=>rw[hw]at hz;cases hz
         | some b=>exact⟨b,rfl⟩
        obtain⟨b,hw⟩:=hw
        refine pG fun g c t' ow Ma=>?_
        rw[kY,if_neg ?_]
        ·exact A.nS (p:=p) (pb:=p) (Gc hw g c t' ow Ma) tI tI
        ·rintro rfl
         refine L9 (List.mem_append_right _ ?_)
         rw[ow]
         simp only[Ma]
         simp
       have nT:bL P N Φ ops (aR e x u aa) o some=some (aR e x u z):=by
        unfold bL at hz ⊢
        rw[pI]
        split at hz
        ·rename_i hw
         exact VP aI hx hu he tI zG c1 i6 kj aO (fun n hn=>List.all_eq_true.1 i3 n hn) hz
        ·rename_i hw
         obtain⟨g1,g2⟩:=fL hz
         injection g1 with g1
         refine((g2 (aR e x u aa)).at_ _).trans ?_
         rw[<-g1,Gs kj rfl]
        ·cases hz
       have GJ:∀ y∈o.op.operands,ah (aR e x u aa) y=ah aa y:=fun y hy=>pH (aO y hy).1 tI (aO y hy).2
       have hL:∀ k,(L' ||| 2 ^ j).testBit k=false->L'.testBit k=false/\k≠j:=by
        intro k hk
        rw[lW,Bool.or_eq_false_iff]at hk
        refine⟨hk.1,?_⟩
        rintro rfl
        simp at hk
       refine⟨aR e x u aa,eH aa m2 (fun y hy=>(V2 y hy).symm),?_,⟨by rw[nT];rfl,?_,?_,?_⟩,fun k hk=>i4 k (hL k hk).1,fun k kX hk mF mG mH=>?_⟩
       ·rw[tF,nT];rfl
       ·unfold F4
        rw[List.all_eq_true]
        intro y hy
        rw[GJ y (by simpa using hy)]
        exact(aO y (by simpa using hy)).1
       ·have V3:jE Φ (aR e x u aa) o=jE Φ aa o:=by
         unfold jE
         split
         ·rename_i f' args bD mK
          split
          ·refine zC _ _ fun y hy=>GJ y ?_
           rw[mK]
           simp only[Op.operands,Call.operands]
           simp only[Array.mem_append]
           first
            | exact .inr (by simpa using hy)
            | exact .inl (by simpa using hy)
          ·rfl
         ·rfl
        rw[V3,List.all_eq_true]
        intro n hn
        have h3:=List.all_eq_true.1 i3 n hn
        have az:n≠e:=by
         rintro rfl
         have gK:p n=false:=by
          unfold jE at hn
          split at hn
          ·rename_i f' args bD mK
           split at hn
           ·refine zK _ _ (fun y hy=>(aO y ?_).1) n hn
            rw[mK]
            simp only[Op.operands,Call.operands]
            simp only[Array.mem_append]
            first
             | exact .inr (by simpa using hy)
             | exact .inl (by simpa using hy)
           ·cases hn
          ·cases hn
         rw[tI]at gK;cases gK
        unfold pq at h3 ⊢
        rw[ji,if_neg az]
        cases hm:aa.m n with
        | none=>rfl
        | some y=>
         cases y with
         | sl=>rfl
         | mp=>rfl
         | gh=>rfl
         | blk cs=>
          rw[hm]at h3
          simp only[Option.map_some,au.drop,dM.gG h3 tI]
          exact h3
       ·unfold pn at i6 ⊢
        split
        ·rename_i ty t y mK
         rw[mK]at i6
         have e1:(aR e x u aa).t t=aa.t t:=GJ (.tmp t) (by rw[mK];simp[Op.operands])
         rw[e1]
         exact i6
        ·rfl
       ·obtain⟨n1,n2,n3,n4⟩:=i5 k kX hk mF (hL k mG).1 mH
        have V4:∀ t,p t=false->t≠e:=by rintro t ht rfl;rw[tI]at ht;cases ht
        have Mb:∀ t,(aa.t t).cP=true->p t=false->(aR e x u aa).t t=aa.t t:=by
         intro t ht V5
         rw[kY,if_neg (V4 t V5)]
         exact A.Ck ht e
        refine⟨n1,?_,fun y hy=>?_,n4⟩
        ·rw[pG (σ:=aa) fun g c t hg ht=>?_]
         ·exact n2
         ·unfold cQ at n2
          rw[hg]at n2
          simp only[ht]at n2
          split at n2
          ·rename_i b U
           exact Mb t (by rw[U];rfl) (n4 g c t hg ht)
          ·rename_i U;cases n2
          ·cases n2
        ·refine⟨?_,(n3 y hy).2⟩
         cases y with
         | tmp t=>
          show ((aR e x u aa).t t).cP=true
          rw[Mb t (n3 _ hy).1 ((n3 _ hy).2 t rfl)]
          exact(n3 _ hy).1
         | const v=>exact(n3 _ hy).1
         | global g=>exact(n3 _ hy).1
         | func f=>exact(n3 _ hy).1
     ·cases h
    ·cases h
theorem vS{b:Bool}(h:cQ σ ops o=some b)(hR:Rl w0 N lab ρ σ a w):Region.wanted o (yielded ops a.tmps)=b:=by
 unfold cQ at h
 split at h
 ·rename_i hg
  injection h with h
  subst h
  simp[Region.wanted,hg]
 ·rename_i j want hg
  split at h
  ·rename_i t ht
   have vT:=hR.tmp t
   rw[Array.getD_eq_getD_getElem?]at vT
   split at h
   ·rename_i c hc
    rw[hc]at vT
    have hv:=vT.2.qR
    injection h with h
    subst h
    cases hx:a.tmps[t]? with
    | none=>rw[hx]at hv;cases hv
    | some v=>
     rw[hx]at hv
     have hv:v = .bool c:=hv
     subst hv
     simp only[Region.wanted,hg,yielded,ht,Option.bind_some,hx]
     cases c <;>cases want <;>rfl
   ·rename_i hc
    rw[hc]at vT
    injection h with h
    subst h
    cases hx:a.tmps[t]? with
    | none=>simp[Region.wanted,hg,yielded,ht,hx]
    | some v=>
     rw[hx]at vT
     have hv:v=undef:=vT
     subst hv
     simp only[Region.wanted,hg,yielded,ht,Option.bind_some,hx,undef]
     cases want <;>rfl
   ·cases h
  ·cases h
structure mL (ops:Array Oper) (listed:Array Bool) (L:Nat):Prop where
 size:listed.size=ops.size
 bit:∀ j,j<ops.size->listed[j]?=some (L.testBit j)
 out:∀ j,ops.size<=j->L.testBit j=false
theorem mL.Mc{listed:Array Bool}{L:Nat}(h:mL ops listed L)(j:Nat):listed.getD j false=L.testBit j:=by
 rw[Array.getD_eq_getD_getElem?]
 by_cases hj:j<ops.size
 ·rw[h.bit j hj];rfl
 ·rw[h.out j (by omega),Array.getElem?_eq_none (by rw[h.size];omega)];rfl
theorem mL.ready{listed:Array Bool}{L:Nat}(h:mL ops listed L)(j:Nat):j∈Region.ready .any ops listed ↔ gH ops L j=true:=by
 rw[mem_ready,zF]
 constructor
 ·rintro⟨h0,o,ho,eH⟩
  have hj:=(Array.getElem?_eq_some_iff.1 ho).1
  rw[Array.getD_eq_getD_getElem?,h.bit j hj]at h0
  exact⟨h0,o,ho,fun e he U=>by rw[<-h.Mc];exact eH e he U⟩
 ·rintro⟨h0,o,ho,eH⟩
  have hj:=(Array.getElem?_eq_some_iff.1 ho).1
  exact⟨by rw[Array.getD_eq_getD_getElem?,h.bit j hj];exact h0,o,ho,fun e he U=>by rw[h.Mc];exact eH e he U⟩
theorem mL.set{listed:Array Bool}{L i:Nat}(h:mL ops listed L)(hi:i<ops.size):mL ops (listed.setIfInBounds i true) (L ||| 2 ^ i):=by
 refine⟨by simp[h.size],fun j hj=>?_,fun j hj=>?_⟩
 ·rw[lW]
  by_cases yV:i=j
  ·subst yV
   rw[Array.getElem?_setIfInBounds_self_of_lt (by rw[h.size];exact hi)]
   simp
  ·rw[Array.getElem?_setIfInBounds_ne yV,h.bit j hj]
   simp[yV]
 ·rw[lW,h.out j hj]
  have:i≠j:=by omega
  simpa using this
theorem mL.start:mL ops (Array.replicate ops.size false) 0:=
 ⟨by simp,fun j hj=>by simp[hj],fun j _=>Nat.zero_testBit j⟩
theorem V6(aI:dn P Φ){k:S->Option X}{i:Nat}(hi:ops[i]?=some o)(h:bL P N Φ ops σ o k=some r):∃ τ,k τ=some r/\∀ a w (K:Act->World->Prop) (Q:Exit->Act->World->Prop),R w0 N σ a w->(∀ a' w',R w0 N τ a' w'->K a' w')->wpOp P ops Q i K a w:=by
 unfold bL at h
 split at h
 ·rename_i hw
  obtain⟨τ,h1,cO⟩:=BY (w0:=w0) aI h
  refine⟨τ,h1,fun a w K Q hR hK=>?_⟩
  obtain⟨lab,ρ,aA⟩:=hR
  unfold wpOp
  rw[hi]
  simp only[vS hw aA,if_true]
  exact .inl (cO a w K Q ⟨lab,ρ,aA⟩ hK)
 ·rename_i hw
  unfold eK at h
  split at h
  ·rename_i hd
   refine⟨σ,h,fun a w K Q hR hK=>?_⟩
   obtain⟨lab,ρ,aA⟩:=hR
   unfold wpOp
   rw[hi]
   simp only[vS hw aA,hd]
   exact hK _ _ ⟨lab,ρ,aA⟩
  ·rename_i d hd
   cases hN:Nat.blt d N with
   | false=>rw[hN]at h;cases h
   | true=>
    rw[hN,cond_true]at h
    refine⟨_,h,fun a w K Q hR hK=>?_⟩
    obtain⟨lab,ρ,aA⟩:=hR
    unfold wpOp
    rw[hi]
    simp only[vS hw aA,hd]
    exact hK _ _ ⟨lab,ρ,aA.set rfl (by have:=Nat.le_of_ble_eq_true hN;omega)⟩
 ·cases h
theorem Md(aI:dn P Φ){K:S->Prop}{Q:Exit->Act->World->Prop}(hQ:∀ τ,K τ->∀ a w,R w0 N τ a w->Q .normal a w):
  ∀ (f L:Nat) (σ:S) (listed:Array Bool),Any P N Φ ops K f L σ->mL ops listed L->∀ a w,R w0 N σ a w->wpAny P .any ops Q f listed a w
 | 0,L,σ,listed,h,hs,a,w,hR=>by
  refine⟨List.eq_nil_iff_forall_not_mem.2 fun j hj=>?_,hQ σ h.2 a w hR⟩
  rw[hs.ready,h.1 j]at hj
  cases hj
 | f+1,L,σ,listed,h,hs,a,w,hR=>by
  refine⟨fun hr=>hQ σ (h.1 fun j=>?_) a w hR,fun j hj=>?_⟩
  ·cases hj:gH ops L j with
   | false=>rfl
   | true=>
    have:=(hs.ready j).2 hj
    rw[hr]at this
    cases this
  ·have jS:=(hs.ready j).1 hj
   obtain⟨o,τ,ho,hd,hA⟩:=h.2 j jS
   obtain⟨dr,h1,hw⟩:=V6 (w0:=w0) aI ho hd
   injection h1 with h1
   subst h1
   exact hw a w _ Q hR fun a' w' aA=>Md aI hQ f (L ||| 2 ^ j) _ _ hA (hs.set (L5 jS)) a' w' aA
theorem R.drawn(hR:R w0 N σ a w):R w0 N σ a { w with drawn:=w.drawn+1 }:=by
 obtain⟨lab,ρ,h⟩:=hR
 exact⟨lab,ρ,h.grow ⟨rfl,rfl,rfl,Nat.le_refl _,fun _ _=>rfl⟩ (fun _ _=>rfl) (fun b k U hl=>absurd (h.bf b k hl).2.1 (Nat.not_lt.2 U))⟩
end
end Go.Proofs.YtjldnlbiefpekaaDoor
