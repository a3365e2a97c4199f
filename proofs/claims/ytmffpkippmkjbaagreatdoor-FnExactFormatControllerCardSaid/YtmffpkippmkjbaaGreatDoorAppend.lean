/- Laws on append where the source is any slice that reads as a list (after howto/extra-words.md, section 3). Nothing here is a claim. -/
import Derived.Test.YtmffpkippmkjbaaGreatDoorBase
import Derived.Maps.AppendAt
import Derived.Deep.AppendLies
import Derived.RegionTactic
import Derived.OwnWalk
namespace Go.Proofs.YtmffpkippmkjbaaGreatDoor
open Go.RowKit
section
variable {P:Program} (w:World)
theorem aaS(base:Nat)(t ty e:TypeId)(i:TypeInfo)(size:Nat)(ht:P.underlying t=some (.slice e))(hi:P.info? e=some i)
  (v:Value) (n:Nat) (xs:List Value) (eD:w.ownsRow base e size v n xs) (c:Nat):(Builtin.append_ #[t,t] ty #[v,.slice none 0 c]).run P w = .ok v w:=by
 rcases eD.2 with ⟨rfl,rfl⟩ | ⟨g,cap,cur,rfl,_,_,jy,_⟩
 ·simp[Builtin.append_,run_underlying ht,sizeOf,typeInfo,hi,Builtin.lenOf,Builtin.firstCells]
 ·simp[Builtin.append_,run_underlying ht,sizeOf,typeInfo,hi,Builtin.lenOf,Builtin.firstCells,jy,storeCells]
theorem Ey(base:Nat)(t ty e:TypeId)(i:TypeInfo)(z:Value)(size bytes:Nat)(ht:P.underlying t=some (.slice e))(hi:P.info? e=some i)(hz:i.zero=some z)
  (oT:i.size=size) (ez:i.bytes=bytes) (ee:z.cells.size=size) (hsz:0<size)
  (v:Value) (n:Nat) (xs:List Value) (eD:w.ownsRow base e size v n xs)
  (B:Nat) (A:Option Addr) (m c:Nat) (news:List Value) (hr:Reads w B size A m news) (h1:∀ u∈news,u.oneCell'=true)
  (n9:n+m<=maxLen) (oU:(n+m)*bytes<=140737488355328) (ri:base<=w.heap.size):
  ∃ v' w',(Builtin.append_ #[t,t] ty #[v,.slice A m c]).run P w = .ok v' w'/\w'.ownsRow base e size v' (n+m) (xs++news)/\w.grownBy w' v.ownBlock/\
   (v'.ownBlock=v.ownBlock\/v'.ownBlock=some w.heap.size):=by
 rcases A with _ | ad
 ·have hm:m=0:=by
   rcases Nat.eq_zero_or_pos m with h0 | h0
   ·exact h0
   ·obtain⟨b',mj,h,_⟩:=hr.2 h0
    cases h
  subst hm
  have hn:news=[]:=List.eq_nil_of_length_eq_zero (by simpa using hr.1)
  subst hn
  exact⟨v,w,aaS w base t ty e i size ht hi v n xs eD c,by simpa using eD,World.grownBy.refl w _,.inl rfl⟩
 ·have hcells:∀ j u,news[j]?=some u->w.cell? (ad.add j)=some u:=by
   intro j u hu
   rcases Nat.eq_zero_or_pos m with h0 | h0
   ·subst h0
    have hn:news=[]:=List.eq_nil_of_length_eq_zero (by simpa using hr.1)
    subst hn
    simp at hu
   ·obtain⟨b',mj,h,_,hc⟩:=hr.2 h0
    injection h with h
    subst h
    have n8:(⟨b',mj,none⟩:Addr).add j=⟨b',mj+j,none⟩:=by unfold Addr.add;split <;>simp_all
    rw[n8]
    exact hc j u hu
  obtain⟨v',w',aL,h2,h3,_,h5⟩:=run_append_own_at (P:=P) w base t ty e i z size bytes ht hi hz oT ez ee hsz v n xs eD ad m c news hr.1 hcells h1 n9 oU ri
  exact⟨v',w',aL,h2,h3,h5⟩
theorem OL{o:Oper}{a:Act}{K:Act->World->Prop}{Q:Exit->Act->World->Prop}(s x:Operand)(t:TypeId)
  (ho:o.op = .call { callee:=.builtin .append,args:=#[s,x],argTypes:=#[t,t] })
  (base:Nat) (e:TypeId) (i:TypeInfo) (z:Value) (size bytes:Nat) (ht:P.underlying t=some (.slice e)) (hi:P.info? e=some i) (hz:i.zero=some z)
  (oT:i.size=size) (ez:i.bytes=bytes) (ee:z.cells.size=size) (hsz:0<size)
  (v:Value) (n:Nat) (xs:List Value) (hs:a.eval s=v) (eD:w.ownsRow base e size v n xs)
  (B:Nat) (A:Option Addr) (m c:Nat) (news:List Value) (hx:a.eval x = .slice A m c) (hr:Reads w B size A m news) (h1:∀ u∈news,u.oneCell'=true)
  (n9:n+m<=maxLen) (oU:(n+m)*bytes<=140737488355328) (ri:base<=w.heap.size)
  (h:∀ v' w',w'.ownsRow base e size v' (n+m) (xs++news)->w.grownBy w' v.ownBlock->(v'.ownBlock=v.ownBlock\/v'.ownBlock=some w.heap.size)->K (a.put o.dst v') w'):o.wp P a w K Q:=by
 obtain⟨v',w',aL,h2,h3,h4⟩:=Ey (P:=P) w base t o.type e i z size bytes ht hi hz oT ez ee hsz v n xs eD B A m c news hr h1 n9 oU ri
 unfold Oper.wp execOp
 simp only[ho,resolve,invoke,builtin,Sem.run_bind,Sem.run_pure,Result.andThen_ok,List.map_toArray,List.map_cons,List.map_nil,hs,hx,aL]
 exact h v' w' h2 h3 h4
theorem arG{ops:Array Oper}{rest:List Oper}{o:Oper}{a:Act}{Q:Exit->Act->World->Prop}(rj:o.guard=none)(s x:Operand)(t:TypeId)
  (ho:o.op = .call { callee:=.builtin .append,args:=#[s,x],argTypes:=#[t,t] })
  (base:Nat) (e:TypeId) (i:TypeInfo) (z:Value) (size bytes:Nat) (ht:P.underlying t=some (.slice e)) (hi:P.info? e=some i) (hz:i.zero=some z)
  (oT:i.size=size) (ez:i.bytes=bytes) (ee:z.cells.size=size) (hsz:0<size)
  (v:Value) (n:Nat) (xs:List Value) (hs:a.eval s=v) (eD:w.ownsRow base e size v n xs)
  (B:Nat) (A:Option Addr) (m c:Nat) (news:List Value) (hx:a.eval x = .slice A m c) (hr:Reads w B size A m news) (h1:∀ u∈news,u.oneCell'=true)
  (n9:n+m<=maxLen) (oU:(n+m)*bytes<=140737488355328) (ri:base<=w.heap.size)
  (h:∀ v' w',w'.ownsRow base e size v' (n+m) (xs++news)->w.grownBy w' v.ownBlock->(v'.ownBlock=v.ownBlock\/v'.ownBlock=some w.heap.size)->wpList P ops Q rest (a.put o.dst v') w'):wpList P ops Q (o :: rest) a w:=
 wpList_plain rj fun _ hK=>OL w s x t ho base e i z size bytes ht hi hz oT ez ee hsz v n xs hs eD B A m c news hx hr h1 n9 oU ri fun v' w' h2 h3 h4=>hK _ _ (h v' w' h2 h3 h4)
theorem arH{ops:Array Oper}{o:Oper}{a:Act}{K:Act->World->Prop}{Q:Exit->Act->World->Prop}{E:Prop}(rj:o.guard=none)(s x:Operand)(t:TypeId)
  (ho:o.op = .call { callee:=.builtin .append,args:=#[s,x],argTypes:=#[t,t] })
  (base:Nat) (e:TypeId) (i:TypeInfo) (z:Value) (size bytes:Nat) (ht:P.underlying t=some (.slice e)) (hi:P.info? e=some i) (hz:i.zero=some z)
  (oT:i.size=size) (ez:i.bytes=bytes) (ee:z.cells.size=size) (hsz:0<size)
  (v:Value) (n:Nat) (xs:List Value) (hs:a.eval s=v) (eD:w.ownsRow base e size v n xs)
  (B:Nat) (A:Option Addr) (m c:Nat) (news:List Value) (hx:a.eval x = .slice A m c) (hr:Reads w B size A m news) (h1:∀ u∈news,u.oneCell'=true)
  (n9:n+m<=maxLen) (oU:(n+m)*bytes<=140737488355328) (ri:base<=w.heap.size)
  (h:∀ v' w',w'.ownsRow base e size v' (n+m) (xs++news)->w.grownBy w' v.ownBlock->(v'.ownBlock=v.ownBlock\/v'.ownBlock=some w.heap.size)->K (a.put o.dst v') w'):
  if Region.wanted o (yielded ops a.tmps)=true then Oper.wp P o a w K Q else E:=by
 have hw:Region.wanted o (yielded ops a.tmps)=true:=by simp[Region.wanted,rj]
 rw[if_pos hw]
 exact OL w s x t ho base e i z size bytes ht hi hz oT ez ee hsz v n xs hs eD B A m c news hx hr h1 n9 oU ri h
end
theorem arI{w w':World}{B k:Nat}{v:Value}(hg:w.grownBy w' v.ownBlock)(hv:v.ownBlock=some k)(hB:B<=k)(hs:B<=w.heap.size):Below B w w':=
 (Below.refl B w).grown hg hs (fun j hj=>by rw[hv]at hj;injection hj;omega)
theorem aaT{w:World}{base Aj n size:Nat}{e:TypeId}{v:Value}{xs:List Value}(h:w.ownsRow base e size v n xs)(hb:Aj<=base):w.ownsRow Aj e size v n xs:=by
 refine⟨h.1,?_⟩
 rcases h.2 with h' | ⟨g,cap,cur,hv,hg,r⟩
 ·exact .inl h'
 ·exact .inr ⟨g,cap,cur,hv,by omega,r⟩
/-- A world behind stores into old blocks of the call's own: the row that lies from 'base' on is owned still,and nothing below B has turned. -/
structure Kept (B base:Nat) (e:TypeId) (size n:Nat) (v:Value) (xs:List Value) (w0 w:World):Prop where
 own:w.ownsRow base e size v n xs
 below:Below B w0 w
theorem Kept.qa{B base:Nat}{e:TypeId}{size n:Nat}{v:Value}{xs:List Value}{w0 w:World}(h:Kept B base e size n v xs w0 w){p:Addr}(h1:B<=p.block)(h2:p.block<base)(u:Value):
  Kept B base e size n v xs w0 (w.setCell p u):=⟨ownsRow_setCell_below h.own h2 u,h.below.setCell h1 u⟩
end Go.Proofs.YtmffpkippmkjbaaGreatDoor
