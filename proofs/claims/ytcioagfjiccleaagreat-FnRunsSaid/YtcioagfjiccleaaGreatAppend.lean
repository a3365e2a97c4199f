/- Laws on append where the source is any slice that reads as a list (after howto/extra-words.md, section 3). Nothing here is a claim. -/
import Derived.Test.YtcioagfjiccleaaGreatBase
import Derived.Maps.AppendAt
import Derived.Deep.AppendLies
import Derived.RegionTactic
import Derived.OwnWalk
namespace Go.Proofs.YtcioagfjiccleaaGreat
open Go.RowKit
section
variable {P:Program} (w:World)
theorem ago(base:Nat)(t ty e:TypeId)(i:TypeInfo)(size:Nat)(ht:P.underlying t=some (.slice e))(hi:P.info? e=some i)
  (v:Value) (n:Nat) (xs:List Value) (nt:w.ownsRow base e size v n xs) (c:Nat):(Builtin.append_ #[t,t] ty #[v,.slice none 0 c]).run P w = .ok v w:=by
 rcases nt.2 with ⟨rfl,rfl⟩|⟨g,cap,cur,rfl,_,_,n8,_⟩
 ·simp[Builtin.append_,run_underlying ht,sizeOf,typeInfo,hi,Builtin.lenOf,Builtin.firstCells]
 ·simp[Builtin.append_,run_underlying ht,sizeOf,typeInfo,hi,Builtin.lenOf,Builtin.firstCells,n8,storeCells]
theorem QX(base:Nat)(t ty e:TypeId)(i:TypeInfo)(z:Value)(size bytes:Nat)(ht:P.underlying t=some (.slice e))(hi:P.info? e=some i)(hz:i.zero=some z)
  (agp:i.size=size) (lU:i.bytes=bytes) (gQ:z.cells.size=size) (dx:0<size)
  (v:Value) (n:Nat) (xs:List Value) (nt:w.ownsRow base e size v n xs)
  (B:Nat) (A:Option Addr) (m c:Nat) (news:List Value) (hr:Reads w B size A m news) (h1:∀u∈news,u.oneCell'=true)
  (QY:n+m<=maxLen) (QZ:(n+m)*bytes<=140737488355328) (agq:base<=w.heap.size):
  ∃ v' w',(Builtin.append_ #[t,t] ty #[v,.slice A m c]).run P w = .ok v' w'/\w'.ownsRow base e size v' (n+m) (xs++news)/\w.grownBy w' v.ownBlock/\
   (v'.ownBlock=v.ownBlock\/v'.ownBlock=some w.heap.size):=by
 rcases A with _|ad
 ·have hm:m=0:=by
   rcases Nat.eq_zero_or_pos m with h0|h0
   ·exact h0
   ·obtain⟨b',pQ,h,_⟩:=hr.2 h0;cases h
  subst hm;have hn:news=[]:=List.eq_nil_of_length_eq_zero (by simpa using hr.1);subst hn;exact⟨v,w,ago w base t ty e i size ht hi v n xs nt c,by simpa using nt,World.grownBy.refl w _,.inl rfl⟩
 ·have LW:∀ j u,news[j]?=some u->w.cell? (ad.add j)=some u:=by
   intro j u hu;rcases Nat.eq_zero_or_pos m with h0|h0
   ·subst h0;have hn:news=[]:=List.eq_nil_of_length_eq_zero (by simpa using hr.1);subst hn;simp at hu
   ·obtain⟨b',pQ,h,_,hc⟩:=hr.2 h0;injection h with h;subst h;have Ac:(⟨b',pQ,none⟩:Addr).add j=⟨b',pQ+j,none⟩:=by unfold Addr.add;split <;>simp_all
    rw[Ac];exact hc j u hu
  obtain⟨v',w',bq,h2,h3,_,h5⟩:=run_append_own_at (P:=P) w base t ty e i z size bytes ht hi hz agp lU gQ dx v n xs nt ad m c news hr.1 LW h1 QY QZ agq;exact⟨v',w',bq,h2,h3,h5⟩
end
structure Kept (B base:Nat) (e:TypeId) (size n:Nat) (v:Value) (xs:List Value) (w0 w:World):Prop where
 own:w.ownsRow base e size v n xs
 below:Below B w0 w
end Go.Proofs.YtcioagfjiccleaaGreat
