/- Laws on append where the source is any slice that reads as a list (after howto/extra-words.md, section 3). Nothing here is a claim. -/
import Derived.Test.YthmgjjfedieljaaGreatDoorBase
import Derived.Maps.AppendAt
import Derived.Deep.AppendLies
import Derived.RegionTactic
import Derived.OwnWalk
namespace Go.Proofs.YthmgjjfedieljaaGreatDoor
set_option linter.defProp false
open Go.RowKit
section
variable {P:Program} (w:World)
def agu(base:Nat)(t ty e:TypeId)(i:TypeInfo)(size:Nat)(C:P.underlying t=some (.slice e))(hi:P.info? e=some i)
  (v:Value) (n:Nat) (xs:List Value) (D:w.ownsRow base e size v n xs) (c:Nat):(Builtin.append_ #[t,t] ty #[v,.slice none 0 c]).run P w = .ok v w:=by
 rcases D.2 with ⟨rfl,rfl⟩|⟨g,cap,F,rfl,_,_,E,_⟩
 ·simp[Builtin.append_,run_underlying C,sizeOf,typeInfo,hi,Builtin.lenOf,Builtin.firstCells]
 ·simp[Builtin.append_,run_underlying C,sizeOf,typeInfo,hi,Builtin.lenOf,Builtin.firstCells,E,storeCells]
def OF(base:Nat)(t ty e:TypeId)(i:TypeInfo)(z:Value)(size bytes:Nat)(O:P.underlying t=some (.slice e))(hi:P.info? e=some i)(U:i.zero=some z)
  (Y:i.size=size) (Z:i.bytes=bytes) (lH:z.cells.size=size) (hsz:0<size)
  (v:Value) (n:Nat) (xs:List Value) (E:w.ownsRow base e size v n xs)
  (B:Nat) (A:Option Addr) (m c:Nat) (news:List Value) (D:Reads w B size A m news) (h1:∀u∈news,u.oneCell'=true)
  (h63:n+m<=maxLen) (Eg:(n+m)*bytes<=140737488355328) (OG:base<=w.heap.size):
  ∃ C w',(Builtin.append_ #[t,t] ty #[v,.slice A m c]).run P w = .ok C w'/\w'.ownsRow base e size C (n+m) (xs++news)/\w.grownBy w' v.ownBlock/\
   (C.ownBlock=v.ownBlock\/C.ownBlock=some w.heap.size):=by
 rcases A with _|ad
 ·have hm:m=0:=by
   rcases Nat.eq_zero_or_pos m with h0|h0
   ·exact h0
   ·obtain⟨F,I,h,_⟩:=D.2 h0;cases h
  subst hm;have L:news=[]:=List.eq_nil_of_length_eq_zero (by simpa using D.1);subst L;exact⟨v,w,agu w base t ty e i size O hi v n xs E c,by simpa using E,World.grownBy.refl w _,.inl rfl⟩
 ·have hcells:∀ j u,news[j]?=some u->w.cell? (ad.add j)=some u:=by
   intro j u T;rcases Nat.eq_zero_or_pos m with h0|h0
   ·subst h0;have L:news=[]:=List.eq_nil_of_length_eq_zero (by simpa using D.1);subst L;simp at T
   ·obtain⟨F,I,h,_,hc⟩:=D.2 h0;injection h with h;subst h;have Jv:(⟨F,I,none⟩:Addr).add j=⟨F,I+j,none⟩:=by unfold Addr.add;split <;>simp_all
    rw[Jv];exact hc j u T
  obtain⟨C,w',dZ,h2,h3,_,h5⟩:=run_append_own_at (P:=P) w base t ty e i z size bytes O hi U Y Z lH hsz v n xs E ad m c news D.1 hcells h1 h63 Eg OG;exact⟨C,w',dZ,h2,h3,h5⟩
end
structure Kept (B base:Nat) (e:TypeId) (size n:Nat) (v:Value) (xs:List Value) (w0 w:World):Prop where
 own:w.ownsRow base e size v n xs
 below:Below B w0 w
end Go.Proofs.YthmgjjfedieljaaGreatDoor
