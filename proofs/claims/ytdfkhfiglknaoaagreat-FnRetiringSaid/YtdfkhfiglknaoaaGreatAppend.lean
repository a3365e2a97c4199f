/- Laws on append where the source is any slice that reads as a list (after howto/extra-words.md, section 3). Nothing here is a claim. -/
import Derived.Test.YtdfkhfiglknaoaaGreatBase
import Derived.Maps.AppendAt
import Derived.Deep.AppendLies
import Derived.RegionTactic
import Derived.OwnWalk
namespace Go.Proofs.YtdfkhfiglknaoaaGreat
set_option linter.defProp false
open Go.RowKit
section
variable {P:Program} (w:World)
def aoi(base:Nat)(t ty e:TypeId)(i:TypeInfo)(size:Nat)(C:P.underlying t=some (.slice e))(hi:P.info? e=some i)
  (v:Value) (n:Nat) (xs:List Value) (D:w.ownsRow base e size v n xs) (c:Nat):(Builtin.append_ #[t,t] ty #[v,.slice none 0 c]).run P w = .ok v w:=by
 rcases D.2 with ⟨rfl,rfl⟩|⟨g,cap,I,rfl,_,_,E,_⟩
 ·simp[Builtin.append_,run_underlying C,sizeOf,typeInfo,hi,Builtin.lenOf,Builtin.firstCells]
 ·simp[Builtin.append_,run_underlying C,sizeOf,typeInfo,hi,Builtin.lenOf,Builtin.firstCells,E,storeCells]
def UG(base:Nat)(t ty e:TypeId)(i:TypeInfo)(z:Value)(size bytes:Nat)(Y:P.underlying t=some (.slice e))(hi:P.info? e=some i)(hz:i.zero=some z)
  (aoj:i.size=size) (kZ:i.bytes=bytes) (ox:z.cells.size=size) (gx:0<size)
  (v:Value) (n:Nat) (xs:List Value) (E:w.ownsRow base e size v n xs)
  (B:Nat) (A:Option Addr) (m c:Nat) (news:List Value) (D:Reads w B size A m news) (h1:∀u∈news,u.oneCell'=true)
  (h63:n+m<=maxLen) (UH:(n+m)*bytes<=140737488355328) (aok:base<=w.heap.size):
  ∃ C w',(Builtin.append_ #[t,t] ty #[v,.slice A m c]).run P w = .ok C w'/\w'.ownsRow base e size C (n+m) (xs++news)/\w.grownBy w' v.ownBlock/\
   (C.ownBlock=v.ownBlock\/C.ownBlock=some w.heap.size):=by
 rcases A with _|ad
 ·have hm:m=0:=by
   rcases Nat.eq_zero_or_pos m with h0|h0
   ·exact h0
   ·obtain⟨I,O,h,_⟩:=D.2 h0;cases h
  subst hm;have U:news=[]:=List.eq_nil_of_length_eq_zero (by simpa using D.1);subst U;exact⟨v,w,aoi w base t ty e i size Y hi v n xs E c,by simpa using E,World.grownBy.refl w _,.inl rfl⟩
 ·have Ol:∀ j u,news[j]?=some u->w.cell? (ad.add j)=some u:=by
   intro j u hu;rcases Nat.eq_zero_or_pos m with h0|h0
   ·subst h0;have U:news=[]:=List.eq_nil_of_length_eq_zero (by simpa using D.1);subst U;simp at hu
   ·obtain⟨I,O,h,_,hc⟩:=D.2 h0;injection h with h;subst h;have Om:(⟨I,O,none⟩:Addr).add j=⟨I,O+j,none⟩:=by unfold Addr.add;split <;>simp_all
    rw[Om];exact hc j u hu
  obtain⟨C,w',cH,h2,h3,_,h5⟩:=run_append_own_at (P:=P) w base t ty e i z size bytes Y hi hz aoj kZ ox gx v n xs E ad m c news D.1 Ol h1 h63 UH aok;exact⟨C,w',cH,h2,h3,h5⟩
end
structure Kept (B base:Nat) (e:TypeId) (size n:Nat) (v:Value) (xs:List Value) (w0 w:World):Prop where
 own:w.ownsRow base e size v n xs
 below:Below B w0 w
end Go.Proofs.YtdfkhfiglknaoaaGreat
