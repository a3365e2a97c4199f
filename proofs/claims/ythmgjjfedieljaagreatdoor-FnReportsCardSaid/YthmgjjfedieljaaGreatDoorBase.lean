/- Plain lemmas without the program: bytes, hexadecimal digits, bits, slices that own a row. Nothing here is a claim. -/
import Derived.WalkKit
import Derived.Laws.BitsAllLaws
import Derived.Laws.BitsLemmas
import Derived.Lib.Hide
import Derived.Deep.Draws
import Derived.Lib.Bytealg
import Derived.Laws.OwnMore
import Derived.Deep.AppendLies
import Derived.Laws.Rows
namespace Go.Proofs.YthmgjjfedieljaaGreatDoor
set_option linter.defProp false
open Go.RowKit
def bs(l:List UInt8):ByteArray:=⟨l.toArray⟩
def Ju(a:Nat)(C:a<9223372036854775808):(BitVec.ofInt 64 (a:Int)).toNat=a:=by
 rw[BitVec.ofInt_natCast,BitVec.toNat_ofNat];exact Nat.mod_eq_of_lt (by omega)
def agn(a b:Nat)(C:a<9223372036854775808)(hb:b<9223372036854775808):bits .and .i64 (a:Int) (b:Int)=((a &&& b:Nat):Int):=by
 have D:a &&& b<2 ^ 63:=Nat.and_lt_two_pow _ (by omega);show IntKind.i64.wrap ((BitVec.ofInt 64 (a:Int) &&& BitVec.ofInt 64 (b:Int)).toNat:Int)=_;rw[BitVec.toNat_and,Ju a C,Ju b hb,IntKind.wrap_i64];omega
def ago(a b:Nat)(C:a<9223372036854775808)(hb:b<9223372036854775808):bits .or .i64 (a:Int) (b:Int)=((a ||| b:Nat):Int):=by
 have D:a |||b<2 ^ 63:=Nat.or_lt_two_pow (by omega) (by omega);show IntKind.i64.wrap ((BitVec.ofInt 64 (a:Int) |||BitVec.ofInt 64 (b:Int)).toNat:Int)=_;rw[BitVec.toNat_or,Ju a C,Ju b hb,IntKind.wrap_i64];omega
def agp(a:Int)(C:0<=a)(D:a<=9223372036854775807):bits .and .i64 a 15=((a.toNat % 16:Nat):Int):=by
 obtain⟨n,rfl⟩:=Int.eq_ofNat_of_zero_le C;have h:=agn n 15 (by omega) (by omega);rw[nat_mask4]at h
 simpa using h
def agq(a d:Int)(C:0<=a)(F:a<=4294967295)(D:0<=d)(I:d<16):bits .or .i64 (a*16) d=16*a+d:=by
 obtain⟨m,rfl⟩:=Int.eq_ofNat_of_zero_le C;obtain⟨n,rfl⟩:=Int.eq_ofNat_of_zero_le D;have h:=ago (m*16) n (by omega) (by omega);rw[nat_join 4 (m*16) n (by omega) (by omega)]at h;rw[show ((m:Int)*16)=((m*16:Nat):Int) by omega,h];omega
/-! Slices that read as a list;blocks that are known whole (after howto/extra-words.md). -/
def Reads(w:World)(B size:Nat)(A:Option Addr)(n:Nat)(xs:List Value):Prop:=
 xs.length=n*size/\(0<n->∃b off,A=some ⟨b,off,none⟩/\b<B/\∀j u,xs[j]?=some u->w.cell? ⟨b,off+j,none⟩=some u)
section
variable {w w':World} {B B' size n:Nat} {A:Option Addr} {xs:List Value}
def Reads.none_:Reads w B size A 0 []:=⟨by simp,λh=>absurd h (by omega)⟩
end
def wK(w:World)(g:Nat)(t:TypeId)(cs:Array Value):Prop:=w.heap[g]?=some (.cells cs t (0,0))
section
variable {w w':World} {g:Nat} {t:TypeId} {cs:Array Value}
def wK.agr(h:wK w g t cs)(i:Nat)(u:Value):wK (w.setCell ⟨g,i,none⟩ u) g t (cs.setIfInBounds i u):=by
 unfold wK at h ⊢;simp[World.setCell,Array.getElem?_modify,h]
end
def ags{a b c:World}{r:Option Nat}(h:a.grownBy b r)(k:b.grownBy c r):a.grownBy c r:=
 ⟨k.os.trans h.os,k.tape.trans h.tape,k.output.trans h.output,Nat.le_trans h.size k.size,λi hi C=>(k.block i (Nat.lt_of_lt_of_le hi h.size) C).trans (h.block i hi C)⟩
def agt{a w:World}{r:Option Nat}(h:a.grownBy w r){p:Addr}(hp:a.heap.size<=p.block\/some p.block=r)(u:Value):a.grownBy (w.setCell p u) r:=
 ⟨h.os,h.tape,h.output,by simpa [World.setCell]using h.size,λi hi C=>(Below.heap_setCell w p u i (by
  rintro rfl;rcases hp with hp|hp
  ·omega
  ·exact C hp)).trans (h.block i hi C)⟩
def ints(l:List Int):List Value:=l.map (Value.int .i64)
end Go.Proofs.YthmgjjfedieljaaGreatDoor
