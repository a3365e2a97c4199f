/- Plain lemmas without the program: bytes, hexadecimal digits, bits, slices that own a row. Nothing here is a claim. -/
import Derived.WalkKit
import Derived.Laws.BitsAllLaws
import Derived.Laws.BitsLemmas
import Derived.Lib.Hide
import Derived.Deep.Draws
import Derived.Lib.Bytealg
import Derived.Laws.OwnMore
import Derived.Deep.AppendLies
import Derived.Laws.Rows
namespace Go.Proofs.YtdfkhfiglknaoaaGreat
set_option linter.defProp false
open Go.RowKit
def bs(l:List UInt8):ByteArray:=⟨l.toArray⟩
/-! Slices that read as a list;blocks that are known whole (after howto/extra-words.md). -/
def Reads(w:World)(B size:Nat)(A:Option Addr)(n:Nat)(xs:List Value):Prop:=
 xs.length=n*size/\(0<n->∃b off,A=some ⟨b,off,none⟩/\b<B/\∀j u,xs[j]?=some u->w.cell? ⟨b,off+j,none⟩=some u)
section
variable {w w':World} {B B' size n:Nat} {A:Option Addr} {xs:List Value}
def Reads.none_:Reads w B size A 0 []:=⟨by simp,λh=>absurd h (by omega)⟩
end
def zX(w:World)(g:Nat)(t:TypeId)(cs:Array Value):Prop:=w.heap[g]?=some (.cells cs t (0,0))
section
variable {w w':World} {g:Nat} {t:TypeId} {cs:Array Value}
def zX.aof(h:zX w g t cs)(i:Nat)(u:Value):zX (w.setCell ⟨g,i,none⟩ u) g t (cs.setIfInBounds i u):=by
 unfold zX at h ⊢;simp[World.setCell,Array.getElem?_modify,h]
end
def aog{a b c:World}{r:Option Nat}(h:a.grownBy b r)(k:b.grownBy c r):a.grownBy c r:=
 ⟨k.os.trans h.os,k.tape.trans h.tape,k.output.trans h.output,Nat.le_trans h.size k.size,λi hi C=>(k.block i (Nat.lt_of_lt_of_le hi h.size) C).trans (h.block i hi C)⟩
def aoh{a w:World}{r:Option Nat}(h:a.grownBy w r){p:Addr}(hp:a.heap.size<=p.block\/some p.block=r)(u:Value):a.grownBy (w.setCell p u) r:=
 ⟨h.os,h.tape,h.output,by simpa [World.setCell]using h.size,λi hi C=>(Below.heap_setCell w p u i (by
  rintro rfl;rcases hp with hp|hp
  ·omega
  ·exact C hp)).trans (h.block i hi C)⟩
def ints(l:List Int):List Value:=l.map (Value.int .i64)
end Go.Proofs.YtdfkhfiglknaoaaGreat
