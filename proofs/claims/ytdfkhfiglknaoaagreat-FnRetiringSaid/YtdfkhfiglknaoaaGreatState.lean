/- The state of a walk: some blocks of the call's own that are known whole, and that what was there before stands. Nothing here is a claim. -/
import Derived.Test.YtdfkhfiglknaoaaGreatAppend
namespace Go.Proofs.YtdfkhfiglknaoaaGreat
open Go.RowKit
structure St (w0:World) (bs:List (Nat×TypeId×Array Value)) (W:World):Prop where
 On:Below w0.heap.size w0 W
 aB:∀b t cs,(b,t,cs)∈bs->zX W b t cs
 own:∀b t cs,(b,t,cs)∈bs->w0.heap.size<=b
section
variable {w0 W w1:World} {bs:List (Nat×TypeId×Array Value)} {b n:Nat} {t:TypeId} {cs:Array Value}
end
def aby(w:World)(base:Nat)(A:Option Addr)(c:Nat)(l:List Int):Prop:=w.ownsRow base 3 1 (.slice A l.length c) l.length (ints l)
structure StI (w0:World) (bs:List (Nat×TypeId×Array Value)) (rs:List (Option Addr×Nat×List Int)) (W:World):Prop where
 st:St w0 bs W
 row:∀A c l,(A,c,l)∈rs->aby W w0.heap.size A c l
section
variable {w0 W w1:World} {bs:List (Nat×TypeId×Array Value)} {rs:List (Option Addr×Nat×List Int)} {b n:Nat} {t:TypeId} {cs:Array Value}
end
structure RW (w0:World) (b:Nat) (t:TypeId) (rs:List (Option Addr×Nat×List Int)) (W:World):Prop where
 On:Below w0.heap.size w0 W
 aB:∃cs,zX W b t cs
 own:w0.heap.size<=b
 row:∀A c l,(A,c,l)∈rs->aby W w0.heap.size A c l
end Go.Proofs.YtdfkhfiglknaoaaGreat
