/- The state of a walk: some blocks of the call's own that are known whole, and that what was there before stands. Nothing here is a claim. -/
import Derived.Test.YtmffpkippmkjbaaGreatDoorAppend
namespace Go.Proofs.YtmffpkippmkjbaaGreatDoor
open Go.RowKit
structure St (w0:World) (bs:List (Nat×TypeId×Array Value)) (W:World):Prop where
 gW:Below w0.heap.size w0 W
 blk:∀ b t cs,(b,t,cs)∈bs->cQ W b t cs
 own:∀ b t cs,(b,t,cs)∈bs->w0.heap.size<=b
section
variable {w0 W w1:World} {bs:List (Nat×TypeId×Array Value)} {b n:Nat} {t:TypeId} {cs:Array Value}
theorem St.nil(w:World):St w [] w:=⟨Below.refl _ _,(fun _ _ _ h=>by cases h),(fun _ _ _ h=>by cases h)⟩
theorem St.alloc(h:St w0 bs W)(hn:n=W.heap.size):St w0 ((n,t,cs) :: bs) (W.alloc (.cells cs t)):=by
 refine⟨h.gW.alloc h.gW.size _,fun b' t' cz hm=>?_,fun b' t' cz hm=>?_⟩
 ·rcases List.mem_cons.1 hm with e | hm
  ·injection e with e1 e2;injection e2 with e2 e3;subst e1 e2 e3;exact cQ.aaO hn
  ·exact(h.blk _ _ _ hm).alloc _
 ·rcases List.mem_cons.1 hm with e | hm
  ·injection e with e1 e2;subst e1;rw[hn];exact h.gW.size
  ·exact h.own _ _ _ hm
theorem St.other(h:St w0 bs W)(o:Obj):St w0 bs (W.alloc o):=⟨h.gW.alloc h.gW.size _,fun _ _ _ hm=>(h.blk _ _ _ hm).alloc _,h.own⟩
theorem St.next(h:St w0 bs W)(hb:Below W.heap.size W w1):St w0 bs w1:=
 ⟨h.gW.trans (hb.mono h.gW.size),fun _ _ _ hm=>(h.blk _ _ _ hm).below hb (h.blk _ _ _ hm).lt,h.own⟩
theorem St.drew(h:St w0 bs W):St w0 bs W.drew:=⟨h.gW.drew,fun _ _ _ hm=>(h.blk _ _ _ hm).drew,h.own⟩
theorem St.drewN(h:St w0 bs W)(n:Nat):St w0 bs (W.drewN n):=h.next ⟨rfl,rfl,rfl,Nat.le_refl _,fun _ _=>rfl⟩
theorem St.qa(h:St w0 ((b,t,cs) :: bs) W)(hd:∀ x∈bs,x.1≠b)(i:Nat)(u:Value):St w0 ((b,t,cs.setIfInBounds i u) :: bs) (W.setCell ⟨b,i,none⟩ u):=by
 refine⟨h.gW.setCell (h.own _ _ _ (.head _)) u,fun b' t' cz hm=>?_,fun b' t' cz hm=>?_⟩
 ·rcases List.mem_cons.1 hm with e | hm
  ·injection e with e1 e2;injection e2 with e2 e3;subst e1 e2 e3;exact(h.blk _ _ _ (.head _)).qa i u
  ·exact(h.blk _ _ _ (.tail _ hm)).Ex (p:=⟨b,i,none⟩) (hd _ hm) u
 ·rcases List.mem_cons.1 hm with e | hm
  ·injection e with e1 e2;subst e1;exact h.own _ _ _ (.head _)
  ·exact h.own _ _ _ (.tail _ hm)
theorem St.lt(h:St w0 bs W)(hm:(b,t,cs)∈bs):b<W.heap.size:=(h.blk _ _ _ hm).lt
theorem OM{α:Type}{x y z:α}{l:List α}(h:z∈y :: x :: l):z∈x :: y :: l:=by
 rcases List.mem_cons.1 h with rfl | h
 ·exact .tail _ (.head _)
 ·rcases List.mem_cons.1 h with rfl | h
  ·exact .head _
  ·exact .tail _ (.tail _ h)
theorem St.swap{x y:Nat×TypeId×Array Value}(h:St w0 (x :: y :: bs) W):St w0 (y :: x :: bs) W:=
 ⟨h.gW,fun _ _ _ hm=>h.blk _ _ _ (OM hm),fun _ _ _ hm=>h.own _ _ _ (OM hm)⟩
theorem St.drop{x:Nat×TypeId×Array Value}(h:St w0 (x :: bs) W):St w0 bs W:=⟨h.gW,fun _ _ _ hm=>h.blk _ _ _ (.tail _ hm),fun _ _ _ hm=>h.own _ _ _ (.tail _ hm)⟩
theorem St.ints(h:St w0 bs W){A:Option Addr}{l:List Int}(hi:j4 w0 w0.heap.size A l):j4 W W.heap.size A l:=hi.to h.gW h.gW.size
end
/-- A slice of ints in a row of the call's own,from block 'base' on. -/
def iR(w:World)(base:Nat)(A:Option Addr)(c:Nat)(l:List Int):Prop:=w.ownsRow base 3 1 (.slice A l.length c) l.length (ints l)
theorem iR.ints{w:World}{base c:Nat}{A:Option Addr}{l:List Int}(h:iR w base A c l):j4 w w.heap.size A l:=Reads.aaN h
theorem iR.below{w w':World}{base c:Nat}{A:Option Addr}{l:List Int}(h:iR w base A c l)(hb:Below w.heap.size w w'):iR w' base A c l:=aaR h hb (Nat.le_refl _)
theorem iR.base{w:World}{base Aj c:Nat}{A:Option Addr}{l:List Int}(h:iR w base A c l)(hb:Aj<=base):iR w Aj A c l:=aaT h hb
theorem iR.qa{w:World}{base c:Nat}{A:Option Addr}{l:List Int}(h:iR w base A c l){p:Addr}(hp:p.block<base)(u:Value):iR (w.setCell p u) base A c l:=ownsRow_setCell_below h hp u
theorem iR.alloc{w:World}{base c:Nat}{A:Option Addr}{l:List Int}(h:iR w base A c l)(o:Obj):iR (w.alloc o) base A c l:=World.ownsRow.alloc h o
/-- A store into a block of another element type leaves a row of ints as it was. -/
theorem iR.Ex{w:World}{base c:Nat}{A:Option Addr}{l:List Int}(h:iR w base A c l){p:Addr}{t:TypeId}{cs:Array Value}(hB:cQ w p.block t cs)(ht:3≠t)(u:Value):iR (w.setCell p u) base A c l:=by
 have aK:=OK h hB ht
 refine⟨h.1,?_⟩
 rcases h.2 with h' | ⟨g,cap,cur,hv,hg,hh,r⟩
 ·exact .inl h'
 ·refine .inr ⟨g,cap,cur,hv,hg,?_,r⟩
  rw[Below.heap_setCell _ _ _ _ (fun e=>aK (by rw[hv];simp[Value.ownBlock,e]))]
  exact hh
/-- A state with rows of ints of the call's own. -/
structure eA (w0:World) (bs:List (Nat×TypeId×Array Value)) (rs:List (Option Addr×Nat×List Int)) (W:World):Prop where
 st:St w0 bs W
 row:∀ A c l,(A,c,l)∈rs->iR W w0.heap.size A c l
section
variable {w0 W w1:World} {bs:List (Nat×TypeId×Array Value)} {rs:List (Option Addr×Nat×List Int)} {b n:Nat} {t:TypeId} {cs:Array Value}
theorem eA.of(h:St w0 bs W):eA w0 bs [] W:=⟨h,fun _ _ _ hm=>by cases hm⟩
theorem eA.alloc(h:eA w0 bs rs W)(hn:n=W.heap.size):eA w0 ((n,t,cs) :: bs) rs (W.alloc (.cells cs t)):=⟨h.st.alloc hn,fun _ _ _ hm=>(h.row _ _ _ hm).alloc _⟩
theorem eA.other(h:eA w0 bs rs W)(o:Obj):eA w0 bs rs (W.alloc o):=⟨h.st.other o,fun _ _ _ hm=>(h.row _ _ _ hm).alloc _⟩
theorem eA.next(h:eA w0 bs rs W)(hb:Below W.heap.size W w1):eA w0 bs rs w1:=⟨h.st.next hb,fun _ _ _ hm=>(h.row _ _ _ hm).below hb⟩
theorem eA.drew(h:eA w0 bs rs W):eA w0 bs rs W.drew:=⟨h.st.drew,fun _ _ _ hm=>(h.row _ _ _ hm).below ⟨rfl,rfl,rfl,Nat.le_refl _,fun _ _=>rfl⟩⟩
theorem eA.qa(h:eA w0 ((b,t,cs) :: bs) rs W)(hd:∀ x∈bs,x.1≠b)(ht:3≠t)(i:Nat)(u:Value):eA w0 ((b,t,cs.setIfInBounds i u) :: bs) rs (W.setCell ⟨b,i,none⟩ u):=
 ⟨h.st.qa hd i u,fun _ _ _ hm=>(h.row _ _ _ hm).Ex (p:=⟨b,i,none⟩) (h.st.blk _ _ _ (.head _)) ht u⟩
theorem eA.put(h:eA w0 ((b,t,cs) :: bs) rs W)(hd:∀ x∈bs,x.1≠b)(ht:3≠t)(i:Nat)(u:Value)(cz:Array Value)(hc:cs.setIfInBounds i u=cz):eA w0 ((b,t,cz) :: bs) rs (W.setCell ⟨b,i,none⟩ u):=by
 subst hc
 exact h.qa hd ht i u
theorem eA.add{A:Option Addr}{c base:Nat}{l:List Int}(h:eA w0 bs rs W)(ho:iR W base A c l)(hb:w0.heap.size<=base):eA w0 bs ((A,c,l) :: rs) W:=
 ⟨h.st,fun A' c' l' hm=>by
  rcases List.mem_cons.1 hm with e | hm
  ·injection e with e1 e2;injection e2 with e2 e3;subst e1 e2 e3;exact ho.base hb
  ·exact h.row _ _ _ hm⟩
theorem eA.swap{x y:Nat×TypeId×Array Value}(h:eA w0 (x :: y :: bs) rs W):eA w0 (y :: x :: bs) rs W:=⟨h.st.swap,h.row⟩
theorem eA.drop{x:Nat×TypeId×Array Value}(h:eA w0 (x :: bs) rs W):eA w0 bs rs W:=⟨h.st.drop,h.row⟩
theorem ON{α:Type}{x z:α}{l:List α}(h:z∈[x]):z∈x :: l:=by
 rcases List.mem_cons.1 h with rfl | h
 ·exact .head _
 ·cases h
theorem eA.last{x:Nat×TypeId×Array Value}(h:eA w0 (x :: bs) rs W):eA w0 [x] rs W:=
 ⟨⟨h.st.gW,fun _ _ _ hm=>h.st.blk _ _ _ (ON hm),fun _ _ _ hm=>h.st.own _ _ _ (ON hm)⟩,h.row⟩
end
/-- Rows of ints of the call's own,while a block of another element type is written. -/
structure RW (w0:World) (b:Nat) (t:TypeId) (rs:List (Option Addr×Nat×List Int)) (W:World):Prop where
 gW:Below w0.heap.size w0 W
 blk:∃ cs,cQ W b t cs
 own:w0.heap.size<=b
 row:∀ A c l,(A,c,l)∈rs->iR W w0.heap.size A c l
theorem RW.of{w0 W:World}{b:Nat}{t:TypeId}{cs:Array Value}{bs:List (Nat×TypeId×Array Value)}{rs:List (Option Addr×Nat×List Int)}(h:eA w0 bs rs W)(hm:(b,t,cs)∈bs):RW w0 b t rs W:=
 ⟨h.st.gW,⟨cs,h.st.blk _ _ _ hm⟩,h.st.own _ _ _ hm,h.row⟩
theorem RW.qa{w0 W:World}{b:Nat}{t:TypeId}{rs:List (Option Addr×Nat×List Int)}(h:RW w0 b t rs W)(ht:3≠t)(i:Nat)(u:Value):RW w0 b t rs (W.setCell ⟨b,i,none⟩ u):=by
 obtain⟨cs,hb⟩:=h.blk
 exact⟨h.gW.setCell h.own u,⟨_,hb.qa i u⟩,h.own,fun A c l hm=>(h.row A c l hm).Ex (p:=⟨b,i,none⟩) hb ht u⟩
end Go.Proofs.YtmffpkippmkjbaaGreatDoor
