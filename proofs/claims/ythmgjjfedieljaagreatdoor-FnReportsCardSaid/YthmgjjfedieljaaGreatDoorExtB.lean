/-
  strings.IndexByte, as a contract of contents. Nothing here is a claim.
-/
import Derived.Test.YthmgjjfedieljaaGreatDoorExt
import Derived.WalkSpells
import Derived.WalkLawsBesides
import Derived.Handy
import Derived.Lib.Bytealg
namespace Go.Proofs.YthmgjjfedieljaaGreatDoor
set_option linter.defProp false
open Go.RowKit
set_option linter.unusedVariables false
set_option maxRecDepth 100000
/-- A contract of contents,from what the call does to typed arguments. -/
def ak1{P:Program}{f:Nat}{ai:List (Bool×TC)}{F:jd ai->Option Int}(E:enters P f)
  (h:∀ x y,F x=some y->∀ (w:World) (bB:Array Value),bB.size=(fl ai x).length->(∀ (j:Nat) p,(fl ai x)[j]?=some p->∃ u,bB[j]?=some u/\PA w p u)->Hd w (λ_=>none)->
   Calls P f bB w λe w'=>e = .returned (.int .i64 y)/\Below w.heap.size w w'):enters P f/\iY P f (jI ai [(false,.int,0)] F):=by
 refine⟨E,Sh λx y I nm w bB D L=>(h x y I w bB D.1 D.2 L).mono λe w' O=>?_⟩
 obtain⟨rfl,hb⟩:=O
 refine⟨_,λ_=>none,rfl,hb,(λb k hb=>by cases hb),?_⟩
 show mz w' w.heap.size _ nm (.one (false,[.int .i64 y])) _
 refine⟨⟨rfl,#[.int .i64 y],rfl,rfl,λj x C=>?_⟩,trivial⟩
 rcases j with _|j
 ·simp at C;subst C;exact⟨_,rfl,.int _ _ _⟩
 ·simp at C
set_option maxHeartbeats 400000 in
def ak2(s:ByteArray)(c:Int)(w:World):
  Calls Tryz.prog 26 #[.string s,.int .u8 c] w λe w'=>e = .returned (.int .i64 (Lib.indexByte s.data.toList c.toNat.toUInt8))/\w=w':=by
 go_enter Tryz.func26,Tryz.ntmps26
 go_wp2
 rw[run_callFunc_extern Tryz.func49 (by kernel_rfl) (by kernel_rfl) (by kernel_rfl) (e:=Extern.BytealgIndexByte.indexByte) (by kernel_rfl),Lib.run_indexByteString];simp only[Result.andThen];rw[Oper.upon_value]
 go_wp2
 go_ret
 exact⟨rfl,rfl⟩
set_option maxHeartbeats 400000 in
def ak3(s:ByteArray)(c:Int)(w:World):
  Calls Tryz.prog 16 #[.string s,.int .u8 c] w λe w'=>e = .returned (.int .i64 (Lib.indexByte s.data.toList c.toNat.toUInt8))/\w=w':=by
 go_enter Tryz.func16,Tryz.ntmps16
 go_wp2_with (go_at_call 26;refine(ak2 _ _ _).mono ?_;rintro e w' ⟨rfl,rfl⟩)
 go_ret
 exact⟨rfl,rfl⟩
def SC(s:ByteArray)(c:Int):Option Int:=some (Lib.indexByte s.data.toList c.toNat.toUInt8)
def Zh:ji:=jI [(false,.str),(false,.u8)] [(false,.int,0)] (λx=>SC x.1 x.2.1)
def ak4:enters Tryz.prog 16/\iY Tryz.prog 16 Zh:=by
 refine ak1 ⟨_,Tryz.func16,by kernel_rfl,by kernel_rfl⟩ λx y C w bB L D hQ=>?_
 obtain⟨s,c,_⟩:=x;have C:=Option.some.inj C;subst C;obtain⟨u0,E,O⟩:=D 0 _ rfl;obtain⟨u1,F,T⟩:=D 1 _ rfl;obtain rfl:=(PV.one O).om;obtain rfl:=(PV.one T).fS;have U:bB = #[.string s,.int .u8 c]:=by
  have Y:bB.size=2:=L;apply Array.ext (by simpa using Y);intro i I Z;have:i=0\/i=1:=by simp at Z;omega
  rcases this with rfl|rfl
  ·rw[Array.getElem?_eq_getElem I]at E;injection E
  ·rw[Array.getElem?_eq_getElem I]at F;injection F
 subst U
 refine(ak3 s c w).mono λe w' lS=>?_
 obtain⟨rfl,rfl⟩:=lS;exact⟨rfl,Below.refl _ _⟩
end Go.Proofs.YthmgjjfedieljaaGreatDoor
