/-
  strings.IndexByte, as a contract of contents. Nothing here is a claim.
-/
import Derived.Test.YtaepnacbmeajoaaDoorExt
import Derived.Test.YtaepnacbmeajoaaDoorSmall
import Derived.WalkSpells
import Derived.WalkLawsBesides
import Derived.Handy
import Derived.Lib.Bytealg
namespace Go.Proofs.YtaepnacbmeajoaaDoor
open Go.RowKit
set_option linter.unusedVariables false
set_option maxRecDepth 100000
/-- A contract of contents,from what the call does to typed arguments. -/
theorem ext_okI{P:Program}{f:Nat}{ai:List (Bool×TC)}{F:InT ai->Option Int}(he:enters P f)
  (h:∀ x y,F x=some y->∀ (w:World) (vals:Array Value),vals.size=(inMk ai x).length->(∀ (j:Nat) p,(inMk ai x)[j]?=some p->∃ u,vals[j]?=some u/\PV w w.heap.size (fun _=>none) (fun _=>[]) p u)->Hd w (fun _=>none)->
   Calls P f vals w fun e w'=>e = .returned (.int .i64 y)/\Below w.heap.size w w'):enters P f/\CtrOK P f (ctrT ai [(false,.int,0)] F):=by
 refine⟨he,fun X args k r hr=>?_⟩
 simp only[ctrT]at hr
 split at hr
 ·rename_i x hx
  split at hr
  ·rename_i y hy
   refine⟨_,hr,fun X' k'=>by simp only[ctrT,hx,hy],fun nm w vals hargs hQ=>?_⟩
   obtain⟨k1,k2⟩:=inRd_ok ai args x hx
   refine(h x y hy w vals (by rw[k1,hargs.1]) (fun j p hp=>?_) hQ).mono fun e w' hpost=>?_
   ·obtain⟨q,hq,hq1,hq2⟩:=k2 j p hp
    obtain⟨u,hu,hpv⟩:=hargs.2 j q hq
    refine⟨u,hu,?_⟩
    obtain⟨b,ys⟩:=p
    obtain⟨b',xs⟩:=q
    simp only at hq1
    subst hq1
    exact hpv.wks hq2
   ·obtain⟨rfl,hb⟩:=hpost
    refine⟨_,fun _=>none,rfl,hb,(fun b k hb=>by cases hb),?_⟩
    show ResOK w' w.heap.size _ nm (.one (false,[.int .i64 y])) _
    refine⟨⟨rfl,#[.int .i64 y],rfl,rfl,fun j x hx=>?_⟩,trivial⟩
    rcases j with _ | j
    ·simp at hx;subst hx;exact⟨_,rfl,.int _ _ _⟩
    ·simp at hx
  ·cases hr
 ·cases hr
set_option maxHeartbeats 400000 in
theorem str_IndexByte_lite(s:ByteArray)(c:Int)(w:World):
  Calls Tryd.prog 93 #[.string s,.int .u8 c] w fun e w'=>e = .returned (.int .i64 (Lib.indexByte s.data.toList c.toNat.toUInt8))/\w=w':=by
 go_enter Tryd.func93,Tryd.ntmps93
 go_wp2
 rw[run_callFunc_extern Tryd.func103 (by kernel_rfl) (by kernel_rfl) (by kernel_rfl) (e:=Extern.BytealgIndexByte.indexByte) (by kernel_rfl),Lib.run_indexByteString]
 simp only[Result.andThen]
 rw[Oper.upon_value]
 go_wp2
 go_ret
 exact⟨rfl,rfl⟩
set_option maxHeartbeats 400000 in
theorem str_IndexByte(s:ByteArray)(c:Int)(w:World):
  Calls Tryd.prog 74 #[.string s,.int .u8 c] w fun e w'=>e = .returned (.int .i64 (Lib.indexByte s.data.toList c.toNat.toUInt8))/\w=w':=by
 go_enter Tryd.func74,Tryd.ntmps74
 go_wp2_with (go_at_call 93;refine(str_IndexByte_lite _ _ _).mono ?_;rintro e w' ⟨rfl,rfl⟩)
 go_ret
 exact⟨rfl,rfl⟩
def x_IndexByte(s:ByteArray)(c:Int):Option Int:=some (Lib.indexByte s.data.toList c.toNat.toUInt8)
def c_x_IndexByte:Ctr:=ctrT [(false,.str),(false,.u8)] [(false,.int,0)] (fun x=>x_IndexByte x.1 x.2.1)
theorem ok_x_IndexByte:enters Tryd.prog 74/\CtrOK Tryd.prog 74 c_x_IndexByte:=by
 refine ext_okI ⟨_,Tryd.func74,by kernel_rfl,by kernel_rfl⟩ fun x y hy w vals hsz hv hQ=>?_
 obtain⟨s,c,_⟩:=x
 have hy:=Option.some.inj hy
 subst hy
 obtain⟨u0,hu0,hp0⟩:=hv 0 _ rfl
 obtain⟨u1,hu1,hp1⟩:=hv 1 _ rfl
 obtain rfl:=(PV.one hp0).str_inv
 obtain rfl:=(PV.one hp1).int_inv
 have hvals:vals = #[.string s,.int .u8 c]:=by
  have hs:vals.size=2:=hsz
  apply Array.ext (by simpa using hs)
  intro i h1 h2
  have:i=0\/i=1:=by simp at h2;omega
  rcases this with rfl | rfl
  ·rw[Array.getElem?_eq_getElem h1]at hu0
   injection hu0
  ·rw[Array.getElem?_eq_getElem h1]at hu1
   injection hu1
 subst hvals
 refine(str_IndexByte s c w).mono fun e w' hpost=>?_
 obtain⟨rfl,rfl⟩:=hpost
 exact⟨rfl,Below.refl _ _⟩
end Go.Proofs.YtaepnacbmeajoaaDoor
