/-
  Functions of Go's library by the kit's contracts, as contracts of contents: strconv.Itoa, strings.Join. Nothing here is a claim.
-/
import Derived.Test.YtaepnacbmeajoaaDoorVZ
import Derived.Test.YtaepnacbmeajoaaDoorShelf
import Derived.Lib.ItoaLen
namespace Go.Proofs.YtaepnacbmeajoaaDoor
open Go.RowKit
set_option linter.unusedVariables false
set_option maxRecDepth 100000
/-- A contract of contents,from what the call does to typed arguments. -/
theorem ext_ok{P:Program}{f:Nat}{ai:List (Bool×TC)}{F:InT ai->Option ByteArray}(he:enters P f)
  (h:∀ x y,F x=some y->∀ (w:World) (vals:Array Value),vals.size=(inMk ai x).length->(∀ (j:Nat) p,(inMk ai x)[j]?=some p->∃ u,vals[j]?=some u/\PV w w.heap.size (fun _=>none) (fun _=>[]) p u)->Hd w (fun _=>none)->
   Calls P f vals w fun e w'=>e = .returned (.string y)/\Below w.heap.size w w'):enters P f/\CtrOK P f (ctrT ai [(false,.str,0)] F):=by
 refine⟨he,fun X args k r hr=>?_⟩
 simp only[ctrT]at hr
 split at hr
 ·rename_i x hx
  split at hr
  ·rename_i y hy
   refine⟨_,hr,fun X' k'=>by simp only[ctrT,hx,hy],fun nm w vals hargs hQ=>?_⟩
   obtain⟨k1,k2⟩:=inRd_ok ai args x hx
   refine(h x y hy w vals (by rw[k1,hargs.1]) (fun j p hp=>?_) hQ).mono fun e w' hpost=>?_
   ·obtain⟨q,hq,hq1,hq2⟩:=k2 j p hp
    obtain⟨u,hu,hpv⟩:=hargs.2 j q hq
    refine⟨u,hu,?_⟩
    obtain⟨b,ys⟩:=p
    obtain⟨b',xs⟩:=q
    simp only at hq1
    subst hq1
    exact hpv.wks hq2
   ·obtain⟨rfl,hb⟩:=hpost
    refine⟨_,fun _=>none,rfl,hb,(fun b k hb=>by cases hb),?_⟩
    show ResOK w' w.heap.size _ nm (.one (false,[.str y])) _
    refine⟨⟨rfl,#[.string y],rfl,rfl,fun j x hx=>?_⟩,trivial⟩
    rcases j with _ | j
    ·simp at hx;subst hx;exact⟨_,rfl,.str _ _⟩
    ·simp at hx
  ·cases hr
 ·cases hr
theorem PV.one{w:World}{B:Nat}{x:V}{u:Value}(h:PV w B (fun _=>none) (fun _=>[]) (false,[x]) u):RV w B (fun _=>none) [] x u:=by
 obtain⟨us,e,hs,hv⟩:=h
 have e:us = #[u]:=e
 subst e
 obtain⟨v,h1,h2⟩:=hv 0 x rfl
 simp at h1
 subst h1
 exact h2
def x_Itoa(n:Int):Option ByteArray:=bif decide (-9223372036854775808<=n)&&decide (n<=9223372036854775807)then some ⟨(Lib.itoa n).toArray⟩else none
theorem x_Itoa_inv{n:Int}{y:ByteArray}(h:x_Itoa n=some y):-9223372036854775808<=n/\n<=9223372036854775807/\y=⟨(Lib.itoa n).toArray⟩:=by
 unfold x_Itoa at h
 cases hb:decide (-9223372036854775808<=n)&&decide (n<=9223372036854775807)with
 | false=>rw[hb]at h;cases h
 | true=>
  rw[hb,cond_true]at h
  injection h with h
  rw[Bool.and_eq_true,decide_eq_true_eq,decide_eq_true_eq]at hb
  exact⟨hb.1,hb.2,h.symm⟩
def c_x_Itoa:Ctr:=ctrT [(false,.int)] [(false,.str,0)] (fun x=>x_Itoa x.1)
theorem ok_x_Itoa:enters Tryd.prog 81/\CtrOK Tryd.prog 81 c_x_Itoa:=by
 refine ext_ok ⟨_,Tryd.func81,by kernel_rfl,by kernel_rfl⟩ fun x y hy w vals hsz hv hQ=>?_
 obtain⟨n,_⟩:=x
 obtain⟨hb1,hb2,rfl⟩:=x_Itoa_inv (show x_Itoa n=some y from hy)
 obtain⟨u,hu,hp⟩:=hv 0 _ rfl
 obtain rfl:=(PV.one hp).int_inv
 have hvals:vals = #[.int .i64 n]:=by
  have hs:vals.size=1:=hsz
  apply Array.ext (by simpa using hs)
  intro i h1 h2
  have:i=0:=by simp at h2;omega
  subst this
  rw[Array.getElem?_eq_getElem h1]at hu
  injection hu
 subst hvals
 refine(Tryd.strconv_Itoa n hb1 hb2 w hQ.here.tab).mono fun e w' hpost=>?_
 obtain⟨rfl,k,os,rfl⟩:=hpost
 exact⟨rfl,Lib.below_grow _ w (Nat.le_refl _) k os⟩
/-- A slice of strings,as its cells stand. -/
theorem strs_of{w:World}{B:Nat}{l:List ByteArray}{u:Value}(h:RV w B (fun _=>none) [] (.sl .str 0 false l) u):(l=[]/\∃ a c,u = .slice a 0 c)\/∃ b o c,u = .slice (some ⟨b,o,none⟩) l.length c/\l.length<=c/\b<w.heap.size/\∀ (j:Nat) x,l[j]?=some x->w.cell? ⟨b,o+j,none⟩=some (.string x):=by
 generalize hy:V.sl .str 0 false l=y at h
 cases h with
 | int=>cases hy
 | bool=>cases hy
 | str=>cases hy
 | nil=>cases hy
 | slNil q t o'=>
  injection hy with e1 e2 e3 e4
  subst e1
  obtain rfl:=eq_of_heq e4
  exact .inl ⟨rfl,_,_,rfl⟩
 | slEmp q t o' A c ho=>
  injection hy with e1 e2 e3 e4
  subst e1
  obtain rfl:=eq_of_heq e4
  exact .inl ⟨rfl,_,_,rfl⟩
 | fro q t o' qn' l' b off cap uu ho hl hb h1 hcap hc hr=>
  injection hy with e1 e2 e3 e4
  subst e1
  obtain rfl:=eq_of_heq e4
  refine .inr ⟨b,off,cap,rfl,hcap,hb,fun j x hx=>?_⟩
  obtain⟨hj,rfl⟩:=List.getElem?_eq_some_iff.1 hx
  have h2:=hc j hj 0 (.str l[j]) rfl
  have h3:=hr j hj 0 (.str l[j]) rfl
  simp only[csz,Nat.mul_one,Nat.add_zero]at h2
  rw[h2,h3.str_inv]
 | own q t o' qn' l' b cap cs uu hl hh hs' hn hm hc hr=>
  cases hl
def x_Join(l:List ByteArray)(sep:ByteArray):Option ByteArray:=bif decide (l.length<=140737488355328)&&decide ((Lib.join (l.map (·.data.toList)) sep.data.toList).length<=140737488355328)then some ⟨(Lib.join (l.map (·.data.toList)) sep.data.toList).toArray⟩else none
theorem x_Join_inv{l:List ByteArray}{sep:ByteArray}{y:ByteArray}(h:x_Join l sep=some y):l.length<=140737488355328/\(Lib.join (l.map (·.data.toList)) sep.data.toList).length<=140737488355328/\y=⟨(Lib.join (l.map (·.data.toList)) sep.data.toList).toArray⟩:=by
 unfold x_Join at h
 cases hb:decide (l.length<=140737488355328)&&decide ((Lib.join (l.map (·.data.toList)) sep.data.toList).length<=140737488355328)with
 | false=>rw[hb]at h;cases h
 | true=>
  rw[hb,cond_true]at h
  injection h with h
  rw[Bool.and_eq_true,decide_eq_true_eq,decide_eq_true_eq]at hb
  exact⟨hb.1,hb.2,h.symm⟩
def c_x_Join:Ctr:=ctrT [(false,(.sl .str)),(false,.str)] [(false,.str,0)] (fun x=>x_Join x.1 x.2.1)
theorem ok_x_Join:enters Tryd.prog 51/\CtrOK Tryd.prog 51 c_x_Join:=by
 refine ext_ok ⟨_,Tryd.func51,by kernel_rfl,by kernel_rfl⟩ fun x y hy w vals hsz hv hQ=>?_
 obtain⟨l,sep,_⟩:=x
 obtain⟨hb1,hb2,rfl⟩:=x_Join_inv (show x_Join l sep=some y from hy)
 obtain⟨u0,hu0,hp0⟩:=hv 0 _ rfl
 obtain⟨u1,hu1,hp1⟩:=hv 1 _ rfl
 obtain rfl:=(PV.one hp1).str_inv
 have hvals:vals = #[u0,.string sep]:=by
  have hs:vals.size=2:=hsz
  apply Array.ext (by simpa using hs)
  intro i h1 h2
  have:i=0\/i=1:=by simp at h2;omega
  rcases this with rfl | rfl
  ·rw[Array.getElem?_eq_getElem h1]at hu0
   injection hu0
  ·rw[Array.getElem?_eq_getElem h1]at hu1
   injection hu1
 subst hvals
 rcases strs_of (PV.one hp0)with ⟨rfl,a,c,rfl⟩ | ⟨b,o,c,rfl,hcap,hbk,hcells⟩
 ·refine(Tryd.strings_Join_none a c sep w).mono fun e w' hpost=>?_
  obtain⟨rfl,rfl⟩:=hpost
  exact⟨rfl,Below.refl _ _⟩
 ·exact Tryd.strings_Join b o c l sep w hcells hbk hb1 hcap hb2
end Go.Proofs.YtaepnacbmeajoaaDoor
