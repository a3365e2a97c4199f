/-
  strings.Split, as a contract of contents. Nothing here is a claim.
-/
import Derived.Test.YtjldnlbiefpekaaDoorExt
import Derived.Lib.SplitLaws
namespace Go.Proofs.YtjldnlbiefpekaaDoor
open Go.RowKit
set_option linter.unusedVariables false
set_option maxRecDepth 100000
def uT(s sep:ByteArray):Option (List ByteArray):=bif decide (s.size<4294967281)&&decide (1<=sep.size)then some (Lib.splitB sep 0 (Lib.countB s sep) s)else none
theorem YK{s sep:ByteArray}{y:List ByteArray}(h:uT s sep=some y):s.size<4294967281/\1<=sep.size/\y=Lib.splitB sep 0 (Lib.countB s sep) s:=by
 unfold uT at h
 cases U:decide (s.size<4294967281)&&decide (1<=sep.size)with
 | false=>rw[U]at h;cases h
 | true=>
  rw[U,cond_true]at h
  injection h with h
  rw[Bool.and_eq_true,decide_eq_true_eq,decide_eq_true_eq]at U
  exact⟨U.1,U.2,h.symm⟩
def DO:cu:=cg [(false,.str),(false,.str)] [(false,(.sl .str),2)] (fun x=>uT x.1 x.2.1)
theorem On{α:Type}{l:List α}{i:Nat}{d:α}(h:i<l.length):l.getD i d=l[i]:=by
 rw[List.getD,List.getElem?_eq_getElem h]
 rfl
theorem YL(w:World)(l:List ByteArray)(hl:l.length<=maxLen)(q:List Nat){lab:aH}(hq:lab w.heap.size=some q):RV (w.alloc (.cells (l.map Value.string).toArray (tid .str))) w.heap.size lab q (.sl .str 2 false l) (.slice (some ⟨w.heap.size,0,none⟩) l.length l.length):=by
 refine .own q .str 0 false l w.heap.size l.length (l.map Value.string).toArray (fun i _=>.string (l.getD i (ByteArray.mk #[]))) hq Array.getElem?_push_size ?_ (Nat.le_refl _) ⟨hl,fun h=>by cases h⟩ (fun i h j x hx=>?_) (fun i h j x hx=>?_)
 ·show (l.map Value.string).length=l.length*1
  rw[List.length_map,Nat.mul_one]
 ·have hx:([V.str l[i]]:List V)[j]?=some x:=hx
  rcases j with _ | j
  ·rw[List.getElem?_toArray,show i*aj TC.str+0=i from Nat.mul_one i,List.getElem?_map]
   exact(congrArg (Option.map Value.string) (List.getElem?_eq_getElem (l:=l) h)).trans (congrArg (fun z=>some (Value.string z)) (On (l:=l) (d:=ByteArray.mk #[]) h).symm)
  ·cases hx
 ·have hx:([V.str l[i]]:List V)[j]?=some x:=hx
  rcases j with _ | j
  ·injection hx with hx
   subst hx
   have e:l.getD i (ByteArray.mk #[])=l[i]:=On h
   show RV _ _ _ _ (.str l[i]) (.string (l.getD i (ByteArray.mk #[])))
   rw[e]
   exact .str _ _
  ·cases hx
theorem YM:enters Tryd.prog 30/\cw Tryd.prog 30 DO:=by
 refine⟨⟨_,Tryd.func30,by kernel_rfl,by kernel_rfl⟩,fun X args k r hr=>?_⟩
 simp only[DO,cg]at hr
 split at hr
 ·rename_i x hx
  split at hr
  ·rename_i y hy
   refine⟨_,hr,fun X' k'=>by simp only[DO,cg,hx,hy],fun nm w aM cR hQ=>?_⟩
   obtain⟨k1,k2⟩:=A5 _ args x hx
   obtain⟨s,sep,_⟩:=x
   obtain⟨h1,h2,rfl⟩:=YK (show uT s sep=some y from hy)
   have hv:∀ (j:Nat) p,(gB [(false,.str),(false,.str)] (s,sep,()))[j]?=some p->∃ u,aM[j]?=some u/\PA w p u:=fun j p hp=>by
    obtain⟨q,hq,kJ,mj⟩:=k2 j p hp
    obtain⟨u,hu,mT⟩:=cR.2 j q hq
    refine⟨u,hu,?_⟩
    obtain⟨b,ys⟩:=p
    obtain⟨b',xs⟩:=q
    simp only at kJ
    subst kJ
    exact mT.nA mj
   obtain⟨u0,iX,kG⟩:=hv 0 _ rfl
   obtain⟨u1,n7,Bb⟩:=hv 1 _ rfl
   obtain rfl:=(PV.one kG).js
   obtain rfl:=(PV.one Bb).js
   have jR:aM = #[.string s,.string sep]:=by
    have hs:aM.size=2:=cR.1.trans k1.symm
    apply Array.ext (by simpa using hs)
    intro i h1 h2
    have:i=0\/i=1:=by simp at h2;omega
    rcases this with rfl | rfl
    ·rw[Array.getElem?_eq_getElem h1]at iX
     injection iX
    ·rw[Array.getElem?_eq_getElem h1]at n7
     injection n7
   subst jR
   obtain⟨m,hm⟩:=hQ.here.2
   have hlen:=Lib.splitB_all sep h2 0 _ s rfl
   have hle:=Lib.countB_le sep h2 _ s (Nat.le_refl _)
   refine(Tryd.strings_Split s sep m w h1 hm h2).mono fun e w' fG=>?_
   obtain⟨rfl,rfl⟩:=fG
   refine⟨_,fun b=>if b=w.heap.size then some [nm 0]else none,rfl,(Below.refl _ _).alloc (Nat.le_refl _) _,fun b k U=>?_,?_⟩
   ·by_cases e:b=w.heap.size
    ·subst e
     obtain rfl:=Option.some.inj ((if_pos rfl).symm.trans U)
     exact⟨Nat.le_refl _,by show w.heap.size<(w.heap.push _).size;rw[Array.size_push];omega,by simp⟩
    ·cases (if_neg e).symm.trans U
   ·show jx _ _ _ nm (.one (false,[.sl .str 2 false _])) _
    refine⟨⟨rfl,#[_],rfl,rfl,fun j x hx=>?_⟩,trivial⟩
    rcases j with _ | j
    ·injection hx with hx
     subst hx
     refine⟨_,rfl,?_⟩
     have:=YL w (Lib.splitB sep 0 (Lib.countB s sep) s) (by rw[hlen];unfold maxLen;omega) [nm 0] (lab:=fun b=>if b=w.heap.size then some [nm 0]else none) (if_pos rfl)
     rw[hlen]at this
     exact this
    ·cases hx
  ·cases hr
 ·cases hr
end Go.Proofs.YtjldnlbiefpekaaDoor
