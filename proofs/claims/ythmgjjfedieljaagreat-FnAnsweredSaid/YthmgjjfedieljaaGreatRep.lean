/-
  slices.Repeat of one number, a few times. Nothing here is a claim.
-/
import Derived.Test.YthmgjjfedieljaaGreatVZ
import Derived.Test.YthmgjjfedieljaaGreatRows
import Derived.Laws.CopyOwn
import Derived.Deep.RegionLaw
import Derived.Handy
import Derived.Deep.OwnRows
namespace Go.Proofs.YthmgjjfedieljaaGreat
set_option linter.defProp false
open Go.RowKit
set_option linter.unusedVariables false
set_option linter.unusedSimpArgs false
set_option maxRecDepth 100000
def aoc{k:Nat}(h:k<=16):k=0\/k=1\/k=2\/k=3\/k=4\/k=5\/k=6\/k=7\/k=8\/k=9\/k=10\/k=11\/k=12\/k=13\/k=14\/k=15\/k=16:=by omega
def aod(k:Nat)(h:k<=16)(w:World):Calls Tryz.prog 143 #[.int .u64 1,.int .u64 (k:Int)] w λe w'=>e = .returned (.tuple #[.int .u64 0,.int .u64 (k:Int)])/\w=w':=by
 go_enter Tryz.func143,Tryz.ntmps143
 go_wp2
 go_ret2
 refine⟨?_,rfl⟩;rcases aoc h with rfl|rfl|rfl|rfl|rfl|rfl|rfl|rfl|rfl|rfl|rfl|rfl|rfl|rfl|rfl|rfl|rfl<;>kernel_rfl
def aoe(k:Nat)(h:k<=16)(w:World):Calls Tryz.prog 115 #[.int .u64 1,.int .u64 (k:Int)] w λe w'=>e = .returned (.tuple #[.int .u64 0,.int .u64 (k:Int)])/\w=w':=by
 go_enter Tryz.func115,Tryz.ntmps115
 go_wp2_with (go_at_call 143;refine(aod k h _).mono ?_;rintro e w' ⟨rfl,rfl⟩)
 go_ret2
 exact⟨rfl,rfl⟩
def mJ(v:Int)(j k:Nat):List Value:=List.replicate j (.int .i64 v)++List.replicate (k-j) (.int .i64 0)
def Wj(v:Int){j k:Nat}(h:j<=k):(mJ v j k).length=k:=by simp[mJ];omega
def adh(v:Int){j m k:Nat}(h:j+m<=k):Go.splice (mJ v j k) j (List.replicate m (.int .i64 v))=mJ v (j+m) k:=by
 have C:(mJ v j k).take j=List.replicate j (.int .i64 v):=by simp[mJ]
 have D:(mJ v j k).drop (j+m)=List.replicate (k-(j+m)) (.int .i64 0):=by
  unfold mJ;rw[List.drop_append,List.length_replicate,List.drop_replicate,List.drop_replicate,show j-(j+m)=0 by omega,List.replicate_zero,List.nil_append];congr 1;omega
 unfold Go.splice;rw[List.length_replicate,C,D];simp only[mJ];rw[<-List.replicate_append_replicate,List.append_assoc]
def adi(v:Int){j k i:Nat}(h:i<j):(mJ v j k)[i]?=some (.int .i64 v):=by
 unfold mJ;rw[List.getElem?_append_left (by simpa using h)];simp[h]
def Tryz.aof:(Tryz.prog.info? 3).map (λi=>(i.zero,i.size,i.bytes))=some (some (.int .i64 0),1,8):=by kernel_rfl
def adj:(Tryz.prog.info? 3).map (·.size)=some 1:=by kernel_rfl
def aog(v:Int)(k:Nat):(madeCells #[.int .i64 0] k)=(mJ v 0 k).toArray:=by
 apply Array.ext';rw[toList_madeCells_one];rfl
set_option maxHeartbeats 1000000 in
def aoh(v:Int)(A:Addr)(c k:Nat)(E:1<=k)(h:k<=16)(w:World)(T:w.cell? A=some (.int .i64 v))(hb:A.block<w.heap.size):
  Calls Tryz.prog 58 #[.slice (some A) 1 c,.int .i64 (k:Int)] w λe w'=>e = .returned (.slice (some ⟨w.heap.size,0,none⟩) k k)/\Below w.heap.size w w'/\w'.heap[w.heap.size]?=some (.cells (mJ v k k).toArray 3 (0,0)):=by
 have F2:IntKind.u64.wrap (k:Int)=(k:Int):=by rw[IntKind.wrap_u64];omega
 have uD:IntKind.i64.wrap (k:Int)=(k:Int):=by rw[IntKind.wrap_i64];omega
 have kU:¬ ((k:Int) > 9223372036854775807):=by omega
 obtain⟨i0,U,Y,Z,vr⟩:=info_parts Tryz.aof;have yI:=λW=>run_make_row (P:=Tryz.prog) 34 3 i0 (.int .i64 0) Tryz.underlying34 U Y Z rfl .i64 .i64 k (by rw[vr];omega) (by omega) W
 have qm:∀ (j:Nat) u,[Value.int .i64 v][j]?=some u->(w.alloc (.cells (madeCells #[.int .i64 0] k) 3)).cell? (A.add j)=some u:=by
  intro j u C;rcases j with _|j
  ·simp at C;subst C;have e:A.add 0=A:=by unfold Addr.add;split <;>simp_all
   rw[e];exact(World.cell?_alloc_old _ _ _ (Nat.ne_of_lt hb)).trans T
  ·simp at C
 have aoi:(w.alloc (.cells (madeCells #[.int .i64 0] k) 3)).heap[w.heap.size]?=some (.cells (mJ v 0 k).toArray 3 (0,0)):=by
  rw[aog v];exact heap_alloc_new _ _
 have oJ:0+[Value.int .i64 v].length<=(mJ v 0 k).length:=by rw[Wj v (Nat.zero_le _)];exact E
 have r5:∀u∈[Value.int .i64 v],u.oneCell'=true:=by simp[Value.oneCell']
 have aoj:[Value.int .i64 v].length=Nat.min 1 k:=(Nat.min_eq_left E).symm;have vh:=(Below.refl w.heap.size w).alloc (Nat.le_refl _) (.cells (madeCells #[.int .i64 0] k) 3)
 go_enter Tryz.func58,Tryz.ntmps58
 go_wp2_with (first|(go_at_call 115;refine(aoe k h _).mono ?_;rintro e w' ⟨rfl,rfl⟩)|(refine wpList_copy_splice rfl (.tmp 31) (.tmp 32) 34 34 rfl 3 Tryz.underlying34 adj (some ⟨w.heap.size,0,none⟩) (some A) k k 1 c rfl rfl w.heap.size 0 (mJ v 0 k) 3 aoi [.int .i64 v] aoj (λ_=>⟨rfl,A,rfl,qm⟩) oJ r5 w.heap.size w vh (Nat.le_refl _) ?_;intro w1 hg1 xF))
 go_loopw [8] (λi wr=>∃j:Nat,1<=j/\j<=k/\i = .int .i64 (j:Int)/\Hid (wr.heap[w.heap.size]?=some (.cells (mJ v j k).toArray 3 (0,0)))/\Below w.heap.size w wr) (λi _=>k-(intOf i).toNat)
 case atStart=>exact⟨1,by omega,E,rfl,by
  have:=hg1.out;rw[show [Value.int .i64 v]=List.replicate 1 (.int .i64 v)from rfl,adh v (by omega)]at this;exact this,xF⟩
 case round=>
  obtain⟨j,N9,Wl,rfl,I,O⟩:=hrel;by_cases dA:j<k
  ·have bQ:¬ k=j:=by omega
   have D:∃m,m=Nat.min j (k-j):=⟨_,rfl⟩
   obtain⟨m,D⟩:=D;have s7:m<=j/\m<=k-j/\1<=m:=by rw[D];exact⟨Nat.min_le_left ..,Nat.min_le_right ..,Nat.le_min.2 ⟨N9,by omega⟩⟩
   have s1:Hid ((List.replicate m (Value.int .i64 v)).length=Nat.min j (k-j)):=by
    show _=_;rw[List.length_replicate,D]
   have s2:Hid (∀ u∈List.replicate m (Value.int .i64 v),u.oneCell'=true):=λu C=>by
    rw[(List.mem_replicate.1 C).2];rfl
   have s3:Hid (∀ (i:Nat) u,(List.replicate m (Value.int .i64 v))[i]?=some u->wr.drew.cell? ((⟨w.heap.size,0,none⟩:Addr).add i)=some u):=λi u C=>by
    obtain⟨hi,rfl⟩:=List.getElem?_eq_some_iff.1 C;rw[List.length_replicate]at hi;have e:(⟨w.heap.size,0,none⟩:Addr).add i=⟨w.heap.size,i,none⟩:=by unfold Addr.add;split<;>simp_all
    rw[e];show wr.cell? _=_;rw[cell_of_row _ _ _ _ _ _ I.out];simp only[List.getElem_replicate];rw[List.getElem?_toArray];exact adi v (by omega)
   have s4:Hid (j+(List.replicate m (Value.int .i64 v)).length<=(mJ v j k).length):=by
    show _<=_;rw[List.length_replicate,Wj v Wl];omega
   have s5:Hid (wr.drew.heap[w.heap.size]?=some (.cells (mJ v j k).toArray 3 (0,0))):=I.out;have s6:Hid (Below w.heap.size w wr.drew):=O.drew
   go_wp2_with fail
   go_region_law (refine step_copy_splice rfl (.tmp 41) (.tmp 44) 34 34 rfl 3 Tryz.underlying34 adj (some ⟨w.heap.size,j,none⟩) (some ⟨w.heap.size,0,none⟩) (k-j) (k-j) j k (by simp[Act.eval,Act.put,bQ]) (by simp[Act.eval,Act.put]) w.heap.size j (mJ v j k) 3 s5.out (List.replicate m (.int .i64 v)) s1.out (λ_=>⟨rfl,_,rfl,s3.out⟩) s4.out s2.out w.heap.size w s6.out (Nat.le_refl _) ?_;intro w4 hg4 lH)
   have Wm:IntKind.i64.wrap ((j:Int)+((j.min (k-j):Nat):Int))=((j+m:Nat):Int):=by rw[<-D,IntKind.wrap_i64];omega
   simp[Act.put,Act.eval,goInt,Wm]
   go_roundw
   case rel=>
    refine⟨_,_,_,_,_,_,_,_,_,_,_,_,_,_,⟨j+m,?_,?_,?_,?_,lH⟩,rfl⟩
    ·omega
    ·omega
    ·go_num
    ·have:=hg4.out;rw[adh v (by omega)]at this;exact this
   case measure=>simp[intOf];omega
  ·obtain rfl:j=k:=by omega
   go_wp2
   go_ret
   exact⟨rfl,O,I.out⟩
def Ea(l:List Int)(k:Int):Option (List Int):=match l with
 |[v]=>bif decide (1<=k)&&decide (k<=16)then some (List.replicate k.toNat v)else none
 |_=>none
def aok{l:List Int}{k:Int}{y:List Int}(h:Ea l k=some y):∃ (v:Int) (n:Nat),l=[v]/\k=(n:Int)/\1<=n/\n<=16/\y=List.replicate n v:=by
 unfold Ea at h;split at h
 ·rename_i v;cases hb:decide (1<=k)&&decide (k<=16)with
  |false=>rw[hb]at h;cases h
  | true=>
   rw[hb,cond_true]at h;injection h with h;rw[Bool.and_eq_true,decide_eq_true_eq,decide_eq_true_eq]at hb;exact⟨v,k.toNat,rfl,by omega,by omega,by omega,h.symm⟩
 ·cases h
def aol{w:World}{B:Nat}{v:Int}{u:Value}(h:RV w B (λ_=>none) [] (.sl .int 0 false [v]) u):∃ b o c,u = .slice (some ⟨b,o,none⟩) 1 c/\b<w.heap.size/\w.cell? ⟨b,o,none⟩=some (.int .i64 v):=by
 generalize C:V.sl .int 0 false [v]=y at h;cases h with
 |int=>cases C
 |bool=>cases C
 |str=>cases C
 |nil=>cases C
 | fC q t I=>
  injection C with D O T E;subst D;exact absurd (eq_of_heq E) (by simp)
 | gF q t I A c U=>
  injection C with D O T E;subst D;exact absurd (eq_of_heq E) (by simp)
 | gO q t I A c U=>
  injection C with D O T E;subst D;exact absurd (eq_of_heq E) (by simp)
 | aI q t I Ty l' b off cap uu U hl hb h1 lQ Y Z=>
  injection C with D O T E;subst D;obtain rfl:=eq_of_heq E;have h2:=Y 0 (Nat.zero_lt_succ _) 0 (.int .i64 v) rfl;have h3:=Z 0 (Nat.zero_lt_succ _) 0 (.int .i64 v) rfl;simp only[aF,Nat.zero_mul,Nat.add_zero]at h2;exact⟨b,off,cap,rfl,hb,by rw[h2,h3.iS]⟩
 | own q t I Ty l' b cap cs uu hl hh rW hn hm Y Z=>
  cases hl
def PA.adk{w:World}{x:V}{u:Value}(h:PA w (false,[x]) u):RV w w.heap.size (λ_=>none) [] x u:=by
 obtain⟨us,e,I,D⟩:=h.pv;have e:us = #[u]:=e;subst e;obtain⟨v,C,E⟩:=D 0 x rfl;simp at C;subst C;exact E
def adl:kP:=jB [(false,(.sl .int)),(false,.int)] [(false,(.sl .int),2)] (λx=>Ea x.1 x.2.1)
def aom:enters Tryz.prog 58/\jZ Tryz.prog 58 adl:=by
 refine⟨⟨_,Tryz.func58,by kernel_rfl,by kernel_rfl⟩,V4 λx y Y nm w bJ E hQ=>?_⟩
 obtain⟨l,Z,un⟩:=x;obtain⟨v,n,rfl,rfl,D,qy,rfl⟩:=aok (show Ea l Z=some y from Y);obtain⟨u0,O,wX⟩:=E.2 0 _ rfl;obtain⟨u1,T,Wn⟩:=E.2 1 _ rfl;obtain⟨b,o,c,rfl,hb,qm⟩:=aol (PA.adk wX);obtain rfl:=(PA.adk Wn).iS;have Ak:bJ = #[.slice (some ⟨b,o,none⟩) 1 c,.int .i64 (n:Int)]:=by
  have hs:bJ.size=2:=E.1;apply Array.ext (by simpa using hs);intro i D h2;have:i=0\/i=1:=by simp at h2;omega
  rcases this with rfl|rfl
  ·rw[Array.getElem?_eq_getElem D]at O;injection O
  ·rw[Array.getElem?_eq_getElem D]at T;injection T
 subst Ak
 refine(aoh v ⟨b,o,none⟩ c n D qy w qm hb).mono λe w' uf=>?_
 obtain⟨rfl,iw,U⟩:=uf;have dA:=(Array.getElem?_eq_some_iff.1 U).1
 refine⟨_,λb=>if b=w.heap.size then some [nm 0]else none,rfl,iw,(λb k hb=>?_),?_⟩
 ·by_cases I:b=w.heap.size
  ·simp only[I,if_true]at hb;injection hb with hb;subst hb;subst I;exact⟨Nat.le_refl _,dA,by simp⟩
  ·simp[I]at hb
 ·refine⟨⟨rfl,#[_],rfl,rfl,λj x C=>?_⟩,trivial⟩
  rcases j with _|j
  ·have C:some (V.sl .int 2 false (List.replicate n v))=some x:=C;injection C with C;subst C;refine⟨_,rfl,?_⟩;have h:=RV.own (w:=w') (B:=w.heap.size) (af:=λb=>if b=w.heap.size then some [nm 0]else none) [nm 0] .int 0 false (List.replicate n v) w.heap.size n (mJ v n n).toArray (λ_ _=>.int .i64 v) (if_pos rfl) U (by simp[Wj v (Nat.le_refl n),aF]) (Nat.le_of_eq List.length_replicate) ⟨by unfold maxLen;omega,λh=>by cases h⟩ (λi hi j x C=>?_) (λi hi j x C=>?_)
   ·change RV _ _ _ _ _ (.slice _ (List.replicate n v:List Int).length n)at h;rw[List.length_replicate]at h;exact h
   ·have hi:i<n:=Nat.lt_of_lt_of_eq hi List.length_replicate;obtain rfl:j=0:=by
     have:=(List.getElem?_eq_some_iff.1 C).1;rw[mz]at this;simp only[aF]at this;omega
    simp only[aF,Nat.mul_one,Nat.add_zero];rw[List.getElem?_toArray];exact adi v hi
   ·have hj:j=0:=by
     have:=(List.getElem?_eq_some_iff.1 C).1;rw[mz]at this;simp only[aF]at this;omega
    subst hj;have C:some (V.int .i64 ((List.replicate n v:List Int)[i]'hi))=some x:=C;have hv:(List.replicate n v:List Int)[i]'hi=v:=List.getElem_replicate ..;injection C with C;subst C;have key:∀ (q:List Nat) (z:Int),z=v->RV w' w.heap.size (λb=>if b=w.heap.size then some [nm 0]else none) q (V.int .i64 z) (.int .i64 v):=by
     rintro q z rfl;exact .int _ _ _
    exact key _ _ hv
  ·have h9:j+1<1:=(List.getElem?_eq_some_iff.1 C).1;omega
end Go.Proofs.YthmgjjfedieljaaGreat
