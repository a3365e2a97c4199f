/-
  slices.Repeat of one number, a few times. Nothing here is a claim.
-/
import Derived.Test.YtpigmalhjkekiaaGreatVZ
import Derived.Test.YtpigmalhjkekiaaGreatRows
import Derived.Laws.CopyOwn
import Derived.Deep.RegionLaw
import Derived.Handy
import Derived.Deep.OwnRows
namespace Go.Proofs.YtpigmalhjkekiaaGreat
set_option linter.defProp false
open Go.RowKit
set_option linter.unusedVariables false
set_option linter.unusedSimpArgs false
set_option maxRecDepth 100000
def anD{k:Nat}(h:k<=16):k=0\/k=1\/k=2\/k=3\/k=4\/k=5\/k=6\/k=7\/k=8\/k=9\/k=10\/k=11\/k=12\/k=13\/k=14\/k=15\/k=16:=by omega
def anE(k:Nat)(h:k<=16)(w:World):Calls Tryz.prog 205 #[.int .u64 1,.int .u64 (k:Int)] w λe w'=>e = .returned (.tuple #[.int .u64 0,.int .u64 (k:Int)])/\w=w':=by
 go_enter Tryz.func205,Tryz.ntmps205
 go_wp2
 go_ret2
 refine⟨?_,rfl⟩;rcases anD h with rfl|rfl|rfl|rfl|rfl|rfl|rfl|rfl|rfl|rfl|rfl|rfl|rfl|rfl|rfl|rfl|rfl<;>kernel_rfl
def anF(k:Nat)(h:k<=16)(w:World):Calls Tryz.prog 159 #[.int .u64 1,.int .u64 (k:Int)] w λe w'=>e = .returned (.tuple #[.int .u64 0,.int .u64 (k:Int)])/\w=w':=by
 go_enter Tryz.func159,Tryz.ntmps159
 go_wp2_with (go_at_call 205;refine(anE k h _).mono ?_;rintro e w' ⟨rfl,rfl⟩)
 go_ret2
 exact⟨rfl,rfl⟩
def lz(v:Int)(j k:Nat):List Value:=List.replicate j (.int .i64 v)++List.replicate (k-j) (.int .i64 0)
def Vq(v:Int){j k:Nat}(h:j<=k):(lz v j k).length=k:=by simp[lz];omega
def acz(v:Int){j m k:Nat}(h:j+m<=k):Go.splice (lz v j k) j (List.replicate m (.int .i64 v))=lz v (j+m) k:=by
 have C:(lz v j k).take j=List.replicate j (.int .i64 v):=by simp[lz]
 have D:(lz v j k).drop (j+m)=List.replicate (k-(j+m)) (.int .i64 0):=by
  unfold lz;rw[List.drop_append,List.length_replicate,List.drop_replicate,List.drop_replicate,show j-(j+m)=0 by omega,List.replicate_zero,List.nil_append];congr 1;omega
 unfold Go.splice;rw[List.length_replicate,C,D];simp only[lz];rw[<-List.replicate_append_replicate,List.append_assoc]
def acA(v:Int){j k i:Nat}(h:i<j):(lz v j k)[i]?=some (.int .i64 v):=by
 unfold lz;rw[List.getElem?_append_left (by simpa using h)];simp[h]
def Tryz.anG:(Tryz.prog.info? 3).map (λi=>(i.zero,i.size,i.bytes))=some (some (.int .i64 0),1,8):=by kernel_rfl
def acB:(Tryz.prog.info? 3).map (·.size)=some 1:=by kernel_rfl
def anH(v:Int)(k:Nat):(madeCells #[.int .i64 0] k)=(lz v 0 k).toArray:=by
 apply Array.ext';rw[toList_madeCells_one];rfl
set_option maxHeartbeats 1000000 in
def anI(v:Int)(A:Addr)(c k:Nat)(E:1<=k)(h:k<=16)(w:World)(T:w.cell? A=some (.int .i64 v))(hb:A.block<w.heap.size):
  Calls Tryz.prog 82 #[.slice (some A) 1 c,.int .i64 (k:Int)] w λe w'=>e = .returned (.slice (some ⟨w.heap.size,0,none⟩) k k)/\Below w.heap.size w w'/\w'.heap[w.heap.size]?=some (.cells (lz v k k).toArray 3 (0,0)):=by
 have tR:IntKind.u64.wrap (k:Int)=(k:Int):=by rw[IntKind.wrap_u64];omega
 have AP:IntKind.i64.wrap (k:Int)=(k:Int):=by rw[IntKind.wrap_i64];omega
 have mC:¬ ((k:Int) > 9223372036854775807):=by omega
 obtain⟨U,Y,Z,It,Ax⟩:=info_parts Tryz.anG;have wA:=λW=>run_make_row (P:=Tryz.prog) 34 3 U (.int .i64 0) Tryz.underlying34 Y Z It rfl .i64 .i64 k (by rw[Ax];omega) (by omega) W
 have n5:∀ (j:Nat) u,[Value.int .i64 v][j]?=some u->(w.alloc (.cells (madeCells #[.int .i64 0] k) 3)).cell? (A.add j)=some u:=by
  intro j u C;rcases j with _|j
  ·simp at C;subst C;have e:A.add 0=A:=by unfold Addr.add;split <;>simp_all
   rw[e];exact(World.cell?_alloc_old _ _ _ (Nat.ne_of_lt hb)).trans T
  ·simp at C
 have anJ:(w.alloc (.cells (madeCells #[.int .i64 0] k) 3)).heap[w.heap.size]?=some (.cells (lz v 0 k).toArray 3 (0,0)):=by
  rw[anH v];exact heap_alloc_new _ _
 have mY:0+[Value.int .i64 v].length<=(lz v 0 k).length:=by rw[Vq v (Nat.zero_le _)];exact E
 have qm:∀u∈[Value.int .i64 v],u.oneCell'=true:=by simp[Value.oneCell']
 have anK:[Value.int .i64 v].length=Nat.min 1 k:=(Nat.min_eq_left E).symm;have tF:=(Below.refl w.heap.size w).alloc (Nat.le_refl _) (.cells (madeCells #[.int .i64 0] k) 3)
 go_enter Tryz.func82,Tryz.ntmps82
 go_wp2_with (first|(go_at_call 159;refine(anF k h _).mono ?_;rintro e w' ⟨rfl,rfl⟩)|(refine wpList_copy_splice rfl (.tmp 31) (.tmp 32) 34 34 rfl 3 Tryz.underlying34 acB (some ⟨w.heap.size,0,none⟩) (some A) k k 1 c rfl rfl w.heap.size 0 (lz v 0 k) 3 anJ [.int .i64 v] anK (λ_=>⟨rfl,A,rfl,n5⟩) mY qm w.heap.size w tF (Nat.le_refl _) ?_;intro w1 hg1 vA))
 go_loopw [8] (λi wr=>∃j:Nat,1<=j/\j<=k/\i = .int .i64 (j:Int)/\Hid (wr.heap[w.heap.size]?=some (.cells (lz v j k).toArray 3 (0,0)))/\Below w.heap.size w wr) (λi _=>k-(intOf i).toNat)
 case atStart=>exact⟨1,by omega,E,rfl,by
  have:=hg1.out;rw[show [Value.int .i64 v]=List.replicate 1 (.int .i64 v)from rfl,acz v (by omega)]at this;exact this,vA⟩
 case round=>
  obtain⟨j,M5,hjk,rfl,I,O⟩:=hrel;by_cases dK:j<k
  ·have cA:¬ k=j:=by omega
   have D:∃m,m=Nat.min j (k-j):=⟨_,rfl⟩
   obtain⟨m,D⟩:=D;have tC:m<=j/\m<=k-j/\1<=m:=by rw[D];exact⟨Nat.min_le_left ..,Nat.min_le_right ..,Nat.le_min.2 ⟨M5,by omega⟩⟩
   have s1:Hid ((List.replicate m (Value.int .i64 v)).length=Nat.min j (k-j)):=by
    show _=_;rw[List.length_replicate,D]
   have s2:Hid (∀ u∈List.replicate m (Value.int .i64 v),u.oneCell'=true):=λu C=>by
    rw[(List.mem_replicate.1 C).2];rfl
   have s3:Hid (∀ (i:Nat) u,(List.replicate m (Value.int .i64 v))[i]?=some u->wr.drew.cell? ((⟨w.heap.size,0,none⟩:Addr).add i)=some u):=λi u C=>by
    obtain⟨hi,rfl⟩:=List.getElem?_eq_some_iff.1 C;rw[List.length_replicate]at hi;have e:(⟨w.heap.size,0,none⟩:Addr).add i=⟨w.heap.size,i,none⟩:=by unfold Addr.add;split<;>simp_all
    rw[e];show wr.cell? _=_;rw[cell_of_row _ _ _ _ _ _ I.out];simp only[List.getElem_replicate];rw[List.getElem?_toArray];exact acA v (by omega)
   have s4:Hid (j+(List.replicate m (Value.int .i64 v)).length<=(lz v j k).length):=by
    show _<=_;rw[List.length_replicate,Vq v hjk];omega
   have s5:Hid (wr.drew.heap[w.heap.size]?=some (.cells (lz v j k).toArray 3 (0,0))):=I.out;have s6:Hid (Below w.heap.size w wr.drew):=O.drew
   go_wp2_with fail
   go_region_law (refine step_copy_splice rfl (.tmp 41) (.tmp 44) 34 34 rfl 3 Tryz.underlying34 acB (some ⟨w.heap.size,j,none⟩) (some ⟨w.heap.size,0,none⟩) (k-j) (k-j) j k (by simp[Act.eval,Act.put,cA]) (by simp[Act.eval,Act.put]) w.heap.size j (lz v j k) 3 s5.out (List.replicate m (.int .i64 v)) s1.out (λ_=>⟨rfl,_,rfl,s3.out⟩) s4.out s2.out w.heap.size w s6.out (Nat.le_refl _) ?_;intro w4 hg4 hb4)
   have Vr:IntKind.i64.wrap ((j:Int)+((j.min (k-j):Nat):Int))=((j+m:Nat):Int):=by rw[<-D,IntKind.wrap_i64];omega
   simp[Act.put,Act.eval,goInt,Vr]
   go_roundw
   case rel=>
    refine⟨_,_,_,_,_,_,_,_,_,_,_,_,_,_,⟨j+m,?_,?_,?_,?_,hb4⟩,rfl⟩
    ·omega
    ·omega
    ·go_num
    ·have:=hg4.out;rw[acz v (by omega)]at this;exact this
   case measure=>simp[intOf];omega
  ·obtain rfl:j=k:=by omega
   go_wp2
   go_ret
   exact⟨rfl,O,I.out⟩
def CW(l:List Int)(k:Int):Option (List Int):=match l with
 |[v]=>bif decide (1<=k)&&decide (k<=16)then some (List.replicate k.toNat v)else none
 |_=>none
def anL{l:List Int}{k:Int}{y:List Int}(h:CW l k=some y):∃ (v:Int) (n:Nat),l=[v]/\k=(n:Int)/\1<=n/\n<=16/\y=List.replicate n v:=by
 unfold CW at h;split at h
 ·rename_i v;cases hb:decide (1<=k)&&decide (k<=16)with
  |false=>rw[hb]at h;cases h
  | true=>
   rw[hb,cond_true]at h;injection h with h;rw[Bool.and_eq_true,decide_eq_true_eq,decide_eq_true_eq]at hb;exact⟨v,k.toNat,rfl,by omega,by omega,by omega,h.symm⟩
 ·cases h
def anM{w:World}{B:Nat}{v:Int}{u:Value}(h:RV w B (λ_=>none) [] (.sl .int 0 false [v]) u):∃ b o c,u = .slice (some ⟨b,o,none⟩) 1 c/\b<w.heap.size/\w.cell? ⟨b,o,none⟩=some (.int .i64 v):=by
 generalize C:V.sl .int 0 false [v]=y at h;cases h with
 |int=>cases C
 |bool=>cases C
 |str=>cases C
 |nil=>cases C
 | eS q t I=>
  injection C with D O T E;subst D;exact absurd (eq_of_heq E) (by simp)
 | fU q t I A c U=>
  injection C with D O T E;subst D;exact absurd (eq_of_heq E) (by simp)
 | gj q t I A c U=>
  injection C with D O T E;subst D;exact absurd (eq_of_heq E) (by simp)
 | aH q t I SE l' b off cap uu U hl hb h1 kz Y Z=>
  injection C with D O T E;subst D;obtain rfl:=eq_of_heq E;have h2:=Y 0 (Nat.zero_lt_succ _) 0 (.int .i64 v) rfl;have h3:=Z 0 (Nat.zero_lt_succ _) 0 (.int .i64 v) rfl;simp only[aC,Nat.zero_mul,Nat.add_zero]at h2;exact⟨b,off,cap,rfl,hb,by rw[h2,h3.gY]⟩
 | own q t I SE l' b cap cs uu hl hh qe hn hm Y Z=>
  cases hl
def PA.acC{w:World}{x:V}{u:Value}(h:PA w (false,[x]) u):RV w w.heap.size (λ_=>none) [] x u:=by
 obtain⟨us,e,I,D⟩:=h.pv;have e:us = #[u]:=e;subst e;obtain⟨v,C,E⟩:=D 0 x rfl;simp at C;subst C;exact E
def acD:jH:=iL [(false,(.sl .int)),(false,.int)] [(false,(.sl .int),2)] (λx=>CW x.1 x.2.1)
def anN:enters Tryz.prog 82/\jl Tryz.prog 82 acD:=by
 refine⟨⟨_,Tryz.func82,by kernel_rfl,by kernel_rfl⟩,Vb λx y Y nm w bH E hQ=>?_⟩
 obtain⟨l,Z,un⟩:=x;obtain⟨v,n,rfl,rfl,D,sJ,rfl⟩:=anL (show CW l Z=some y from Y);obtain⟨u0,O,Aq⟩:=E.2 0 _ rfl;obtain⟨u1,T,Vs⟩:=E.2 1 _ rfl;obtain⟨b,o,c,rfl,hb,n5⟩:=anM (PA.acC Aq);obtain rfl:=(PA.acC Vs).gY;have yC:bH = #[.slice (some ⟨b,o,none⟩) 1 c,.int .i64 (n:Int)]:=by
  have hs:bH.size=2:=E.1;apply Array.ext (by simpa using hs);intro i D h2;have:i=0\/i=1:=by simp at h2;omega
  rcases this with rfl|rfl
  ·rw[Array.getElem?_eq_getElem D]at O;injection O
  ·rw[Array.getElem?_eq_getElem D]at T;injection T
 subst yC
 refine(anI v ⟨b,o,none⟩ c n D sJ w n5 hb).mono λe w' sg=>?_
 obtain⟨rfl,jc,U⟩:=sg;have dK:=(Array.getElem?_eq_some_iff.1 U).1
 refine⟨_,λb=>if b=w.heap.size then some [nm 0]else none,rfl,jc,(λb k hb=>?_),?_⟩
 ·by_cases I:b=w.heap.size
  ·simp only[I,if_true]at hb;injection hb with hb;subst hb;subst I;exact⟨Nat.le_refl _,dK,by simp⟩
  ·simp[I]at hb
 ·refine⟨⟨rfl,#[_],rfl,rfl,λj x C=>?_⟩,trivial⟩
  rcases j with _|j
  ·have C:some (V.sl .int 2 false (List.replicate n v))=some x:=C;injection C with C;subst C;refine⟨_,rfl,?_⟩;have h:=RV.own (w:=w') (B:=w.heap.size) (af:=λb=>if b=w.heap.size then some [nm 0]else none) [nm 0] .int 0 false (List.replicate n v) w.heap.size n (lz v n n).toArray (λ_ _=>.int .i64 v) (if_pos rfl) U (by simp[Vq v (Nat.le_refl n),aC]) (Nat.le_of_eq List.length_replicate) ⟨by unfold maxLen;omega,λh=>by cases h⟩ (λi hi j x C=>?_) (λi hi j x C=>?_)
   ·change RV _ _ _ _ _ (.slice _ (List.replicate n v:List Int).length n)at h;rw[List.length_replicate]at h;exact h
   ·have hi:i<n:=Nat.lt_of_lt_of_eq hi List.length_replicate;obtain rfl:j=0:=by
     have:=(List.getElem?_eq_some_iff.1 C).1;rw[kX]at this;simp only[aC]at this;omega
    simp only[aC,Nat.mul_one,Nat.add_zero];rw[List.getElem?_toArray];exact acA v hi
   ·have hj:j=0:=by
     have:=(List.getElem?_eq_some_iff.1 C).1;rw[kX]at this;simp only[aC]at this;omega
    subst hj;have C:some (V.int .i64 ((List.replicate n v:List Int)[i]'hi))=some x:=C;have hv:(List.replicate n v:List Int)[i]'hi=v:=List.getElem_replicate ..;injection C with C;subst C;have key:∀ (q:List Nat) (z:Int),z=v->RV w' w.heap.size (λb=>if b=w.heap.size then some [nm 0]else none) q (V.int .i64 z) (.int .i64 v):=by
     rintro q z rfl;exact .int _ _ _
    exact key _ _ hv
  ·have h9:j+1<1:=(List.getElem?_eq_some_iff.1 C).1;omega
end Go.Proofs.YtpigmalhjkekiaaGreat
