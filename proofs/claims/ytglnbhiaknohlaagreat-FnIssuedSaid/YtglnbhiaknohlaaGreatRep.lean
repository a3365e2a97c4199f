/-
  slices.Repeat of one number, a few times. Nothing here is a claim.
-/
import Derived.Test.YtglnbhiaknohlaaGreatVZ
import Derived.Test.YtglnbhiaknohlaaGreatRows
import Derived.Laws.CopyOwn
import Derived.Deep.RegionLaw
import Derived.Handy
import Derived.Deep.OwnRows
namespace Go.Proofs.YtglnbhiaknohlaaGreat
set_option linter.defProp false
open Go.RowKit
set_option linter.unusedVariables false
set_option linter.unusedSimpArgs false
set_option maxRecDepth 100000
def aqY{k:Nat}(h:k<=16):k=0\/k=1\/k=2\/k=3\/k=4\/k=5\/k=6\/k=7\/k=8\/k=9\/k=10\/k=11\/k=12\/k=13\/k=14\/k=15\/k=16:=by omega
def aqZ(k:Nat)(h:k<=16)(w:World):Calls Tryz.prog 356 #[.int .u64 1,.int .u64 (k:Int)] w λe w'=>e = .returned (.tuple #[.int .u64 0,.int .u64 (k:Int)])/\w=w':=by
 go_enter Tryz.func356,Tryz.ntmps356
 go_wp2
 go_ret2
 refine⟨?_,rfl⟩;rcases aqY h with rfl|rfl|rfl|rfl|rfl|rfl|rfl|rfl|rfl|rfl|rfl|rfl|rfl|rfl|rfl|rfl|rfl<;>kernel_rfl
def aq0(k:Nat)(h:k<=16)(w:World):Calls Tryz.prog 344 #[.int .u64 1,.int .u64 (k:Int)] w λe w'=>e = .returned (.tuple #[.int .u64 0,.int .u64 (k:Int)])/\w=w':=by
 go_enter Tryz.func344,Tryz.ntmps344
 go_wp2_with (go_at_call 356;refine(aqZ k h _).mono ?_;rintro e w' ⟨rfl,rfl⟩)
 go_ret2
 exact⟨rfl,rfl⟩
def kP(v:Int)(j k:Nat):List Value:=List.replicate j (.int .i64 v)++List.replicate (k-j) (.int .i64 0)
def V6(v:Int){j k:Nat}(h:j<=k):(kP v j k).length=k:=by simp[kP];omega
def adf(v:Int){j m k:Nat}(h:j+m<=k):Go.splice (kP v j k) j (List.replicate m (.int .i64 v))=kP v (j+m) k:=by
 have C:(kP v j k).take j=List.replicate j (.int .i64 v):=by simp[kP]
 have D:(kP v j k).drop (j+m)=List.replicate (k-(j+m)) (.int .i64 0):=by
  unfold kP;rw[List.drop_append,List.length_replicate,List.drop_replicate,List.drop_replicate,show j-(j+m)=0 by omega,List.replicate_zero,List.nil_append];congr 1;omega
 unfold Go.splice;rw[List.length_replicate,C,D];simp only[kP];rw[<-List.replicate_append_replicate,List.append_assoc]
def adg(v:Int){j k i:Nat}(h:i<j):(kP v j k)[i]?=some (.int .i64 v):=by
 unfold kP;rw[List.getElem?_append_left (by simpa using h)];simp[h]
def Tryz.aq1:(Tryz.prog.info? 3).map (λi=>(i.zero,i.size,i.bytes))=some (some (.int .i64 0),1,8):=by kernel_rfl
def adh:(Tryz.prog.info? 3).map (·.size)=some 1:=by kernel_rfl
def aq2(v:Int)(k:Nat):(madeCells #[.int .i64 0] k)=(kP v 0 k).toArray:=by
 apply Array.ext';rw[toList_madeCells_one];rfl
set_option maxHeartbeats 1000000 in
def aq3(v:Int)(A:Addr)(c k:Nat)(E:1<=k)(h:k<=16)(w:World)(O:w.cell? A=some (.int .i64 v))(hb:A.block<w.heap.size):
  Calls Tryz.prog 313 #[.slice (some A) 1 c,.int .i64 (k:Int)] w λe w'=>e = .returned (.slice (some ⟨w.heap.size,0,none⟩) k k)/\Below w.heap.size w w'/\w'.heap[w.heap.size]?=some (.cells (kP v k k).toArray 3 (0,0)):=by
 have MW:IntKind.u64.wrap (k:Int)=(k:Int):=by rw[IntKind.wrap_u64];omega
 have HF:IntKind.i64.wrap (k:Int)=(k:Int):=by rw[IntKind.wrap_i64];omega
 have uZ:¬ ((k:Int) > 9223372036854775807):=by omega
 obtain⟨T,U,Y,Z,zk⟩:=info_parts Tryz.aq1;have uN:=λW=>run_make_row (P:=Tryz.prog) 34 3 T (.int .i64 0) Tryz.underlying34 U Y Z rfl .i64 .i64 k (by rw[zk];omega) (by omega) W
 have nq:∀ (j:Nat) u,[Value.int .i64 v][j]?=some u->(w.alloc (.cells (madeCells #[.int .i64 0] k) 3)).cell? (A.add j)=some u:=by
  intro j u C;rcases j with _|j
  ·simp at C;subst C;have e:A.add 0=A:=by unfold Addr.add;split <;>simp_all
   rw[e];exact(World.cell?_alloc_old _ _ _ (Nat.ne_of_lt hb)).trans O
  ·simp at C
 have aq4:(w.alloc (.cells (madeCells #[.int .i64 0] k) 3)).heap[w.heap.size]?=some (.cells (kP v 0 k).toArray 3 (0,0)):=by
  rw[aq2 v];exact heap_alloc_new _ _
 have lY:0+[Value.int .i64 v].length<=(kP v 0 k).length:=by rw[V6 v (Nat.zero_le _)];exact E
 have oM:∀u∈[Value.int .i64 v],u.oneCell'=true:=by simp[Value.oneCell']
 have aq5:[Value.int .i64 v].length=Nat.min 1 k:=(Nat.min_eq_left E).symm;have rU:=(Below.refl w.heap.size w).alloc (Nat.le_refl _) (.cells (madeCells #[.int .i64 0] k) 3)
 go_enter Tryz.func313,Tryz.ntmps313
 go_wp2_with (first|(go_at_call 344;refine(aq0 k h _).mono ?_;rintro e w' ⟨rfl,rfl⟩)|(refine wpList_copy_splice rfl (.tmp 31) (.tmp 32) 34 34 rfl 3 Tryz.underlying34 adh (some ⟨w.heap.size,0,none⟩) (some A) k k 1 c rfl rfl w.heap.size 0 (kP v 0 k) 3 aq4 [.int .i64 v] aq5 (λ_=>⟨rfl,A,rfl,nq⟩) lY oM w.heap.size w rU (Nat.le_refl _) ?_;intro w1 V7 zM))
 go_loopw [8] (λi wr=>∃j:Nat,1<=j/\j<=k/\i = .int .i64 (j:Int)/\Hid (wr.heap[w.heap.size]?=some (.cells (kP v j k).toArray 3 (0,0)))/\Below w.heap.size w wr) (λi _=>k-(intOf i).toNat)
 case atStart=>exact⟨1,by omega,E,rfl,by
  have:=V7.out;rw[show [Value.int .i64 v]=List.replicate 1 (.int .i64 v)from rfl,adf v (by omega)]at this;exact this,zM⟩
 case round=>
  obtain⟨j,Np,hjk,rfl,I,L⟩:=hrel;by_cases dW:j<k
  ·have cL:¬ k=j:=by omega
   have D:∃m,m=Nat.min j (k-j):=⟨_,rfl⟩
   obtain⟨m,D⟩:=D;have rS:m<=j/\m<=k-j/\1<=m:=by rw[D];exact⟨Nat.min_le_left ..,Nat.min_le_right ..,Nat.le_min.2 ⟨Np,by omega⟩⟩
   have s1:Hid ((List.replicate m (Value.int .i64 v)).length=Nat.min j (k-j)):=by
    show _=_;rw[List.length_replicate,D]
   have s2:Hid (∀ u∈List.replicate m (Value.int .i64 v),u.oneCell'=true):=λu C=>by
    rw[(List.mem_replicate.1 C).2];rfl
   have s3:Hid (∀ (i:Nat) u,(List.replicate m (Value.int .i64 v))[i]?=some u->wr.drew.cell? ((⟨w.heap.size,0,none⟩:Addr).add i)=some u):=λi u C=>by
    obtain⟨hi,rfl⟩:=List.getElem?_eq_some_iff.1 C;rw[List.length_replicate]at hi;have e:(⟨w.heap.size,0,none⟩:Addr).add i=⟨w.heap.size,i,none⟩:=by unfold Addr.add;split<;>simp_all
    rw[e];show wr.cell? _=_;rw[cell_of_row _ _ _ _ _ _ I.out];simp only[List.getElem_replicate];rw[List.getElem?_toArray];exact adg v (by omega)
   have s4:Hid (j+(List.replicate m (Value.int .i64 v)).length<=(kP v j k).length):=by
    show _<=_;rw[List.length_replicate,V6 v hjk];omega
   have s5:Hid (wr.drew.heap[w.heap.size]?=some (.cells (kP v j k).toArray 3 (0,0))):=I.out;have s6:Hid (Below w.heap.size w wr.drew):=L.drew
   go_wp2_with fail
   go_region_law (refine step_copy_splice rfl (.tmp 41) (.tmp 44) 34 34 rfl 3 Tryz.underlying34 adh (some ⟨w.heap.size,j,none⟩) (some ⟨w.heap.size,0,none⟩) (k-j) (k-j) j k (by simp[Act.eval,Act.put,cL]) (by simp[Act.eval,Act.put]) w.heap.size j (kP v j k) 3 s5.out (List.replicate m (.int .i64 v)) s1.out (λ_=>⟨rfl,_,rfl,s3.out⟩) s4.out s2.out w.heap.size w s6.out (Nat.le_refl _) ?_;intro w4 hg4 hb4)
   have HO:IntKind.i64.wrap ((j:Int)+((j.min (k-j):Nat):Int))=((j+m:Nat):Int):=by rw[<-D,IntKind.wrap_i64];omega
   simp[Act.put,Act.eval,goInt,HO]
   go_roundw
   case rel=>
    refine⟨_,_,_,_,_,_,_,_,_,_,_,_,_,_,⟨j+m,?_,?_,?_,?_,hb4⟩,rfl⟩
    ·omega
    ·omega
    ·go_num
    ·have:=hg4.out;rw[adf v (by omega)]at this;exact this
   case measure=>simp[intOf];omega
  ·obtain rfl:j=k:=by omega
   go_wp2
   go_ret
   exact⟨rfl,L,I.out⟩
def BS(l:List Int)(k:Int):Option (List Int):=match l with
 |[v]=>bif decide (1<=k)&&decide (k<=16)then some (List.replicate k.toNat v)else none
 |_=>none
def aq6{l:List Int}{k:Int}{y:List Int}(h:BS l k=some y):∃ (v:Int) (n:Nat),l=[v]/\k=(n:Int)/\1<=n/\n<=16/\y=List.replicate n v:=by
 unfold BS at h;split at h
 ·rename_i v;cases hb:decide (1<=k)&&decide (k<=16)with
  |false=>rw[hb]at h;cases h
  | true=>
   rw[hb,cond_true]at h;injection h with h;rw[Bool.and_eq_true,decide_eq_true_eq,decide_eq_true_eq]at hb;exact⟨v,k.toNat,rfl,by omega,by omega,by omega,h.symm⟩
 ·cases h
def aq7{w:World}{B:Nat}{v:Int}{u:Value}(h:RV w B (λ_=>none) [] (.sl .int 0 false [v]) u):∃ b o c,u = .slice (some ⟨b,o,none⟩) 1 c/\b<w.heap.size/\w.cell? ⟨b,o,none⟩=some (.int .i64 v):=by
 generalize C:V.sl .int 0 false [v]=y at h;cases h with
 |int=>cases C
 |bool=>cases C
 |str=>cases C
 |nil=>cases C
 | eE q t I=>
  injection C with D L O E;subst D;exact absurd (eq_of_heq E) (by simp)
 | fI q t I A c T=>
  injection C with D L O E;subst D;exact absurd (eq_of_heq E) (by simp)
 | fV q t I A c T=>
  injection C with D L O E;subst D;exact absurd (eq_of_heq E) (by simp)
 | aI q t I Ti l' b off cap uu T hl hb h1 lX U Y=>
  injection C with D L O E;subst D;obtain rfl:=eq_of_heq E;have Z:=U 0 (Nat.zero_lt_succ _) 0 (.int .i64 v) rfl;have h3:=Y 0 (Nat.zero_lt_succ _) 0 (.int .i64 v) rfl;simp only[aG,Nat.zero_mul,Nat.add_zero]at Z;exact⟨b,off,cap,rfl,hb,by rw[Z,h3.gU]⟩
 | own q t I Ti l' b cap cs uu hl hh oG hn hm U Y=>
  cases hl
def PA.adi{w:World}{x:V}{u:Value}(h:PA w (false,[x]) u):RV w w.heap.size (λ_=>none) [] x u:=by
 obtain⟨us,e,I,D⟩:=h.pv;have e:us = #[u]:=e;subst e;obtain⟨v,C,E⟩:=D 0 x rfl;simp at C;subst C;exact E
def adj:je:=iI [(false,(.sl .int)),(false,.int)] [(false,(.sl .int),2)] (λx=>BS x.1 x.2.1)
def aq8:enters Tryz.prog 313/\iF Tryz.prog 313 adj:=by
 refine⟨⟨_,Tryz.func313,by kernel_rfl,by kernel_rfl⟩,VO λx y U nm w bT E hQ=>?_⟩
 obtain⟨l,Y,un⟩:=x;obtain⟨v,n,rfl,rfl,D,Z,rfl⟩:=aq6 (show BS l Y=some y from U);obtain⟨u0,L,ze⟩:=E.2 0 _ rfl;obtain⟨u1,O,N0⟩:=E.2 1 _ rfl;obtain⟨b,o,c,rfl,hb,nq⟩:=aq7 (PA.adi ze);obtain rfl:=(PA.adi N0).gU;have wM:bT = #[.slice (some ⟨b,o,none⟩) 1 c,.int .i64 (n:Int)]:=by
  have hs:bT.size=2:=E.1;apply Array.ext (by simpa using hs);intro i D h2;have:i=0\/i=1:=by simp at h2;omega
  rcases this with rfl|rfl
  ·rw[Array.getElem?_eq_getElem D]at L;injection L
  ·rw[Array.getElem?_eq_getElem D]at O;injection O
 subst wM
 refine(aq3 v ⟨b,o,none⟩ c n D Z w nq hb).mono λe w' qI=>?_
 obtain⟨rfl,lD,T⟩:=qI;have dW:=(Array.getElem?_eq_some_iff.1 T).1
 refine⟨_,λb=>if b=w.heap.size then some [nm 0]else none,rfl,lD,(λb k hb=>?_),?_⟩
 ·by_cases I:b=w.heap.size
  ·simp only[I,if_true]at hb;injection hb with hb;subst hb;subst I;exact⟨Nat.le_refl _,dW,by simp⟩
  ·simp[I]at hb
 ·refine⟨⟨rfl,#[_],rfl,rfl,λj x C=>?_⟩,trivial⟩
  rcases j with _|j
  ·have C:some (V.sl .int 2 false (List.replicate n v))=some x:=C;injection C with C;subst C;refine⟨_,rfl,?_⟩;have h:=RV.own (w:=w') (B:=w.heap.size) (aj:=λb=>if b=w.heap.size then some [nm 0]else none) [nm 0] .int 0 false (List.replicate n v) w.heap.size n (kP v n n).toArray (λ_ _=>.int .i64 v) (if_pos rfl) T (by simp[V6 v (Nat.le_refl n),aG]) (Nat.le_of_eq List.length_replicate) ⟨by unfold maxLen;omega,λh=>by cases h⟩ (λi hi j x C=>?_) (λi hi j x C=>?_)
   ·change RV _ _ _ _ _ (.slice _ (List.replicate n v:List Int).length n)at h;rw[List.length_replicate]at h;exact h
   ·have hi:i<n:=Nat.lt_of_lt_of_eq hi List.length_replicate;obtain rfl:j=0:=by
     have:=(List.getElem?_eq_some_iff.1 C).1;rw[kL]at this;simp only[aG]at this;omega
    simp only[aG,Nat.mul_one,Nat.add_zero];rw[List.getElem?_toArray];exact adg v hi
   ·have hj:j=0:=by
     have:=(List.getElem?_eq_some_iff.1 C).1;rw[kL]at this;simp only[aG]at this;omega
    subst hj;have C:some (V.int .i64 ((List.replicate n v:List Int)[i]'hi))=some x:=C;have hv:(List.replicate n v:List Int)[i]'hi=v:=List.getElem_replicate ..;injection C with C;subst C;have key:∀ (q:List Nat) (z:Int),z=v->RV w' w.heap.size (λb=>if b=w.heap.size then some [nm 0]else none) q (V.int .i64 z) (.int .i64 v):=by
     rintro q z rfl;exact .int _ _ _
    exact key _ _ hv
  ·have h9:j+1<1:=(List.getElem?_eq_some_iff.1 C).1;omega
end Go.Proofs.YtglnbhiaknohlaaGreat
