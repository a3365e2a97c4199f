/-
  slices.Repeat of one number, a few times. Nothing here is a claim.
-/
import Derived.Test.YtdfkhfiglknaoaaGreatVZ
import Derived.Test.YtdfkhfiglknaoaaGreatRows
import Derived.Laws.CopyOwn
import Derived.Deep.RegionLaw
import Derived.Handy
import Derived.Deep.OwnRows
namespace Go.Proofs.YtdfkhfiglknaoaaGreat
set_option linter.defProp false
open Go.RowKit
set_option linter.unusedVariables false
set_option linter.unusedSimpArgs false
set_option maxRecDepth 100000
def ast{k:Nat}(h:k<=16):k=0\/k=1\/k=2\/k=3\/k=4\/k=5\/k=6\/k=7\/k=8\/k=9\/k=10\/k=11\/k=12\/k=13\/k=14\/k=15\/k=16:=by omega
def asu(k:Nat)(h:k<=16)(w:World):Calls Tryz.prog 244 #[.int .u64 1,.int .u64 (k:Int)] w λe w'=>e = .returned (.tuple #[.int .u64 0,.int .u64 (k:Int)])/\w=w':=by
 go_enter Tryz.func244,Tryz.ntmps244
 go_wp2
 go_ret2
 refine⟨?_,rfl⟩;rcases ast h with rfl|rfl|rfl|rfl|rfl|rfl|rfl|rfl|rfl|rfl|rfl|rfl|rfl|rfl|rfl|rfl|rfl<;>kernel_rfl
def asv(k:Nat)(h:k<=16)(w:World):Calls Tryz.prog 190 #[.int .u64 1,.int .u64 (k:Int)] w λe w'=>e = .returned (.tuple #[.int .u64 0,.int .u64 (k:Int)])/\w=w':=by
 go_enter Tryz.func190,Tryz.ntmps190
 go_wp2_with (go_at_call 244;refine(asu k h _).mono ?_;rintro e w' ⟨rfl,rfl⟩)
 go_ret2
 exact⟨rfl,rfl⟩
def l9(v:Int)(j k:Nat):List Value:=List.replicate j (.int .i64 v)++List.replicate (k-j) (.int .i64 0)
def X6(v:Int){j k:Nat}(h:j<=k):(l9 v j k).length=k:=by simp[l9];omega
def aeH(v:Int){j m k:Nat}(h:j+m<=k):Go.splice (l9 v j k) j (List.replicate m (.int .i64 v))=l9 v (j+m) k:=by
 have C:(l9 v j k).take j=List.replicate j (.int .i64 v):=by simp[l9]
 have D:(l9 v j k).drop (j+m)=List.replicate (k-(j+m)) (.int .i64 0):=by
  unfold l9;rw[List.drop_append,List.length_replicate,List.drop_replicate,List.drop_replicate,show j-(j+m)=0 by omega,List.replicate_zero,List.nil_append];congr 1;omega
 unfold Go.splice;rw[List.length_replicate,C,D];simp only[l9];rw[<-List.replicate_append_replicate,List.append_assoc]
def aeI(v:Int){j k i:Nat}(h:i<j):(l9 v j k)[i]?=some (.int .i64 v):=by
 unfold l9;rw[List.getElem?_append_left (by simpa using h)];simp[h]
def Tryz.asw:(Tryz.prog.info? 3).map (λi=>(i.zero,i.size,i.bytes))=some (some (.int .i64 0),1,8):=by kernel_rfl
def aeJ:(Tryz.prog.info? 3).map (·.size)=some 1:=by kernel_rfl
def asx(v:Int)(k:Nat):(madeCells #[.int .i64 0] k)=(l9 v 0 k).toArray:=by
 apply Array.ext';rw[toList_madeCells_one];rfl
set_option maxHeartbeats 1000000 in
def asy(v:Int)(A:Addr)(c k:Nat)(E:1<=k)(h:k<=16)(w:World)(U:w.cell? A=some (.int .i64 v))(hb:A.block<w.heap.size):
  Calls Tryz.prog 127 #[.slice (some A) 1 c,.int .i64 (k:Int)] w λe w'=>e = .returned (.slice (some ⟨w.heap.size,0,none⟩) k k)/\Below w.heap.size w w'/\w'.heap[w.heap.size]?=some (.cells (l9 v k k).toArray 3 (0,0)):=by
 have yX:IntKind.u64.wrap (k:Int)=(k:Int):=by rw[IntKind.wrap_u64];omega
 have pS:IntKind.i64.wrap (k:Int)=(k:Int):=by rw[IntKind.wrap_i64];omega
 have mJ:¬ ((k:Int) > 9223372036854775807):=by omega
 obtain⟨i0,Y,tQ,JW,Fs⟩:=info_parts Tryz.asw;have wB:=λW=>run_make_row (P:=Tryz.prog) 34 3 i0 (.int .i64 0) Tryz.underlying34 Y tQ JW rfl .i64 .i64 k (by rw[Fs];omega) (by omega) W
 have ku:∀ (j:Nat) u,[Value.int .i64 v][j]?=some u->(w.alloc (.cells (madeCells #[.int .i64 0] k) 3)).cell? (A.add j)=some u:=by
  intro j u C;rcases j with _|j
  ·simp at C;subst C;have e:A.add 0=A:=by unfold Addr.add;split <;>simp_all
   rw[e];exact(World.cell?_alloc_old _ _ _ (Nat.ne_of_lt hb)).trans U
  ·simp at C
 have asz:(w.alloc (.cells (madeCells #[.int .i64 0] k) 3)).heap[w.heap.size]?=some (.cells (l9 v 0 k).toArray 3 (0,0)):=by
  rw[asx v];exact heap_alloc_new _ _
 have mZ:0+[Value.int .i64 v].length<=(l9 v 0 k).length:=by rw[X6 v (Nat.zero_le _)];exact E
 have m7:∀u∈[Value.int .i64 v],u.oneCell'=true:=by simp[Value.oneCell']
 have asA:[Value.int .i64 v].length=Nat.min 1 k:=(Nat.min_eq_left E).symm;have mD:=(Below.refl w.heap.size w).alloc (Nat.le_refl _) (.cells (madeCells #[.int .i64 0] k) 3)
 go_enter Tryz.func127,Tryz.ntmps127
 go_wp2_with (first|(go_at_call 190;refine(asv k h _).mono ?_;rintro e w' ⟨rfl,rfl⟩)|(refine wpList_copy_splice rfl (.tmp 31) (.tmp 32) 34 34 rfl 3 Tryz.underlying34 aeJ (some ⟨w.heap.size,0,none⟩) (some A) k k 1 c rfl rfl w.heap.size 0 (l9 v 0 k) 3 asz [.int .i64 v] asA (λ_=>⟨rfl,A,rfl,ku⟩) mZ m7 w.heap.size w mD (Nat.le_refl _) ?_;intro w1 X7 nT))
 go_loopw [8] (λi wr=>∃j:Nat,1<=j/\j<=k/\i = .int .i64 (j:Int)/\Hid (wr.heap[w.heap.size]?=some (.cells (l9 v j k).toArray 3 (0,0)))/\Below w.heap.size w wr) (λi _=>k-(intOf i).toNat)
 case atStart=>exact⟨1,by omega,E,rfl,by
  have:=X7.out;rw[show [Value.int .i64 v]=List.replicate 1 (.int .i64 v)from rfl,aeH v (by omega)]at this;exact this,nT⟩
 case round=>
  obtain⟨j,PB,X8,rfl,I,O⟩:=hrel;by_cases dQ:j<k
  ·have cx:¬ k=j:=by omega
   have D:∃m,m=Nat.min j (k-j):=⟨_,rfl⟩
   obtain⟨m,D⟩:=D;have ru:m<=j/\m<=k-j/\1<=m:=by rw[D];exact⟨Nat.min_le_left ..,Nat.min_le_right ..,Nat.le_min.2 ⟨PB,by omega⟩⟩
   have s1:Hid ((List.replicate m (Value.int .i64 v)).length=Nat.min j (k-j)):=by
    show _=_;rw[List.length_replicate,D]
   have s2:Hid (∀ u∈List.replicate m (Value.int .i64 v),u.oneCell'=true):=λu C=>by
    rw[(List.mem_replicate.1 C).2];rfl
   have s3:Hid (∀ (i:Nat) u,(List.replicate m (Value.int .i64 v))[i]?=some u->wr.drew.cell? ((⟨w.heap.size,0,none⟩:Addr).add i)=some u):=λi u C=>by
    obtain⟨hi,rfl⟩:=List.getElem?_eq_some_iff.1 C;rw[List.length_replicate]at hi;have e:(⟨w.heap.size,0,none⟩:Addr).add i=⟨w.heap.size,i,none⟩:=by unfold Addr.add;split<;>simp_all
    rw[e];show wr.cell? _=_;rw[cell_of_row _ _ _ _ _ _ I.out];simp only[List.getElem_replicate];rw[List.getElem?_toArray];exact aeI v (by omega)
   have s4:Hid (j+(List.replicate m (Value.int .i64 v)).length<=(l9 v j k).length):=by
    show _<=_;rw[List.length_replicate,X6 v X8];omega
   have s5:Hid (wr.drew.heap[w.heap.size]?=some (.cells (l9 v j k).toArray 3 (0,0))):=I.out;have s6:Hid (Below w.heap.size w wr.drew):=O.drew
   go_wp2_with fail
   go_region_law (refine step_copy_splice rfl (.tmp 41) (.tmp 44) 34 34 rfl 3 Tryz.underlying34 aeJ (some ⟨w.heap.size,j,none⟩) (some ⟨w.heap.size,0,none⟩) (k-j) (k-j) j k (by simp[Act.eval,Act.put,cx]) (by simp[Act.eval,Act.put]) w.heap.size j (l9 v j k) 3 s5.out (List.replicate m (.int .i64 v)) s1.out (λ_=>⟨rfl,_,rfl,s3.out⟩) s4.out s2.out w.heap.size w s6.out (Nat.le_refl _) ?_;intro w4 hg4 hb4)
   have J4:IntKind.i64.wrap ((j:Int)+((j.min (k-j):Nat):Int))=((j+m:Nat):Int):=by rw[<-D,IntKind.wrap_i64];omega
   simp[Act.put,Act.eval,goInt,J4]
   go_roundw
   case rel=>
    refine⟨_,_,_,_,_,_,_,_,_,_,_,_,_,_,⟨j+m,?_,?_,?_,?_,hb4⟩,rfl⟩
    ·omega
    ·omega
    ·go_num
    ·have:=hg4.out;rw[aeH v (by omega)]at this;exact this
   case measure=>simp[intOf];omega
  ·obtain rfl:j=k:=by omega
   go_wp2
   go_ret
   exact⟨rfl,O,I.out⟩
def De(l:List Int)(k:Int):Option (List Int):=match l with
 |[v]=>bif decide (1<=k)&&decide (k<=16)then some (List.replicate k.toNat v)else none
 |_=>none
def asC{l:List Int}{k:Int}{y:List Int}(h:De l k=some y):∃ (v:Int) (n:Nat),l=[v]/\k=(n:Int)/\1<=n/\n<=16/\y=List.replicate n v:=by
 unfold De at h;split at h
 ·rename_i v;cases hb:decide (1<=k)&&decide (k<=16)with
  |false=>rw[hb]at h;cases h
  | true=>
   rw[hb,cond_true]at h;injection h with h;rw[Bool.and_eq_true,decide_eq_true_eq,decide_eq_true_eq]at hb;exact⟨v,k.toNat,rfl,by omega,by omega,by omega,h.symm⟩
 ·cases h
def asD{w:World}{B:Nat}{v:Int}{u:Value}(h:RV w B (λ_=>none) [] (.sl .int 0 false [v]) u):∃ b o c,u = .slice (some ⟨b,o,none⟩) 1 c/\b<w.heap.size/\w.cell? ⟨b,o,none⟩=some (.int .i64 v):=by
 generalize C:V.sl .int 0 false [v]=y at h;cases h with
 |int=>cases C
 |bool=>cases C
 |str=>cases C
 |nil=>cases C
 | fq q t I=>
  injection C with D O U E;subst D;exact absurd (eq_of_heq E) (by simp)
 | gy q t I A c Y=>
  injection C with D O U E;subst D;exact absurd (eq_of_heq E) (by simp)
 | gL q t I A c Y=>
  injection C with D O U E;subst D;exact absurd (eq_of_heq E) (by simp)
 | aI q t I Vr l' b off cap uu Y hl hb h1 jM hc hr=>
  injection C with D O U E;subst D;obtain rfl:=eq_of_heq E;have h2:=hc 0 (Nat.zero_lt_succ _) 0 (.int .i64 v) rfl;have h3:=hr 0 (Nat.zero_lt_succ _) 0 (.int .i64 v) rfl;simp only[aH,Nat.zero_mul,Nat.add_zero]at h2;exact⟨b,off,cap,rfl,hb,by rw[h2,h3.iE]⟩
 | own q t I Vr l' b cap cs uu hl hh yg hn hm hc hr=>
  cases hl
def PA.aeK{w:World}{x:V}{u:Value}(h:PA w (false,[x]) u):RV w w.heap.size (λ_=>none) [] x u:=by
 obtain⟨us,e,I,D⟩:=h.pv;have e:us = #[u]:=e;subst e;obtain⟨v,C,E⟩:=D 0 x rfl;simp at C;subst C;exact E
def aeL:jQ:=ir [(false,(.sl .int)),(false,.int)] [(false,(.sl .int),2)] (λx=>De x.1 x.2.1)
def asE:enters Tryz.prog 127/\jl Tryz.prog 127 aeL:=by
 refine⟨⟨_,Tryz.func127,by kernel_rfl,by kernel_rfl⟩,XU λx y hy nm w cE E hQ=>?_⟩
 obtain⟨l,kk,un⟩:=x;obtain⟨v,n,rfl,rfl,D,nt,rfl⟩:=asC (show De l kk=some y from hy);obtain⟨u0,O,qD⟩:=E.2 0 _ rfl;obtain⟨u1,U,Ql⟩:=E.2 1 _ rfl;obtain⟨b,o,c,rfl,hb,ku⟩:=asD (PA.aeK qD);obtain rfl:=(PA.aeK Ql).iE;have CF:cE = #[.slice (some ⟨b,o,none⟩) 1 c,.int .i64 (n:Int)]:=by
  have hs:cE.size=2:=E.1;apply Array.ext (by simpa using hs);intro i D h2;have:i=0\/i=1:=by simp at h2;omega
  rcases this with rfl|rfl
  ·rw[Array.getElem?_eq_getElem D]at O;injection O
  ·rw[Array.getElem?_eq_getElem D]at U;injection U
 subst CF
 refine(asy v ⟨b,o,none⟩ c n D nt w ku hb).mono λe w' uU=>?_
 obtain⟨rfl,iM,Y⟩:=uU;have dQ:=(Array.getElem?_eq_some_iff.1 Y).1
 refine⟨_,λb=>if b=w.heap.size then some [nm 0]else none,rfl,iM,(λb k hb=>?_),?_⟩
 ·by_cases I:b=w.heap.size
  ·simp only[I,if_true]at hb;injection hb with hb;subst hb;subst I;exact⟨Nat.le_refl _,dQ,by simp⟩
  ·simp[I]at hb
 ·refine⟨⟨rfl,#[_],rfl,rfl,λj x C=>?_⟩,trivial⟩
  rcases j with _|j
  ·have C:some (V.sl .int 2 false (List.replicate n v))=some x:=C;injection C with C;subst C;refine⟨_,rfl,?_⟩;have h:=RV.own (w:=w') (B:=w.heap.size) (aj:=λb=>if b=w.heap.size then some [nm 0]else none) [nm 0] .int 0 false (List.replicate n v) w.heap.size n (l9 v n n).toArray (λ_ _=>.int .i64 v) (if_pos rfl) Y (by simp[X6 v (Nat.le_refl n),aH]) (Nat.le_of_eq List.length_replicate) ⟨by unfold maxLen;omega,λh=>by cases h⟩ (λi hi j x C=>?_) (λi hi j x C=>?_)
   ·change RV _ _ _ _ _ (.slice _ (List.replicate n v:List Int).length n)at h;rw[List.length_replicate]at h;exact h
   ·have hi:i<n:=Nat.lt_of_lt_of_eq hi List.length_replicate;obtain rfl:j=0:=by
     have:=(List.getElem?_eq_some_iff.1 C).1;rw[mX]at this;simp only[aH]at this;omega
    simp only[aH,Nat.mul_one,Nat.add_zero];rw[List.getElem?_toArray];exact aeI v hi
   ·have hj:j=0:=by
     have:=(List.getElem?_eq_some_iff.1 C).1;rw[mX]at this;simp only[aH]at this;omega
    subst hj;have C:some (V.int .i64 ((List.replicate n v:List Int)[i]'hi))=some x:=C;have hv:(List.replicate n v:List Int)[i]'hi=v:=List.getElem_replicate ..;injection C with C;subst C;have key:∀ (q:List Nat) (z:Int),z=v->RV w' w.heap.size (λb=>if b=w.heap.size then some [nm 0]else none) q (V.int .i64 z) (.int .i64 v):=by
     rintro q z rfl;exact .int _ _ _
    exact key _ _ hv
  ·have h9:j+1<1:=(List.getElem?_eq_some_iff.1 C).1;omega
end Go.Proofs.YtdfkhfiglknaoaaGreat
