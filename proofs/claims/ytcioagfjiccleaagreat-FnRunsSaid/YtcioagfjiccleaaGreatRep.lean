/-
  slices.Repeat of one number, a few times. Nothing here is a claim.
-/
import Derived.Test.YtcioagfjiccleaaGreatVZ
import Derived.Test.YtcioagfjiccleaaGreatRows
import Derived.Laws.CopyOwn
import Derived.Deep.RegionLaw
import Derived.Handy
import Derived.Deep.OwnRows
namespace Go.Proofs.YtcioagfjiccleaaGreat
open Go.RowKit
set_option linter.unusedVariables false
set_option linter.unusedSimpArgs false
set_option maxRecDepth 100000
theorem ak6{k:Nat}(h:k<=16):k=0\/k=1\/k=2\/k=3\/k=4\/k=5\/k=6\/k=7\/k=8\/k=9\/k=10\/k=11\/k=12\/k=13\/k=14\/k=15\/k=16:=by omega
theorem ak7(k:Nat)(h:k<=16)(w:World):Calls Tryz.prog 156 #[.int .u64 1,.int .u64 (k:Int)] w λe w'=>e = .returned (.tuple #[.int .u64 0,.int .u64 (k:Int)])/\w=w':=by
 go_enter Tryz.func156,Tryz.ntmps156
 go_wp2
 go_ret2
 refine⟨?_,rfl⟩;rcases ak6 h with rfl|rfl|rfl|rfl|rfl|rfl|rfl|rfl|rfl|rfl|rfl|rfl|rfl|rfl|rfl|rfl|rfl<;>kernel_rfl
theorem ak8(k:Nat)(h:k<=16)(w:World):Calls Tryz.prog 141 #[.int .u64 1,.int .u64 (k:Int)] w λe w'=>e = .returned (.tuple #[.int .u64 0,.int .u64 (k:Int)])/\w=w':=by
 go_enter Tryz.func141,Tryz.ntmps141
 go_wp2_with (go_at_call 156;refine(ak7 k h _).mono ?_;rintro e w' ⟨rfl,rfl⟩)
 go_ret2
 exact⟨rfl,rfl⟩
def mQ(v:Int)(j k:Nat):List Value:=List.replicate j (.int .i64 v)++List.replicate (k-j) (.int .i64 0)
theorem US(v:Int){j k:Nat}(h:j<=k):(mQ v j k).length=k:=by simp[mQ];omega
theorem abu(v:Int){j m k:Nat}(h:j+m<=k):Go.splice (mQ v j k) j (List.replicate m (.int .i64 v))=mQ v (j+m) k:=by
 have e1:(mQ v j k).take j=List.replicate j (.int .i64 v):=by simp[mQ]
 have e2:(mQ v j k).drop (j+m)=List.replicate (k-(j+m)) (.int .i64 0):=by
  unfold mQ;rw[List.drop_append,List.length_replicate,List.drop_replicate,List.drop_replicate,show j-(j+m)=0 by omega,List.replicate_zero,List.nil_append];congr 1;omega
 unfold Go.splice;rw[List.length_replicate,e1,e2];simp only[mQ];rw[<-List.replicate_append_replicate,List.append_assoc]
theorem abv(v:Int){j k i:Nat}(h:i<j):(mQ v j k)[i]?=some (.int .i64 v):=by
 unfold mQ;rw[List.getElem?_append_left (by simpa using h)];simp[h]
theorem Tryz.ak9:(Tryz.prog.info? 3).map (λi=>(i.zero,i.size,i.bytes))=some (some (.int .i64 0),1,8):=by kernel_rfl
theorem abw:(Tryz.prog.info? 3).map (·.size)=some 1:=by kernel_rfl
theorem ala(v:Int)(k:Nat):(madeCells #[.int .i64 0] k)=(mQ v 0 k).toArray:=by
 apply Array.ext';rw[toList_madeCells_one];rfl
set_option maxHeartbeats 1000000 in
theorem alb(v:Int)(A:Addr)(c k:Nat)(h1:1<=k)(h:k<=16)(w:World)(hA:w.cell? A=some (.int .i64 v))(hb:A.block<w.heap.size):
  Calls Tryz.prog 113 #[.slice (some A) 1 c,.int .i64 (k:Int)] w λe w'=>e = .returned (.slice (some ⟨w.heap.size,0,none⟩) k k)/\Below w.heap.size w w'/\w'.heap[w.heap.size]?=some (.cells (mQ v k k).toArray 3 (0,0)):=by
 have E2:IntKind.u64.wrap (k:Int)=(k:Int):=by rw[IntKind.wrap_u64];omega
 have eO:IntKind.i64.wrap (k:Int)=(k:Int):=by rw[IntKind.wrap_i64];omega
 have fV:¬ ((k:Int) > 9223372036854775807):=by omega
 obtain⟨i0,CI,uC,Jn,xb⟩:=info_parts Tryz.ak9;have wT:=λW=>run_make_row (P:=Tryz.prog) 34 3 i0 (.int .i64 0) Tryz.underlying34 CI uC Jn rfl .i64 .i64 k (by rw[xb];omega) (by omega) W
 have lz:∀ (j:Nat) u,[Value.int .i64 v][j]?=some u->(w.alloc (.cells (madeCells #[.int .i64 0] k) 3)).cell? (A.add j)=some u:=by
  intro j u hu;rcases j with _|j
  ·simp at hu;subst hu;have e:A.add 0=A:=by unfold Addr.add;split <;>simp_all
   rw[e];exact(World.cell?_alloc_old _ _ _ (Nat.ne_of_lt hb)).trans hA
  ·simp at hu
 have alc:(w.alloc (.cells (madeCells #[.int .i64 0] k) 3)).heap[w.heap.size]?=some (.cells (mQ v 0 k).toArray 3 (0,0)):=by
  rw[ala v];exact heap_alloc_new _ _
 have ji:0+[Value.int .i64 v].length<=(mQ v 0 k).length:=by rw[US v (Nat.zero_le _)];exact h1
 have kR:∀u∈[Value.int .i64 v],u.oneCell'=true:=by simp[Value.oneCell']
 have ald:[Value.int .i64 v].length=Nat.min 1 k:=(Nat.min_eq_left h1).symm;have iE:=(Below.refl w.heap.size w).alloc (Nat.le_refl _) (.cells (madeCells #[.int .i64 0] k) 3)
 go_enter Tryz.func113,Tryz.ntmps113
 go_wp2_with (first|(go_at_call 141;refine(ak8 k h _).mono ?_;rintro e w' ⟨rfl,rfl⟩)|(refine wpList_copy_splice rfl (.tmp 31) (.tmp 32) 34 34 rfl 3 Tryz.underlying34 abw (some ⟨w.heap.size,0,none⟩) (some A) k k 1 c rfl rfl w.heap.size 0 (mQ v 0 k) 3 alc [.int .i64 v] ald (λ_=>⟨rfl,A,rfl,lz⟩) ji kR w.heap.size w iE (Nat.le_refl _) ?_;intro w1 hg1 nI))
 go_loopw [8] (λi wr=>∃j:Nat,1<=j/\j<=k/\i = .int .i64 (j:Int)/\Hid (wr.heap[w.heap.size]?=some (.cells (mQ v j k).toArray 3 (0,0)))/\Below w.heap.size w wr) (λi _=>k-(intOf i).toNat)
 case atStart=>exact⟨1,by omega,h1,rfl,by
  have:=hg1.out;rw[show [Value.int .i64 v]=List.replicate 1 (.int .i64 v)from rfl,abu v (by omega)]at this;exact this,nI⟩
 case round=>
  obtain⟨j,Ni,hjk,rfl,jZ,abx⟩:=hrel;by_cases bC:j<k
  ·have bg:¬ k=j:=by omega
   have hm:∃m,m=Nat.min j (k-j):=⟨_,rfl⟩
   obtain⟨m,hm⟩:=hm;have og:m<=j/\m<=k-j/\1<=m:=by rw[hm];exact⟨Nat.min_le_left ..,Nat.min_le_right ..,Nat.le_min.2 ⟨Ni,by omega⟩⟩
   have s1:Hid ((List.replicate m (Value.int .i64 v)).length=Nat.min j (k-j)):=by
    show _=_;rw[List.length_replicate,hm]
   have s2:Hid (∀ u∈List.replicate m (Value.int .i64 v),u.oneCell'=true):=λu hu=>by
    rw[(List.mem_replicate.1 hu).2];rfl
   have s3:Hid (∀ (i:Nat) u,(List.replicate m (Value.int .i64 v))[i]?=some u->wr.drew.cell? ((⟨w.heap.size,0,none⟩:Addr).add i)=some u):=λi u hu=>by
    obtain⟨hi,rfl⟩:=List.getElem?_eq_some_iff.1 hu;rw[List.length_replicate]at hi;have e:(⟨w.heap.size,0,none⟩:Addr).add i=⟨w.heap.size,i,none⟩:=by unfold Addr.add;split<;>simp_all
    rw[e];show wr.cell? _=_;rw[cell_of_row _ _ _ _ _ _ jZ.out];simp only[List.getElem_replicate];rw[List.getElem?_toArray];exact abv v (by omega)
   have s4:Hid (j+(List.replicate m (Value.int .i64 v)).length<=(mQ v j k).length):=by
    show _<=_;rw[List.length_replicate,US v hjk];omega
   have s5:Hid (wr.drew.heap[w.heap.size]?=some (.cells (mQ v j k).toArray 3 (0,0))):=jZ.out;have s6:Hid (Below w.heap.size w wr.drew):=abx.drew
   go_wp2_with fail
   go_region_law (refine step_copy_splice rfl (.tmp 41) (.tmp 44) 34 34 rfl 3 Tryz.underlying34 abw (some ⟨w.heap.size,j,none⟩) (some ⟨w.heap.size,0,none⟩) (k-j) (k-j) j k (by simp[Act.eval,Act.put,bg]) (by simp[Act.eval,Act.put]) w.heap.size j (mQ v j k) 3 s5.out (List.replicate m (.int .i64 v)) s1.out (λ_=>⟨rfl,_,rfl,s3.out⟩) s4.out s2.out w.heap.size w s6.out (Nat.le_refl _) ?_;intro w4 hg4 hb4)
   have UT:IntKind.i64.wrap ((j:Int)+((j.min (k-j):Nat):Int))=((j+m:Nat):Int):=by rw[<-hm,IntKind.wrap_i64];omega
   simp[Act.put,Act.eval,goInt,UT]
   go_roundw
   case rel=>
    refine⟨_,_,_,_,_,_,_,_,_,_,_,_,_,_,⟨j+m,?_,?_,?_,?_,hb4⟩,rfl⟩
    ·omega
    ·omega
    ·go_num
    ·have:=hg4.out;rw[abu v (by omega)]at this;exact this
   case measure=>simp[intOf];omega
  ·obtain rfl:j=k:=by omega
   go_wp2
   go_ret
   exact⟨rfl,abx,jZ.out⟩
def Dk(l:List Int)(k:Int):Option (List Int):=match l with
 |[v]=>bif decide (1<=k)&&decide (k<=16)then some (List.replicate k.toNat v)else none
 |_=>none
theorem ale{l:List Int}{k:Int}{y:List Int}(h:Dk l k=some y):∃ (v:Int) (n:Nat),l=[v]/\k=(n:Int)/\1<=n/\n<=16/\y=List.replicate n v:=by
 unfold Dk at h;split at h
 ·rename_i v;cases hb:decide (1<=k)&&decide (k<=16)with
  |false=>rw[hb]at h;cases h
  | true=>
   rw[hb,cond_true]at h;injection h with h;rw[Bool.and_eq_true,decide_eq_true_eq,decide_eq_true_eq]at hb;exact⟨v,k.toNat,rfl,by omega,by omega,by omega,h.symm⟩
 ·cases h
theorem alf{w:World}{B:Nat}{v:Int}{u:Value}(h:RV w B (λ_=>none) [] (.sl .int 0 false [v]) u):∃ b o c,u = .slice (some ⟨b,o,none⟩) 1 c/\b<w.heap.size/\w.cell? ⟨b,o,none⟩=some (.int .i64 v):=by
 generalize hy:V.sl .int 0 false [v]=y at h;cases h with
 |int=>cases hy
 |bool=>cases hy
 |str=>cases hy
 |nil=>cases hy
 | dc q t o'=>
  injection hy with e1 e2 e3 e4;subst e1;exact absurd (eq_of_heq e4) (by simp)
 | dg q t o' A c ho=>
  injection hy with e1 e2 e3 e4;subst e1;exact absurd (eq_of_heq e4) (by simp)
 | dz q t o' A c ho=>
  injection hy with e1 e2 e3 e4;subst e1;exact absurd (eq_of_heq e4) (by simp)
 | aA q t o' SH l' b off cap uu ho hl hb h1 ey hc hr=>
  injection hy with e1 e2 e3 e4;subst e1;obtain rfl:=eq_of_heq e4;have h2:=hc 0 (Nat.zero_lt_succ _) 0 (.int .i64 v) rfl;have h3:=hr 0 (Nat.zero_lt_succ _) 0 (.int .i64 v) rfl;simp only[aB,Nat.zero_mul,Nat.add_zero]at h2;exact⟨b,off,cap,rfl,hb,by rw[h2,h3.jk]⟩
 | own q t o' SH l' b cap cs uu hl hh nD hn hm hc hr=>
  cases hl
theorem PA.aby{w:World}{x:V}{u:Value}(h:PA w (false,[x]) u):RV w w.heap.size (λ_=>none) [] x u:=by
 obtain⟨us,e,hs,hv⟩:=h.pv;have e:us = #[u]:=e;subst e;obtain⟨v,h1,h2⟩:=hv 0 x rfl;simp at h1;subst h1;exact h2
def NW:mb:=aZ [(false,(.sl .int)),(false,.int)] [(false,(.sl .int),2)] (λx=>Dk x.1 x.2.1)
theorem alg:enters Tryz.prog 113/\lD Tryz.prog 113 NW:=by
 refine⟨⟨_,Tryz.func113,by kernel_rfl,by kernel_rfl⟩,λX args k r hr=>?_⟩
 simp only[NW,aZ]at hr;split at hr
 ·rename_i x hx;split at hr
  ·rename_i y hy
   refine⟨_,hr,λX' k'=>by simp only[NW,aZ,hx,hy],λnm w bQ jn hQ=>?_⟩
   obtain⟨l,kk,un⟩:=x;obtain⟨v,n,rfl,rfl,h1,gC,rfl⟩:=ale (show Dk l kk=some y from hy);obtain⟨k1,k2⟩:=Jo _ args _ hx;have ha:∀ (j:Nat) p,(jo [(false,(.sl .int)),(false,.int)] ([v],(n:Int),un))[j]?=some p->∃ u,bQ[j]?=some u/\PA w p u:=λj p hp=>by
    obtain⟨q,hq,pX,qM⟩:=k2 j p hp;obtain⟨u,hu,qc⟩:=jn.2 j q hq;refine⟨u,hu,?_⟩;obtain⟨b,ys⟩:=p;obtain⟨b',xs⟩:=q;simp only at pX;subst pX;exact qc.tj qM
   obtain⟨u0,kS,wV⟩:=ha 0 _ rfl;obtain⟨u1,EU,UU⟩:=ha 1 _ rfl;obtain⟨b,o,c,rfl,hb,lz⟩:=alf (PA.aby wV);obtain rfl:=(PA.aby UU).jk;have yI:bQ = #[.slice (some ⟨b,o,none⟩) 1 c,.int .i64 (n:Int)]:=by
    have hs:bQ.size=2:=by rw[jn.1,<-k1];rfl
    apply Array.ext (by simpa using hs);intro i h1 h2;have:i=0\/i=1:=by simp at h2;omega
    rcases this with rfl|rfl
    ·rw[Array.getElem?_eq_getElem h1]at kS;injection kS
    ·rw[Array.getElem?_eq_getElem h1]at EU;injection EU
   subst yI
   refine(alb v ⟨b,o,none⟩ c n h1 gC w lz hb).mono λe w' s8=>?_
   obtain⟨rfl,fk,hh⟩:=s8;have bC:=(Array.getElem?_eq_some_iff.1 hh).1
   refine⟨_,λb=>if b=w.heap.size then some [nm 0]else none,rfl,fk,(λb k hb=>?_),?_⟩
   ·by_cases UW:b=w.heap.size
    ·simp only[UW,if_true]at hb;injection hb with hb;subst hb;subst UW;exact⟨Nat.le_refl _,bC,by simp⟩
    ·simp[UW]at hb
   ·refine⟨⟨rfl,#[_],rfl,rfl,λj x hx=>?_⟩,trivial⟩
    rcases j with _|j
    ·have hx:some (V.sl .int 2 false (List.replicate n v))=some x:=hx;injection hx with hx;subst hx;refine⟨_,rfl,?_⟩;have h:=RV.own (w:=w') (B:=w.heap.size) (ah:=λb=>if b=w.heap.size then some [nm 0]else none) [nm 0] .int 0 false (List.replicate n v) w.heap.size n (mQ v n n).toArray (λ_ _=>.int .i64 v) (if_pos rfl) hh (by simp[US v (Nat.le_refl n),aB]) (Nat.le_of_eq List.length_replicate) ⟨by unfold maxLen;omega,λh=>by cases h⟩ (λi hi j x hx=>?_) (λi hi j x hx=>?_)
     ·change RV _ _ _ _ _ (.slice _ (List.replicate n v:List Int).length n)at h;rw[List.length_replicate]at h;exact h
     ·have hi:i<n:=Nat.lt_of_lt_of_eq hi List.length_replicate;obtain rfl:j=0:=by
       have:=(List.getElem?_eq_some_iff.1 hx).1;rw[lO]at this;simp only[aB]at this;omega
      simp only[aB,Nat.mul_one,Nat.add_zero];rw[List.getElem?_toArray];exact abv v hi
     ·have hj:j=0:=by
       have:=(List.getElem?_eq_some_iff.1 hx).1;rw[lO]at this;simp only[aB]at this;omega
      subst hj;have hx:some (V.int .i64 ((List.replicate n v:List Int)[i]'hi))=some x:=hx;have hv:(List.replicate n v:List Int)[i]'hi=v:=List.getElem_replicate ..;injection hx with hx;subst hx;have key:∀ (q:List Nat) (z:Int),z=v->RV w' w.heap.size (λb=>if b=w.heap.size then some [nm 0]else none) q (V.int .i64 z) (.int .i64 v):=by
       rintro q z rfl;exact .int _ _ _
      exact key _ _ hv
    ·have h9:j+1<1:=(List.getElem?_eq_some_iff.1 hx).1;omega
  ·cases hr
 ·cases hr
end Go.Proofs.YtcioagfjiccleaaGreat
