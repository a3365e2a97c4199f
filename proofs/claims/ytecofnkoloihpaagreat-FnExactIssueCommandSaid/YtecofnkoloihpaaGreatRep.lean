/-
  slices.Repeat of one number, a few times. Nothing here is a claim.
-/
import Derived.Test.YtecofnkoloihpaaGreatVZ
import Derived.Test.YtecofnkoloihpaaGreatRows
import Derived.Laws.CopyOwn
import Derived.Deep.RegionLaw
import Derived.Handy
import Derived.Deep.OwnRows
namespace Go.Proofs.YtecofnkoloihpaaGreat
open Go.RowKit
set_option linter.unusedVariables false
set_option linter.unusedSimpArgs false
set_option maxRecDepth 100000
theorem an8{k:Nat}(h:k<=16):k=0\/k=1\/k=2\/k=3\/k=4\/k=5\/k=6\/k=7\/k=8\/k=9\/k=10\/k=11\/k=12\/k=13\/k=14\/k=15\/k=16:=by omega
theorem an9(k:Nat)(h:k<=16)(w:World):Calls Tryz.prog 355 #[.int .u64 1,.int .u64 (k:Int)] w λe w'=>e = .returned (.tuple #[.int .u64 0,.int .u64 (k:Int)])/\w=w':=by
 go_enter Tryz.func355,Tryz.ntmps355
 go_wp2
 go_ret2
 refine⟨?_,rfl⟩;rcases an8 h with rfl|rfl|rfl|rfl|rfl|rfl|rfl|rfl|rfl|rfl|rfl|rfl|rfl|rfl|rfl|rfl|rfl<;>kernel_rfl
theorem aoa(k:Nat)(h:k<=16)(w:World):Calls Tryz.prog 342 #[.int .u64 1,.int .u64 (k:Int)] w λe w'=>e = .returned (.tuple #[.int .u64 0,.int .u64 (k:Int)])/\w=w':=by
 go_enter Tryz.func342,Tryz.ntmps342
 go_wp2_with (go_at_call 355;refine(an9 k h _).mono ?_;rintro e w' ⟨rfl,rfl⟩)
 go_ret2
 exact⟨rfl,rfl⟩
def mE(v:Int)(j k:Nat):List Value:=List.replicate j (.int .i64 v)++List.replicate (k-j) (.int .i64 0)
theorem Vs(v:Int){j k:Nat}(h:j<=k):(mE v j k).length=k:=by simp[mE];omega
theorem acJ(v:Int){j m k:Nat}(h:j+m<=k):Go.splice (mE v j k) j (List.replicate m (.int .i64 v))=mE v (j+m) k:=by
 have e1:(mE v j k).take j=List.replicate j (.int .i64 v):=by simp[mE]
 have e2:(mE v j k).drop (j+m)=List.replicate (k-(j+m)) (.int .i64 0):=by
  unfold mE;rw[List.drop_append,List.length_replicate,List.drop_replicate,List.drop_replicate,show j-(j+m)=0 by omega,List.replicate_zero,List.nil_append];congr 1;omega
 unfold Go.splice;rw[List.length_replicate,e1,e2];simp only[mE];rw[<-List.replicate_append_replicate,List.append_assoc]
theorem acK(v:Int){j k i:Nat}(h:i<j):(mE v j k)[i]?=some (.int .i64 v):=by
 unfold mE;rw[List.getElem?_append_left (by simpa using h)];simp[h]
theorem Tryz.aob:(Tryz.prog.info? 3).map (λi=>(i.zero,i.size,i.bytes))=some (some (.int .i64 0),1,8):=by kernel_rfl
theorem acL:(Tryz.prog.info? 3).map (·.size)=some 1:=by kernel_rfl
theorem aoc(v:Int)(k:Nat):(madeCells #[.int .i64 0] k)=(mE v 0 k).toArray:=by
 apply Array.ext';rw[toList_madeCells_one];rfl
set_option maxHeartbeats 1000000 in
theorem aod(v:Int)(A:Addr)(c k:Nat)(h1:1<=k)(h:k<=16)(w:World)(hA:w.cell? A=some (.int .i64 v))(hb:A.block<w.heap.size):
  Calls Tryz.prog 323 #[.slice (some A) 1 c,.int .i64 (k:Int)] w λe w'=>e = .returned (.slice (some ⟨w.heap.size,0,none⟩) k k)/\Below w.heap.size w w'/\w'.heap[w.heap.size]?=some (.cells (mE v k k).toArray 3 (0,0)):=by
 have El:IntKind.u64.wrap (k:Int)=(k:Int):=by rw[IntKind.wrap_u64];omega
 have kT:IntKind.i64.wrap (k:Int)=(k:Int):=by rw[IntKind.wrap_i64];omega
 have lV:¬ ((k:Int) > 9223372036854775807):=by omega
 obtain⟨i0,BS,hz0,Vc,Ej⟩:=info_parts Tryz.aob;have vV:=λW=>run_make_row (P:=Tryz.prog) 32 3 i0 (.int .i64 0) Tryz.underlying32 BS hz0 Vc rfl .i64 .i64 k (by rw[Ej];omega) (by omega) W
 have kO:∀ (j:Nat) u,[Value.int .i64 v][j]?=some u->(w.alloc (.cells (madeCells #[.int .i64 0] k) 3)).cell? (A.add j)=some u:=by
  intro j u hu;rcases j with _|j
  ·simp at hu;subst hu;have e:A.add 0=A:=by unfold Addr.add;split <;>simp_all
   rw[e];exact(World.cell?_alloc_old _ _ _ (Nat.ne_of_lt hb)).trans hA
  ·simp at hu
 have aoe:(w.alloc (.cells (madeCells #[.int .i64 0] k) 3)).heap[w.heap.size]?=some (.cells (mE v 0 k).toArray 3 (0,0)):=by
  rw[aoc v];exact heap_alloc_new _ _
 have iG:0+[Value.int .i64 v].length<=(mE v 0 k).length:=by rw[Vs v (Nat.zero_le _)];exact h1
 have ko:∀u∈[Value.int .i64 v],u.oneCell'=true:=by simp[Value.oneCell']
 have aof:[Value.int .i64 v].length=Nat.min 1 k:=(Nat.min_eq_left h1).symm;have iV:=(Below.refl w.heap.size w).alloc (Nat.le_refl _) (.cells (madeCells #[.int .i64 0] k) 3)
 go_enter Tryz.func323,Tryz.ntmps323
 go_wp2_with (first|(go_at_call 342;refine(aoa k h _).mono ?_;rintro e w' ⟨rfl,rfl⟩)|(refine wpList_copy_splice rfl (.tmp 31) (.tmp 32) 32 32 rfl 3 Tryz.underlying32 acL (some ⟨w.heap.size,0,none⟩) (some A) k k 1 c rfl rfl w.heap.size 0 (mE v 0 k) 3 aoe [.int .i64 v] aof (λ_=>⟨rfl,A,rfl,kO⟩) iG ko w.heap.size w iV (Nat.le_refl _) ?_;intro w1 Vt nY))
 go_loopw [8] (λi wr=>∃j:Nat,1<=j/\j<=k/\i = .int .i64 (j:Int)/\Hid (wr.heap[w.heap.size]?=some (.cells (mE v j k).toArray 3 (0,0)))/\Below w.heap.size w wr) (λi _=>k-(intOf i).toNat)
 case atStart=>exact⟨1,by omega,h1,rfl,by
  have:=Vt.out;rw[show [Value.int .i64 v]=List.replicate 1 (.int .i64 v)from rfl,acJ v (by omega)]at this;exact this,nY⟩
 case round=>
  obtain⟨j,hj1,hjk,rfl,kj,acM⟩:=hrel;by_cases bW:j<k
  ·have br:¬ k=j:=by omega
   have hm:∃m,m=Nat.min j (k-j):=⟨_,rfl⟩
   obtain⟨m,hm⟩:=hm;have pn:m<=j/\m<=k-j/\1<=m:=by rw[hm];exact⟨Nat.min_le_left ..,Nat.min_le_right ..,Nat.le_min.2 ⟨hj1,by omega⟩⟩
   have s1:Hid ((List.replicate m (Value.int .i64 v)).length=Nat.min j (k-j)):=by
    show _=_;rw[List.length_replicate,hm]
   have s2:Hid (∀ u∈List.replicate m (Value.int .i64 v),u.oneCell'=true):=λu hu=>by
    rw[(List.mem_replicate.1 hu).2];rfl
   have s3:Hid (∀ (i:Nat) u,(List.replicate m (Value.int .i64 v))[i]?=some u->wr.drew.cell? ((⟨w.heap.size,0,none⟩:Addr).add i)=some u):=λi u hu=>by
    obtain⟨hi,rfl⟩:=List.getElem?_eq_some_iff.1 hu;rw[List.length_replicate]at hi;have e:(⟨w.heap.size,0,none⟩:Addr).add i=⟨w.heap.size,i,none⟩:=by unfold Addr.add;split<;>simp_all
    rw[e];show wr.cell? _=_;rw[cell_of_row _ _ _ _ _ _ kj.out];simp only[List.getElem_replicate];rw[List.getElem?_toArray];exact acK v (by omega)
   have s4:Hid (j+(List.replicate m (Value.int .i64 v)).length<=(mE v j k).length):=by
    show _<=_;rw[List.length_replicate,Vs v hjk];omega
   have s5:Hid (wr.drew.heap[w.heap.size]?=some (.cells (mE v j k).toArray 3 (0,0))):=kj.out;have s6:Hid (Below w.heap.size w wr.drew):=acM.drew
   go_wp2_with fail
   go_region_law (refine step_copy_splice rfl (.tmp 41) (.tmp 44) 32 32 rfl 3 Tryz.underlying32 acL (some ⟨w.heap.size,j,none⟩) (some ⟨w.heap.size,0,none⟩) (k-j) (k-j) j k (by simp[Act.eval,Act.put,br]) (by simp[Act.eval,Act.put]) w.heap.size j (mE v j k) 3 s5.out (List.replicate m (.int .i64 v)) s1.out (λ_=>⟨rfl,_,rfl,s3.out⟩) s4.out s2.out w.heap.size w s6.out (Nat.le_refl _) ?_;intro w4 hg4 hb4)
   have hwr:IntKind.i64.wrap ((j:Int)+((j.min (k-j):Nat):Int))=((j+m:Nat):Int):=by rw[<-hm,IntKind.wrap_i64];omega
   simp[Act.put,Act.eval,goInt,hwr]
   go_roundw
   case rel=>
    refine⟨_,_,_,_,_,_,_,_,_,_,_,_,_,_,⟨j+m,?_,?_,?_,?_,hb4⟩,rfl⟩
    ·omega
    ·omega
    ·go_num
    ·have:=hg4.out;rw[acJ v (by omega)]at this;exact this
   case measure=>simp[intOf];omega
  ·obtain rfl:j=k:=by omega
   go_wp2
   go_ret
   exact⟨rfl,acM,kj.out⟩
def Cs(l:List Int)(k:Int):Option (List Int):=match l with
 |[v]=>bif decide (1<=k)&&decide (k<=16)then some (List.replicate k.toNat v)else none
 |_=>none
theorem aog{l:List Int}{k:Int}{y:List Int}(h:Cs l k=some y):∃ (v:Int) (n:Nat),l=[v]/\k=(n:Int)/\1<=n/\n<=16/\y=List.replicate n v:=by
 unfold Cs at h;split at h
 ·rename_i v;cases hb:decide (1<=k)&&decide (k<=16)with
  |false=>rw[hb]at h;cases h
  | true=>
   rw[hb,cond_true]at h;injection h with h;rw[Bool.and_eq_true,decide_eq_true_eq,decide_eq_true_eq]at hb;exact⟨v,k.toNat,rfl,by omega,by omega,by omega,h.symm⟩
 ·cases h
theorem aoh{w:World}{B:Nat}{v:Int}{u:Value}(h:RV w B (λ_=>none) [] (.sl .int 0 false [v]) u):∃ b o c,u = .slice (some ⟨b,o,none⟩) 1 c/\b<w.heap.size/\w.cell? ⟨b,o,none⟩=some (.int .i64 v):=by
 generalize hy:V.sl .int 0 false [v]=y at h;cases h with
 |int=>cases hy
 |bool=>cases hy
 |str=>cases hy
 |nil=>cases hy
 | c9 q t o'=>
  injection hy with e1 e2 e3 e4;subst e1;exact absurd (eq_of_heq e4) (by simp)
 | dm q t o' A c ho=>
  injection hy with e1 e2 e3 e4;subst e1;exact absurd (eq_of_heq e4) (by simp)
 | dD q t o' A c ho=>
  injection hy with e1 e2 e3 e4;subst e1;exact absurd (eq_of_heq e4) (by simp)
 | az q t o' To l' b off cap uu ho hl hb h1 eA hc hr=>
  injection hy with e1 e2 e3 e4;subst e1;obtain rfl:=eq_of_heq e4;have h2:=hc 0 (Nat.zero_lt_succ _) 0 (.int .i64 v) rfl;have h3:=hr 0 (Nat.zero_lt_succ _) 0 (.int .i64 v) rfl;simp only[aB,Nat.zero_mul,Nat.add_zero]at h2;exact⟨b,off,cap,rfl,hb,by rw[h2,h3.jf]⟩
 | own q t o' To l' b cap cs uu hl hh ny hn hm hc hr=>
  cases hl
theorem PA.acN{w:World}{x:V}{u:Value}(h:PA w (false,[x]) u):RV w w.heap.size (λ_=>none) [] x u:=by
 obtain⟨us,e,hs,hv⟩:=h.pv;have e:us = #[u]:=e;subst e;obtain⟨v,h1,h2⟩:=hv 0 x rfl;simp at h1;subst h1;exact h2
def NR:lD:=aE [(false,(.sl .int)),(false,.int)] [(false,(.sl .int),2)] (λx=>Cs x.1 x.2.1)
theorem aoi:enters Tryz.prog 323/\kz Tryz.prog 323 NR:=by
 refine⟨⟨_,Tryz.func323,by kernel_rfl,by kernel_rfl⟩,λX args k r hr=>?_⟩
 simp only[NR,aE]at hr;split at hr
 ·rename_i x hx;split at hr
  ·rename_i y hy
   refine⟨_,hr,λX' k'=>by simp only[NR,aE,hx,hy],λnm w cq iR hQ=>?_⟩
   obtain⟨l,kk,un⟩:=x;obtain⟨v,n,rfl,rfl,h1,jd,rfl⟩:=aog (show Cs l kk=some y from hy);obtain⟨k1,k2⟩:=Ik _ args _ hx;have ha:∀ (j:Nat) p,(iT [(false,(.sl .int)),(false,.int)] ([v],(n:Int),un))[j]?=some p->∃ u,cq[j]?=some u/\PA w p u:=λj p hp=>by
    obtain⟨q,hq,qe,so⟩:=k2 j p hp;obtain⟨u,hu,pE⟩:=iR.2 j q hq;refine⟨u,hu,?_⟩;obtain⟨b,ys⟩:=p;obtain⟨b',xs⟩:=q;simp only at qe;subst qe;exact pE.sC so
   obtain⟨u0,kr,zM⟩:=ha 0 _ rfl;obtain⟨u1,MG,hp1⟩:=ha 1 _ rfl;obtain⟨b,o,c,rfl,hb,kO⟩:=aoh (PA.acN zM);obtain rfl:=(PA.acN hp1).jf;have BG:cq = #[.slice (some ⟨b,o,none⟩) 1 c,.int .i64 (n:Int)]:=by
    have hs:cq.size=2:=by rw[iR.1,<-k1];rfl
    apply Array.ext (by simpa using hs);intro i h1 h2;have:i=0\/i=1:=by simp at h2;omega
    rcases this with rfl|rfl
    ·rw[Array.getElem?_eq_getElem h1]at kr;injection kr
    ·rw[Array.getElem?_eq_getElem h1]at MG;injection MG
   subst BG
   refine(aod v ⟨b,o,none⟩ c n h1 jd w kO hb).mono λe w' uA=>?_
   obtain⟨rfl,kN,hh⟩:=uA;have bW:=(Array.getElem?_eq_some_iff.1 hh).1
   refine⟨_,λb=>if b=w.heap.size then some [nm 0]else none,rfl,kN,(λb k hb=>?_),?_⟩
   ·by_cases Vu:b=w.heap.size
    ·simp only[Vu,if_true]at hb;injection hb with hb;subst hb;subst Vu;exact⟨Nat.le_refl _,bW,by simp⟩
    ·simp[Vu]at hb
   ·refine⟨⟨rfl,#[_],rfl,rfl,λj x hx=>?_⟩,trivial⟩
    rcases j with _|j
    ·have hx:some (V.sl .int 2 false (List.replicate n v))=some x:=hx;injection hx with hx;subst hx;refine⟨_,rfl,?_⟩;have h:=RV.own (w:=w') (B:=w.heap.size) (aj:=λb=>if b=w.heap.size then some [nm 0]else none) [nm 0] .int 0 false (List.replicate n v) w.heap.size n (mE v n n).toArray (λ_ _=>.int .i64 v) (if_pos rfl) hh (by simp[Vs v (Nat.le_refl n),aB]) (Nat.le_of_eq List.length_replicate) ⟨by unfold maxLen;omega,λh=>by cases h⟩ (λi hi j x hx=>?_) (λi hi j x hx=>?_)
     ·change RV _ _ _ _ _ (.slice _ (List.replicate n v:List Int).length n)at h;rw[List.length_replicate]at h;exact h
     ·have hi:i<n:=Nat.lt_of_lt_of_eq hi List.length_replicate;obtain rfl:j=0:=by
       have:=(List.getElem?_eq_some_iff.1 hx).1;rw[lA]at this;simp only[aB]at this;omega
      simp only[aB,Nat.mul_one,Nat.add_zero];rw[List.getElem?_toArray];exact acK v hi
     ·have hj:j=0:=by
       have:=(List.getElem?_eq_some_iff.1 hx).1;rw[lA]at this;simp only[aB]at this;omega
      subst hj;have hx:some (V.int .i64 ((List.replicate n v:List Int)[i]'hi))=some x:=hx;have hv:(List.replicate n v:List Int)[i]'hi=v:=List.getElem_replicate ..;injection hx with hx;subst hx;have key:∀ (q:List Nat) (z:Int),z=v->RV w' w.heap.size (λb=>if b=w.heap.size then some [nm 0]else none) q (V.int .i64 z) (.int .i64 v):=by
       rintro q z rfl;exact .int _ _ _
      exact key _ _ hv
    ·have h9:j+1<1:=(List.getElem?_eq_some_iff.1 hx).1;omega
  ·cases hr
 ·cases hr
end Go.Proofs.YtecofnkoloihpaaGreat
