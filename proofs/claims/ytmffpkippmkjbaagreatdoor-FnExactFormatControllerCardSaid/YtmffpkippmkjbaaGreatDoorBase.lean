/- Plain lemmas without the program: bytes, hexadecimal digits, bits, slices that own a row. Nothing here is a claim. -/
import Derived.WalkKit
import Derived.Laws.BitsAllLaws
import Derived.Laws.BitsLemmas
import Derived.Lib.Hide
import Derived.Deep.Draws
import Derived.Lib.Bytealg
import Derived.Laws.OwnMore
import Derived.Deep.AppendLies
import Derived.Laws.Rows
namespace Go.Proofs.YtmffpkippmkjbaaGreatDoor
open Go.RowKit
theorem aqU{k:IntKind}{a b:Int}(h:a=b):Ending.returned (.int k a) = .returned (.int k b):=by rw[h]
theorem aqV{a b:ByteArray}(h:a=b):Ending.returned (.string a) = .returned (.string b):=by rw[h]
/-- A string of bytes. -/
def bs(l:List UInt8):ByteArray:=⟨l.toArray⟩
theorem aqW(l m:List UInt8):bs l++bs m=bs (l++m):=by
 apply ByteArray.ext
 simp[bs]
theorem aqX(l:List UInt8):(bs l).size=l.length:=by simp[bs,ByteArray.size]
theorem aqY(s:ByteArray):bs s.data.toList=s:=by simp[bs]
theorem xK(a:Nat)(ha:a<9223372036854775808):(BitVec.ofInt 64 (a:Int)).toNat=a:=by
 rw[BitVec.ofInt_natCast,BitVec.toNat_ofNat];exact Nat.mod_eq_of_lt (by omega)
theorem aaH(a b:Nat)(ha:a<9223372036854775808)(hb:b<9223372036854775808):bits .and .i64 (a:Int) (b:Int)=((a &&& b:Nat):Int):=by
 have hx:a &&& b<2 ^ 63:=Nat.and_lt_two_pow _ (by omega)
 show IntKind.i64.wrap ((BitVec.ofInt 64 (a:Int) &&& BitVec.ofInt 64 (b:Int)).toNat:Int)=_
 rw[BitVec.toNat_and,xK a ha,xK b hb,IntKind.wrap_i64]
 omega
theorem aaI(a b:Nat)(ha:a<9223372036854775808)(hb:b<9223372036854775808):bits .or .i64 (a:Int) (b:Int)=((a ||| b:Nat):Int):=by
 have hx:a ||| b<2 ^ 63:=Nat.or_lt_two_pow (by omega) (by omega)
 show IntKind.i64.wrap ((BitVec.ofInt 64 (a:Int) ||| BitVec.ofInt 64 (b:Int)).toNat:Int)=_
 rw[BitVec.toNat_or,xK a ha,xK b hb,IntKind.wrap_i64]
 omega
theorem aqZ(a b:Nat)(ha:a<9223372036854775808)(hb:b<9223372036854775808):bits .xor .i64 (a:Int) (b:Int)=((a ^^^ b:Nat):Int):=by
 have hx:a ^^^ b<2 ^ 63:=Nat.xor_lt_two_pow (by omega) (by omega)
 show IntKind.i64.wrap ((BitVec.ofInt 64 (a:Int) ^^^ BitVec.ofInt 64 (b:Int)).toNat:Int)=_
 rw[BitVec.toNat_xor,xK a ha,xK b hb,IntKind.wrap_i64]
 omega
theorem aq0(a:Int)(h0:0<=a)(h1:a<=9223372036854775807):bits .and .i64 a 15=((a.toNat % 16:Nat):Int):=by
 obtain⟨n,rfl⟩:=Int.eq_ofNat_of_zero_le h0
 have h:=aaH n 15 (by omega) (by omega)
 rw[nat_mask4]at h
 simpa using h
/-- Whether n lies from a to b. -/
def tB(n a b:Int):Bool:=decide (a<=n/\n<=b)
theorem aq1{n a b:Int}(h:tB n a b=true):a<=n/\n<=b:=by simpa [tB]using h
theorem aq2{n a b:Int}(h:tB n a b=false):¬ (a<=n/\n<=b):=by simpa [tB]using h
theorem aq3{n a b:Int}(h:a<=n)(h':n<=b):tB n a b=true:=by simp[tB,h,h']
theorem aq4{n a b:Int}(h:¬ (a<=n/\n<=b)):tB n a b=false:=by simpa [tB]using h
/-- The digit of a number below 16. -/
def Ev(d:Nat):UInt8:=if d<10 then UInt8.ofNat (48+d)else UInt8.ofNat (87+d)
def I4:ByteArray:={ data:=#[48,49,50,51,52,53,54,55,56,57,97,98,99,100,101,102] }
theorem aq5:∀ d:Nat,d<16->I4.extract d (d+1)=bs [Ev d]:=by decide
theorem aq6:∀ d:Nat,d<16->((Ev d).toNat:Int)=if (d:Int)<10 then 48+(d:Int)else 87+(d:Int):=by decide
/-- The first k of the eight digits of a word. -/
def fwd(x:Nat)(j:Nat):Nat:=x / 2 ^ (28-4*j) % 16
def fw(x:Nat)(k:Nat):List UInt8:=(List.range k).map fun j=>Ev (fwd x j)
theorem aq7(x k:Nat):fw x (k+1)=fw x k++[Ev (fwd x k)]:=by simp[fw,List.range_succ]
theorem aq8(x k:Nat):(fw x k).length=k:=by simp[fw]
theorem aq9(x j:Nat):fwd x j<16:=by unfold fwd;omega
theorem ara{w0 wr w1:World}{B:Nat}{e:TypeId}{size n:Nat}{v:Value}{xs:List Value}{o:Obj}(ep:Below B w0 wr)(hB:B<=wr.heap.size)
  (eD:wr.ownsRow B e size v n xs) (hg:(wr.alloc o).grownBy w1 v.ownBlock):Below B w0 w1:=
 (ep.alloc hB o).grown hg (by simp;omega) (fun k hk=>(eD.lt k hk).1)
theorem arb{u:Value}(h:u.oneCell'=true):∀ x∈[u],x.oneCell'=true:=by simpa using h
/-- The cells of a slice of bytes. -/
def tC(l:List UInt8):List Value:=l.map fun c=>Value.int .u8 (c.toNat:Int)
theorem arc(l m:List UInt8):tC (l++m)=tC l++tC m:=by simp[tC]
theorem aaJ(l:List UInt8):(tC l).length=l.length:=by simp[tC]
theorem ard{P:Program}{w:World}{base:Nat}{e:TypeId}{v:Value}{n:Nat}{l:List UInt8}(src dst:TypeId)
  (hs:P.underlying src=some (.slice e)) (he:P.underlying e=some (.int .u8)) (hd:P.underlying dst=some .string)
  (h:w.ownsRow base e 1 v n (tC l)):(convert src dst v).run P w = .ok (.string (bs l)) w:=by
 have hn:n=l.length:=by have:=h.1;simp[aaJ]at this;exact this.symm
 rcases h.2 with ⟨rfl,h0⟩ | ⟨g,cap,cur,rfl,_,hg,_,_,hsz,ht⟩
 ·have:l=[]:=List.eq_nil_of_length_eq_zero (by omega)
  subst this
  rw[run_convert_bytes_nil w src e hs he _ _ dst hd]
  rfl
 ·rw[run_convert_bytes_arg w src e hs he g 0 n cap (l.map fun c=>(c.toNat:Int)) (by simp[hn]) (fun i hi=>?_) dst hd]
  ·congr 1
   congr 1
   simp[strOfNums,bs,Function.comp_def]
  ·have hc:=h.cells (g:=g) rfl i (.int .u8 ((l.map fun c=>(c.toNat:Int)).getD i 0)) (by
    have hil:i<l.length:=by omega
    simp[tC,hil])
   have n8:(⟨g,0,none⟩:Addr).add i=⟨g,i,none⟩:=by unfold Addr.add;split <;>simp_all
   rw[n8]at hc
   simpa using hc
/-- The value of a hexadecimal digit,-1 for another byte. -/
def lz(c:UInt8):Int:=if 48<=(c.toNat:Int)/\(c.toNat:Int)<=57 then (c.toNat:Int)-48 else if 97<=(c.toNat:Int)/\(c.toNat:Int)<=102 then (c.toNat:Int)-87 else -1
theorem aaK(c:UInt8):-1<=lz c/\lz c<=15:=by
 unfold lz
 split
 ·omega
 ·split <;>omega
theorem arf:∀ c:UInt8,Lib.indexByte I4.data.toList c=lz c:=by
 have h:∀ n:Fin 256,Lib.indexByte I4.data.toList (UInt8.ofNat n.val)=lz (UInt8.ofNat n.val):=by decide +kernel
 intro c
 have:=h ⟨c.toNat,c.toNat_lt⟩
 simpa using this
/-- The number that digits stand for. -/
def q9(l:List UInt8):Int:=l.foldl (fun a c=>16*a+lz c) 0
theorem aaL(l:List UInt8)(c:UInt8):q9 (l++[c])=16*q9 l+lz c:=by simp[q9]
theorem arh:∀ (k:Nat) (l:List UInt8),l.length=k->(∀ c∈l,0<=lz c)->0<=q9 l/\q9 l<16 ^ k:=by
 intro k
 induction k with
 | zero=>intro l hl _;have:l=[]:=List.eq_nil_of_length_eq_zero hl;subst this;simp[q9]
 | succ k ih=>
  intro l hl h
  have aK:l≠[]:=by intro e;subst e;simp at hl
  have e:=List.dropLast_concat_getLast aK
  have hd:l.dropLast.length=k:=by simp[hl]
  have:=ih l.dropLast hd (fun c hc=>h c (List.dropLast_subset _ hc))
  have hx:=aaK (l.getLast aK)
  have h0:=h _ (List.getLast_mem aK)
  rw[<-e,aaL]
  generalize q9 l.dropLast=a at *
  generalize lz (l.getLast aK)=b at *
  rw[Int.pow_succ]
  generalize (16:Int) ^ k=p at *
  omega
def oS(l:List UInt8):Bool:=l.length==8&&l.all fun c=>decide (0<=lz c)
def Ew(l:List UInt8):Int:=if oS l then q9 l else 0
theorem ari(s:ByteArray)(k:Nat)(h:k<s.size):s.data.toList.take (k+1)=s.data.toList.take k++[s[k]]:=by
 rw[List.take_succ_eq_append_getElem (by simpa using h)];rfl
theorem arj{s:ByteArray}{k:Nat}(h:k<s.size)(hx:lz s[k]<0):oS s.data.toList=false:=by
 have hm:s[k]∈s.data.toList:=by
  have:s[k]=s.data.toList[k]'(by simpa using h):=rfl
  rw[this];exact List.getElem_mem _
 unfold oS
 rw[Bool.and_eq_false_iff]
 right
 rw[List.all_eq_false]
 exact⟨_,hm,by rw[decide_eq_true_iff];omega⟩
theorem ark{s:ByteArray}(h:s.size=8)(hx:∀ c∈s.data.toList.take 8,0<=lz c):oS s.data.toList=true:=by
 have hl:s.data.toList.length=8:=h
 rw[List.take_of_length_le (by omega)]at hx
 unfold oS
 rw[hl,List.all_eq_true.2 (fun c hc=>by rw[decide_eq_true_iff];exact hx c hc)]
 rfl
theorem arl(a d:Int)(h0:0<=a)(h1:a<=4294967295)(h2:0<=d)(h3:d<16):bits .or .i64 (a*16) d=16*a+d:=by
 obtain⟨m,rfl⟩:=Int.eq_ofNat_of_zero_le h0
 obtain⟨n,rfl⟩:=Int.eq_ofNat_of_zero_le h2
 have h:=aaI (m*16) n (by omega) (by omega)
 rw[nat_join 4 (m*16) n (by omega) (by omega)]at h
 rw[show ((m:Int)*16)=((m*16:Nat):Int) by omega,h]
 omega
theorem arn(k:Nat)(h:k<=7):(16:Int) ^ k<=268435456:=by
 have:∀ k,k<8->(16:Int) ^ k<=268435456:=by decide
 exact this k (by omega)
theorem aaM(s:ByteArray):s.size=s.data.toList.length:=rfl
theorem aro{l:List UInt8}(h:oS l=false):Ending.returned (.tuple #[.int .i64 0,.bool false]) = .returned (.tuple #[.int .i64 (Ew l),.bool (oS l)]):=by
 simp[Ew,h]
theorem arp{l:List UInt8}(h:oS l=true):Ending.returned (.tuple #[.int .i64 (q9 l),.bool true]) = .returned (.tuple #[.int .i64 (Ew l),.bool (oS l)]):=by
 simp[Ew,h]
theorem arq{s:ByteArray}(h:¬ s.size=8):oS s.data.toList=false:=by
 unfold oS
 have:(s.data.toList.length==8)=false:=by rw[<-aaM];simpa using h
 rw[this]
 rfl
theorem ars{l m:List UInt8}{c:UInt8}(e:m=l++[c])(h:Hid (∀ x∈l,0<=lz x))(hc:¬ lz c<0):Hid (∀ x∈m,0<=lz x):=by
 subst e
 intro x hx
 rcases List.mem_append.1 hx with hx | hx
 ·exact h x hx
 ·have:x=c:=by simpa using hx
  subst this
  omega
/-! Slices that read as a list;blocks that are known whole (after howto/extra-words.md). -/
/-- The slice value '.slice A n c' holds the cells xs ('size' cells an element) and lies below block B. -/
def Reads(w:World)(B size:Nat)(A:Option Addr)(n:Nat)(xs:List Value):Prop:=
 xs.length=n*size/\(0<n->∃ b off,A=some ⟨b,off,none⟩/\b<B/\∀ j u,xs[j]?=some u->w.cell? ⟨b,off+j,none⟩=some u)
section
variable {w w':World} {B B' size n:Nat} {A:Option Addr} {xs:List Value}
theorem Reads.none_:Reads w B size A 0 []:=⟨by simp,fun h=>absurd h (by omega)⟩
theorem Reads.at_{k:Nat}(h:Reads w B 1 A n xs)(hk:k<n):∃ b off u,A=some ⟨b,off,none⟩/\b<B/\xs[k]?=some u/\w.cell? ⟨b,off+k,none⟩=some u:=by
 obtain⟨b,off,e,hb,hc⟩:=h.2 (by omega)
 have hl:k<xs.length:=by have:=h.1;omega
 exact⟨b,off,xs[k],e,hb,List.getElem?_eq_getElem hl,hc k _ (List.getElem?_eq_getElem hl)⟩
theorem Reads.dL(h:Reads w B size A n xs)(hk:∀ p:Addr,p.block<B->w'.cell? p=w.cell? p):Reads w' B size A n xs:=
 ⟨h.1,fun hn=>by
  obtain⟨b,off,e,hb,hc⟩:=h.2 hn
  exact⟨b,off,e,hb,fun j u hu=>(hk _ hb).trans (hc j u hu)⟩⟩
theorem Reads.more(h:Reads w B size A n xs)(hB:B<=B'):Reads w B' size A n xs:=
 ⟨h.1,fun hn=>by
  obtain⟨b,off,e,hb,hc⟩:=h.2 hn
  exact⟨b,off,e,by omega,hc⟩⟩
theorem Reads.below(h:Reads w B size A n xs)(hb:Below B w w'):Reads w' B size A n xs:=h.dL fun _ hp=>hb.cell hp
theorem Reads.drew(h:Reads w B size A n xs):Reads w.drew B size A n xs:=h
theorem Reads.drewN(h:Reads w B size A n xs)(k:Nat):Reads (w.drewN k) B size A n xs:=h
theorem Reads.alloc(h:Reads w B size A n xs)(hB:B<=w.heap.size)(o:Obj):Reads (w.alloc o) B size A n xs:=h.dL fun p hp=>World.cell?_alloc_lt w o p (by omega)
theorem Reads.setCell(h:Reads w B size A n xs){p:Addr}(hB:B<=p.block)(u:Value):Reads (w.setCell p u) B size A n xs:=
 h.dL fun q hq=>World.cell?_setCell_other w p q u (fun e=>by subst e;omega)
theorem Reads.grown(h:Reads w B size A n xs){row:Option Nat}(hg:w.grownBy w' row)(hB:B<=w.heap.size)(hr:∀ g,row=some g->B<=g):Reads w' B size A n xs:=
 h.dL fun p hp=>World.cell?_of_block (hg.block p.block (by omega) (fun e=>by have:=hr _ e.symm;omega))
theorem Reads.aaN{base:Nat}{e:TypeId}{c:Nat}(h:w.ownsRow base e size (.slice A n c) n xs):Reads w w.heap.size size A n xs:=by
 refine⟨h.1,fun hn=>?_⟩
 obtain⟨g,cap,hv,_,bU⟩:=h.form hn
 have hA:A=some ⟨g,0,none⟩:=by injection hv
 subst hA
 refine⟨g,0,rfl,bU,fun j u hu=>?_⟩
 have hc:=h.cells (g:=g) rfl j u hu
 have n8:(⟨g,0,none⟩:Addr).add j=⟨g,0+j,none⟩:=by unfold Addr.add;split <;>simp_all
 rwa [n8]at hc
/-- Of a slice whose elements have two cells: those of element k. -/
theorem Reads.at2{k:Nat}(h:Reads w B 2 A n xs)(hk:k<n):
  ∃ b off u v,A=some ⟨b,off,none⟩/\b<B/\xs[k*2]?=some u/\xs[k*2+1]?=some v/\w.cell? ⟨b,off+k*2,none⟩=some u/\w.cell? ⟨b,off+k*2+1,none⟩=some v:=by
 obtain⟨b,off,e,hb,hc⟩:=h.2 (by omega)
 have hl:=h.1
 have h0:k*2<xs.length:=by omega
 have h1:k*2+1<xs.length:=by omega
 exact⟨b,off,_,_,e,hb,List.getElem?_eq_getElem h0,List.getElem?_eq_getElem h1,hc _ _ (List.getElem?_eq_getElem h0),hc _ _ (List.getElem?_eq_getElem h1)⟩
end
def cQ(w:World)(g:Nat)(t:TypeId)(cs:Array Value):Prop:=w.heap[g]?=some (.cells cs t (0,0))
section
variable {w w':World} {g:Nat} {t:TypeId} {cs:Array Value}
theorem cQ.lt(h:cQ w g t cs):g<w.heap.size:=by
 rcases Nat.lt_or_ge g w.heap.size with bU | j3
 ·exact bU
 ·unfold cQ at h;rw[Array.getElem?_eq_none j3]at h;cases h
theorem cQ.cell(h:cQ w g t cs)(i:Nat):w.cell? ⟨g,i,none⟩=cs[i]?:=cell_of_row w g i cs t (0,0) h
theorem cQ.frozen(h:cQ w g t cs)(i:Nat):w.frozen? ⟨g,i,none⟩=false:=by
 unfold cQ at h
 simp[World.frozen?,h]
theorem cQ.new(w:World)(t:TypeId)(cs:Array Value):cQ (w.alloc (.cells cs t)) w.heap.size t cs:=heap_alloc_new w _
theorem cQ.drew(h:cQ w g t cs):cQ w.drew g t cs:=h
theorem cQ.drewN(h:cQ w g t cs)(n:Nat):cQ (w.drewN n) g t cs:=h
theorem cQ.alloc(h:cQ w g t cs)(o:Obj):cQ (w.alloc o) g t cs:=(Below.heap_alloc w o g h.lt).trans h
theorem cQ.qa(h:cQ w g t cs)(i:Nat)(u:Value):cQ (w.setCell ⟨g,i,none⟩ u) g t (cs.setIfInBounds i u):=by
 unfold cQ at h ⊢
 simp[World.setCell,Array.getElem?_modify,h]
theorem cQ.Ex(h:cQ w g t cs){p:Addr}(hp:g≠p.block)(u:Value):cQ (w.setCell p u) g t cs:=(Below.heap_setCell w p u g hp).trans h
theorem cQ.below{B:Nat}(h:cQ w g t cs)(hb:Below B w w')(hg:g<B):cQ w' g t cs:=(hb.block g hg).trans h
theorem cQ.grown{row:Option Nat}(h:cQ w g t cs)(hb:w.grownBy w' row)(hg:some g≠row):cQ w' g t cs:=(hb.block g h.lt hg).trans h
theorem cQ.ne_{g':Nat}{t':TypeId}{cz:Array Value}(h:cQ w g t cs)(h':cQ w g' t' cz)(aK:t≠t'):g≠g':=by
 rintro rfl
 unfold cQ at h h'
 rw[h]at h'
 injection h' with h'
 injection h' with _ ht
 exact aK ht
theorem OK{base:Nat}{e:TypeId}{size n:Nat}{v:Value}{xs:List Value}(h:w.ownsRow base e size v n xs)(hg:cQ w g t cs)(aK:e≠t):v.ownBlock≠some g:=by
 rcases h.2 with ⟨rfl,_⟩ | ⟨g',cap,cur,rfl,_,hh,_⟩
 ·simp[Value.ownBlock]
 ·intro he
  have:g'=g:=by simpa [Value.ownBlock]using he
  subst this
  exact cQ.ne_ (t:=e) hh hg aK rfl
end
theorem cQ.aaO{w:World}{n:Nat}{t:TypeId}{cs:Array Value}(h:n=w.heap.size):cQ (w.alloc (.cells cs t)) n t cs:=by
 subst h
 exact cQ.new w t cs
theorem aaP{a b c:World}{r:Option Nat}(h:a.grownBy b r)(k:b.grownBy c r):a.grownBy c r:=
 ⟨k.os.trans h.os,k.tape.trans h.tape,k.output.trans h.output,Nat.le_trans h.size k.size,fun i hi aK=>(k.block i (Nat.lt_of_lt_of_le hi h.size) aK).trans (h.block i hi aK)⟩
theorem art{w w':World}{r:Option Nat}(h:w.grownBy w' r)(n:Nat):w.grownBy (w'.drewN n) r:=⟨h.os,h.tape,h.output,h.size,h.block⟩
theorem aru{w w':World}{r:Option Nat}(h:w.grownBy w' r):w.grownBy w'.drew r:=⟨h.os,h.tape,h.output,h.size,h.block⟩
theorem grownBy_alloc{a w:World}{r:Option Nat}(h:a.grownBy w r)(o:Obj):a.grownBy (w.alloc o) r:=
 ⟨h.os,h.tape,h.output,Nat.le_trans h.size (by simp),fun i hi aK=>(Below.heap_alloc w o i (Nat.lt_of_lt_of_le hi h.size)).trans (h.block i hi aK)⟩
theorem aaQ{a w:World}{r:Option Nat}(h:a.grownBy w r){p:Addr}(hp:a.heap.size<=p.block\/some p.block=r)(u:Value):a.grownBy (w.setCell p u) r:=
 ⟨h.os,h.tape,h.output,by simpa [World.setCell]using h.size,fun i hi aK=>(Below.heap_setCell w p u i (by
  rintro rfl
  rcases hp with hp | hp
  ·omega
  ·exact aK hp)).trans (h.block i hi aK)⟩
theorem arv{a w w':World}{r:Option Nat}{B:Nat}(h:a.grownBy w r)(hb:Below B w w')(hB:a.heap.size<=B):a.grownBy w' r:=
 ⟨hb.os.trans h.os,hb.tape.trans h.tape,hb.output.trans h.output,Nat.le_trans h.size hb.size,fun i hi hn=>(hb.block i (by omega)).trans (h.block i hi hn)⟩
theorem arw{a w w':World}{r:Option Nat}{g:Nat}(h:a.grownBy w r)(hb:w.grownBy w' (some g))(hg:a.heap.size<=g\/some g=r):a.grownBy w' r:=
 ⟨hb.os.trans h.os,hb.tape.trans h.tape,hb.output.trans h.output,Nat.le_trans h.size hb.size,fun i hi hn=>(hb.block i (Nat.lt_of_lt_of_le hi h.size) (fun e=>by
  injection e with e
  subst e
  rcases hg with hg | hg
  ·omega
  ·exact hn hg)).trans (h.block i hi hn)⟩
/-- What is the call's own from B on may be written: below B nothing has turned. -/
theorem arx{w0 w w':World}{B g:Nat}(h:Below B w0 w)(hg:w.grownBy w' (some g))(hB:B<=g)(hs:B<=w.heap.size):Below B w0 w':=
 h.grown hg hs (fun k hk=>by injection hk;omega)
/-- All old cells and all old marks read as before (the walk uses the two as rules). -/
theorem ary{W w1:World}{B:Nat}(hb:Below B W w1):(∀ b o,b<B->w1.cell? ⟨b,o,none⟩=W.cell? ⟨b,o,none⟩)/\(∀ b o,b<B->w1.frozen? ⟨b,o,none⟩=W.frozen? ⟨b,o,none⟩):=
 ⟨fun b o h=>hb.cell (p:=⟨b,o,none⟩) h,fun b o h=>hb.frozen (p:=⟨b,o,none⟩) h⟩
theorem Reads.arz{w:World}{g B n size cap:Nat}{t:TypeId}{cs:Array Value}(h:cQ w g t cs)(hg:g<B)(hs:cs.size=cap*size)(hn:n<=cap):
  Reads w B size (some ⟨g,0,none⟩) n (cs.toList.take (n*size)):=by
 have hm:n*size<=cap*size:=Nat.mul_le_mul_right _ hn
 refine⟨by rw[List.length_take,Array.length_toList,hs];omega,fun _=>⟨g,0,rfl,hg,fun j u hu=>?_⟩⟩
 rw[Nat.zero_add,h.cell j]
 rw[List.getElem?_take]at hu
 split at hu
 ·simpa using hu
 ·cases hu
theorem arB{α:Type}{f:α->Bool}{l:List α}{k:Nat}(h:(l.take k).all f=true)(hk:k<l.length)(hf:f l[k]=true):Hid ((l.take (k+1)).all f=true):=by
 show (l.take (k+1)).all f=true
 rw[List.take_succ_eq_append_getElem hk,List.all_append,h]
 simp[hf]
theorem arC{α:Type}{f:α->Bool}{l:List α}{k:Nat}(hk:k<l.length)(hf:f l[k]=false):l.all f=false:=by
 rw[List.all_eq_false]
 exact⟨l[k],List.getElem_mem hk,by simp[hf]⟩
def ints(l:List Int):List Value:=l.map (Value.int .i64)
theorem arD(l:List Int):(ints l).length=l.length:=by simp[ints]
/-- A slice of ints that reads as a list,below block B. -/
def j4(w:World)(B:Nat)(A:Option Addr)(l:List Int):Prop:=Reads w B 1 A l.length (ints l)
theorem j4.at_{w:World}{B:Nat}{A:Option Addr}{l:List Int}{k:Nat}(h:j4 w B A l)(hk:k<l.length):∃ b off,A=some ⟨b,off,none⟩/\b<B/\w.cell? ⟨b,off+k,none⟩=some (.int .i64 l[k]):=by
 obtain⟨b,off,u,e,hb,hu,hc⟩:=Reads.at_ h hk
 refine⟨b,off,e,hb,?_⟩
 have:u = .int .i64 l[k]:=by simpa [ints,hk]using hu.symm
 rw[hc,this]
theorem j4.dL{w w':World}{B:Nat}{A:Option Addr}{l:List Int}(h:j4 w B A l)(hk:∀ p:Addr,p.block<B->w'.cell? p=w.cell? p):j4 w' B A l:=Reads.dL h hk
theorem j4.below{w w':World}{B B':Nat}{A:Option Addr}{l:List Int}(h:j4 w B A l)(hb:Below B' w w')(hB:B<=B'):j4 w' B A l:=h.dL fun _ hp=>hb.cell (by omega)
theorem j4.more{w:World}{B B':Nat}{A:Option Addr}{l:List Int}(h:j4 w B A l)(hB:B<=B'):j4 w B' A l:=Reads.more h hB
theorem arE{w:World}{base n size:Nat}{e:TypeId}{v:Value}{xs:List Value}(h:w.ownsRow base e size v n xs):∃ A c,v = .slice A n c:=by
 rcases h.2 with ⟨rfl,rfl⟩ | ⟨g,cap,cur,rfl,_⟩
 ·exact⟨none,0,rfl⟩
 ·exact⟨_,_,rfl⟩
theorem aaR{w w':World}{base n size B:Nat}{e:TypeId}{v:Value}{xs:List Value}(h:w.ownsRow base e size v n xs)(hb:Below B w w')(hB:w.heap.size<=B):w'.ownsRow base e size v n xs:=by
 refine⟨h.1,?_⟩
 rcases h.2 with h' | ⟨g,cap,cur,hv,hg,hh,r⟩
 ·exact .inl h'
 ·exact .inr ⟨g,cap,cur,hv,hg,(hb.block g (by have:=(Array.getElem?_eq_some_iff.1 hh).1;omega)).trans hh,r⟩
theorem j4.to{w w':World}{B:Nat}{A:Option Addr}{l:List Int}(h:j4 w B A l)(hb:Below B w w')(hB:B<=w'.heap.size):j4 w' w'.heap.size A l:=(h.below hb (Nat.le_refl _)).more hB
theorem arF{w:World}{base n size:Nat}{e:TypeId}(h:n=w.heap.size)(hb:base<=w.heap.size):(w.alloc (.cells #[] e)).ownsRow base e size (.slice (some ⟨n,0,none⟩) 0 0) 0 []:=by
 subst h
 exact World.ownsRow_made w #[] 0 hb (Nat.zero_le _) (by simp)
end Go.Proofs.YtmffpkippmkjbaaGreatDoor
