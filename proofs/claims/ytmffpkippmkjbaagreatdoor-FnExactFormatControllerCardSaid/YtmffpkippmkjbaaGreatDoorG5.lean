/-
  Functions of the program as plain functions of contents, and that the code computes them. Nothing here is a claim.
-/
import Derived.Test.YtmffpkippmkjbaaGreatDoorVZ
import Derived.Test.YtmffpkippmkjbaaGreatDoorRows
import Derived.Test.YtmffpkippmkjbaaGreatDoorExt
import Derived.Test.YtmffpkippmkjbaaGreatDoorG1
import Derived.Test.YtmffpkippmkjbaaGreatDoorG2
import Derived.Test.YtmffpkippmkjbaaGreatDoorG3
import Derived.Test.YtmffpkippmkjbaaGreatDoorG4
namespace Go.Proofs.YtmffpkippmkjbaaGreatDoor
open Go.RowKit
set_option linter.unusedVariables false
set_option maxRecDepth 100000
def ak9:aC:=⟨[(0,.lf (.ah .dR 0)),(1,.lf (.ah .dR 0)),(5,.lf (.int .i64))],[],[]⟩
def ala:List (Nat×aC):=[(1,⟨[(4,.lf (.bool))],[],[]⟩),(2,⟨[],[],[]⟩)]
abbrev X4:=(((List cq)×(List cq)×Int×Unit)×(Unit))
def X5(x:X4):Option (X4⊕(((Bool×Unit)×(Unit))⊕(((Unit)×(Unit))⊕Empty))):=bif (decide (x.1.2.2.1<(x.1.1.length:Int)))then if h1:0 <= x.1.2.2.1/\x.1.2.2.1.toNat<x.1.1.length then (let e2:=x.1.1[x.1.2.2.1.toNat]'h1.2;if h3:0 <= x.1.2.2.1/\x.1.2.2.1.toNat<x.1.2.1.length then (let e4:=x.1.2.1[x.1.2.2.1.toNat]'h3.2;(DO e2 e4).bind fun y5=>bif (!y5)then some (.inr (.inl ((false,()),())))else some (.inl ((x.1.1,x.1.2.1,(IntKind.i64.wrap (x.1.2.2.1+(1:Int))),()),())))else none)else none else some (.inr (.inr (.inl ((),()))))
def X6:bh:=bu 0 ak9 ala X5 (fun _=>big)
theorem alb:br Tryz.prog 27 (.block 0 (.loop (bq (aW Tryz.f142) 0))) X6:=bA 27 [(198,.p X3)] [] ⟨ak8,trivial⟩ aF fun x=>by kernel_rfl
def Ij(x0:List cq)(x1:List cq):Option (Bool):=bif ((x0.length:Int) != (x1.length:Int))then some false else (iter X5 big ((x0,x1,(0:Int),()),())).bind (Sum.elim (fun z6=>some z6.1.1) (Sum.elim (fun z7=>some true) (fun z=>nomatch z)))
def X7:aI:=aH [(false,(.sl .dR)),(false,(.sl .dR))] [(false,.bool,0)] (fun x=>Ij x.1 x.2.1)
theorem alc:enters Tryz.prog 142/\aG Tryz.prog 142 X7:=aJ 27 [] [(0,X6)] Tryz.func142 trivial (bH (by kernel_rfl) _ ⟨⟨_,by kernel_rfl,alb⟩,trivial⟩) fun x=>by kernel_rfl
def Ik(x0:eN)(x1:eN):Option (Bool):=(Ij x0.aO x1.aO).bind fun y1=>bif (!y1)then some false else bif (x0.bM != x1.bM)then some false else some true
def X8:aI:=aH [(true,.jf),(true,.jf)] [(false,.bool,0)] (fun x=>Ik x.1 x.2.1)
theorem ald:enters Tryz.prog 56/\aG Tryz.prog 56 X8:=aJ 16 [(142,.p X7)] [] Tryz.func56 ⟨alc,trivial⟩ aF fun x=>by kernel_rfl
def Il(x0:iD)(x1:iD):Option (Bool):=(nt x0.last x1.last).bind fun y1=>bif (!y1)then some false else (nt x0.dA x1.dA).bind fun y2=>bif (!y2)then some false else some true
def X9:aI:=aH [(true,.kP),(true,.kP)] [(false,.bool,0)] (fun x=>Il x.1 x.2.1)
theorem ale:enters Tryz.prog 57/\aG Tryz.prog 57 X9:=aJ 17 [(62,.p sY)] [] Tryz.func57 ⟨vb,trivial⟩ aF fun x=>by kernel_rfl
def DP(x0:cO)(x1:cO):Option (Bool):=(nt x0.symbols x1.symbols).bind fun y1=>bif (!y1)then some false else bif (!(x0.qd==x1.qd))then some false else some true
def Ya:aI:=aH [(true,.Cell),(true,.Cell)] [(false,.bool,0)] (fun x=>DP x.1 x.2.1)
theorem alf:enters Tryz.prog 199/\aG Tryz.prog 199 Ya:=aJ 16 [(62,.p sY)] [] Tryz.func199 ⟨vb,trivial⟩ aF fun x=>by kernel_rfl
def alg:aC:=⟨[(0,.lf (.ah .Cell 0)),(1,.lf (.ah .Cell 0)),(5,.lf (.int .i64))],[],[]⟩
def alh:List (Nat×aC):=[(1,⟨[(4,.lf (.bool))],[],[]⟩),(2,⟨[],[],[]⟩)]
abbrev Yb:=(((List cO)×(List cO)×Int×Unit)×(Unit))
def Yc(x:Yb):Option (Yb⊕(((Bool×Unit)×(Unit))⊕(((Unit)×(Unit))⊕Empty))):=bif (decide (x.1.2.2.1<(x.1.1.length:Int)))then if h1:0 <= x.1.2.2.1/\x.1.2.2.1.toNat<x.1.1.length then (let e2:=x.1.1[x.1.2.2.1.toNat]'h1.2;if h3:0 <= x.1.2.2.1/\x.1.2.2.1.toNat<x.1.2.1.length then (let e4:=x.1.2.1[x.1.2.2.1.toNat]'h3.2;(DP e2 e4).bind fun y5=>bif (!y5)then some (.inr (.inl ((false,()),())))else some (.inl ((x.1.1,x.1.2.1,(IntKind.i64.wrap (x.1.2.2.1+(1:Int))),()),())))else none)else none else some (.inr (.inr (.inl ((),()))))
def Yd:bh:=bu 0 alg alh Yc (fun _=>big)
theorem ali:br Tryz.prog 27 (.block 0 (.loop (bq (aW Tryz.f143) 0))) Yd:=bA 27 [(199,.p Ya)] [] ⟨alf,trivial⟩ aF fun x=>by kernel_rfl
def Im(x0:List cO)(x1:List cO):Option (Bool):=bif ((x0.length:Int) != (x1.length:Int))then some false else (iter Yc big ((x0,x1,(0:Int),()),())).bind (Sum.elim (fun z6=>some z6.1.1) (Sum.elim (fun z7=>some true) (fun z=>nomatch z)))
def Ye:aI:=aH [(false,(.sl .Cell)),(false,(.sl .Cell))] [(false,.bool,0)] (fun x=>Im x.1 x.2.1)
theorem alj:enters Tryz.prog 143/\aG Tryz.prog 143 Ye:=aJ 27 [] [(0,Yd)] Tryz.func143 trivial (bH (by kernel_rfl) _ ⟨⟨_,by kernel_rfl,ali⟩,trivial⟩) fun x=>by kernel_rfl
def Io(x0:iE)(x1:iE):Option (Bool):=(Im x0.cells x1.cells).bind fun y1=>bif (!y1)then some false else (nt x0.cT x1.cT).bind fun y2=>bif (!y2)then some false else (nt x0.cU x1.cU).bind fun y3=>bif (!y3)then some false else some true
def Yf:aI:=aH [(true,.Array),(true,.Array)] [(false,.bool,0)] (fun x=>Io x.1 x.2.1)
theorem alk:enters Tryz.prog 58/\aG Tryz.prog 58 Yf:=aJ 23 [(62,.p sY),(143,.p Ye)] [] Tryz.func58 ⟨vb,alj,trivial⟩ aF fun x=>by kernel_rfl
def Ip(x0:dO)(x1:dO):Option (Bool):=bif (x0.cx != x1.cx)then some false else (nt x0.map x1.map).bind fun y1=>bif (!y1)then some false else some true
def Yg:aI:=aH [(true,.iI),(true,.iI)] [(false,.bool,0)] (fun x=>Ip x.1 x.2.1)
theorem alm:enters Tryz.prog 59/\aG Tryz.prog 59 Yg:=aJ 16 [(62,.p sY)] [] Tryz.func59 ⟨vb,trivial⟩ aF fun x=>by kernel_rfl
def Iq(x0:iF)(x1:iF):Option (Bool):=(nt x0.bX x1.bX).bind fun y1=>bif (!y1)then some false else bif (x0.wait != x1.wait)then some false else bif (!(x0.j8==x1.j8))then some false else some true
def Yh:aI:=aH [(true,.kQ),(true,.kQ)] [(false,.bool,0)] (fun x=>Iq x.1 x.2.1)
theorem aln:enters Tryz.prog 60/\aG Tryz.prog 60 Yh:=aJ 21 [(62,.p sY)] [] Tryz.func60 ⟨vb,trivial⟩ aF fun x=>by kernel_rfl
def DQ(x0:cu)(x1:cu):Option (Bool):=(nt x0.rows x1.rows).bind fun y1=>bif (!y1)then some false else (nt x0.counts x1.counts).bind fun y2=>bif (!y2)then some false else bif (x0.eE != x1.eE)then some false else some true
def Yi:aI:=aH [(true,.eP),(true,.eP)] [(false,.bool,0)] (fun x=>DQ x.1 x.2.1)
theorem alo:enters Tryz.prog 144/\aG Tryz.prog 144 Yi:=aJ 22 [(62,.p sY)] [] Tryz.func144 ⟨vb,trivial⟩ aF fun x=>by kernel_rfl
def alp:aC:=⟨[(0,.lf (.ah .eP 0)),(1,.lf (.ah .eP 0)),(5,.lf (.int .i64))],[],[]⟩
def alq:List (Nat×aC):=[(1,⟨[(4,.lf (.bool))],[],[]⟩),(2,⟨[],[],[]⟩)]
abbrev Yj:=(((List cu)×(List cu)×Int×Unit)×(Unit))
def Yk(x:Yj):Option (Yj⊕(((Bool×Unit)×(Unit))⊕(((Unit)×(Unit))⊕Empty))):=bif (decide (x.1.2.2.1<(x.1.1.length:Int)))then if h1:0 <= x.1.2.2.1/\x.1.2.2.1.toNat<x.1.1.length then (let e2:=x.1.1[x.1.2.2.1.toNat]'h1.2;if h3:0 <= x.1.2.2.1/\x.1.2.2.1.toNat<x.1.2.1.length then (let e4:=x.1.2.1[x.1.2.2.1.toNat]'h3.2;(DQ e2 e4).bind fun y5=>bif (!y5)then some (.inr (.inl ((false,()),())))else some (.inl ((x.1.1,x.1.2.1,(IntKind.i64.wrap (x.1.2.2.1+(1:Int))),()),())))else none)else none else some (.inr (.inr (.inl ((),()))))
def Yl:bh:=bu 0 alp alq Yk (fun _=>big)
theorem alr:br Tryz.prog 27 (.block 0 (.loop (bq (aW Tryz.f61) 0))) Yl:=bA 27 [(144,.p Yi)] [] ⟨alo,trivial⟩ aF fun x=>by kernel_rfl
def Ir(x0:List cu)(x1:List cu):Option (Bool):=bif ((x0.length:Int) != (x1.length:Int))then some false else (iter Yk big ((x0,x1,(0:Int),()),())).bind (Sum.elim (fun z6=>some z6.1.1) (Sum.elim (fun z7=>some true) (fun z=>nomatch z)))
def Ym:aI:=aH [(false,(.sl .eP)),(false,(.sl .eP))] [(false,.bool,0)] (fun x=>Ir x.1 x.2.1)
theorem als:enters Tryz.prog 61/\aG Tryz.prog 61 Ym:=aJ 27 [] [(0,Yl)] Tryz.func61 trivial (bH (by kernel_rfl) _ ⟨⟨_,by kernel_rfl,alr⟩,trivial⟩) fun x=>by kernel_rfl
def DR(x0:bW)(x1:bW):Option (Bool):=bif (x0.cW != x1.cW)then some false else bif (x0.row != x1.row)then some false else bif (x0.ck != x1.ck)then some false else some true
def Yn:aI:=aH [(true,.Addr),(true,.Addr)] [(false,.bool,0)] (fun x=>DR x.1 x.2.1)
theorem alu:enters Tryz.prog 145/\aG Tryz.prog 145 Yn:=aJ 20 [] [] Tryz.func145 trivial aF fun x=>by kernel_rfl
def alv:aC:=⟨[(0,.lf (.ah .Addr 0)),(1,.lf (.ah .Addr 0)),(5,.lf (.int .i64))],[],[]⟩
def alw:List (Nat×aC):=[(1,⟨[(4,.lf (.bool))],[],[]⟩),(2,⟨[],[],[]⟩)]
abbrev Yo:=(((List bW)×(List bW)×Int×Unit)×(Unit))
def Yp(x:Yo):Option (Yo⊕(((Bool×Unit)×(Unit))⊕(((Unit)×(Unit))⊕Empty))):=bif (decide (x.1.2.2.1<(x.1.1.length:Int)))then if h1:0 <= x.1.2.2.1/\x.1.2.2.1.toNat<x.1.1.length then (let e2:=x.1.1[x.1.2.2.1.toNat]'h1.2;if h3:0 <= x.1.2.2.1/\x.1.2.2.1.toNat<x.1.2.1.length then (let e4:=x.1.2.1[x.1.2.2.1.toNat]'h3.2;(DR e2 e4).bind fun y5=>bif (!y5)then some (.inr (.inl ((false,()),())))else some (.inl ((x.1.1,x.1.2.1,(IntKind.i64.wrap (x.1.2.2.1+(1:Int))),()),())))else none)else none else some (.inr (.inr (.inl ((),()))))
def Yq:bh:=bu 0 alv alw Yp (fun _=>big)
theorem alx:br Tryz.prog 27 (.block 0 (.loop (bq (aW Tryz.f63) 0))) Yq:=bA 27 [(145,.p Yn)] [] ⟨alu,trivial⟩ aF fun x=>by kernel_rfl
def Is(x0:List bW)(x1:List bW):Option (Bool):=bif ((x0.length:Int) != (x1.length:Int))then some false else (iter Yp big ((x0,x1,(0:Int),()),())).bind (Sum.elim (fun z6=>some z6.1.1) (Sum.elim (fun z7=>some true) (fun z=>nomatch z)))
def Yr:aI:=aH [(false,(.sl .Addr)),(false,(.sl .Addr))] [(false,.bool,0)] (fun x=>Is x.1 x.2.1)
theorem aly:enters Tryz.prog 63/\aG Tryz.prog 63 Yr:=aJ 27 [] [(0,Yq)] Tryz.func63 trivial (bH (by kernel_rfl) _ ⟨⟨_,by kernel_rfl,alx⟩,trivial⟩) fun x=>by kernel_rfl
def DS(x0:aS)(x1:aS):Option (Bool):=bif (x0.id != x1.id)then some false else bif (x0.c9 != x1.c9)then some false else bif (x0.line != x1.line)then some false else bif (!(x0.write==x1.write))then some false else bif (x0.data != x1.data)then some false else bif (x0.at_ != x1.at_)then some false else some true
def Ys:aI:=aH [(true,.dB),(true,.dB)] [(false,.bool,0)] (fun x=>DS x.1 x.2.1)
theorem alz:enters Tryz.prog 146/\aG Tryz.prog 146 Ys:=aJ 35 [] [] Tryz.func146 trivial aF fun x=>by kernel_rfl
def alA:aC:=⟨[(0,.lf (.ah .dB 0)),(1,.lf (.ah .dB 0)),(5,.lf (.int .i64))],[],[]⟩
def alB:List (Nat×aC):=[(1,⟨[(4,.lf (.bool))],[],[]⟩),(2,⟨[],[],[]⟩)]
abbrev Yt:=(((List aS)×(List aS)×Int×Unit)×(Unit))
def Yu(x:Yt):Option (Yt⊕(((Bool×Unit)×(Unit))⊕(((Unit)×(Unit))⊕Empty))):=bif (decide (x.1.2.2.1<(x.1.1.length:Int)))then if h1:0 <= x.1.2.2.1/\x.1.2.2.1.toNat<x.1.1.length then (let e2:=x.1.1[x.1.2.2.1.toNat]'h1.2;if h3:0 <= x.1.2.2.1/\x.1.2.2.1.toNat<x.1.2.1.length then (let e4:=x.1.2.1[x.1.2.2.1.toNat]'h3.2;(DS e2 e4).bind fun y5=>bif (!y5)then some (.inr (.inl ((false,()),())))else some (.inl ((x.1.1,x.1.2.1,(IntKind.i64.wrap (x.1.2.2.1+(1:Int))),()),())))else none)else none else some (.inr (.inr (.inl ((),()))))
def Yv:bh:=bu 0 alA alB Yu (fun _=>big)
theorem alC:br Tryz.prog 27 (.block 0 (.loop (bq (aW Tryz.f64) 0))) Yv:=bA 27 [(146,.p Ys)] [] ⟨alz,trivial⟩ aF fun x=>by kernel_rfl
def It(x0:List aS)(x1:List aS):Option (Bool):=bif ((x0.length:Int) != (x1.length:Int))then some false else (iter Yu big ((x0,x1,(0:Int),()),())).bind (Sum.elim (fun z6=>some z6.1.1) (Sum.elim (fun z7=>some true) (fun z=>nomatch z)))
def Yw:aI:=aH [(false,(.sl .dB)),(false,(.sl .dB))] [(false,.bool,0)] (fun x=>It x.1 x.2.1)
theorem alD:enters Tryz.prog 64/\aG Tryz.prog 64 Yw:=aJ 27 [] [(0,Yv)] Tryz.func64 trivial (bH (by kernel_rfl) _ ⟨⟨_,by kernel_rfl,alC⟩,trivial⟩) fun x=>by kernel_rfl
def DT(x0:bT)(x1:bT):Option (Bool):=bif (x0.weight != x1.weight)then some false else bif (x0.nw != x1.nw)then some false else some true
def Yx:aI:=aH [(true,.dP),(true,.dP)] [(false,.bool,0)] (fun x=>DT x.1 x.2.1)
theorem alE:enters Tryz.prog 147/\aG Tryz.prog 147 Yx:=aJ 15 [] [] Tryz.func147 trivial aF fun x=>by kernel_rfl
def alF:aC:=⟨[(0,.lf (.ah .dP 0)),(1,.lf (.ah .dP 0)),(5,.lf (.int .i64))],[],[]⟩
def alG:List (Nat×aC):=[(1,⟨[(4,.lf (.bool))],[],[]⟩),(2,⟨[],[],[]⟩)]
abbrev Yy:=(((List bT)×(List bT)×Int×Unit)×(Unit))
def Yz(x:Yy):Option (Yy⊕(((Bool×Unit)×(Unit))⊕(((Unit)×(Unit))⊕Empty))):=bif (decide (x.1.2.2.1<(x.1.1.length:Int)))then if h1:0 <= x.1.2.2.1/\x.1.2.2.1.toNat<x.1.1.length then (let e2:=x.1.1[x.1.2.2.1.toNat]'h1.2;if h3:0 <= x.1.2.2.1/\x.1.2.2.1.toNat<x.1.2.1.length then (let e4:=x.1.2.1[x.1.2.2.1.toNat]'h3.2;(DT e2 e4).bind fun y5=>bif (!y5)then some (.inr (.inl ((false,()),())))else some (.inl ((x.1.1,x.1.2.1,(IntKind.i64.wrap (x.1.2.2.1+(1:Int))),()),())))else none)else none else some (.inr (.inr (.inl ((),()))))
def YA:bh:=bu 0 alF alG Yz (fun _=>big)
theorem alH:br Tryz.prog 27 (.block 0 (.loop (bq (aW Tryz.f65) 0))) YA:=bA 27 [(147,.p Yx)] [] ⟨alE,trivial⟩ aF fun x=>by kernel_rfl
def Iu(x0:List bT)(x1:List bT):Option (Bool):=bif ((x0.length:Int) != (x1.length:Int))then some false else (iter Yz big ((x0,x1,(0:Int),()),())).bind (Sum.elim (fun z6=>some z6.1.1) (Sum.elim (fun z7=>some true) (fun z=>nomatch z)))
def YB:aI:=aH [(false,(.sl .dP)),(false,(.sl .dP))] [(false,.bool,0)] (fun x=>Iu x.1 x.2.1)
theorem alI:enters Tryz.prog 65/\aG Tryz.prog 65 YB:=aJ 27 [] [(0,YA)] Tryz.func65 trivial (bH (by kernel_rfl) _ ⟨⟨_,by kernel_rfl,alH⟩,trivial⟩) fun x=>by kernel_rfl
def Iv(x0:iS)(x1:iS):Option (Bool):=bif (!(x0.on==x1.on))then some false else bif (x0.low != x1.low)then some false else bif (x0.high != x1.high)then some false else some true
def YC:aI:=aH [(true,.lE),(true,.lE)] [(false,.bool,0)] (fun x=>Iv x.1 x.2.1)
theorem alJ:enters Tryz.prog 66/\aG Tryz.prog 66 YC:=aJ 20 [] [] Tryz.func66 trivial aF fun x=>by kernel_rfl
def Iw(x0:j9)(x1:j9):Option (Bool):=bif (x0.state != x1.state)then some false else bif (x0.since != x1.since)then some false else bif (x0.idle != x1.idle)then some false else some true
def YD:aI:=aH [(true,.Power),(true,.Power)] [(false,.bool,0)] (fun x=>Iw x.1 x.2.1)
theorem alK:enters Tryz.prog 67/\aG Tryz.prog 67 YD:=aJ 20 [] [] Tryz.func67 trivial aF fun x=>by kernel_rfl
def Ix(x0:og)(x1:og):Option (Bool):=bif (x0.next != x1.next)then some false else bif (x0.every != x1.every)then some false else bif (x0.wait != x1.wait)then some false else some true
def YE:aI:=aH [(true,.ny),(true,.ny)] [(false,.bool,0)] (fun x=>Ix x.1 x.2.1)
theorem alL:enters Tryz.prog 68/\aG Tryz.prog 68 YE:=aJ 20 [] [] Tryz.func68 trivial aF fun x=>by kernel_rfl
def DU(x0:bx)(x1:bx):Option (Bool):=bif (x0.line != x1.line)then some false else bif (x0.code != x1.code)then some false else bif (x0.times != x1.times)then some false else some true
def YF:aI:=aH [(true,.dF),(true,.dF)] [(false,.bool,0)] (fun x=>DU x.1 x.2.1)
theorem alM:enters Tryz.prog 148/\aG Tryz.prog 148 YF:=aJ 20 [] [] Tryz.func148 trivial aF fun x=>by kernel_rfl
def alN:aC:=⟨[(0,.lf (.ah .dF 0)),(1,.lf (.ah .dF 0)),(5,.lf (.int .i64))],[],[]⟩
def alO:List (Nat×aC):=[(1,⟨[(4,.lf (.bool))],[],[]⟩),(2,⟨[],[],[]⟩)]
abbrev YG:=(((List bx)×(List bx)×Int×Unit)×(Unit))
def YH(x:YG):Option (YG⊕(((Bool×Unit)×(Unit))⊕(((Unit)×(Unit))⊕Empty))):=bif (decide (x.1.2.2.1<(x.1.1.length:Int)))then if h1:0 <= x.1.2.2.1/\x.1.2.2.1.toNat<x.1.1.length then (let e2:=x.1.1[x.1.2.2.1.toNat]'h1.2;if h3:0 <= x.1.2.2.1/\x.1.2.2.1.toNat<x.1.2.1.length then (let e4:=x.1.2.1[x.1.2.2.1.toNat]'h3.2;(DU e2 e4).bind fun y5=>bif (!y5)then some (.inr (.inl ((false,()),())))else some (.inl ((x.1.1,x.1.2.1,(IntKind.i64.wrap (x.1.2.2.1+(1:Int))),()),())))else none)else none else some (.inr (.inr (.inl ((),()))))
def YI:bh:=bu 0 alN alO YH (fun _=>big)
theorem alP:br Tryz.prog 27 (.block 0 (.loop (bq (aW Tryz.f69) 0))) YI:=bA 27 [(148,.p YF)] [] ⟨alM,trivial⟩ aF fun x=>by kernel_rfl
def Iy(x0:List bx)(x1:List bx):Option (Bool):=bif ((x0.length:Int) != (x1.length:Int))then some false else (iter YH big ((x0,x1,(0:Int),()),())).bind (Sum.elim (fun z6=>some z6.1.1) (Sum.elim (fun z7=>some true) (fun z=>nomatch z)))
def YJ:aI:=aH [(false,(.sl .dF)),(false,(.sl .dF))] [(false,.bool,0)] (fun x=>Iy x.1 x.2.1)
theorem alQ:enters Tryz.prog 69/\aG Tryz.prog 69 YJ:=aJ 27 [] [(0,YI)] Tryz.func69 trivial (bH (by kernel_rfl) _ ⟨⟨_,by kernel_rfl,alP⟩,trivial⟩) fun x=>by kernel_rfl
def Iz(x0:j5)(x1:j5):Option (Bool):=bif (x0.kind != x1.kind)then some false else bif (x0.cW != x1.cW)then some false else bif (x0.row != x1.row)then some false else bif (x0.ck != x1.ck)then some false else some true
def YK:aI:=aH [(true,.Command),(true,.Command)] [(false,.bool,0)] (fun x=>Iz x.1 x.2.1)
theorem alR:enters Tryz.prog 200/\aG Tryz.prog 200 YK:=aJ 25 [] [] Tryz.func200 trivial aF fun x=>by kernel_rfl
def DV(x0:bQ)(x1:bQ):Option (Bool):=bif (x0.at_ != x1.at_)then some false else (Iz x0.cmd x1.cmd).bind fun y1=>bif (!y1)then some false else some true
def YL:aI:=aH [(true,.Event),(true,.Event)] [(false,.bool,0)] (fun x=>DV x.1 x.2.1)
theorem alS:enters Tryz.prog 149/\aG Tryz.prog 149 YL:=aJ 16 [(200,.p YK)] [] Tryz.func149 ⟨alR,trivial⟩ aF fun x=>by kernel_rfl
def alT:aC:=⟨[(0,.lf (.ah .Event 0)),(1,.lf (.ah .Event 0)),(5,.lf (.int .i64))],[],[]⟩
def alU:List (Nat×aC):=[(1,⟨[(4,.lf (.bool))],[],[]⟩),(2,⟨[],[],[]⟩)]
abbrev YM:=(((List bQ)×(List bQ)×Int×Unit)×(Unit))
def YN(x:YM):Option (YM⊕(((Bool×Unit)×(Unit))⊕(((Unit)×(Unit))⊕Empty))):=bif (decide (x.1.2.2.1<(x.1.1.length:Int)))then if h1:0 <= x.1.2.2.1/\x.1.2.2.1.toNat<x.1.1.length then (let e2:=x.1.1[x.1.2.2.1.toNat]'h1.2;if h3:0 <= x.1.2.2.1/\x.1.2.2.1.toNat<x.1.2.1.length then (let e4:=x.1.2.1[x.1.2.2.1.toNat]'h3.2;(DV e2 e4).bind fun y5=>bif (!y5)then some (.inr (.inl ((false,()),())))else some (.inl ((x.1.1,x.1.2.1,(IntKind.i64.wrap (x.1.2.2.1+(1:Int))),()),())))else none)else none else some (.inr (.inr (.inl ((),()))))
def YO:bh:=bu 0 alT alU YN (fun _=>big)
theorem alV:br Tryz.prog 27 (.block 0 (.loop (bq (aW Tryz.f70) 0))) YO:=bA 27 [(149,.p YL)] [] ⟨alS,trivial⟩ aF fun x=>by kernel_rfl
def IA(x0:List bQ)(x1:List bQ):Option (Bool):=bif ((x0.length:Int) != (x1.length:Int))then some false else (iter YN big ((x0,x1,(0:Int),()),())).bind (Sum.elim (fun z6=>some z6.1.1) (Sum.elim (fun z7=>some true) (fun z=>nomatch z)))
def YP:aI:=aH [(false,(.sl .Event)),(false,(.sl .Event))] [(false,.bool,0)] (fun x=>IA x.1 x.2.1)
theorem alW:enters Tryz.prog 70/\aG Tryz.prog 70 YP:=aJ 27 [] [(0,YO)] Tryz.func70 trivial (bH (by kernel_rfl) _ ⟨⟨_,by kernel_rfl,alV⟩,trivial⟩) fun x=>by kernel_rfl
def DW(x0:cF)(x1:cF):Option (Bool):=bif (x0.id != x1.id)then some false else bif (x0.at_ != x1.at_)then some false else bif (x0.data != x1.data)then some false else bif (x0.code != x1.code)then some false else some true
def YQ:aI:=aH [(true,.fK),(true,.fK)] [(false,.bool,0)] (fun x=>DW x.1 x.2.1)
theorem alX:enters Tryz.prog 150/\aG Tryz.prog 150 YQ:=aJ 25 [] [] Tryz.func150 trivial aF fun x=>by kernel_rfl
def alY:aC:=⟨[(0,.lf (.ah .fK 0)),(1,.lf (.ah .fK 0)),(5,.lf (.int .i64))],[],[]⟩
def alZ:List (Nat×aC):=[(1,⟨[(4,.lf (.bool))],[],[]⟩),(2,⟨[],[],[]⟩)]
abbrev YR:=(((List cF)×(List cF)×Int×Unit)×(Unit))
def YS(x:YR):Option (YR⊕(((Bool×Unit)×(Unit))⊕(((Unit)×(Unit))⊕Empty))):=bif (decide (x.1.2.2.1<(x.1.1.length:Int)))then if h1:0 <= x.1.2.2.1/\x.1.2.2.1.toNat<x.1.1.length then (let e2:=x.1.1[x.1.2.2.1.toNat]'h1.2;if h3:0 <= x.1.2.2.1/\x.1.2.2.1.toNat<x.1.2.1.length then (let e4:=x.1.2.1[x.1.2.2.1.toNat]'h3.2;(DW e2 e4).bind fun y5=>bif (!y5)then some (.inr (.inl ((false,()),())))else some (.inl ((x.1.1,x.1.2.1,(IntKind.i64.wrap (x.1.2.2.1+(1:Int))),()),())))else none)else none else some (.inr (.inr (.inl ((),()))))
def YT:bh:=bu 0 alY alZ YS (fun _=>big)
theorem al0:br Tryz.prog 27 (.block 0 (.loop (bq (aW Tryz.f71) 0))) YT:=bA 27 [(150,.p YQ)] [] ⟨alX,trivial⟩ aF fun x=>by kernel_rfl
def IB(x0:List cF)(x1:List cF):Option (Bool):=bif ((x0.length:Int) != (x1.length:Int))then some false else (iter YS big ((x0,x1,(0:Int),()),())).bind (Sum.elim (fun z6=>some z6.1.1) (Sum.elim (fun z7=>some true) (fun z=>nomatch z)))
def YU:aI:=aH [(false,(.sl .fK)),(false,(.sl .fK))] [(false,.bool,0)] (fun x=>IB x.1 x.2.1)
theorem al1:enters Tryz.prog 71/\aG Tryz.prog 71 YU:=aJ 27 [] [(0,YT)] Tryz.func71 trivial (bH (by kernel_rfl) _ ⟨⟨_,by kernel_rfl,al0⟩,trivial⟩) fun x=>by kernel_rfl
def IC(x0:cB)(x1:cB):Option (Bool):=(Ig x0.config x1.config).bind fun y1=>bif (!y1)then some false else (Ii x0.box x1.box).bind fun y2=>bif (!y2)then some false else bif (x0.now != x1.now)then some false else (Ik x0.gy x1.gy).bind fun y3=>bif (!y3)then some false else (Il x0.ready x1.ready).bind fun y4=>bif (!y4)then some false else (Io x0.array x1.array).bind fun y5=>bif (!y5)then some false else (Ip x0.spare x1.spare).bind fun y6=>bif (!y6)then some false else (Iq x0.dc x1.dc).bind fun y7=>bif (!y7)then some false else (Ir x0.dW x1.dW).bind fun y8=>bif (!y8)then some false else (nt x0.guard x1.guard).bind fun y9=>bif (!y9)then some false else (Is x0.pending x1.pending).bind fun iP=>bif (!iP)then some false else (It x0.queue x1.queue).bind fun fU=>bif (!fU)then some false else (Iu x0.shares x1.shares).bind fun fk=>bif (!fk)then some false else (Iv x0.drain x1.drain).bind fun fV=>bif (!fV)then some false else (Iw x0.bM x1.bM).bind fun gQ=>bif (!gQ)then some false else (Ix x0.iG x1.iG).bind fun sU=>bif (!sU)then some false else (Iy x0.errors x1.errors).bind fun pX=>bif (!pX)then some false else (IA x0.trace x1.trace).bind fun pY=>bif (!pY)then some false else (IB x0.iH x1.iH).bind fun qR=>bif (!qR)then some false else some true
def YV:aI:=aH [(true,.eR),(true,.eR)] [(false,.bool,0)] (fun x=>IC x.1 x.2.1)
theorem al2:enters Tryz.prog 9/\aG Tryz.prog 9 YV:=aJ 118 [(54,.p XW),(55,.p X2),(56,.p X8),(57,.p X9),(58,.p Yf),(59,.p Yg),(60,.p Yh),(61,.p Ym),(62,.p sY),(63,.p Yr),(64,.p Yw),(65,.p YB),(66,.p YC),(67,.p YD),(68,.p YE),(69,.p YJ),(70,.p YP),(71,.p YU)] [] Tryz.func9 ⟨ak1,ak7,ald,ale,alk,alm,aln,als,vb,aly,alD,alI,alJ,alK,alL,alQ,alW,al1,trivial⟩ aF fun x=>by kernel_rfl
def al3:aC:=⟨[(0,.lf (.own 20000)),(1,.lf (.int .i64)),(5,.lf (.int .i64))],[(20000,.sl .int 2)],[]⟩
def al4:List (Nat×aC):=[(2,⟨[(1,.lf (.int .i64))],[(20000,.sl .int 2)],[]⟩)]
abbrev YW:=((Unit×Int×Int×Unit)×((List Int)×Unit))
def DX(x:YW):Option (YW⊕(((Int×Unit)×((List Int)×Unit))⊕Empty)):=bif (decide (x.1.2.2.1<(x.2.1.length:Int)))then if h1:0 <= x.1.2.2.1/\x.1.2.2.1.toNat<x.2.1.length then if h2:x.1.2.2.1.toNat<x.2.1.length then (let e3:=x.2.1[x.1.2.2.1.toNat]'h2;some (.inl (((),(IntKind.i64.wrap (x.1.2.1+(1:Int))),(IntKind.i64.wrap (x.1.2.2.1+(1:Int))),()),((x.2.1.set x.1.2.2.1.toNat x.1.2.1),()))))else none else none else some (.inr (.inl ((x.1.2.1,()),(x.2.1,()))))
def YX:bh:=bu 0 al3 al4 DX (fun _=>big)
theorem al5:br Tryz.prog 19 (.block 0 (.loop (bq (aW Tryz.f79) 0))) YX:=bA 19 [] [] trivial aF fun x=>by kernel_rfl
def gE(x0:List Int)(x1:Int):Option ((Int)×((List Int)×Unit)):=(iter DX big (((),x1,(0:Int),()),(x0,()))).bind (Sum.elim (fun z4=>some (z4.1.1,(z4.2.1,()))) (fun z=>nomatch z))
def ff:gN:=⟨[.s .int 0,.v false .int],[(false,.int,0)],fun x=>gE x.1 x.2.1⟩
theorem vc:enters Tryz.prog 79/\kF Tryz.prog 79 ff:=pV (N:=19) (fn:=Tryz.f79) (code:=aW Tryz.f79) (Φ:=(js [])) (Λ:=(iB [(0,YX)])) (ps:=[.s .int 0,.v false .int]) (ro:=[(false,.int,0)]) Tryz.func79 (by kernel_rfl) (by kernel_rfl) (by kernel_rfl) (by kernel_rfl) (by kernel_rfl) (by kernel_rfl) (kK _ trivial) (bH (by kernel_rfl) _ ⟨⟨_,by kernel_rfl,al5⟩,trivial⟩) (fun x=>by kernel_rfl)
theorem al6:enters Tryz.prog 151/\kG Tryz.prog 151 (cj Tryz.prog Tryz.f151 1 [(79,.m ff)]):=uW (uV 1 [(79,.m ff)] Tryz.func151 ⟨vc,trivial⟩)
theorem al7:enters Tryz.prog 72/\kG Tryz.prog 72 (cj Tryz.prog Tryz.f72 2 [(151,.i (cj Tryz.prog Tryz.f151 1 [(79,.m ff)]))]):=uW (uV 2 [(151,.i (cj Tryz.prog Tryz.f151 1 [(79,.m ff)]))] Tryz.func72 ⟨al6,trivial⟩)
def al8:aC:=⟨[(0,.lf (.own 20000)),(1,.lf (.int .i64)),(5,.lf (.int .i64))],[(20000,.sl .dR 2)],[]⟩
def al9:List (Nat×aC):=[(2,⟨[(1,.lf (.int .i64))],[(20000,.sl .dR 2)],[]⟩)]
abbrev YY:=((Unit×Int×Int×Unit)×((List cq)×Unit))
def DY(x:YY):Option (YY⊕(((Int×Unit)×((List cq)×Unit))⊕Empty)):=bif (decide (x.1.2.2.1<(x.2.1.length:Int)))then if h1:0 <= x.1.2.2.1/\x.1.2.2.1.toNat<x.2.1.length then if h2:x.1.2.2.1.toNat<x.2.1.length then (let e3:=x.2.1[x.1.2.2.1.toNat]'h2;if h4:0 <= x.1.2.2.1/\x.1.2.2.1.toNat<(x.2.1.set x.1.2.2.1.toNat (⟨((x.1.2.1.tmod (3:Int))==(0:Int)),e3.row⟩:cq)).length then if h5:x.1.2.2.1.toNat<(x.2.1.set x.1.2.2.1.toNat (⟨((x.1.2.1.tmod (3:Int))==(0:Int)),e3.row⟩:cq)).length then (let e6:=(x.2.1.set x.1.2.2.1.toNat (⟨((x.1.2.1.tmod (3:Int))==(0:Int)),e3.row⟩:cq))[x.1.2.2.1.toNat]'h5;some (.inl (((),(IntKind.i64.wrap ((IntKind.i64.wrap (x.1.2.1+(1:Int)))+(1:Int))),(IntKind.i64.wrap (x.1.2.2.1+(1:Int))),()),(((x.2.1.set x.1.2.2.1.toNat (⟨((x.1.2.1.tmod (3:Int))==(0:Int)),e3.row⟩:cq)).set x.1.2.2.1.toNat (⟨e6.open_,(IntKind.i64.wrap (x.1.2.1+(1:Int)))⟩:cq)),()))))else none else none)else none else none else some (.inr (.inl ((x.1.2.1,()),(x.2.1,()))))
def YZ:bh:=bu 0 al8 al9 DY (fun _=>big)
theorem ama:br Tryz.prog 29 (.block 0 (.loop (bq (aW Tryz.f152) 0))) YZ:=bA 29 [] [] trivial aF fun x=>by kernel_rfl
def zO(x0:List cq)(x1:Int):Option ((Int)×((List cq)×Unit)):=(iter DY big (((),x1,(0:Int),()),(x0,()))).bind (Sum.elim (fun z7=>some (z7.1.1,(z7.2.1,()))) (fun z=>nomatch z))
def zP:gN:=⟨[.s .dR 0,.v false .int],[(false,.int,0)],fun x=>zO x.1 x.2.1⟩
theorem amb:enters Tryz.prog 152/\kF Tryz.prog 152 zP:=pV (N:=29) (fn:=Tryz.f152) (code:=aW Tryz.f152) (Φ:=(js [])) (Λ:=(iB [(0,YZ)])) (ps:=[.s .dR 0,.v false .int]) (ro:=[(false,.int,0)]) Tryz.func152 (by kernel_rfl) (by kernel_rfl) (by kernel_rfl) (by kernel_rfl) (by kernel_rfl) (by kernel_rfl) (kK _ trivial) (bH (by kernel_rfl) _ ⟨⟨_,by kernel_rfl,ama⟩,trivial⟩) (fun x=>by kernel_rfl)
theorem amc:enters Tryz.prog 73/\kG Tryz.prog 73 (cj Tryz.prog Tryz.f73 1 [(152,.m zP)]):=uW (uV 1 [(152,.m zP)] Tryz.func73 ⟨amb,trivial⟩)
theorem amd:enters Tryz.prog 74/\kG Tryz.prog 74 (cj Tryz.prog Tryz.f74 1 [(79,.m ff)]):=uW (uV 1 [(79,.m ff)] Tryz.func74 ⟨vc,trivial⟩)
def ame:aC:=⟨[(0,.lf (.own 20000)),(1,.lf (.int .i64)),(5,.lf (.int .i64))],[(20000,.sl .Cell 4)],[]⟩
def amf:List (Nat×aC):=[(2,⟨[(1,.lf (.int .i64))],[(20000,.sl .Cell 4)],[]⟩)]
abbrev Y0:=((Unit×Int×Int×Unit)×((List cO)×Unit))
def DZ(x:Y0):Option (Y0⊕(((Int×Unit)×((List cO)×Unit))⊕Empty)):=bif (decide (x.1.2.2.1<(x.2.1.length:Int)))then if h1:0 <= x.1.2.2.1/\x.1.2.2.1.toNat<x.2.1.length then if h2:x.1.2.2.1.toNat<x.2.1.length then (let e3:=x.2.1[x.1.2.2.1.toNat]'h2;if h4:x.1.2.2.1.toNat<x.2.1.length then (let e5:=x.2.1[x.1.2.2.1.toNat]'h4;(gE e5.symbols x.1.2.1).bind fun y6=>if h7:0 <= x.1.2.2.1/\x.1.2.2.1.toNat<(x.2.1.set x.1.2.2.1.toNat (⟨y6.2.1,e5.qd⟩:cO)).length then if h8:x.1.2.2.1.toNat<(x.2.1.set x.1.2.2.1.toNat (⟨y6.2.1,e5.qd⟩:cO)).length then (let e9:=(x.2.1.set x.1.2.2.1.toNat (⟨y6.2.1,e5.qd⟩:cO))[x.1.2.2.1.toNat]'h8;some (.inl (((),(IntKind.i64.wrap (y6.1+(1:Int))),(IntKind.i64.wrap (x.1.2.2.1+(1:Int))),()),(((x.2.1.set x.1.2.2.1.toNat (⟨y6.2.1,e5.qd⟩:cO)).set x.1.2.2.1.toNat (⟨e9.symbols,((y6.1.tmod (3:Int))==(0:Int))⟩:cO)),()))))else none else none)else none)else none else none else some (.inr (.inl ((x.1.2.1,()),(x.2.1,()))))
def Y1:bh:=bu 0 ame amf DZ (fun _=>big)
theorem amg:br Tryz.prog 29 (.block 0 (.loop (bq (aW Tryz.f153) 0))) Y1:=bA 29 [(79,.d ff)] [] ⟨vc,trivial⟩ aF fun x=>by kernel_rfl
def D0(x0:List cO)(x1:Int):Option ((Int)×((List cO)×Unit)):=(iter DZ big (((),x1,(0:Int),()),(x0,()))).bind (Sum.elim (fun eI=>some (eI.1.1,(eI.2.1,()))) (fun z=>nomatch z))
def zQ:gN:=⟨[.s .Cell 2,.v false .int],[(false,.int,0)],fun x=>D0 x.1 x.2.1⟩
theorem amh:enters Tryz.prog 153/\kF Tryz.prog 153 zQ:=pV (N:=29) (fn:=Tryz.f153) (code:=aW Tryz.f153) (Φ:=(js [])) (Λ:=(iB [(0,Y1)])) (ps:=[.s .Cell 2,.v false .int]) (ro:=[(false,.int,0)]) Tryz.func153 (by kernel_rfl) (by kernel_rfl) (by kernel_rfl) (by kernel_rfl) (by kernel_rfl) (by kernel_rfl) (kK _ trivial) (bH (by kernel_rfl) _ ⟨⟨_,by kernel_rfl,amg⟩,trivial⟩) (fun x=>by kernel_rfl)
theorem ami:enters Tryz.prog 75/\kG Tryz.prog 75 (cj Tryz.prog Tryz.f75 1 [(79,.m ff),(153,.m zQ)]):=uW (uV 1 [(79,.m ff),(153,.m zQ)] Tryz.func75 ⟨vc,amh,trivial⟩)
theorem amj:enters Tryz.prog 76/\kG Tryz.prog 76 (cj Tryz.prog Tryz.f76 1 [(79,.m ff)]):=uW (uV 1 [(79,.m ff)] Tryz.func76 ⟨vc,trivial⟩)
theorem amk:enters Tryz.prog 77/\kG Tryz.prog 77 (cj Tryz.prog Tryz.f77 1 [(79,.m ff)]):=uW (uV 1 [(79,.m ff)] Tryz.func77 ⟨vc,trivial⟩)
def aml:aC:=⟨[(0,.lf (.own 20000)),(1,.lf (.int .i64)),(5,.lf (.int .i64))],[(20000,.sl .eP 4)],[]⟩
def amm:List (Nat×aC):=[(2,⟨[(1,.lf (.int .i64))],[(20000,.sl .eP 4)],[]⟩)]
abbrev Y2:=((Unit×Int×Int×Unit)×((List cu)×Unit))
def D1(x:Y2):Option (Y2⊕(((Int×Unit)×((List cu)×Unit))⊕Empty)):=bif (decide (x.1.2.2.1<(x.2.1.length:Int)))then if h1:0 <= x.1.2.2.1/\x.1.2.2.1.toNat<x.2.1.length then if h2:x.1.2.2.1.toNat<x.2.1.length then (let e3:=x.2.1[x.1.2.2.1.toNat]'h2;if h4:x.1.2.2.1.toNat<x.2.1.length then (let e5:=x.2.1[x.1.2.2.1.toNat]'h4;(gE e5.rows x.1.2.1).bind fun y6=>if h7:0 <= x.1.2.2.1/\x.1.2.2.1.toNat<(x.2.1.set x.1.2.2.1.toNat (⟨y6.2.1,e5.counts,e5.eE⟩:cu)).length then if h8:x.1.2.2.1.toNat<(x.2.1.set x.1.2.2.1.toNat (⟨y6.2.1,e5.counts,e5.eE⟩:cu)).length then (let e9:=(x.2.1.set x.1.2.2.1.toNat (⟨y6.2.1,e5.counts,e5.eE⟩:cu))[x.1.2.2.1.toNat]'h8;if fC:x.1.2.2.1.toNat<(x.2.1.set x.1.2.2.1.toNat (⟨y6.2.1,e5.counts,e5.eE⟩:cu)).length then (let mb:=(x.2.1.set x.1.2.2.1.toNat (⟨y6.2.1,e5.counts,e5.eE⟩:cu))[x.1.2.2.1.toNat]'fC;(gE mb.counts y6.1).bind fun fk=>if mG:0 <= x.1.2.2.1/\x.1.2.2.1.toNat<((x.2.1.set x.1.2.2.1.toNat (⟨y6.2.1,e5.counts,e5.eE⟩:cu)).set x.1.2.2.1.toNat (⟨mb.rows,fk.2.1,mb.eE⟩:cu)).length then if kg:x.1.2.2.1.toNat<((x.2.1.set x.1.2.2.1.toNat (⟨y6.2.1,e5.counts,e5.eE⟩:cu)).set x.1.2.2.1.toNat (⟨mb.rows,fk.2.1,mb.eE⟩:cu)).length then (let fl:=((x.2.1.set x.1.2.2.1.toNat (⟨y6.2.1,e5.counts,e5.eE⟩:cu)).set x.1.2.2.1.toNat (⟨mb.rows,fk.2.1,mb.eE⟩:cu))[x.1.2.2.1.toNat]'kg;some (.inl (((),(IntKind.i64.wrap (fk.1+(1:Int))),(IntKind.i64.wrap (x.1.2.2.1+(1:Int))),()),((((x.2.1.set x.1.2.2.1.toNat (⟨y6.2.1,e5.counts,e5.eE⟩:cu)).set x.1.2.2.1.toNat (⟨mb.rows,fk.2.1,mb.eE⟩:cu)).set x.1.2.2.1.toNat (⟨fl.rows,fl.counts,fk.1⟩:cu)),()))))else none else none)else none)else none else none)else none)else none else none else some (.inr (.inl ((x.1.2.1,()),(x.2.1,()))))
def Y3:bh:=bu 0 aml amm D1 (fun _=>big)
theorem amn:br Tryz.prog 34 (.block 0 (.loop (bq (aW Tryz.f78) 0))) Y3:=bA 34 [(79,.d ff)] [] ⟨vc,trivial⟩ aF fun x=>by kernel_rfl
def D2(x0:List cu)(x1:Int):Option ((Int)×((List cu)×Unit)):=(iter D1 big (((),x1,(0:Int),()),(x0,()))).bind (Sum.elim (fun ju=>some (ju.1.1,(ju.2.1,()))) (fun z=>nomatch z))
def ID:gN:=⟨[.s .eP 2,.v false .int],[(false,.int,0)],fun x=>D2 x.1 x.2.1⟩
theorem amo:enters Tryz.prog 78/\kF Tryz.prog 78 ID:=pV (N:=34) (fn:=Tryz.f78) (code:=aW Tryz.f78) (Φ:=(js [])) (Λ:=(iB [(0,Y3)])) (ps:=[.s .eP 2,.v false .int]) (ro:=[(false,.int,0)]) Tryz.func78 (by kernel_rfl) (by kernel_rfl) (by kernel_rfl) (by kernel_rfl) (by kernel_rfl) (by kernel_rfl) (kK _ trivial) (bH (by kernel_rfl) _ ⟨⟨_,by kernel_rfl,amn⟩,trivial⟩) (fun x=>by kernel_rfl)
def amq:aC:=⟨[(0,.lf (.own 20000)),(1,.lf (.int .i64)),(5,.lf (.int .i64))],[(20000,.sl .Addr 2)],[]⟩
def amr:List (Nat×aC):=[(2,⟨[(1,.lf (.int .i64))],[(20000,.sl .Addr 2)],[]⟩)]
abbrev Y4:=((Unit×Int×Int×Unit)×((List bW)×Unit))
def D3(x:Y4):Option (Y4⊕(((Int×Unit)×((List bW)×Unit))⊕Empty)):=bif (decide (x.1.2.2.1<(x.2.1.length:Int)))then if h1:0 <= x.1.2.2.1/\x.1.2.2.1.toNat<x.2.1.length then if h2:x.1.2.2.1.toNat<x.2.1.length then (let e3:=x.2.1[x.1.2.2.1.toNat]'h2;if h4:0 <= x.1.2.2.1/\x.1.2.2.1.toNat<(x.2.1.set x.1.2.2.1.toNat (⟨x.1.2.1,e3.row,e3.ck⟩:bW)).length then if h5:x.1.2.2.1.toNat<(x.2.1.set x.1.2.2.1.toNat (⟨x.1.2.1,e3.row,e3.ck⟩:bW)).length then (let e6:=(x.2.1.set x.1.2.2.1.toNat (⟨x.1.2.1,e3.row,e3.ck⟩:bW))[x.1.2.2.1.toNat]'h5;if h7:0 <= x.1.2.2.1/\x.1.2.2.1.toNat<((x.2.1.set x.1.2.2.1.toNat (⟨x.1.2.1,e3.row,e3.ck⟩:bW)).set x.1.2.2.1.toNat (⟨e6.cW,(IntKind.i64.wrap (x.1.2.1+(1:Int))),e6.ck⟩:bW)).length then if h8:x.1.2.2.1.toNat<((x.2.1.set x.1.2.2.1.toNat (⟨x.1.2.1,e3.row,e3.ck⟩:bW)).set x.1.2.2.1.toNat (⟨e6.cW,(IntKind.i64.wrap (x.1.2.1+(1:Int))),e6.ck⟩:bW)).length then (let e9:=((x.2.1.set x.1.2.2.1.toNat (⟨x.1.2.1,e3.row,e3.ck⟩:bW)).set x.1.2.2.1.toNat (⟨e6.cW,(IntKind.i64.wrap (x.1.2.1+(1:Int))),e6.ck⟩:bW))[x.1.2.2.1.toNat]'h8;some (.inl (((),(IntKind.i64.wrap ((IntKind.i64.wrap ((IntKind.i64.wrap (x.1.2.1+(1:Int)))+(1:Int)))+(1:Int))),(IntKind.i64.wrap (x.1.2.2.1+(1:Int))),()),((((x.2.1.set x.1.2.2.1.toNat (⟨x.1.2.1,e3.row,e3.ck⟩:bW)).set x.1.2.2.1.toNat (⟨e6.cW,(IntKind.i64.wrap (x.1.2.1+(1:Int))),e6.ck⟩:bW)).set x.1.2.2.1.toNat (⟨e9.cW,e9.row,(IntKind.i64.wrap ((IntKind.i64.wrap (x.1.2.1+(1:Int)))+(1:Int)))⟩:bW)),()))))else none else none)else none else none)else none else none else some (.inr (.inl ((x.1.2.1,()),(x.2.1,()))))
def Y5:bh:=bu 0 amq amr D3 (fun _=>big)
theorem ams:br Tryz.prog 34 (.block 0 (.loop (bq (aW Tryz.f80) 0))) Y5:=bA 34 [] [] trivial aF fun x=>by kernel_rfl
def zR(x0:List bW)(x1:Int):Option ((Int)×((List bW)×Unit)):=(iter D3 big (((),x1,(0:Int),()),(x0,()))).bind (Sum.elim (fun eI=>some (eI.1.1,(eI.2.1,()))) (fun z=>nomatch z))
def IE:gN:=⟨[.s .Addr 0,.v false .int],[(false,.int,0)],fun x=>zR x.1 x.2.1⟩
theorem amt:enters Tryz.prog 80/\kF Tryz.prog 80 IE:=pV (N:=34) (fn:=Tryz.f80) (code:=aW Tryz.f80) (Φ:=(js [])) (Λ:=(iB [(0,Y5)])) (ps:=[.s .Addr 0,.v false .int]) (ro:=[(false,.int,0)]) Tryz.func80 (by kernel_rfl) (by kernel_rfl) (by kernel_rfl) (by kernel_rfl) (by kernel_rfl) (by kernel_rfl) (kK _ trivial) (bH (by kernel_rfl) _ ⟨⟨_,by kernel_rfl,ams⟩,trivial⟩) (fun x=>by kernel_rfl)
def amu:aC:=⟨[(0,.lf (.own 20000)),(1,.lf (.int .i64)),(5,.lf (.int .i64))],[(20000,.sl .dB 2)],[]⟩
def amv:List (Nat×aC):=[(2,⟨[(1,.lf (.int .i64))],[(20000,.sl .dB 2)],[]⟩)]
abbrev Y6:=((Unit×Int×Int×Unit)×((List aS)×Unit))
def D4(x:Y6):Option (Y6⊕(((Int×Unit)×((List aS)×Unit))⊕Empty)):=bif (decide (x.1.2.2.1<(x.2.1.length:Int)))then if h1:0 <= x.1.2.2.1/\x.1.2.2.1.toNat<x.2.1.length then if h2:x.1.2.2.1.toNat<x.2.1.length then (let e3:=x.2.1[x.1.2.2.1.toNat]'h2;if h4:0 <= x.1.2.2.1/\x.1.2.2.1.toNat<(x.2.1.set x.1.2.2.1.toNat (⟨x.1.2.1,e3.c9,e3.line,e3.write,e3.data,e3.at_⟩:aS)).length then if h5:x.1.2.2.1.toNat<(x.2.1.set x.1.2.2.1.toNat (⟨x.1.2.1,e3.c9,e3.line,e3.write,e3.data,e3.at_⟩:aS)).length then (let e6:=(x.2.1.set x.1.2.2.1.toNat (⟨x.1.2.1,e3.c9,e3.line,e3.write,e3.data,e3.at_⟩:aS))[x.1.2.2.1.toNat]'h5;if h7:0 <= x.1.2.2.1/\x.1.2.2.1.toNat<((x.2.1.set x.1.2.2.1.toNat (⟨x.1.2.1,e3.c9,e3.line,e3.write,e3.data,e3.at_⟩:aS)).set x.1.2.2.1.toNat (⟨e6.id,(IntKind.i64.wrap (x.1.2.1+(1:Int))),e6.line,e6.write,e6.data,e6.at_⟩:aS)).length then if h8:x.1.2.2.1.toNat<((x.2.1.set x.1.2.2.1.toNat (⟨x.1.2.1,e3.c9,e3.line,e3.write,e3.data,e3.at_⟩:aS)).set x.1.2.2.1.toNat (⟨e6.id,(IntKind.i64.wrap (x.1.2.1+(1:Int))),e6.line,e6.write,e6.data,e6.at_⟩:aS)).length then (let e9:=((x.2.1.set x.1.2.2.1.toNat (⟨x.1.2.1,e3.c9,e3.line,e3.write,e3.data,e3.at_⟩:aS)).set x.1.2.2.1.toNat (⟨e6.id,(IntKind.i64.wrap (x.1.2.1+(1:Int))),e6.line,e6.write,e6.data,e6.at_⟩:aS))[x.1.2.2.1.toNat]'h8;if fC:0 <= x.1.2.2.1/\x.1.2.2.1.toNat<(((x.2.1.set x.1.2.2.1.toNat (⟨x.1.2.1,e3.c9,e3.line,e3.write,e3.data,e3.at_⟩:aS)).set x.1.2.2.1.toNat (⟨e6.id,(IntKind.i64.wrap (x.1.2.1+(1:Int))),e6.line,e6.write,e6.data,e6.at_⟩:aS)).set x.1.2.2.1.toNat (⟨e9.id,e9.c9,(IntKind.i64.wrap ((IntKind.i64.wrap (x.1.2.1+(1:Int)))+(1:Int))),e9.write,e9.data,e9.at_⟩:aS)).length then if gS:x.1.2.2.1.toNat<(((x.2.1.set x.1.2.2.1.toNat (⟨x.1.2.1,e3.c9,e3.line,e3.write,e3.data,e3.at_⟩:aS)).set x.1.2.2.1.toNat (⟨e6.id,(IntKind.i64.wrap (x.1.2.1+(1:Int))),e6.line,e6.write,e6.data,e6.at_⟩:aS)).set x.1.2.2.1.toNat (⟨e9.id,e9.c9,(IntKind.i64.wrap ((IntKind.i64.wrap (x.1.2.1+(1:Int)))+(1:Int))),e9.write,e9.data,e9.at_⟩:aS)).length then (let cc:=(((x.2.1.set x.1.2.2.1.toNat (⟨x.1.2.1,e3.c9,e3.line,e3.write,e3.data,e3.at_⟩:aS)).set x.1.2.2.1.toNat (⟨e6.id,(IntKind.i64.wrap (x.1.2.1+(1:Int))),e6.line,e6.write,e6.data,e6.at_⟩:aS)).set x.1.2.2.1.toNat (⟨e9.id,e9.c9,(IntKind.i64.wrap ((IntKind.i64.wrap (x.1.2.1+(1:Int)))+(1:Int))),e9.write,e9.data,e9.at_⟩:aS))[x.1.2.2.1.toNat]'gS;if mG:0 <= x.1.2.2.1/\x.1.2.2.1.toNat<((((x.2.1.set x.1.2.2.1.toNat (⟨x.1.2.1,e3.c9,e3.line,e3.write,e3.data,e3.at_⟩:aS)).set x.1.2.2.1.toNat (⟨e6.id,(IntKind.i64.wrap (x.1.2.1+(1:Int))),e6.line,e6.write,e6.data,e6.at_⟩:aS)).set x.1.2.2.1.toNat (⟨e9.id,e9.c9,(IntKind.i64.wrap ((IntKind.i64.wrap (x.1.2.1+(1:Int)))+(1:Int))),e9.write,e9.data,e9.at_⟩:aS)).set x.1.2.2.1.toNat (⟨cc.id,cc.c9,cc.line,(((IntKind.i64.wrap ((IntKind.i64.wrap ((IntKind.i64.wrap (x.1.2.1+(1:Int)))+(1:Int)))+(1:Int))).tmod (3:Int))==(0:Int)),cc.data,cc.at_⟩:aS)).length then if kg:x.1.2.2.1.toNat<((((x.2.1.set x.1.2.2.1.toNat (⟨x.1.2.1,e3.c9,e3.line,e3.write,e3.data,e3.at_⟩:aS)).set x.1.2.2.1.toNat (⟨e6.id,(IntKind.i64.wrap (x.1.2.1+(1:Int))),e6.line,e6.write,e6.data,e6.at_⟩:aS)).set x.1.2.2.1.toNat (⟨e9.id,e9.c9,(IntKind.i64.wrap ((IntKind.i64.wrap (x.1.2.1+(1:Int)))+(1:Int))),e9.write,e9.data,e9.at_⟩:aS)).set x.1.2.2.1.toNat (⟨cc.id,cc.c9,cc.line,(((IntKind.i64.wrap ((IntKind.i64.wrap ((IntKind.i64.wrap (x.1.2.1+(1:Int)))+(1:Int)))+(1:Int))).tmod (3:Int))==(0:Int)),cc.data,cc.at_⟩:aS)).length then (let fl:=((((x.2.1.set x.1.2.2.1.toNat (⟨x.1.2.1,e3.c9,e3.line,e3.write,e3.data,e3.at_⟩:aS)).set x.1.2.2.1.toNat (⟨e6.id,(IntKind.i64.wrap (x.1.2.1+(1:Int))),e6.line,e6.write,e6.data,e6.at_⟩:aS)).set x.1.2.2.1.toNat (⟨e9.id,e9.c9,(IntKind.i64.wrap ((IntKind.i64.wrap (x.1.2.1+(1:Int)))+(1:Int))),e9.write,e9.data,e9.at_⟩:aS)).set x.1.2.2.1.toNat (⟨cc.id,cc.c9,cc.line,(((IntKind.i64.wrap ((IntKind.i64.wrap ((IntKind.i64.wrap (x.1.2.1+(1:Int)))+(1:Int)))+(1:Int))).tmod (3:Int))==(0:Int)),cc.data,cc.at_⟩:aS))[x.1.2.2.1.toNat]'kg;if mH:0 <= x.1.2.2.1/\x.1.2.2.1.toNat<(((((x.2.1.set x.1.2.2.1.toNat (⟨x.1.2.1,e3.c9,e3.line,e3.write,e3.data,e3.at_⟩:aS)).set x.1.2.2.1.toNat (⟨e6.id,(IntKind.i64.wrap (x.1.2.1+(1:Int))),e6.line,e6.write,e6.data,e6.at_⟩:aS)).set x.1.2.2.1.toNat (⟨e9.id,e9.c9,(IntKind.i64.wrap ((IntKind.i64.wrap (x.1.2.1+(1:Int)))+(1:Int))),e9.write,e9.data,e9.at_⟩:aS)).set x.1.2.2.1.toNat (⟨cc.id,cc.c9,cc.line,(((IntKind.i64.wrap ((IntKind.i64.wrap ((IntKind.i64.wrap (x.1.2.1+(1:Int)))+(1:Int)))+(1:Int))).tmod (3:Int))==(0:Int)),cc.data,cc.at_⟩:aS)).set x.1.2.2.1.toNat (⟨fl.id,fl.c9,fl.line,fl.write,(IntKind.i64.wrap ((IntKind.i64.wrap ((IntKind.i64.wrap ((IntKind.i64.wrap (x.1.2.1+(1:Int)))+(1:Int)))+(1:Int)))+(1:Int))),fl.at_⟩:aS)).length then if nD:x.1.2.2.1.toNat<(((((x.2.1.set x.1.2.2.1.toNat (⟨x.1.2.1,e3.c9,e3.line,e3.write,e3.data,e3.at_⟩:aS)).set x.1.2.2.1.toNat (⟨e6.id,(IntKind.i64.wrap (x.1.2.1+(1:Int))),e6.line,e6.write,e6.data,e6.at_⟩:aS)).set x.1.2.2.1.toNat (⟨e9.id,e9.c9,(IntKind.i64.wrap ((IntKind.i64.wrap (x.1.2.1+(1:Int)))+(1:Int))),e9.write,e9.data,e9.at_⟩:aS)).set x.1.2.2.1.toNat (⟨cc.id,cc.c9,cc.line,(((IntKind.i64.wrap ((IntKind.i64.wrap ((IntKind.i64.wrap (x.1.2.1+(1:Int)))+(1:Int)))+(1:Int))).tmod (3:Int))==(0:Int)),cc.data,cc.at_⟩:aS)).set x.1.2.2.1.toNat (⟨fl.id,fl.c9,fl.line,fl.write,(IntKind.i64.wrap ((IntKind.i64.wrap ((IntKind.i64.wrap ((IntKind.i64.wrap (x.1.2.1+(1:Int)))+(1:Int)))+(1:Int)))+(1:Int))),fl.at_⟩:aS)).length then (let sS:=(((((x.2.1.set x.1.2.2.1.toNat (⟨x.1.2.1,e3.c9,e3.line,e3.write,e3.data,e3.at_⟩:aS)).set x.1.2.2.1.toNat (⟨e6.id,(IntKind.i64.wrap (x.1.2.1+(1:Int))),e6.line,e6.write,e6.data,e6.at_⟩:aS)).set x.1.2.2.1.toNat (⟨e9.id,e9.c9,(IntKind.i64.wrap ((IntKind.i64.wrap (x.1.2.1+(1:Int)))+(1:Int))),e9.write,e9.data,e9.at_⟩:aS)).set x.1.2.2.1.toNat (⟨cc.id,cc.c9,cc.line,(((IntKind.i64.wrap ((IntKind.i64.wrap ((IntKind.i64.wrap (x.1.2.1+(1:Int)))+(1:Int)))+(1:Int))).tmod (3:Int))==(0:Int)),cc.data,cc.at_⟩:aS)).set x.1.2.2.1.toNat (⟨fl.id,fl.c9,fl.line,fl.write,(IntKind.i64.wrap ((IntKind.i64.wrap ((IntKind.i64.wrap ((IntKind.i64.wrap (x.1.2.1+(1:Int)))+(1:Int)))+(1:Int)))+(1:Int))),fl.at_⟩:aS))[x.1.2.2.1.toNat]'nD;some (.inl (((),(IntKind.i64.wrap ((IntKind.i64.wrap ((IntKind.i64.wrap ((IntKind.i64.wrap ((IntKind.i64.wrap ((IntKind.i64.wrap (x.1.2.1+(1:Int)))+(1:Int)))+(1:Int)))+(1:Int)))+(1:Int)))+(1:Int))),(IntKind.i64.wrap (x.1.2.2.1+(1:Int))),()),(((((((x.2.1.set x.1.2.2.1.toNat (⟨x.1.2.1,e3.c9,e3.line,e3.write,e3.data,e3.at_⟩:aS)).set x.1.2.2.1.toNat (⟨e6.id,(IntKind.i64.wrap (x.1.2.1+(1:Int))),e6.line,e6.write,e6.data,e6.at_⟩:aS)).set x.1.2.2.1.toNat (⟨e9.id,e9.c9,(IntKind.i64.wrap ((IntKind.i64.wrap (x.1.2.1+(1:Int)))+(1:Int))),e9.write,e9.data,e9.at_⟩:aS)).set x.1.2.2.1.toNat (⟨cc.id,cc.c9,cc.line,(((IntKind.i64.wrap ((IntKind.i64.wrap ((IntKind.i64.wrap (x.1.2.1+(1:Int)))+(1:Int)))+(1:Int))).tmod (3:Int))==(0:Int)),cc.data,cc.at_⟩:aS)).set x.1.2.2.1.toNat (⟨fl.id,fl.c9,fl.line,fl.write,(IntKind.i64.wrap ((IntKind.i64.wrap ((IntKind.i64.wrap ((IntKind.i64.wrap (x.1.2.1+(1:Int)))+(1:Int)))+(1:Int)))+(1:Int))),fl.at_⟩:aS)).set x.1.2.2.1.toNat (⟨sS.id,sS.c9,sS.line,sS.write,sS.data,(IntKind.i64.wrap ((IntKind.i64.wrap ((IntKind.i64.wrap ((IntKind.i64.wrap ((IntKind.i64.wrap (x.1.2.1+(1:Int)))+(1:Int)))+(1:Int)))+(1:Int)))+(1:Int)))⟩:aS)),()))))else none else none)else none else none)else none else none)else none else none)else none else none)else none else none else some (.inr (.inl ((x.1.2.1,()),(x.2.1,()))))
def Y7:bh:=bu 0 amu amv D4 (fun _=>big)
theorem amw:br Tryz.prog 57 (.block 0 (.loop (bq (aW Tryz.f81) 0))) Y7:=bA 57 [] [] trivial aF fun x=>by kernel_rfl
def zS(x0:List aS)(x1:Int):Option ((Int)×((List aS)×Unit)):=(iter D4 big (((),x1,(0:Int),()),(x0,()))).bind (Sum.elim (fun CF=>some (CF.1.1,(CF.2.1,()))) (fun z=>nomatch z))
def IF:gN:=⟨[.s .dB 0,.v false .int],[(false,.int,0)],fun x=>zS x.1 x.2.1⟩
theorem amx:enters Tryz.prog 81/\kF Tryz.prog 81 IF:=pV (N:=57) (fn:=Tryz.f81) (code:=aW Tryz.f81) (Φ:=(js [])) (Λ:=(iB [(0,Y7)])) (ps:=[.s .dB 0,.v false .int]) (ro:=[(false,.int,0)]) Tryz.func81 (by kernel_rfl) (by kernel_rfl) (by kernel_rfl) (by kernel_rfl) (by kernel_rfl) (by kernel_rfl) (kK _ trivial) (bH (by kernel_rfl) _ ⟨⟨_,by kernel_rfl,amw⟩,trivial⟩) (fun x=>by kernel_rfl)
end Go.Proofs.YtmffpkippmkjbaaGreatDoor
