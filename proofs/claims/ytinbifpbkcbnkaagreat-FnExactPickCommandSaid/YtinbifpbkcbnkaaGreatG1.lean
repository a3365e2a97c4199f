/-
  Functions of the program as plain functions of contents, and that the code computes them. Nothing here is a claim.
-/
import Derived.Test.YtinbifpbkcbnkaaGreatVZ
import Derived.Test.YtinbifpbkcbnkaaGreatRows
namespace Go.Proofs.YtinbifpbkcbnkaaGreat
open Go.RowKit
set_option linter.unusedVariables false
set_option maxRecDepth 100000
def o6(x0:List Int)(x1:Int):Option (Int):=bif (decide ((IntKind.i64.wrap (x1-(x0.length:Int)))<(0:Int)))then some (-1:Int)else some (IntKind.i64.wrap (x1-(x0.length:Int)))
def uE:aE:=aG [(false,(.sl .int)),(false,.int)] [(false,.int,0)] (fun x=>o6 x.1 x.2.1)
theorem wH:enters Tryz.prog 17/\aF Tryz.prog 17 uE:=aH 12 [] [] Tryz.func17 trivial aD fun x=>by kernel_rfl
def Eu(x0:fS)(x1:Int):Option (Int):=(o6 x0.weights x1).bind fun y1=>bif (decide (y1<(0:Int)))then some (-1:Int)else some y1
def XG:aE:=aG [(true,.kK),(false,.int)] [(false,.int,0)] (fun x=>Eu x.1 x.2.1)
theorem als:enters Tryz.prog 64/\aF Tryz.prog 64 XG:=aH 12 [(17,.p uE)] [] Tryz.func64 ⟨wH,trivial⟩ aD fun x=>by kernel_rfl
def Je(x0:lY)(x1:Int):Option (Int):=(Eu x0.cC x1).bind fun y1=>bif (decide (y1<(0:Int)))then some (-1:Int)else (Eu x0.next y1).bind fun y2=>bif (decide (y2<(0:Int)))then some (-1:Int)else some y2
def XH:aE:=aG [(true,.ny),(false,.int)] [(false,.int,0)] (fun x=>Je x.1 x.2.1)
theorem alu:enters Tryz.prog 10/\aF Tryz.prog 10 XH:=aH 18 [(64,.p XG)] [] Tryz.func10 ⟨als,trivial⟩ aD fun x=>by kernel_rfl
def Ql(x0:List dY)(x1:Int):Option (Int):=bif (decide ((IntKind.i64.wrap (x1-(x0.length:Int)))<(0:Int)))then some (-1:Int)else some (IntKind.i64.wrap (x1-(x0.length:Int)))
def XI:aE:=aG [(false,(.sl .eF)),(false,.int)] [(false,.int,0)] (fun x=>Ql x.1 x.2.1)
theorem alv:enters Tryz.prog 65/\aF Tryz.prog 65 XI:=aH 12 [] [] Tryz.func65 trivial aD fun x=>by kernel_rfl
def Jf(x0:cV)(x1:Int):Option (Int):=(Ql x0.av x1).bind fun y1=>bif (decide (y1<(0:Int)))then some (-1:Int)else some y1
def XJ:aE:=aG [(true,.gM),(false,.int)] [(false,.int,0)] (fun x=>Jf x.1 x.2.1)
theorem alw:enters Tryz.prog 11/\aF Tryz.prog 11 XJ:=aH 12 [(65,.p XI)] [] Tryz.func11 ⟨alv,trivial⟩ aD fun x=>by kernel_rfl
def Jg(x0:gj)(x1:Int):Option (Int):=(o6 x0.last x1).bind fun y1=>bif (decide (y1<(0:Int)))then some (-1:Int)else (o6 x0.cF y1).bind fun y2=>bif (decide (y2<(0:Int)))then some (-1:Int)else some y2
def XK:aE:=aG [(true,.kJ),(false,.int)] [(false,.int,0)] (fun x=>Jg x.1 x.2.1)
theorem alx:enters Tryz.prog 12/\aF Tryz.prog 12 XK:=aH 18 [(17,.p uE)] [] Tryz.func12 ⟨wH,trivial⟩ aD fun x=>by kernel_rfl
def Ev(x0:en)(x1:Int):Option (Int):=(o6 x0.symbols x1).bind fun y1=>bif (decide (y1<(0:Int)))then some (-1:Int)else some y1
def XL:aE:=aG [(true,.Cell),(false,.int)] [(false,.int,0)] (fun x=>Ev x.1 x.2.1)
theorem aly:enters Tryz.prog 142/\aF Tryz.prog 142 XL:=aH 12 [(17,.p uE)] [] Tryz.func142 ⟨wH,trivial⟩ aD fun x=>by kernel_rfl
def alz:aI:=⟨[(0,.lf (.ah .Cell 0)),(1,.lf (.int .i64)),(5,.lf (.int .i64))],[],[]⟩
def alA:List (Nat×aI):=[(1,⟨[(4,.lf (.int .i64))],[],[]⟩),(2,⟨[(1,.lf (.int .i64))],[],[]⟩)]
abbrev XM:=(((List en)×Int×Int×Unit)×(Unit))
def XN(x:XM):Option (XM⊕(((Int×Unit)×(Unit))⊕(((Int×Unit)×(Unit))⊕Empty))):=bif (decide (x.1.2.2.1<(x.1.1.length:Int)))then if h1:0 <= x.1.2.2.1/\x.1.2.2.1.toNat<x.1.1.length then (let e2:=x.1.1[x.1.2.2.1.toNat]'h1.2;(Ev e2 x.1.2.1).bind fun y3=>bif (decide (y3<(0:Int)))then some (.inr (.inl (((-1:Int),()),())))else some (.inl ((x.1.1,y3,(IntKind.i64.wrap (x.1.2.2.1+(1:Int))),()),())))else none else some (.inr (.inr (.inl ((x.1.2.1,()),()))))
def XO:bB:=bF 0 alz alA XN (fun _=>au)
theorem alB:bE Tryz.prog 27 (.block 0 (.loop (bC (bD Tryz.f66) 0))) XO:=bH 27 [(142,.p XL)] [] ⟨aly,trivial⟩ aD fun x=>by kernel_rfl
def Jh(x0:List en)(x1:Int):Option (Int):=bif (decide ((IntKind.i64.wrap (x1-(x0.length:Int)))<(0:Int)))then some (-1:Int)else (iter XN au ((x0,(IntKind.i64.wrap (x1-(x0.length:Int))),(0:Int),()),())).bind (Sum.elim (fun z4=>some z4.1.1) (Sum.elim (fun z5=>some z5.1.1) (fun z=>nomatch z)))
def XP:aE:=aG [(false,(.sl .Cell)),(false,.int)] [(false,.int,0)] (fun x=>Jh x.1 x.2.1)
theorem alC:enters Tryz.prog 66/\aF Tryz.prog 66 XP:=aH 27 [] [(0,XO)] Tryz.func66 trivial (bO (by kernel_rfl) _ ⟨⟨_,by kernel_rfl,alB⟩,trivial⟩) fun x=>by kernel_rfl
def Ji(x0:jx)(x1:Int):Option (Int):=(Jh x0.cells x1).bind fun y1=>bif (decide (y1<(0:Int)))then some (-1:Int)else (o6 x0.dz y1).bind fun y2=>bif (decide (y2<(0:Int)))then some (-1:Int)else (o6 x0.dA y2).bind fun y3=>bif (decide (y3<(0:Int)))then some (-1:Int)else some y3
def XQ:aE:=aG [(true,.Array),(false,.int)] [(false,.int,0)] (fun x=>Ji x.1 x.2.1)
theorem alD:enters Tryz.prog 13/\aF Tryz.prog 13 XQ:=aH 24 [(17,.p uE),(66,.p XP)] [] Tryz.func13 ⟨wH,alC,trivial⟩ aD fun x=>by kernel_rfl
def Jj(x0:ee)(x1:Int):Option (Int):=(o6 x0.map x1).bind fun y1=>bif (decide (y1<(0:Int)))then some (-1:Int)else some y1
def XR:aE:=aG [(true,.jk),(false,.int)] [(false,.int,0)] (fun x=>Jj x.1 x.2.1)
theorem alE:enters Tryz.prog 14/\aF Tryz.prog 14 XR:=aH 12 [(17,.p uE)] [] Tryz.func14 ⟨wH,trivial⟩ aD fun x=>by kernel_rfl
def Jk(x0:fA)(x1:Int):Option (Int):=(o6 x0.aL x1).bind fun y1=>bif (decide (y1<(0:Int)))then some (-1:Int)else some y1
def XS:aE:=aG [(true,.jH),(false,.int)] [(false,.int,0)] (fun x=>Jk x.1 x.2.1)
theorem alF:enters Tryz.prog 15/\aF Tryz.prog 15 XS:=aH 12 [(17,.p uE)] [] Tryz.func15 ⟨wH,trivial⟩ aD fun x=>by kernel_rfl
def Ew(x0:eD)(x1:Int):Option (Int):=(o6 x0.rows x1).bind fun y1=>bif (decide (y1<(0:Int)))then some (-1:Int)else (o6 x0.counts y1).bind fun y2=>bif (decide (y2<(0:Int)))then some (-1:Int)else some y2
def XT:aE:=aG [(true,.gy),(false,.int)] [(false,.int,0)] (fun x=>Ew x.1 x.2.1)
theorem alG:enters Tryz.prog 67/\aF Tryz.prog 67 XT:=aH 18 [(17,.p uE)] [] Tryz.func67 ⟨wH,trivial⟩ aD fun x=>by kernel_rfl
def alH:aI:=⟨[(0,.lf (.ah .gy 0)),(1,.lf (.int .i64)),(5,.lf (.int .i64))],[],[]⟩
def alI:List (Nat×aI):=[(1,⟨[(4,.lf (.int .i64))],[],[]⟩),(2,⟨[(1,.lf (.int .i64))],[],[]⟩)]
abbrev XU:=(((List eD)×Int×Int×Unit)×(Unit))
def XV(x:XU):Option (XU⊕(((Int×Unit)×(Unit))⊕(((Int×Unit)×(Unit))⊕Empty))):=bif (decide (x.1.2.2.1<(x.1.1.length:Int)))then if h1:0 <= x.1.2.2.1/\x.1.2.2.1.toNat<x.1.1.length then (let e2:=x.1.1[x.1.2.2.1.toNat]'h1.2;(Ew e2 x.1.2.1).bind fun y3=>bif (decide (y3<(0:Int)))then some (.inr (.inl (((-1:Int),()),())))else some (.inl ((x.1.1,y3,(IntKind.i64.wrap (x.1.2.2.1+(1:Int))),()),())))else none else some (.inr (.inr (.inl ((x.1.2.1,()),()))))
def XW:bB:=bF 0 alH alI XV (fun _=>au)
theorem alJ:bE Tryz.prog 27 (.block 0 (.loop (bC (bD Tryz.f16) 0))) XW:=bH 27 [(67,.p XT)] [] ⟨alG,trivial⟩ aD fun x=>by kernel_rfl
def Jl(x0:List eD)(x1:Int):Option (Int):=bif (decide ((IntKind.i64.wrap (x1-(x0.length:Int)))<(0:Int)))then some (-1:Int)else (iter XV au ((x0,(IntKind.i64.wrap (x1-(x0.length:Int))),(0:Int),()),())).bind (Sum.elim (fun z4=>some z4.1.1) (Sum.elim (fun z5=>some z5.1.1) (fun z=>nomatch z)))
def XX:aE:=aG [(false,(.sl .gy)),(false,.int)] [(false,.int,0)] (fun x=>Jl x.1 x.2.1)
theorem alK:enters Tryz.prog 16/\aF Tryz.prog 16 XX:=aH 27 [] [(0,XW)] Tryz.func16 trivial (bO (by kernel_rfl) _ ⟨⟨_,by kernel_rfl,alJ⟩,trivial⟩) fun x=>by kernel_rfl
def Qm(x0:List aU)(x1:Int):Option (Int):=bif (decide ((IntKind.i64.wrap (x1-(x0.length:Int)))<(0:Int)))then some (-1:Int)else some (IntKind.i64.wrap (x1-(x0.length:Int)))
def XY:aE:=aG [(false,(.sl .Addr)),(false,.int)] [(false,.int,0)] (fun x=>Qm x.1 x.2.1)
theorem alL:enters Tryz.prog 18/\aF Tryz.prog 18 XY:=aH 12 [] [] Tryz.func18 trivial aD fun x=>by kernel_rfl
def Qn(x0:List bL)(x1:Int):Option (Int):=bif (decide ((IntKind.i64.wrap (x1-(x0.length:Int)))<(0:Int)))then some (-1:Int)else some (IntKind.i64.wrap (x1-(x0.length:Int)))
def XZ:aE:=aG [(false,(.sl .cZ)),(false,.int)] [(false,.int,0)] (fun x=>Qn x.1 x.2.1)
theorem alM:enters Tryz.prog 19/\aF Tryz.prog 19 XZ:=aH 12 [] [] Tryz.func19 trivial aD fun x=>by kernel_rfl
def Qo(x0:List bA)(x1:Int):Option (Int):=bif (decide ((IntKind.i64.wrap (x1-(x0.length:Int)))<(0:Int)))then some (-1:Int)else some (IntKind.i64.wrap (x1-(x0.length:Int)))
def X0:aE:=aG [(false,(.sl .dI)),(false,.int)] [(false,.int,0)] (fun x=>Qo x.1 x.2.1)
theorem alN:enters Tryz.prog 20/\aF Tryz.prog 20 X0:=aH 12 [] [] Tryz.func20 trivial aD fun x=>by kernel_rfl
def Qp(x0:List dB)(x1:Int):Option (Int):=bif (decide ((IntKind.i64.wrap (x1-(x0.length:Int)))<(0:Int)))then some (-1:Int)else some (IntKind.i64.wrap (x1-(x0.length:Int)))
def X1:aE:=aG [(false,(.sl .eG)),(false,.int)] [(false,.int,0)] (fun x=>Qp x.1 x.2.1)
theorem alO:enters Tryz.prog 21/\aF Tryz.prog 21 X1:=aH 12 [] [] Tryz.func21 trivial aD fun x=>by kernel_rfl
def Qq(x0:List gK)(x1:Int):Option (Int):=bif (decide ((IntKind.i64.wrap (x1-(x0.length:Int)))<(0:Int)))then some (-1:Int)else some (IntKind.i64.wrap (x1-(x0.length:Int)))
def X2:aE:=aG [(false,(.sl .Event)),(false,.int)] [(false,.int,0)] (fun x=>Qq x.1 x.2.1)
theorem alP:enters Tryz.prog 22/\aF Tryz.prog 22 X2:=aH 12 [] [] Tryz.func22 trivial aD fun x=>by kernel_rfl
def Qr(x0:List gU)(x1:Int):Option (Int):=bif (decide ((IntKind.i64.wrap (x1-(x0.length:Int)))<(0:Int)))then some (-1:Int)else some (IntKind.i64.wrap (x1-(x0.length:Int)))
def X3:aE:=aG [(false,(.sl .hJ)),(false,.int)] [(false,.int,0)] (fun x=>Qr x.1 x.2.1)
theorem alQ:enters Tryz.prog 23/\aF Tryz.prog 23 X3:=aH 12 [] [] Tryz.func23 trivial aD fun x=>by kernel_rfl
def Jm(x0:aQ)(x1:Int):Option (Int):=(Je x0.box x1).bind fun y1=>bif (decide (y1<(0:Int)))then some (-1:Int)else (Jf x0.bx y1).bind fun y2=>bif (decide (y2<(0:Int)))then some (-1:Int)else (Jg x0.ready y2).bind fun y3=>bif (decide (y3<(0:Int)))then some (-1:Int)else (Ji x0.array y3).bind fun y4=>bif (decide (y4<(0:Int)))then some (-1:Int)else (Jj x0.spare y4).bind fun y5=>bif (decide (y5<(0:Int)))then some (-1:Int)else (Jk x0.bu y5).bind fun y6=>bif (decide (y6<(0:Int)))then some (-1:Int)else (Jl x0.eV y6).bind fun y7=>bif (decide (y7<(0:Int)))then some (-1:Int)else (o6 x0.guard y7).bind fun y8=>bif (decide (y8<(0:Int)))then some (-1:Int)else (Qm x0.pending y8).bind fun y9=>bif (decide (y9<(0:Int)))then some (-1:Int)else (Qn x0.queue y9).bind fun ga=>bif (decide (ga<(0:Int)))then some (-1:Int)else (Qo x0.shares ga).bind fun eS=>bif (decide (eS<(0:Int)))then some (-1:Int)else (Qp x0.errors eS).bind fun gY=>bif (decide (gY<(0:Int)))then some (-1:Int)else (Qq x0.trace gY).bind fun dZ=>bif (decide (dZ<(0:Int)))then some (-1:Int)else (Qr x0.nx dZ).bind fun iP=>bif (decide (iP<(0:Int)))then some (-1:Int)else some iP
def X4:aE:=aG [(true,.cG),(false,.int)] [(false,.int,0)] (fun x=>Jm x.1 x.2.1)
theorem alR:enters Tryz.prog 4/\aF Tryz.prog 4 X4:=aH 90 [(10,.p XH),(11,.p XJ),(12,.p XK),(13,.p XQ),(14,.p XR),(15,.p XS),(16,.p XX),(17,.p uE),(18,.p XY),(19,.p XZ),(20,.p X0),(21,.p X1),(22,.p X2),(23,.p X3)] [] Tryz.func4 ⟨alu,alw,alx,alD,alE,alF,alK,wH,alL,alM,alN,alO,alP,alQ,trivial⟩ aD fun x=>by kernel_rfl
def cP(x0:Int)(x1:Int)(x2:Int):Option (Bool):=bif (decide (x0 >= x1))then some (decide (x0 <= x2))else some false
def fG:aE:=aG [(false,.int),(false,.int),(false,.int)] [(false,.bool,0)] (fun x=>cP x.1 x.2.1 x.2.2.1)
theorem fP:enters Tryz.prog 69/\aF Tryz.prog 69 fG:=aH 15 [] [] Tryz.func69 trivial aD fun x=>by kernel_rfl
def uF(x0:bg):Option (Bool):=(cP x0.cQ (1:Int) (2:Int)).bind fun y1=>bif y1 then (cP x0.av (1:Int) (4:Int)).bind fun y2=>bif y2 then (cP x0.rows (2:Int) (16:Int)).bind fun y3=>bif y3 then (cP x0.aS (1:Int) (8:Int)).bind fun y4=>some y4 else some false else some false else some false
def yW:aE:=aG [(true,.dO)] [(false,.bool,0)] (fun x=>uF x.1)
theorem Br:enters Tryz.prog 146/\aF Tryz.prog 146 yW:=aH 21 [(69,.p fG)] [] Tryz.func146 ⟨fP,trivial⟩ aD fun x=>by kernel_rfl
def o7(x0:bg):Option (Int):=(uF x0).bind fun y1=>bif (!y1)then some (0:Int)else some (IntKind.i64.wrap (x0.cQ*x0.av))
def q6:aE:=aG [(true,.dO)] [(false,.int,0)] (fun x=>o7 x.1)
theorem sD:enters Tryz.prog 147/\aF Tryz.prog 147 q6:=aH 11 [(146,.p yW)] [] Tryz.func147 ⟨Br,trivial⟩ aD fun x=>by kernel_rfl
def alS:aI:=⟨[(1,.lf (.int .i64)),(2,.aC 2 0),(4,.aC 4 0),(6,.aC 6 0),(7,.lf (.int .i64))],[(2,.ak [.int .i64,.int .i64,.int .i64,.int .i64]),(4,.ak [.int .i64,.own 90101]),(6,.ak [.int .i64,.own 90201]),(90101,.sl .int 2),(90201,.sl .int 2)],[]⟩
def alT:List (Nat×aI):=[(2,⟨[(4,.aC 4 0),(6,.aC 6 0)],[(4,.ak [.int .i64,.own 90101]),(6,.ak [.int .i64,.own 90201]),(90101,.sl .int 2),(90201,.sl .int 2)],[]⟩)]
abbrev X5:=((Int×Unit×Unit×Unit×Int×Unit)×((Int×Int×Int×Int×Unit)×(Int×Unit×Unit)×(Int×Unit×Unit)×(List Int)×(List Int)×Unit))
def Ex(x:X5):Option (X5⊕(((Unit×Unit×Unit)×((Int×Unit×Unit)×(Int×Unit×Unit)×(List Int)×(List Int)×Unit))⊕Empty)):=(o7 (⟨x.2.1.1,x.2.1.2.1,x.2.1.2.2.1,x.2.1.2.2.2.1⟩:bg)).bind fun y3=>bif (decide (x.1.2.2.2.2.1<(IntKind.i64.wrap (y3*(IntKind.i64.wrap (x.2.1.2.2.1-x.1.1))))))then if (IntKind.i64.wrap (x.2.1.2.2.1-x.1.1))=0 then none else bif cu (x.2.2.2.2.2.1.length+([(x.1.2.2.2.2.1.tmod (IntKind.i64.wrap (x.2.1.2.2.1-x.1.1)))]:List Int).length)then some (.inl ((x.1.1,(),(),(),(IntKind.i64.wrap (x.1.2.2.2.2.1+(1:Int))),()),(x.2.1,x.2.2.1,x.2.2.2.1,x.2.2.2.2.1,(x.2.2.2.2.2.1++([(x.1.2.2.2.2.1.tmod (IntKind.i64.wrap (x.2.1.2.2.1-x.1.1)))]:List Int)),())))else none else some (.inr (.inl (((),(),()),(x.2.2.1,x.2.2.2.1,x.2.2.2.2.1,x.2.2.2.2.2.1,()))))
def X6:bB:=bF 0 alS alT Ex (fun _=>au)
theorem alU:bE Tryz.prog 49 (.block 0 (.loop (bC (bD Tryz.f150) 0))) X6:=bH 49 [(147,.p q6)] [] ⟨sD,trivial⟩ aD fun x=>by kernel_rfl
def Ey(x0:bg)(x1:Int):Option (ee×Bool):=(uF x0).bind fun y1=>bif (!y1)then some ((⟨(0:Int),[]⟩:ee),false)else (cP x1 (0:Int) (2:Int)).bind fun y2=>bif (!y2)then some ((⟨(0:Int),[]⟩:ee),false)else bif (decide ((IntKind.i64.wrap (x0.rows-x1))<(2:Int)))then some ((⟨(0:Int),[]⟩:ee),false)else (iter Ex au ((x1,(),(),(),(0:Int),()),((x0.cQ,x0.av,x0.rows,x0.aS,()),((0:Int),(),()),(x1,(),()),([]:List Int),([]:List Int),()))).bind (Sum.elim (fun z4=>some ((⟨z4.2.2.1.1,z4.2.2.2.2.1⟩:ee),true)) (fun z=>nomatch z))
def Qs:aE:=aG [(true,.dO),(false,.int)] [(true,.jk,2),(false,.bool,0)] (fun x=>Ey x.1 x.2.1)
theorem X7:enters Tryz.prog 150/\aF Tryz.prog 150 Qs:=aH 49 [(69,.p fG),(146,.p yW)] [(0,X6)] Tryz.func150 ⟨fP,Br,trivial⟩ (bO (by kernel_rfl) _ ⟨⟨_,by kernel_rfl,alU⟩,trivial⟩) fun x=>by kernel_rfl
def Qt(x0:cI):Option ((List Int)):=some ([x0.iU,x0.rp,x0.fj,x0.kG,x0.iV,x0.hG,x0.kH,x0.kI,x0.iA,x0.wr,x0.lV,x0.lW,x0.oA,x0.lX,x0.mF,x0.xp,x0.xs]:List Int)
def X8:aE:=aG [(true,.fB)] [(false,(.sl .int),2)] (fun x=>Qt x.1)
theorem alV:enters Tryz.prog 242/\aF Tryz.prog 242 X8:=aH 38 [] [] Tryz.func242 trivial aD fun x=>by kernel_rfl
def alW:aI:=⟨[(1,.aC 1 0),(3,.lf (.own 1000000000106000)),(4,.lf (.int .i64))],[(1,.st .fB),(1000000000106000,.sl .int 2)],[]⟩
def alX:List (Nat×aI):=[(1,⟨[(2,.lf (.bool))],[],[]⟩),(2,⟨[(1,.aC 1 0)],[(1,.st .fB)],[]⟩)]
abbrev X9:=((Unit×Unit×Int×Unit)×(cI×(List Int)×Unit))
def Bs(x:X9):Option (X9⊕(((Bool×Unit)×(Unit))⊕(((Unit×Unit)×(cI×Unit))⊕Empty))):=bif (decide (x.1.2.2.1<(x.2.2.1.length:Int)))then if h2:0 <= x.1.2.2.1/\x.1.2.2.1.toNat<x.2.2.1.length then if h3:x.1.2.2.1.toNat<x.2.2.1.length then (let e4:=x.2.2.1[x.1.2.2.1.toNat]'h3;(cP e4 (1:Int) (64:Int)).bind fun y5=>bif (!y5)then some (.inr (.inl ((false,()),())))else some (.inl (((),(),(IntKind.i64.wrap (x.1.2.2.1+(1:Int))),()),(x.2.1,x.2.2.1,()))))else none else none else some (.inr (.inr (.inl (((),()),(x.2.1,())))))
def Ya:bB:=bF 0 alW alX Bs (fun _=>au)
theorem alY:bE Tryz.prog 45 (.block 0 (.loop (bC (bD Tryz.f216) 0))) Ya:=bH 45 [(69,.p fG)] [] ⟨fP,trivial⟩ aD fun x=>by kernel_rfl
def yX(x0:cI):Option (Bool):=(Qt x0).bind fun y1=>(iter Bs au (((),(),(0:Int),()),(x0,y1,()))).bind (Sum.elim (fun z6=>some z6.1.1) (Sum.elim (fun z7=>bif (decide (z7.2.1.iU <= z7.2.1.fj))then bif (decide (z7.2.1.kG <= z7.2.1.iV))then bif (decide (z7.2.1.kH <= z7.2.1.kI))then some (decide (z7.2.1.lV <= z7.2.1.lW))else some false else some false else some false) (fun z=>nomatch z)))
def Ez:aE:=aG [(true,.fB)] [(false,.bool,0)] (fun x=>yX x.1)
theorem Jn:enters Tryz.prog 216/\aF Tryz.prog 216 Ez:=aH 45 [(242,.p X8)] [(0,Ya)] Tryz.func216 ⟨alV,trivial⟩ (bO (by kernel_rfl) _ ⟨⟨_,by kernel_rfl,alY⟩,trivial⟩) fun x=>by kernel_rfl
def Bt(x0:iT):Option (Bool):=(cP x0.order (0:Int) (2:Int)).bind fun y1=>some y1
def Qu:aE:=aG [(true,.lD)] [(false,.bool,0)] (fun x=>Bt x.1)
theorem Yb:enters Tryz.prog 217/\aF Tryz.prog 217 Qu:=aH 6 [(69,.p fG)] [] Tryz.func217 ⟨fP,trivial⟩ aD fun x=>by kernel_rfl
def EA(x0:cI):Option (Int):=(yX x0).bind fun y1=>bif (!y1)then some (0:Int)else some (IntKind.i64.wrap ((2:Int)*(IntKind.i64.wrap ((IntKind.i64.wrap ((IntKind.i64.wrap ((IntKind.i64.wrap ((IntKind.i64.wrap ((IntKind.i64.wrap ((IntKind.i64.wrap ((IntKind.i64.wrap ((IntKind.i64.wrap (x0.mF+x0.xp))+x0.fj))+x0.wr))+x0.iA))+x0.rp))+x0.lX))+x0.iU))+(IntKind.i64.wrap ((8:Int)*x0.iV))))+(16:Int)))))
def Yc:aE:=aG [(true,.fB)] [(false,.int,0)] (fun x=>EA x.1)
theorem alZ:enters Tryz.prog 218/\aF Tryz.prog 218 Yc:=aH 35 [(216,.p Ez)] [] Tryz.func218 ⟨Jn,trivial⟩ aD fun x=>by kernel_rfl
def Jo(x0:gL):Option (Bool):=(Ey x0.aY x0.bP).bind fun y1=>bif (!y1.2)then some false else (yX x0.cy).bind fun y2=>bif (!y2)then some false else (Bt x0.mapping).bind fun y3=>bif (!y3)then some false else (EA x0.cy).bind fun y4=>(cP x0.interval y4 (10000:Int)).bind fun y5=>bif (!y5)then some false else (cP x0.nv (1:Int) (16:Int)).bind fun y6=>bif y6 then (cP x0.ji.dz (IntKind.i64.wrap ((6:Int)*x0.interval)) (100000:Int)).bind fun y7=>bif y7 then (cP x0.ji.dA (0:Int) (100000:Int)).bind fun y8=>some y8 else some false else some false
def Yd:aE:=aG [(true,.Config)] [(false,.bool,0)] (fun x=>Jo x.1)
theorem al0:enters Tryz.prog 143/\aF Tryz.prog 143 Yd:=aH 54 [(69,.p fG),(150,.p Qs),(216,.p Ez),(217,.p Qu),(218,.p Yc)] [] Tryz.func143 ⟨fP,X7,Jn,Yb,alZ,trivial⟩ aD fun x=>by kernel_rfl
def Bu(x0:iC):Option (Bool):=bif (decide (x0.low >= (0:Int)))then bif (decide (x0.high <= (12:Int)))then some (decide (x0.low<x0.high))else some false else some false
def Jp:aE:=aG [(true,.lE)] [(false,.bool,0)] (fun x=>Bu x.1)
theorem Qv:enters Tryz.prog 80/\aF Tryz.prog 80 Jp:=aH 18 [] [] Tryz.func80 trivial aD fun x=>by kernel_rfl
def EB(x0:iX):Option (Bool):=(cP x0.down (1:Int) (10000:Int)).bind fun y1=>bif y1 then bif (decide (x0.sleep > x0.down))then some (decide (x0.sleep <= (20000:Int)))else some false else some false
def Qx:aE:=aG [(true,.lF)] [(false,.bool,0)] (fun x=>EB x.1)
theorem Ye:enters Tryz.prog 160/\aF Tryz.prog 160 Qx:=aH 18 [(69,.p fG)] [] Tryz.func160 ⟨fP,trivial⟩ aD fun x=>by kernel_rfl
def al1:aI:=⟨[(0,.lf (.ah .dI 0)),(3,.lf (.int .i64))],[],[]⟩
def al2:List (Nat×aI):=[(1,⟨[(2,.lf (.bool))],[],[]⟩),(2,⟨[(0,.lf (.ah .dI 0))],[],[]⟩)]
abbrev Yf:=(((List bA)×Int×Unit)×(Unit))
def EC(x:Yf):Option (Yf⊕(((Bool×Unit)×(Unit))⊕((((List bA)×Unit)×(Unit))⊕Empty))):=bif (decide (x.1.2.1<(x.1.1.length:Int)))then if h1:0 <= x.1.2.1/\x.1.2.1.toNat<x.1.1.length then (let e2:=x.1.1[x.1.2.1.toNat]'h1.2;(cP e2.weight (1:Int) (9:Int)).bind fun y3=>bif (!y3)then some (.inr (.inl ((false,()),())))else if h4:0 <= x.1.2.1/\x.1.2.1.toNat<x.1.1.length then (let e5:=x.1.1[x.1.2.1.toNat]'h4.2;if h6:0 <= x.1.2.1/\x.1.2.1.toNat<x.1.1.length then (let e7:=x.1.1[x.1.2.1.toNat]'h6.2;(cP e5.fW (0:Int) e7.weight).bind fun y8=>bif (!y8)then some (.inr (.inl ((false,()),())))else some (.inl ((x.1.1,(IntKind.i64.wrap (x.1.2.1+(1:Int))),()),())))else none)else none)else none else some (.inr (.inr (.inl ((x.1.1,()),()))))
def Yg:bB:=bF 0 al1 al2 EC (fun _=>au)
theorem al3:bE Tryz.prog 34 (.block 0 (.loop (bC (bD Tryz.f79) 0))) Yg:=bH 34 [(69,.p fG)] [] ⟨fP,trivial⟩ aD fun x=>by kernel_rfl
def Bv(x0:List bA):Option (Bool):=(iter EC au ((x0,(0:Int),()),())).bind (Sum.elim (fun z9=>some z9.1.1) (Sum.elim (fun eY=>(cP (eY.1.1.length:Int) (1:Int) (4:Int)).bind fun eS=>some eS) (fun z=>nomatch z)))
def Jq:aE:=aG [(false,(.sl .dI))] [(false,.bool,0)] (fun x=>Bv x.1)
theorem Qy:enters Tryz.prog 79/\aF Tryz.prog 79 Jq:=aH 34 [(69,.p fG)] [(0,Yg)] Tryz.func79 ⟨fP,trivial⟩ (bO (by kernel_rfl) _ ⟨⟨_,by kernel_rfl,al3⟩,trivial⟩) fun x=>by kernel_rfl
def al4:aI:=⟨[(0,.lf (.ah .int 0)),(4,.lf (.own 6)),(5,.lf (.int .i64))],[(6,.sl .dI 2)],[]⟩
def al5:List (Nat×aI):=[(2,⟨[(4,.lf (.own 6))],[(6,.sl .dI 2)],[]⟩)]
abbrev Yh:=(((List Int)×Unit×Int×Unit)×((List bA)×Unit))
def ED(x:Yh):Option (Yh⊕(((Unit×Unit)×((List bA)×Unit))⊕Empty)):=bif (decide (x.1.2.2.1<(x.1.1.length:Int)))then bif (decide (x.1.2.2.1 <= (4:Int)))then if h1:0 <= x.1.2.2.1/\x.1.2.2.1.toNat<x.1.1.length then (let e2:=x.1.1[x.1.2.2.1.toNat]'h1.2;if h3:0 <= x.1.2.2.1/\x.1.2.2.1.toNat<x.1.1.length then (let e4:=x.1.1[x.1.2.2.1.toNat]'h3.2;bif cu (x.2.1.length+([(⟨e2,e4⟩:bA)]:List bA).length)then some (.inl ((x.1.1,(),(IntKind.i64.wrap (x.1.2.2.1+(1:Int))),()),((x.2.1++([(⟨e2,e4⟩:bA)]:List bA)),())))else none)else none)else none else some (.inr (.inl (((),()),(x.2.1,()))))else some (.inr (.inl (((),()),(x.2.1,()))))
def Yi:bB:=bF 0 al4 al5 ED (fun _=>au)
theorem al6:bE Tryz.prog 34 (.block 0 (.loop (bC (bD Tryz.f219) 0))) Yi:=bH 34 [] [] trivial aD fun x=>by kernel_rfl
def Jr(x0:List Int):Option ((List bA)×Bool):=(iter ED au ((x0,(),(0:Int),()),(([]:List bA),()))).bind (Sum.elim (fun z5=>(Bv z5.2.1).bind fun y6=>bif (!y6)then some (([]:List bA),false)else some (z5.2.1,true)) (fun z=>nomatch z))
def Yj:aE:=aG [(false,(.sl .int))] [(false,(.sl .dI),2),(false,.bool,0)] (fun x=>Jr x.1)
theorem al7:enters Tryz.prog 219/\aF Tryz.prog 219 Yj:=aH 34 [(79,.p Jq)] [(0,Yi)] Tryz.func219 ⟨Qy,trivial⟩ (bO (by kernel_rfl) _ ⟨⟨_,by kernel_rfl,al6⟩,trivial⟩) fun x=>by kernel_rfl
def Js(x0:fS):Option (Bool):=(Jr x0.weights).bind fun y1=>(cP x0.eU (0:Int) (1:Int)).bind fun y2=>bif y2 then (cP x0.cap (0:Int) (100000:Int)).bind fun y3=>bif y3 then (cP x0.iD (3:Int) (1000:Int)).bind fun y4=>bif y4 then (Bu (⟨false,x0.low,x0.high⟩:iC)).bind fun y5=>bif y5 then bif y1.2 then bif ((x0.weights.length:Int)==(4:Int))then (EB x0.fH).bind fun y6=>some y6 else some false else some false else some false else some false else some false else some false
def Yk:aE:=aG [(true,.kK)] [(false,.bool,0)] (fun x=>Js x.1)
theorem al8:enters Tryz.prog 144/\aF Tryz.prog 144 Yk:=aH 46 [(69,.p fG),(80,.p Jp),(160,.p Qx),(219,.p Yj)] [] Tryz.func144 ⟨fP,Qv,Ye,al7,trivial⟩ aD fun x=>by kernel_rfl
def Jt(x0:Int):Option (Int):=(cP x0 (3:Int) (1000:Int)).bind fun y1=>bif (!y1)then some (0:Int)else some (IntKind.i64.wrap ((IntKind.i64.wrap ((2:Int)*x0))+(2:Int)))
def Yl:aE:=aG [(false,.int)] [(false,.int,0)] (fun x=>Jt x.1)
theorem al9:enters Tryz.prog 145/\aF Tryz.prog 145 Yl:=aH 9 [(69,.p fG)] [] Tryz.func145 ⟨fP,trivial⟩ aD fun x=>by kernel_rfl
def Bw(x0:gL)(x1:fS):Option (Bool):=(Jo x0).bind fun y1=>bif (!y1)then some false else (Js x1).bind fun y2=>bif (!y2)then some false else (Jt x1.iD).bind fun y3=>bif (decide ((IntKind.i64.wrap (y3+(2:Int))) <= x0.ji.dA))then if (IntKind.i64.wrap (x0.cy.fj+x0.cy.rp))=0 then none else some (decide ((IntKind.i64.wrap ((IntKind.i64.wrap (x0.nv+(1:Int)))*x1.iD)) > (IntKind.i64.wrap ((IntKind.i64.wrap ((IntKind.i64.wrap ((5:Int)*x0.interval)).tdiv (IntKind.i64.wrap (x0.cy.fj+x0.cy.rp))))+(2:Int)))))else some false
def Ym:aE:=aG [(true,.Config),(true,.kK)] [(false,.bool,0)] (fun x=>Bw x.1 x.2.1)
theorem ama:enters Tryz.prog 68/\aF Tryz.prog 68 Ym:=aH 42 [(143,.p Yd),(144,.p Yk),(145,.p Yl)] [] Tryz.func68 ⟨al0,al8,al9,trivial⟩ aD fun x=>by kernel_rfl
def amb:aI:=⟨[(2,.aC 2 0),(3,.aC 3 0),(5,.lf (.int .i64))],[(2,.ak [.int .i64,.int .i64,.int .i64,.int .i64]),(3,.ak [.ah .eF 0,.int .i64])],[]⟩
def amc:List (Nat×aI):=[(1,⟨[(4,.lf (.bool))],[],[]⟩),(2,⟨[],[],[]⟩)]
abbrev Yn:=((Unit×Unit×Int×Unit)×((Int×Int×Int×Int×Unit)×((List dY)×Int×Unit)×Unit))
def EE(x:Yn):Option (Yn⊕(((Bool×Unit)×(Unit))⊕(((Unit)×(Unit))⊕Empty))):=bif (decide (x.1.2.2.1<(x.2.2.1.1.length:Int)))then if h4:0 <= x.1.2.2.1/\x.1.2.2.1.toNat<x.2.2.1.1.length then (let e5:=x.2.2.1.1[x.1.2.2.1.toNat]'h4.2;(cP e5.row (0:Int) (IntKind.i64.wrap (x.2.1.2.2.1-(1:Int)))).bind fun y6=>bif (!y6)then some (.inr (.inl ((false,()),())))else bif (!e5.open_)then bif (e5.row != (0:Int))then some (.inr (.inl ((false,()),())))else bif e5.open_ then bif (x.2.2.1.2.1==(2:Int))then some (.inr (.inl ((false,()),())))else some (.inl (((),(),(IntKind.i64.wrap (x.1.2.2.1+(1:Int))),()),(x.2.1,x.2.2.1,())))else some (.inl (((),(),(IntKind.i64.wrap (x.1.2.2.1+(1:Int))),()),(x.2.1,x.2.2.1,())))else bif e5.open_ then bif (x.2.2.1.2.1==(2:Int))then some (.inr (.inl ((false,()),())))else some (.inl (((),(),(IntKind.i64.wrap (x.1.2.2.1+(1:Int))),()),(x.2.1,x.2.2.1,())))else some (.inl (((),(),(IntKind.i64.wrap (x.1.2.2.1+(1:Int))),()),(x.2.1,x.2.2.1,()))))else none else some (.inr (.inr (.inl ((),()))))
def Yo:bB:=bF 0 amb amc EE (fun _=>au)
theorem amd:bE Tryz.prog 62 (.block 0 (.loop (bC (bD Tryz.f70) 0))) Yo:=bH 62 [(69,.p fG)] [] ⟨fP,trivial⟩ aD fun x=>by kernel_rfl
def Ju(x0:bg)(x1:cV):Option (Bool):=(uF x0).bind fun y1=>bif (!y1)then some false else (o7 x0).bind fun y2=>bif ((x1.av.length:Int) != y2)then some false else (cP x1.aZ (0:Int) (2:Int)).bind fun y3=>bif (!y3)then some false else (iter EE au (((),(),(0:Int),()),((x0.cQ,x0.av,x0.rows,x0.aS,()),(x1.av,x1.aZ,()),()))).bind (Sum.elim (fun z7=>some z7.1.1) (Sum.elim (fun z8=>some true) (fun z=>nomatch z)))
def Yp:aE:=aG [(true,.dO),(true,.gM)] [(false,.bool,0)] (fun x=>Ju x.1 x.2.1)
theorem ame:enters Tryz.prog 70/\aF Tryz.prog 70 Yp:=aH 62 [(69,.p fG),(146,.p yW),(147,.p q6)] [(0,Yo)] Tryz.func70 ⟨fP,Br,sD,trivial⟩ (bO (by kernel_rfl) _ ⟨⟨_,by kernel_rfl,amd⟩,trivial⟩) fun x=>by kernel_rfl
def Jv(x0:bg)(x1:Int):Option (Bool):=(o7 x0).bind fun y1=>some ((decide ((IntKind.i64.wrap ((x1.tmod (9:Int))+(1:Int))) <= (5:Int)))==(decide ((IntKind.i64.wrap (x1.tdiv (9:Int)))<y1)))
def Yq:aE:=aG [(true,.dO),(false,.int)] [(false,.bool,0)] (fun x=>Jv x.1 x.2.1)
theorem amf:enters Tryz.prog 148/\aF Tryz.prog 148 Yq:=aH 15 [(147,.p q6)] [] Tryz.func148 ⟨sD,trivial⟩ aD fun x=>by kernel_rfl
def amg:aI:=⟨[(2,.aC 2 0),(3,.aC 3 0),(5,.lf (.int .i64))],[(2,.ak [.int .i64,.int .i64,.int .i64,.int .i64]),(3,.ak [.ah .int 0,.ah .int 0])],[]⟩
def amh:List (Nat×aI):=[(1,⟨[(4,.lf (.bool))],[],[]⟩),(2,⟨[(3,.aC 3 0)],[(3,.ak [.ah .int 0,.ah .int 0])],[]⟩)]
abbrev Yr:=((Unit×Unit×Int×Unit)×((Int×Int×Int×Int×Unit)×((List Int)×(List Int)×Unit)×Unit))
def EF(x:Yr):Option (Yr⊕(((Bool×Unit)×(Unit))⊕(((Unit×Unit)×(((List Int)×(List Int)×Unit)×Unit))⊕Empty))):=bif (decide (x.1.2.2.1<(x.2.2.1.1.length:Int)))then if h3:0 <= x.1.2.2.1/\x.1.2.2.1.toNat<x.2.2.1.1.length then (let e4:=x.2.2.1.1[x.1.2.2.1.toNat]'h3.2;(cP e4 (-1:Int) (1000000:Int)).bind fun y5=>bif (!y5)then some (.inr (.inl ((false,()),())))else (Jv (⟨x.2.1.1,x.2.1.2.1,x.2.1.2.2.1,x.2.1.2.2.2.1⟩:bg) x.1.2.2.1).bind fun y6=>bif (!y6)then if h7:0 <= x.1.2.2.1/\x.1.2.2.1.toNat<x.2.2.1.1.length then (let e8:=x.2.2.1.1[x.1.2.2.1.toNat]'h7.2;bif (e8 != (-1:Int))then some (.inr (.inl ((false,()),())))else some (.inl (((),(),(IntKind.i64.wrap (x.1.2.2.1+(1:Int))),()),(x.2.1,x.2.2.1,()))))else none else some (.inl (((),(),(IntKind.i64.wrap (x.1.2.2.1+(1:Int))),()),(x.2.1,x.2.2.1,()))))else none else some (.inr (.inr (.inl (((),()),(x.2.2.1,())))))
def Ys:bB:=bF 0 amg amh EF (fun _=>au)
theorem ami:bE Tryz.prog 86 (.block 0 (.loop (bC (bD Tryz.f71) 0))) Ys:=bH 86 [(69,.p fG),(148,.p Yq)] [] ⟨fP,amf,trivial⟩ aD fun x=>by kernel_rfl
def amj:aI:=⟨[(3,.aC 3 0),(6,.lf (.int .i64))],[(3,.ak [.ah .int 0,.ah .int 0])],[]⟩
def amk:List (Nat×aI):=[(1,⟨[(4,.lf (.bool))],[],[]⟩),(4,⟨[],[],[]⟩)]
abbrev Yt:=((Unit×Int×Unit)×(((List Int)×(List Int)×Unit)×Unit))
def EG(x:Yt):Option (Yt⊕(((Bool×Unit)×(Unit))⊕(((Unit)×(Unit))⊕Empty))):=bif (decide (x.1.2.1<(x.2.1.2.1.length:Int)))then if fT:0 <= x.1.2.1/\x.1.2.1.toNat<x.2.1.2.1.length then (let jQ:=x.2.1.2.1[x.1.2.1.toNat]'fT.2;(cP jQ (0:Int) (1000000:Int)).bind fun dZ=>bif (!dZ)then some (.inr (.inl ((false,()),())))else bif (decide (x.1.2.1 > (0:Int)))then if gN:0 <= (IntKind.i64.wrap (x.1.2.1-(1:Int)))/\(IntKind.i64.wrap (x.1.2.1-(1:Int))).toNat<x.2.1.2.1.length then (let yY:=x.2.1.2.1[(IntKind.i64.wrap (x.1.2.1-(1:Int))).toNat]'gN.2;if iY:0 <= x.1.2.1/\x.1.2.1.toNat<x.2.1.2.1.length then (let yZ:=x.2.1.2.1[x.1.2.1.toNat]'iY.2;bif (decide (yY >= yZ))then some (.inr (.inl ((false,()),())))else some (.inl (((),(IntKind.i64.wrap (x.1.2.1+(1:Int))),()),(x.2.1,()))))else none)else none else some (.inl (((),(IntKind.i64.wrap (x.1.2.1+(1:Int))),()),(x.2.1,()))))else none else some (.inr (.inr (.inl ((),()))))
def Yu:bB:=bF 2 amj amk EG (fun _=>au)
theorem aml:bE Tryz.prog 86 (.block 2 (.loop (bC (bD Tryz.f71) 2))) Yu:=bH 86 [(69,.p fG)] [] ⟨fP,trivial⟩ aD fun x=>by kernel_rfl
def Jw(x0:bg)(x1:gj):Option (Bool):=(uF x0).bind fun y1=>bif (!y1)then some false else (o7 x0).bind fun y2=>bif ((x1.last.length:Int) != (IntKind.i64.wrap ((9:Int)*(IntKind.i64.wrap (y2+(1:Int))))))then some false else bif (decide ((x1.cF.length:Int) > (4:Int)))then some false else (iter EF au (((),(),(0:Int),()),((x0.cQ,x0.av,x0.rows,x0.aS,()),(x1.last,x1.cF,()),()))).bind (Sum.elim (fun z9=>some z9.1.1) (Sum.elim (fun eY=>(iter EG au (((),(0:Int),()),(eY.2.1,()))).bind (Sum.elim (fun q7=>some q7.1.1) (Sum.elim (fun qd=>some true) (fun z=>nomatch z)))) (fun z=>nomatch z)))
def Yv:aE:=aG [(true,.dO),(true,.kJ)] [(false,.bool,0)] (fun x=>Jw x.1 x.2.1)
theorem amm:enters Tryz.prog 71/\aF Tryz.prog 71 Yv:=aH 86 [(146,.p yW),(147,.p q6)] [(0,Ys),(2,Yu)] Tryz.func71 ⟨Br,sD,trivial⟩ (bO (by kernel_rfl) _ ⟨⟨_,by kernel_rfl,ami⟩,⟨_,by kernel_rfl,aml⟩,trivial⟩) fun x=>by kernel_rfl
def za(x0:bg):Option (Int):=(uF x0).bind fun y1=>bif (!y1)then some (0:Int)else (o7 x0).bind fun y2=>some (IntKind.i64.wrap ((IntKind.i64.wrap (y2*x0.rows))*x0.aS))
def Jx:aE:=aG [(true,.dO)] [(false,.int,0)] (fun x=>za x.1)
theorem Qz:enters Tryz.prog 77/\aF Tryz.prog 77 Jx:=aH 14 [(146,.p yW),(147,.p q6)] [] Tryz.func77 ⟨Br,sD,trivial⟩ aD fun x=>by kernel_rfl
end Go.Proofs.YtinbifpbkcbnkaaGreat
