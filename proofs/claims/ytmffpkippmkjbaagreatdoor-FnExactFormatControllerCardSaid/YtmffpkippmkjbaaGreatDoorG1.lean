/-
  Functions of the program as plain functions of contents, and that the code computes them. Nothing here is a claim.
-/
import Derived.Test.YtmffpkippmkjbaaGreatDoorVZ
import Derived.Test.YtmffpkippmkjbaaGreatDoorRows
import Derived.Test.YtmffpkippmkjbaaGreatDoorExt
namespace Go.Proofs.YtmffpkippmkjbaaGreatDoor
open Go.RowKit
set_option linter.unusedVariables false
set_option maxRecDepth 100000
def n6(x0:List Int)(x1:Int):Option (Int):=bif (decide ((IntKind.i64.wrap (x1-(x0.length:Int)))<(0:Int)))then some (-1:Int)else some (IntKind.i64.wrap (x1-(x0.length:Int)))
def sM:aI:=aH [(false,(.sl .int)),(false,.int)] [(false,.int,0)] (fun x=>n6 x.1 x.2.1)
theorem uX:enters Tryz.prog 20/\aG Tryz.prog 20 sM:=aJ 12 [] [] Tryz.func20 trivial aF fun x=>by kernel_rfl
def Cr(x0:fB)(x1:Int):Option (Int):=(n6 x0.weights x1).bind fun y1=>bif (decide (y1<(0:Int)))then some (-1:Int)else some y1
def S7:aI:=aH [(true,.jz),(false,.int)] [(false,.int,0)] (fun x=>Cr x.1 x.2.1)
theorem afE:enters Tryz.prog 87/\aG Tryz.prog 87 S7:=aJ 12 [(20,.p sM)] [] Tryz.func87 ⟨uX,trivial⟩ aF fun x=>by kernel_rfl
def GB(x0:kO)(x1:Int):Option (Int):=(Cr x0.eO x1).bind fun y1=>bif (decide (y1<(0:Int)))then some (-1:Int)else (Cr x0.next y1).bind fun y2=>bif (decide (y2<(0:Int)))then some (-1:Int)else some y2
def S8:aI:=aH [(true,.mo),(false,.int)] [(false,.int,0)] (fun x=>GB x.1 x.2.1)
theorem afF:enters Tryz.prog 13/\aG Tryz.prog 13 S8:=aJ 18 [(87,.p S7)] [] Tryz.func13 ⟨afE,trivial⟩ aF fun x=>by kernel_rfl
def MO(x0:List cq)(x1:Int):Option (Int):=bif (decide ((IntKind.i64.wrap (x1-(x0.length:Int)))<(0:Int)))then some (-1:Int)else some (IntKind.i64.wrap (x1-(x0.length:Int)))
def S9:aI:=aH [(false,(.sl .dR)),(false,.int)] [(false,.int,0)] (fun x=>MO x.1 x.2.1)
theorem afG:enters Tryz.prog 88/\aG Tryz.prog 88 S9:=aJ 12 [] [] Tryz.func88 trivial aF fun x=>by kernel_rfl
def GC(x0:eN)(x1:Int):Option (Int):=(MO x0.aO x1).bind fun y1=>bif (decide (y1<(0:Int)))then some (-1:Int)else some y1
def Ta:aI:=aH [(true,.jf),(false,.int)] [(false,.int,0)] (fun x=>GC x.1 x.2.1)
theorem afH:enters Tryz.prog 14/\aG Tryz.prog 14 Ta:=aJ 12 [(88,.p S9)] [] Tryz.func14 ⟨afG,trivial⟩ aF fun x=>by kernel_rfl
def GD(x0:iD)(x1:Int):Option (Int):=(n6 x0.last x1).bind fun y1=>bif (decide (y1<(0:Int)))then some (-1:Int)else (n6 x0.dA y1).bind fun y2=>bif (decide (y2<(0:Int)))then some (-1:Int)else some y2
def Tb:aI:=aH [(true,.kP),(false,.int)] [(false,.int,0)] (fun x=>GD x.1 x.2.1)
theorem afI:enters Tryz.prog 15/\aG Tryz.prog 15 Tb:=aJ 18 [(20,.p sM)] [] Tryz.func15 ⟨uX,trivial⟩ aF fun x=>by kernel_rfl
def Cs(x0:cO)(x1:Int):Option (Int):=(n6 x0.symbols x1).bind fun y1=>bif (decide (y1<(0:Int)))then some (-1:Int)else some y1
def Tc:aI:=aH [(true,.Cell),(false,.int)] [(false,.int,0)] (fun x=>Cs x.1 x.2.1)
theorem afJ:enters Tryz.prog 154/\aG Tryz.prog 154 Tc:=aJ 12 [(20,.p sM)] [] Tryz.func154 ⟨uX,trivial⟩ aF fun x=>by kernel_rfl
def afK:aC:=⟨[(0,.lf (.ah .Cell 0)),(1,.lf (.int .i64)),(5,.lf (.int .i64))],[],[]⟩
def afL:List (Nat×aC):=[(1,⟨[(4,.lf (.int .i64))],[],[]⟩),(2,⟨[(1,.lf (.int .i64))],[],[]⟩)]
abbrev Td:=(((List cO)×Int×Int×Unit)×(Unit))
def Te(x:Td):Option (Td⊕(((Int×Unit)×(Unit))⊕(((Int×Unit)×(Unit))⊕Empty))):=bif (decide (x.1.2.2.1<(x.1.1.length:Int)))then if h1:0 <= x.1.2.2.1/\x.1.2.2.1.toNat<x.1.1.length then (let e2:=x.1.1[x.1.2.2.1.toNat]'h1.2;(Cs e2 x.1.2.1).bind fun y3=>bif (decide (y3<(0:Int)))then some (.inr (.inl (((-1:Int),()),())))else some (.inl ((x.1.1,y3,(IntKind.i64.wrap (x.1.2.2.1+(1:Int))),()),())))else none else some (.inr (.inr (.inl ((x.1.2.1,()),()))))
def Tf:bh:=bu 0 afK afL Te (fun _=>big)
theorem afM:br Tryz.prog 27 (.block 0 (.loop (bq (aW Tryz.f89) 0))) Tf:=bA 27 [(154,.p Tc)] [] ⟨afJ,trivial⟩ aF fun x=>by kernel_rfl
def GF(x0:List cO)(x1:Int):Option (Int):=bif (decide ((IntKind.i64.wrap (x1-(x0.length:Int)))<(0:Int)))then some (-1:Int)else (iter Te big ((x0,(IntKind.i64.wrap (x1-(x0.length:Int))),(0:Int),()),())).bind (Sum.elim (fun z4=>some z4.1.1) (Sum.elim (fun z5=>some z5.1.1) (fun z=>nomatch z)))
def Tg:aI:=aH [(false,(.sl .Cell)),(false,.int)] [(false,.int,0)] (fun x=>GF x.1 x.2.1)
theorem afN:enters Tryz.prog 89/\aG Tryz.prog 89 Tg:=aJ 27 [] [(0,Tf)] Tryz.func89 trivial (bH (by kernel_rfl) _ ⟨⟨_,by kernel_rfl,afM⟩,trivial⟩) fun x=>by kernel_rfl
def GG(x0:iE)(x1:Int):Option (Int):=(GF x0.cells x1).bind fun y1=>bif (decide (y1<(0:Int)))then some (-1:Int)else (n6 x0.cT y1).bind fun y2=>bif (decide (y2<(0:Int)))then some (-1:Int)else (n6 x0.cU y2).bind fun y3=>bif (decide (y3<(0:Int)))then some (-1:Int)else some y3
def Th:aI:=aH [(true,.Array),(false,.int)] [(false,.int,0)] (fun x=>GG x.1 x.2.1)
theorem afO:enters Tryz.prog 16/\aG Tryz.prog 16 Th:=aJ 24 [(20,.p sM),(89,.p Tg)] [] Tryz.func16 ⟨uX,afN,trivial⟩ aF fun x=>by kernel_rfl
def GH(x0:dO)(x1:Int):Option (Int):=(n6 x0.map x1).bind fun y1=>bif (decide (y1<(0:Int)))then some (-1:Int)else some y1
def Ti:aI:=aH [(true,.iI),(false,.int)] [(false,.int,0)] (fun x=>GH x.1 x.2.1)
theorem afP:enters Tryz.prog 17/\aG Tryz.prog 17 Ti:=aJ 12 [(20,.p sM)] [] Tryz.func17 ⟨uX,trivial⟩ aF fun x=>by kernel_rfl
def GI(x0:iF)(x1:Int):Option (Int):=(n6 x0.bX x1).bind fun y1=>bif (decide (y1<(0:Int)))then some (-1:Int)else some y1
def Tj:aI:=aH [(true,.kQ),(false,.int)] [(false,.int,0)] (fun x=>GI x.1 x.2.1)
theorem afQ:enters Tryz.prog 18/\aG Tryz.prog 18 Tj:=aJ 12 [(20,.p sM)] [] Tryz.func18 ⟨uX,trivial⟩ aF fun x=>by kernel_rfl
def Ct(x0:cu)(x1:Int):Option (Int):=(n6 x0.rows x1).bind fun y1=>bif (decide (y1<(0:Int)))then some (-1:Int)else (n6 x0.counts y1).bind fun y2=>bif (decide (y2<(0:Int)))then some (-1:Int)else some y2
def Tk:aI:=aH [(true,.eP),(false,.int)] [(false,.int,0)] (fun x=>Ct x.1 x.2.1)
theorem afR:enters Tryz.prog 90/\aG Tryz.prog 90 Tk:=aJ 18 [(20,.p sM)] [] Tryz.func90 ⟨uX,trivial⟩ aF fun x=>by kernel_rfl
def afS:aC:=⟨[(0,.lf (.ah .eP 0)),(1,.lf (.int .i64)),(5,.lf (.int .i64))],[],[]⟩
def afT:List (Nat×aC):=[(1,⟨[(4,.lf (.int .i64))],[],[]⟩),(2,⟨[(1,.lf (.int .i64))],[],[]⟩)]
abbrev Tl:=(((List cu)×Int×Int×Unit)×(Unit))
def Tn(x:Tl):Option (Tl⊕(((Int×Unit)×(Unit))⊕(((Int×Unit)×(Unit))⊕Empty))):=bif (decide (x.1.2.2.1<(x.1.1.length:Int)))then if h1:0 <= x.1.2.2.1/\x.1.2.2.1.toNat<x.1.1.length then (let e2:=x.1.1[x.1.2.2.1.toNat]'h1.2;(Ct e2 x.1.2.1).bind fun y3=>bif (decide (y3<(0:Int)))then some (.inr (.inl (((-1:Int),()),())))else some (.inl ((x.1.1,y3,(IntKind.i64.wrap (x.1.2.2.1+(1:Int))),()),())))else none else some (.inr (.inr (.inl ((x.1.2.1,()),()))))
def To:bh:=bu 0 afS afT Tn (fun _=>big)
theorem afU:br Tryz.prog 27 (.block 0 (.loop (bq (aW Tryz.f19) 0))) To:=bA 27 [(90,.p Tk)] [] ⟨afR,trivial⟩ aF fun x=>by kernel_rfl
def GJ(x0:List cu)(x1:Int):Option (Int):=bif (decide ((IntKind.i64.wrap (x1-(x0.length:Int)))<(0:Int)))then some (-1:Int)else (iter Tn big ((x0,(IntKind.i64.wrap (x1-(x0.length:Int))),(0:Int),()),())).bind (Sum.elim (fun z4=>some z4.1.1) (Sum.elim (fun z5=>some z5.1.1) (fun z=>nomatch z)))
def Tp:aI:=aH [(false,(.sl .eP)),(false,.int)] [(false,.int,0)] (fun x=>GJ x.1 x.2.1)
theorem afV:enters Tryz.prog 19/\aG Tryz.prog 19 Tp:=aJ 27 [] [(0,To)] Tryz.func19 trivial (bH (by kernel_rfl) _ ⟨⟨_,by kernel_rfl,afU⟩,trivial⟩) fun x=>by kernel_rfl
def MP(x0:List bW)(x1:Int):Option (Int):=bif (decide ((IntKind.i64.wrap (x1-(x0.length:Int)))<(0:Int)))then some (-1:Int)else some (IntKind.i64.wrap (x1-(x0.length:Int)))
def Tq:aI:=aH [(false,(.sl .Addr)),(false,.int)] [(false,.int,0)] (fun x=>MP x.1 x.2.1)
theorem afW:enters Tryz.prog 21/\aG Tryz.prog 21 Tq:=aJ 12 [] [] Tryz.func21 trivial aF fun x=>by kernel_rfl
def MQ(x0:List aS)(x1:Int):Option (Int):=bif (decide ((IntKind.i64.wrap (x1-(x0.length:Int)))<(0:Int)))then some (-1:Int)else some (IntKind.i64.wrap (x1-(x0.length:Int)))
def Tr:aI:=aH [(false,(.sl .dB)),(false,.int)] [(false,.int,0)] (fun x=>MQ x.1 x.2.1)
theorem afX:enters Tryz.prog 22/\aG Tryz.prog 22 Tr:=aJ 12 [] [] Tryz.func22 trivial aF fun x=>by kernel_rfl
def MR(x0:List bT)(x1:Int):Option (Int):=bif (decide ((IntKind.i64.wrap (x1-(x0.length:Int)))<(0:Int)))then some (-1:Int)else some (IntKind.i64.wrap (x1-(x0.length:Int)))
def Ts:aI:=aH [(false,(.sl .dP)),(false,.int)] [(false,.int,0)] (fun x=>MR x.1 x.2.1)
theorem afY:enters Tryz.prog 23/\aG Tryz.prog 23 Ts:=aJ 12 [] [] Tryz.func23 trivial aF fun x=>by kernel_rfl
def MS(x0:List bx)(x1:Int):Option (Int):=bif (decide ((IntKind.i64.wrap (x1-(x0.length:Int)))<(0:Int)))then some (-1:Int)else some (IntKind.i64.wrap (x1-(x0.length:Int)))
def Tt:aI:=aH [(false,(.sl .dF)),(false,.int)] [(false,.int,0)] (fun x=>MS x.1 x.2.1)
theorem afZ:enters Tryz.prog 24/\aG Tryz.prog 24 Tt:=aJ 12 [] [] Tryz.func24 trivial aF fun x=>by kernel_rfl
def MT(x0:List bQ)(x1:Int):Option (Int):=bif (decide ((IntKind.i64.wrap (x1-(x0.length:Int)))<(0:Int)))then some (-1:Int)else some (IntKind.i64.wrap (x1-(x0.length:Int)))
def Tu:aI:=aH [(false,(.sl .Event)),(false,.int)] [(false,.int,0)] (fun x=>MT x.1 x.2.1)
theorem af0:enters Tryz.prog 25/\aG Tryz.prog 25 Tu:=aJ 12 [] [] Tryz.func25 trivial aF fun x=>by kernel_rfl
def MU(x0:List cF)(x1:Int):Option (Int):=bif (decide ((IntKind.i64.wrap (x1-(x0.length:Int)))<(0:Int)))then some (-1:Int)else some (IntKind.i64.wrap (x1-(x0.length:Int)))
def Tv:aI:=aH [(false,(.sl .fK)),(false,.int)] [(false,.int,0)] (fun x=>MU x.1 x.2.1)
theorem af1:enters Tryz.prog 26/\aG Tryz.prog 26 Tv:=aJ 12 [] [] Tryz.func26 trivial aF fun x=>by kernel_rfl
def GK(x0:cB)(x1:Int):Option (Int):=(GB x0.box x1).bind fun y1=>bif (decide (y1<(0:Int)))then some (-1:Int)else (GC x0.gy y1).bind fun y2=>bif (decide (y2<(0:Int)))then some (-1:Int)else (GD x0.ready y2).bind fun y3=>bif (decide (y3<(0:Int)))then some (-1:Int)else (GG x0.array y3).bind fun y4=>bif (decide (y4<(0:Int)))then some (-1:Int)else (GH x0.spare y4).bind fun y5=>bif (decide (y5<(0:Int)))then some (-1:Int)else (GI x0.dc y5).bind fun y6=>bif (decide (y6<(0:Int)))then some (-1:Int)else (GJ x0.dW y6).bind fun y7=>bif (decide (y7<(0:Int)))then some (-1:Int)else (n6 x0.guard y7).bind fun y8=>bif (decide (y8<(0:Int)))then some (-1:Int)else (MP x0.pending y8).bind fun y9=>bif (decide (y9<(0:Int)))then some (-1:Int)else (MQ x0.queue y9).bind fun iP=>bif (decide (iP<(0:Int)))then some (-1:Int)else (MR x0.shares iP).bind fun fU=>bif (decide (fU<(0:Int)))then some (-1:Int)else (MS x0.errors fU).bind fun fk=>bif (decide (fk<(0:Int)))then some (-1:Int)else (MT x0.trace fk).bind fun fV=>bif (decide (fV<(0:Int)))then some (-1:Int)else (MU x0.iH fV).bind fun gQ=>bif (decide (gQ<(0:Int)))then some (-1:Int)else some gQ
def Tw:aI:=aH [(true,.eR),(false,.int)] [(false,.int,0)] (fun x=>GK x.1 x.2.1)
theorem af2:enters Tryz.prog 4/\aG Tryz.prog 4 Tw:=aJ 90 [(13,.p S8),(14,.p Ta),(15,.p Tb),(16,.p Th),(17,.p Ti),(18,.p Tj),(19,.p Tp),(20,.p sM),(21,.p Tq),(22,.p Tr),(23,.p Ts),(24,.p Tt),(25,.p Tu),(26,.p Tv)] [] Tryz.func4 ⟨afF,afH,afI,afO,afP,afQ,afV,uX,afW,afX,afY,afZ,af0,af1,trivial⟩ aF fun x=>by kernel_rfl
def cN(x0:Int)(x1:Int)(x2:Int):Option (Bool):=bif (decide (x0 >= x1))then some (decide (x0 <= x2))else some false
def fI:aI:=aH [(false,.int),(false,.int),(false,.int)] [(false,.bool,0)] (fun x=>cN x.1 x.2.1 x.2.2.1)
theorem fW:enters Tryz.prog 92/\aG Tryz.prog 92 fI:=aJ 15 [] [] Tryz.func92 trivial aF fun x=>by kernel_rfl
def sN(x0:bf):Option (Bool):=(cN x0.cZ (1:Int) (2:Int)).bind fun y1=>bif y1 then (cN x0.aO (1:Int) (4:Int)).bind fun y2=>bif y2 then (cN x0.rows (2:Int) (16:Int)).bind fun y3=>bif y3 then (cN x0.cV (1:Int) (8:Int)).bind fun y4=>some y4 else some false else some false else some false
def wX:aI:=aH [(true,.ef)] [(false,.bool,0)] (fun x=>sN x.1)
theorem zB:enters Tryz.prog 158/\aG Tryz.prog 158 wX:=aJ 21 [(92,.p fI)] [] Tryz.func158 ⟨fW,trivial⟩ aF fun x=>by kernel_rfl
def oK(x0:bf):Option (Int):=(sN x0).bind fun y1=>bif (!y1)then some (0:Int)else some (IntKind.i64.wrap (x0.cZ*x0.aO))
def qQ:aI:=aH [(true,.ef)] [(false,.int,0)] (fun x=>oK x.1)
theorem sO:enters Tryz.prog 159/\aG Tryz.prog 159 qQ:=aJ 11 [(158,.p wX)] [] Tryz.func159 ⟨zB,trivial⟩ aF fun x=>by kernel_rfl
def af3:aC:=⟨[(1,.lf (.int .i64)),(2,.az 2 0),(4,.az 4 0),(6,.az 6 0),(7,.lf (.int .i64))],[(2,.blk [.int .i64,.int .i64,.int .i64,.int .i64]),(4,.blk [.int .i64,.own 90101]),(6,.blk [.int .i64,.own 90201]),(90101,.sl .int 2),(90201,.sl .int 2)],[]⟩
def af4:List (Nat×aC):=[(2,⟨[(4,.az 4 0),(6,.az 6 0)],[(4,.blk [.int .i64,.own 90101]),(6,.blk [.int .i64,.own 90201]),(90101,.sl .int 2),(90201,.sl .int 2)],[]⟩)]
abbrev Tx:=((Int×Unit×Unit×Unit×Int×Unit)×((Int×Int×Int×Int×Unit)×(Int×Unit×Unit)×(Int×Unit×Unit)×(List Int)×(List Int)×Unit))
def Cu(x:Tx):Option (Tx⊕(((Unit×Unit×Unit)×((Int×Unit×Unit)×(Int×Unit×Unit)×(List Int)×(List Int)×Unit))⊕Empty)):=(oK (⟨x.2.1.1,x.2.1.2.1,x.2.1.2.2.1,x.2.1.2.2.2.1⟩:bf)).bind fun y3=>bif (decide (x.1.2.2.2.2.1<(IntKind.i64.wrap (y3*(IntKind.i64.wrap (x.2.1.2.2.1-x.1.1))))))then if (IntKind.i64.wrap (x.2.1.2.2.1-x.1.1))=0 then none else bif aV (x.2.2.2.2.2.1.length+([(x.1.2.2.2.2.1.tmod (IntKind.i64.wrap (x.2.1.2.2.1-x.1.1)))]:List Int).length)then some (.inl ((x.1.1,(),(),(),(IntKind.i64.wrap (x.1.2.2.2.2.1+(1:Int))),()),(x.2.1,x.2.2.1,x.2.2.2.1,x.2.2.2.2.1,(x.2.2.2.2.2.1++([(x.1.2.2.2.2.1.tmod (IntKind.i64.wrap (x.2.1.2.2.1-x.1.1)))]:List Int)),())))else none else some (.inr (.inl (((),(),()),(x.2.2.1,x.2.2.2.1,x.2.2.2.2.1,x.2.2.2.2.2.1,()))))
def Ty:bh:=bu 0 af3 af4 Cu (fun _=>big)
theorem af5:br Tryz.prog 49 (.block 0 (.loop (bq (aW Tryz.f162) 0))) Ty:=bA 49 [(159,.p qQ)] [] ⟨sO,trivial⟩ aF fun x=>by kernel_rfl
def Cv(x0:bf)(x1:Int):Option (dO×Bool):=(sN x0).bind fun y1=>bif (!y1)then some ((⟨(0:Int),[]⟩:dO),false)else (cN x1 (0:Int) (2:Int)).bind fun y2=>bif (!y2)then some ((⟨(0:Int),[]⟩:dO),false)else bif (decide ((IntKind.i64.wrap (x0.rows-x1))<(2:Int)))then some ((⟨(0:Int),[]⟩:dO),false)else (iter Cu big ((x1,(),(),(),(0:Int),()),((x0.cZ,x0.aO,x0.rows,x0.cV,()),((0:Int),(),()),(x1,(),()),([]:List Int),([]:List Int),()))).bind (Sum.elim (fun z4=>some ((⟨z4.2.2.1.1,z4.2.2.2.2.1⟩:dO),true)) (fun z=>nomatch z))
def MV:aI:=aH [(true,.ef),(false,.int)] [(true,.iI,2),(false,.bool,0)] (fun x=>Cv x.1 x.2.1)
theorem Tz:enters Tryz.prog 162/\aG Tryz.prog 162 MV:=aJ 49 [(92,.p fI),(158,.p wX)] [(0,Ty)] Tryz.func162 ⟨fW,zB,trivial⟩ (bH (by kernel_rfl) _ ⟨⟨_,by kernel_rfl,af5⟩,trivial⟩) fun x=>by kernel_rfl
def MW(x0:fo):Option ((List Int)):=some ([x0.j6,x0.rp,x0.gq,x0.lA,x0.j7,x0.qb,x0.lB,x0.lC,x0.oa,x0.wr,x0.nu,x0.nv,x0.qc,x0.oc,x0.od,x0.xp,x0.xs]:List Int)
def TA:aI:=aH [(true,.hD)] [(false,(.sl .int),2)] (fun x=>MW x.1)
theorem af6:enters Tryz.prog 220/\aG Tryz.prog 220 TA:=aJ 38 [] [] Tryz.func220 trivial aF fun x=>by kernel_rfl
def af7:aC:=⟨[(1,.az 1 0),(3,.lf (.own 1000000000106000)),(4,.lf (.int .i64))],[(1,.st .hD),(1000000000106000,.sl .int 2)],[]⟩
def af8:List (Nat×aC):=[(1,⟨[(2,.lf (.bool))],[],[]⟩),(2,⟨[(1,.az 1 0)],[(1,.st .hD)],[]⟩)]
abbrev TB:=((Unit×Unit×Int×Unit)×(fo×(List Int)×Unit))
def zC(x:TB):Option (TB⊕(((Bool×Unit)×(Unit))⊕(((Unit×Unit)×(fo×Unit))⊕Empty))):=bif (decide (x.1.2.2.1<(x.2.2.1.length:Int)))then if h2:0 <= x.1.2.2.1/\x.1.2.2.1.toNat<x.2.2.1.length then if h3:x.1.2.2.1.toNat<x.2.2.1.length then (let e4:=x.2.2.1[x.1.2.2.1.toNat]'h3;(cN e4 (1:Int) (64:Int)).bind fun y5=>bif (!y5)then some (.inr (.inl ((false,()),())))else some (.inl (((),(),(IntKind.i64.wrap (x.1.2.2.1+(1:Int))),()),(x.2.1,x.2.2.1,()))))else none else none else some (.inr (.inr (.inl (((),()),(x.2.1,())))))
def TD:bh:=bu 0 af7 af8 zC (fun _=>big)
theorem af9:br Tryz.prog 45 (.block 0 (.loop (bq (aW Tryz.f201) 0))) TD:=bA 45 [(92,.p fI)] [] ⟨fW,trivial⟩ aF fun x=>by kernel_rfl
def Cw(x0:fo):Option (Bool):=(MW x0).bind fun y1=>(iter zC big (((),(),(0:Int),()),(x0,y1,()))).bind (Sum.elim (fun z6=>some z6.1.1) (Sum.elim (fun z7=>bif (decide (z7.2.1.j6 <= z7.2.1.gq))then bif (decide (z7.2.1.lA <= z7.2.1.j7))then bif (decide (z7.2.1.lB <= z7.2.1.lC))then some (decide (z7.2.1.nu <= z7.2.1.nv))else some false else some false else some false) (fun z=>nomatch z)))
def MX:aI:=aH [(true,.hD)] [(false,.bool,0)] (fun x=>Cw x.1)
theorem TE:enters Tryz.prog 201/\aG Tryz.prog 201 MX:=aJ 45 [(220,.p TA)] [(0,TD)] Tryz.func201 ⟨af6,trivial⟩ (bH (by kernel_rfl) _ ⟨⟨_,by kernel_rfl,af9⟩,trivial⟩) fun x=>by kernel_rfl
def GL(x0:kN):Option (Bool):=(cN x0.order (0:Int) (2:Int)).bind fun y1=>some y1
def TF:aI:=aH [(true,.lD)] [(false,.bool,0)] (fun x=>GL x.1)
theorem aga:enters Tryz.prog 202/\aG Tryz.prog 202 TF:=aJ 6 [(92,.p fI)] [] Tryz.func202 ⟨fW,trivial⟩ aF fun x=>by kernel_rfl
def Cx(x0:fo):Option (Int):=(Cw x0).bind fun y1=>bif (!y1)then some (0:Int)else some (IntKind.i64.wrap ((2:Int)*(IntKind.i64.wrap ((IntKind.i64.wrap ((IntKind.i64.wrap ((IntKind.i64.wrap ((IntKind.i64.wrap ((IntKind.i64.wrap ((IntKind.i64.wrap ((IntKind.i64.wrap ((IntKind.i64.wrap (x0.od+x0.xp))+x0.gq))+x0.wr))+x0.oa))+x0.rp))+x0.oc))+x0.j6))+(IntKind.i64.wrap ((8:Int)*x0.j7))))+(16:Int)))))
def TG:aI:=aH [(true,.hD)] [(false,.int,0)] (fun x=>Cx x.1)
theorem agb:enters Tryz.prog 203/\aG Tryz.prog 203 TG:=aJ 35 [(201,.p MX)] [] Tryz.func203 ⟨TE,trivial⟩ aF fun x=>by kernel_rfl
def GM(x0:gu):Option (Bool):=(Cv x0.bI x0.cx).bind fun y1=>bif (!y1.2)then some false else (Cw x0.cr).bind fun y2=>bif (!y2)then some false else (GL x0.mapping).bind fun y3=>bif (!y3)then some false else (Cx x0.cr).bind fun y4=>(cN x0.interval y4 (10000:Int)).bind fun y5=>bif (!y5)then some false else (cN x0.mm (1:Int) (16:Int)).bind fun y6=>bif y6 then (cN x0.gZ.cT (IntKind.i64.wrap ((6:Int)*x0.interval)) (100000:Int)).bind fun y7=>bif y7 then (cN x0.gZ.cU (0:Int) (100000:Int)).bind fun y8=>some y8 else some false else some false
def TH:aI:=aH [(true,.Config)] [(false,.bool,0)] (fun x=>GM x.1)
theorem agc:enters Tryz.prog 155/\aG Tryz.prog 155 TH:=aJ 54 [(92,.p fI),(162,.p MV),(201,.p MX),(202,.p TF),(203,.p TG)] [] Tryz.func155 ⟨fW,Tz,TE,aga,agb,trivial⟩ aF fun x=>by kernel_rfl
def Cy(x0:iS):Option (Bool):=bif (decide (x0.low >= (0:Int)))then bif (decide (x0.high <= (12:Int)))then some (decide (x0.low<x0.high))else some false else some false
def MY:aI:=aH [(true,.lE)] [(false,.bool,0)] (fun x=>Cy x.1)
theorem TI:enters Tryz.prog 103/\aG Tryz.prog 103 MY:=aJ 18 [] [] Tryz.func103 trivial aF fun x=>by kernel_rfl
def agd:aC:=⟨[(0,.lf (.ah .dP 0)),(3,.lf (.int .i64))],[],[]⟩
def agf:List (Nat×aC):=[(1,⟨[(2,.lf (.bool))],[],[]⟩),(2,⟨[(0,.lf (.ah .dP 0))],[],[]⟩)]
abbrev TJ:=(((List bT)×Int×Unit)×(Unit))
def Cz(x:TJ):Option (TJ⊕(((Bool×Unit)×(Unit))⊕((((List bT)×Unit)×(Unit))⊕Empty))):=bif (decide (x.1.2.1<(x.1.1.length:Int)))then if h1:0 <= x.1.2.1/\x.1.2.1.toNat<x.1.1.length then (let e2:=x.1.1[x.1.2.1.toNat]'h1.2;(cN e2.weight (1:Int) (9:Int)).bind fun y3=>bif (!y3)then some (.inr (.inl ((false,()),())))else if h4:0 <= x.1.2.1/\x.1.2.1.toNat<x.1.1.length then (let e5:=x.1.1[x.1.2.1.toNat]'h4.2;if h6:0 <= x.1.2.1/\x.1.2.1.toNat<x.1.1.length then (let e7:=x.1.1[x.1.2.1.toNat]'h6.2;(cN e5.nw (0:Int) e7.weight).bind fun y8=>bif (!y8)then some (.inr (.inl ((false,()),())))else some (.inl ((x.1.1,(IntKind.i64.wrap (x.1.2.1+(1:Int))),()),())))else none)else none)else none else some (.inr (.inr (.inl ((x.1.1,()),()))))
def TK:bh:=bu 0 agd agf Cz (fun _=>big)
theorem agh:br Tryz.prog 34 (.block 0 (.loop (bq (aW Tryz.f102) 0))) TK:=bA 34 [(92,.p fI)] [] ⟨fW,trivial⟩ aF fun x=>by kernel_rfl
def CA(x0:List bT):Option (Bool):=(iter Cz big ((x0,(0:Int),()),())).bind (Sum.elim (fun z9=>some z9.1.1) (Sum.elim (fun eI=>(cN (eI.1.1.length:Int) (1:Int) (4:Int)).bind fun fU=>some fU) (fun z=>nomatch z)))
def MZ:aI:=aH [(false,(.sl .dP))] [(false,.bool,0)] (fun x=>CA x.1)
theorem TL:enters Tryz.prog 102/\aG Tryz.prog 102 MZ:=aJ 34 [(92,.p fI)] [(0,TK)] Tryz.func102 ⟨fW,trivial⟩ (bH (by kernel_rfl) _ ⟨⟨_,by kernel_rfl,agh⟩,trivial⟩) fun x=>by kernel_rfl
def agi:aC:=⟨[(0,.lf (.ah .int 0)),(4,.lf (.own 6)),(5,.lf (.int .i64))],[(6,.sl .dP 2)],[]⟩
def agj:List (Nat×aC):=[(2,⟨[(4,.lf (.own 6))],[(6,.sl .dP 2)],[]⟩)]
abbrev TM:=(((List Int)×Unit×Int×Unit)×((List bT)×Unit))
def CB(x:TM):Option (TM⊕(((Unit×Unit)×((List bT)×Unit))⊕Empty)):=bif (decide (x.1.2.2.1<(x.1.1.length:Int)))then bif (decide (x.1.2.2.1 <= (4:Int)))then if h1:0 <= x.1.2.2.1/\x.1.2.2.1.toNat<x.1.1.length then (let e2:=x.1.1[x.1.2.2.1.toNat]'h1.2;if h3:0 <= x.1.2.2.1/\x.1.2.2.1.toNat<x.1.1.length then (let e4:=x.1.1[x.1.2.2.1.toNat]'h3.2;bif aV (x.2.1.length+([(⟨e2,e4⟩:bT)]:List bT).length)then some (.inl ((x.1.1,(),(IntKind.i64.wrap (x.1.2.2.1+(1:Int))),()),((x.2.1++([(⟨e2,e4⟩:bT)]:List bT)),())))else none)else none)else none else some (.inr (.inl (((),()),(x.2.1,()))))else some (.inr (.inl (((),()),(x.2.1,()))))
def TN:bh:=bu 0 agi agj CB (fun _=>big)
theorem agk:br Tryz.prog 34 (.block 0 (.loop (bq (aW Tryz.f204) 0))) TN:=bA 34 [] [] trivial aF fun x=>by kernel_rfl
def GN(x0:List Int):Option ((List bT)×Bool):=(iter CB big ((x0,(),(0:Int),()),(([]:List bT),()))).bind (Sum.elim (fun z5=>(CA z5.2.1).bind fun y6=>bif (!y6)then some (([]:List bT),false)else some (z5.2.1,true)) (fun z=>nomatch z))
def TO:aI:=aH [(false,(.sl .int))] [(false,(.sl .dP),2),(false,.bool,0)] (fun x=>GN x.1)
theorem agl:enters Tryz.prog 204/\aG Tryz.prog 204 TO:=aJ 34 [(102,.p MZ)] [(0,TN)] Tryz.func204 ⟨TL,trivial⟩ (bH (by kernel_rfl) _ ⟨⟨_,by kernel_rfl,agk⟩,trivial⟩) fun x=>by kernel_rfl
def GO(x0:ke):Option (Bool):=(cN x0.down (1:Int) (10000:Int)).bind fun y1=>bif y1 then bif (decide (x0.sleep > x0.down))then some (decide (x0.sleep <= (20000:Int)))else some false else some false
def TP:aI:=aH [(true,.lF)] [(false,.bool,0)] (fun x=>GO x.1)
theorem agm:enters Tryz.prog 205/\aG Tryz.prog 205 TP:=aJ 18 [(92,.p fI)] [] Tryz.func205 ⟨fW,trivial⟩ aF fun x=>by kernel_rfl
def GP(x0:fB):Option (Bool):=(GN x0.weights).bind fun y1=>(cN x0.kf (0:Int) (1:Int)).bind fun y2=>bif y2 then (cN x0.cap (0:Int) (100000:Int)).bind fun y3=>bif y3 then (cN x0.gX (3:Int) (1000:Int)).bind fun y4=>bif y4 then (Cy (⟨false,x0.low,x0.high⟩:iS)).bind fun y5=>bif y5 then bif y1.2 then bif ((x0.weights.length:Int)==(4:Int))then (GO x0.gY).bind fun y6=>some y6 else some false else some false else some false else some false else some false else some false
def TQ:aI:=aH [(true,.jz)] [(false,.bool,0)] (fun x=>GP x.1)
theorem agn:enters Tryz.prog 156/\aG Tryz.prog 156 TQ:=aJ 46 [(92,.p fI),(103,.p MY),(204,.p TO),(205,.p TP)] [] Tryz.func156 ⟨fW,TI,agl,agm,trivial⟩ aF fun x=>by kernel_rfl
def GQ(x0:Int):Option (Int):=(cN x0 (3:Int) (1000:Int)).bind fun y1=>bif (!y1)then some (0:Int)else some (IntKind.i64.wrap ((IntKind.i64.wrap ((2:Int)*x0))+(2:Int)))
def TR:aI:=aH [(false,.int)] [(false,.int,0)] (fun x=>GQ x.1)
theorem ago:enters Tryz.prog 157/\aG Tryz.prog 157 TR:=aJ 9 [(92,.p fI)] [] Tryz.func157 ⟨fW,trivial⟩ aF fun x=>by kernel_rfl
def zD(x0:gu)(x1:fB):Option (Bool):=(GM x0).bind fun y1=>bif (!y1)then some false else (GP x1).bind fun y2=>bif (!y2)then some false else (GQ x1.gX).bind fun y3=>bif (decide ((IntKind.i64.wrap (y3+(2:Int))) <= x0.gZ.cU))then if (IntKind.i64.wrap (x0.cr.gq+x0.cr.rp))=0 then none else some (decide ((IntKind.i64.wrap ((IntKind.i64.wrap (x0.mm+(1:Int)))*x1.gX)) > (IntKind.i64.wrap ((IntKind.i64.wrap ((IntKind.i64.wrap ((5:Int)*x0.interval)).tdiv (IntKind.i64.wrap (x0.cr.gq+x0.cr.rp))))+(2:Int)))))else some false
def TS:aI:=aH [(true,.Config),(true,.jz)] [(false,.bool,0)] (fun x=>zD x.1 x.2.1)
theorem agp:enters Tryz.prog 91/\aG Tryz.prog 91 TS:=aJ 42 [(155,.p TH),(156,.p TQ),(157,.p TR)] [] Tryz.func91 ⟨agc,agn,ago,trivial⟩ aF fun x=>by kernel_rfl
def agq:aC:=⟨[(2,.az 2 0),(3,.az 3 0),(5,.lf (.int .i64))],[(2,.blk [.int .i64,.int .i64,.int .i64,.int .i64]),(3,.blk [.ah .dR 0,.int .i64])],[]⟩
def agr:List (Nat×aC):=[(1,⟨[(4,.lf (.bool))],[],[]⟩),(2,⟨[],[],[]⟩)]
abbrev TT:=((Unit×Unit×Int×Unit)×((Int×Int×Int×Int×Unit)×((List cq)×Int×Unit)×Unit))
def CC(x:TT):Option (TT⊕(((Bool×Unit)×(Unit))⊕(((Unit)×(Unit))⊕Empty))):=bif (decide (x.1.2.2.1<(x.2.2.1.1.length:Int)))then if h4:0 <= x.1.2.2.1/\x.1.2.2.1.toNat<x.2.2.1.1.length then (let e5:=x.2.2.1.1[x.1.2.2.1.toNat]'h4.2;(cN e5.row (0:Int) (IntKind.i64.wrap (x.2.1.2.2.1-(1:Int)))).bind fun y6=>bif (!y6)then some (.inr (.inl ((false,()),())))else bif (!e5.open_)then bif (e5.row != (0:Int))then some (.inr (.inl ((false,()),())))else bif e5.open_ then bif (x.2.2.1.2.1==(2:Int))then some (.inr (.inl ((false,()),())))else some (.inl (((),(),(IntKind.i64.wrap (x.1.2.2.1+(1:Int))),()),(x.2.1,x.2.2.1,())))else some (.inl (((),(),(IntKind.i64.wrap (x.1.2.2.1+(1:Int))),()),(x.2.1,x.2.2.1,())))else bif e5.open_ then bif (x.2.2.1.2.1==(2:Int))then some (.inr (.inl ((false,()),())))else some (.inl (((),(),(IntKind.i64.wrap (x.1.2.2.1+(1:Int))),()),(x.2.1,x.2.2.1,())))else some (.inl (((),(),(IntKind.i64.wrap (x.1.2.2.1+(1:Int))),()),(x.2.1,x.2.2.1,()))))else none else some (.inr (.inr (.inl ((),()))))
def TU:bh:=bu 0 agq agr CC (fun _=>big)
theorem ags:br Tryz.prog 62 (.block 0 (.loop (bq (aW Tryz.f93) 0))) TU:=bA 62 [(92,.p fI)] [] ⟨fW,trivial⟩ aF fun x=>by kernel_rfl
def GR(x0:bf)(x1:eN):Option (Bool):=(sN x0).bind fun y1=>bif (!y1)then some false else (oK x0).bind fun y2=>bif ((x1.aO.length:Int) != y2)then some false else (cN x1.bM (0:Int) (2:Int)).bind fun y3=>bif (!y3)then some false else (iter CC big (((),(),(0:Int),()),((x0.cZ,x0.aO,x0.rows,x0.cV,()),(x1.aO,x1.bM,()),()))).bind (Sum.elim (fun z7=>some z7.1.1) (Sum.elim (fun z8=>some true) (fun z=>nomatch z)))
def TV:aI:=aH [(true,.ef),(true,.jf)] [(false,.bool,0)] (fun x=>GR x.1 x.2.1)
theorem agt:enters Tryz.prog 93/\aG Tryz.prog 93 TV:=aJ 62 [(92,.p fI),(158,.p wX),(159,.p qQ)] [(0,TU)] Tryz.func93 ⟨fW,zB,sO,trivial⟩ (bH (by kernel_rfl) _ ⟨⟨_,by kernel_rfl,ags⟩,trivial⟩) fun x=>by kernel_rfl
def GS(x0:bf)(x1:Int):Option (Bool):=(oK x0).bind fun y1=>some ((decide ((IntKind.i64.wrap ((x1.tmod (9:Int))+(1:Int))) <= (5:Int)))==(decide ((IntKind.i64.wrap (x1.tdiv (9:Int)))<y1)))
def TW:aI:=aH [(true,.ef),(false,.int)] [(false,.bool,0)] (fun x=>GS x.1 x.2.1)
theorem agu:enters Tryz.prog 160/\aG Tryz.prog 160 TW:=aJ 15 [(159,.p qQ)] [] Tryz.func160 ⟨sO,trivial⟩ aF fun x=>by kernel_rfl
def agv:aC:=⟨[(2,.az 2 0),(3,.az 3 0),(5,.lf (.int .i64))],[(2,.blk [.int .i64,.int .i64,.int .i64,.int .i64]),(3,.blk [.ah .int 0,.ah .int 0])],[]⟩
def agw:List (Nat×aC):=[(1,⟨[(4,.lf (.bool))],[],[]⟩),(2,⟨[(3,.az 3 0)],[(3,.blk [.ah .int 0,.ah .int 0])],[]⟩)]
abbrev TX:=((Unit×Unit×Int×Unit)×((Int×Int×Int×Int×Unit)×((List Int)×(List Int)×Unit)×Unit))
def CD(x:TX):Option (TX⊕(((Bool×Unit)×(Unit))⊕(((Unit×Unit)×(((List Int)×(List Int)×Unit)×Unit))⊕Empty))):=bif (decide (x.1.2.2.1<(x.2.2.1.1.length:Int)))then if h3:0 <= x.1.2.2.1/\x.1.2.2.1.toNat<x.2.2.1.1.length then (let e4:=x.2.2.1.1[x.1.2.2.1.toNat]'h3.2;(cN e4 (-1:Int) (1000000:Int)).bind fun y5=>bif (!y5)then some (.inr (.inl ((false,()),())))else (GS (⟨x.2.1.1,x.2.1.2.1,x.2.1.2.2.1,x.2.1.2.2.2.1⟩:bf) x.1.2.2.1).bind fun y6=>bif (!y6)then if h7:0 <= x.1.2.2.1/\x.1.2.2.1.toNat<x.2.2.1.1.length then (let e8:=x.2.2.1.1[x.1.2.2.1.toNat]'h7.2;bif (e8 != (-1:Int))then some (.inr (.inl ((false,()),())))else some (.inl (((),(),(IntKind.i64.wrap (x.1.2.2.1+(1:Int))),()),(x.2.1,x.2.2.1,()))))else none else some (.inl (((),(),(IntKind.i64.wrap (x.1.2.2.1+(1:Int))),()),(x.2.1,x.2.2.1,()))))else none else some (.inr (.inr (.inl (((),()),(x.2.2.1,())))))
def TY:bh:=bu 0 agv agw CD (fun _=>big)
theorem agx:br Tryz.prog 86 (.block 0 (.loop (bq (aW Tryz.f94) 0))) TY:=bA 86 [(92,.p fI),(160,.p TW)] [] ⟨fW,agu,trivial⟩ aF fun x=>by kernel_rfl
def agy:aC:=⟨[(3,.az 3 0),(6,.lf (.int .i64))],[(3,.blk [.ah .int 0,.ah .int 0])],[]⟩
def agz:List (Nat×aC):=[(1,⟨[(4,.lf (.bool))],[],[]⟩),(4,⟨[],[],[]⟩)]
abbrev TZ:=((Unit×Int×Unit)×(((List Int)×(List Int)×Unit)×Unit))
def CE(x:TZ):Option (TZ⊕(((Bool×Unit)×(Unit))⊕(((Unit)×(Unit))⊕Empty))):=bif (decide (x.1.2.1<(x.2.1.2.1.length:Int)))then if gS:0 <= x.1.2.1/\x.1.2.1.toNat<x.2.1.2.1.length then (let cc:=x.2.1.2.1[x.1.2.1.toNat]'gS.2;(cN cc (0:Int) (1000000:Int)).bind fun fV=>bif (!fV)then some (.inr (.inl ((false,()),())))else bif (decide (x.1.2.1 > (0:Int)))then if kg:0 <= (IntKind.i64.wrap (x.1.2.1-(1:Int)))/\(IntKind.i64.wrap (x.1.2.1-(1:Int))).toNat<x.2.1.2.1.length then (let fl:=x.2.1.2.1[(IntKind.i64.wrap (x.1.2.1-(1:Int))).toNat]'kg.2;if mH:0 <= x.1.2.1/\x.1.2.1.toNat<x.2.1.2.1.length then (let M0:=x.2.1.2.1[x.1.2.1.toNat]'mH.2;bif (decide (fl >= M0))then some (.inr (.inl ((false,()),())))else some (.inl (((),(IntKind.i64.wrap (x.1.2.1+(1:Int))),()),(x.2.1,()))))else none)else none else some (.inl (((),(IntKind.i64.wrap (x.1.2.1+(1:Int))),()),(x.2.1,()))))else none else some (.inr (.inr (.inl ((),()))))
def T0:bh:=bu 2 agy agz CE (fun _=>big)
theorem agA:br Tryz.prog 86 (.block 2 (.loop (bq (aW Tryz.f94) 2))) T0:=bA 86 [(92,.p fI)] [] ⟨fW,trivial⟩ aF fun x=>by kernel_rfl
def GU(x0:bf)(x1:iD):Option (Bool):=(sN x0).bind fun y1=>bif (!y1)then some false else (oK x0).bind fun y2=>bif ((x1.last.length:Int) != (IntKind.i64.wrap ((9:Int)*(IntKind.i64.wrap (y2+(1:Int))))))then some false else bif (decide ((x1.dA.length:Int) > (4:Int)))then some false else (iter CD big (((),(),(0:Int),()),((x0.cZ,x0.aO,x0.rows,x0.cV,()),(x1.last,x1.dA,()),()))).bind (Sum.elim (fun z9=>some z9.1.1) (Sum.elim (fun eI=>(iter CE big (((),(0:Int),()),(eI.2.1,()))).bind (Sum.elim (fun sP=>some sP.1.1) (Sum.elim (fun CF=>some true) (fun z=>nomatch z)))) (fun z=>nomatch z)))
def T1:aI:=aH [(true,.ef),(true,.kP)] [(false,.bool,0)] (fun x=>GU x.1 x.2.1)
theorem agB:enters Tryz.prog 94/\aG Tryz.prog 94 T1:=aJ 86 [(158,.p wX),(159,.p qQ)] [(0,TY),(2,T0)] Tryz.func94 ⟨zB,sO,trivial⟩ (bH (by kernel_rfl) _ ⟨⟨_,by kernel_rfl,agx⟩,⟨_,by kernel_rfl,agA⟩,trivial⟩) fun x=>by kernel_rfl
def zE(x0:bf):Option (Int):=(sN x0).bind fun y1=>bif (!y1)then some (0:Int)else (oK x0).bind fun y2=>some (IntKind.i64.wrap ((IntKind.i64.wrap (y2*x0.rows))*x0.cV))
def M1:aI:=aH [(true,.ef)] [(false,.int,0)] (fun x=>zE x.1)
theorem T2:enters Tryz.prog 100/\aG Tryz.prog 100 M1:=aJ 14 [(158,.p wX),(159,.p qQ)] [] Tryz.func100 ⟨zB,sO,trivial⟩ aF fun x=>by kernel_rfl
end Go.Proofs.YtmffpkippmkjbaaGreatDoor
