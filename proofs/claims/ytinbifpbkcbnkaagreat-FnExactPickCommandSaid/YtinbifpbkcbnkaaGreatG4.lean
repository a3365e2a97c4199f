/-
  Functions of the program as plain functions of contents, and that the code computes them. Nothing here is a claim.
-/
import Derived.Test.YtinbifpbkcbnkaaGreatVZ
import Derived.Test.YtinbifpbkcbnkaaGreatRows
import Derived.Test.YtinbifpbkcbnkaaGreatG1
import Derived.Test.YtinbifpbkcbnkaaGreatG2
import Derived.Test.YtinbifpbkcbnkaaGreatG3
namespace Go.Proofs.YtinbifpbkcbnkaaGreat
open Go.RowKit
set_option linter.unusedVariables false
set_option maxRecDepth 100000
def FE(x0:bA):Option (bA):=some x0
def abd:aE:=aG [(true,.dI)] [(true,.dI,0)] (fun x=>FE x.1)
theorem apu:enters Tryz.prog 100/\aF Tryz.prog 100 abd:=aH 11 [] [] Tryz.func100 trivial aD fun x=>by kernel_rfl
def apv:aI:=⟨[(0,.lf (.ah .dI 0)),(3,.lf (.own 7)),(4,.lf (.int .i64))],[(7,.sl .dI 2)],[]⟩
def apw:List (Nat×aI):=[(2,⟨[(3,.lf (.own 7))],[(7,.sl .dI 2)],[]⟩)]
abbrev abe:=(((List bA)×Unit×Int×Unit)×((List bA)×Unit))
def abf(x:abe):Option (abe⊕(((Unit×Unit)×((List bA)×Unit))⊕Empty)):=bif (decide (x.1.2.2.1<(x.1.1.length:Int)))then if h1:0 <= x.1.2.2.1/\x.1.2.2.1.toNat<x.1.1.length then (let e2:=x.1.1[x.1.2.2.1.toNat]'h1.2;(FE e2).bind fun y3=>if h4:0 <= x.1.2.2.1/\x.1.2.2.1.toNat<x.2.1.length then if h5:x.1.2.2.1.toNat<x.2.1.length then (let e6:=x.2.1[x.1.2.2.1.toNat]'h5;some (.inl ((x.1.1,(),(IntKind.i64.wrap (x.1.2.2.1+(1:Int))),()),((x.2.1.set x.1.2.2.1.toNat y3),()))))else none else none)else none else some (.inr (.inl (((),()),(x.2.1,()))))
def abg:bB:=bF 0 apv apw abf (fun _=>au)
theorem apx:bE Tryz.prog 23 (.block 0 (.loop (bC (bD Tryz.f37) 0))) abg:=bH 23 [(100,.p abd)] [] ⟨apu,trivial⟩ aD fun x=>by kernel_rfl
def Ks(x0:List bA):Option ((List bA)):=if 0 <= (x0.length:Int)/\(x0.length:Int) <= (x0.length:Int)/\(x0.length:Int)<1073741824 then (iter abf au ((x0,(),(0:Int),()),((List.replicate (x0.length:Int).toNat (⟨(0:Int),(0:Int)⟩:bA)),()))).bind (Sum.elim (fun z7=>some z7.2.1) (fun z=>nomatch z))else none
def abh:aE:=aG [(false,(.sl .dI))] [(false,(.sl .dI),2)] (fun x=>Ks x.1)
theorem apy:enters Tryz.prog 37/\aF Tryz.prog 37 abh:=aH 23 [] [(0,abg)] Tryz.func37 trivial (bO (by kernel_rfl) _ ⟨⟨_,by kernel_rfl,apx⟩,trivial⟩) fun x=>by kernel_rfl
def Kt(x0:iC):Option (iC):=some x0
def abi:aE:=aG [(true,.lE)] [(true,.lE,0)] (fun x=>Kt x.1)
theorem apz:enters Tryz.prog 38/\aF Tryz.prog 38 abi:=aH 14 [] [] Tryz.func38 trivial aD fun x=>by kernel_rfl
def Ku(x0:iW):Option (iW):=some x0
def abj:aE:=aG [(true,.Power)] [(true,.Power,0)] (fun x=>Ku x.1)
theorem apA:enters Tryz.prog 39/\aF Tryz.prog 39 abj:=aH 14 [] [] Tryz.func39 trivial aD fun x=>by kernel_rfl
def Kv(x0:pO):Option (pO):=some x0
def abk:aE:=aG [(true,.oC)] [(true,.oC,0)] (fun x=>Kv x.1)
theorem apB:enters Tryz.prog 40/\aF Tryz.prog 40 abk:=aH 14 [] [] Tryz.func40 trivial aD fun x=>by kernel_rfl
def FF(x0:dB):Option (dB):=some x0
def abl:aE:=aG [(true,.eG)] [(true,.eG,0)] (fun x=>FF x.1)
theorem apC:enters Tryz.prog 101/\aF Tryz.prog 101 abl:=aH 14 [] [] Tryz.func101 trivial aD fun x=>by kernel_rfl
def apD:aI:=⟨[(0,.lf (.ah .eG 0)),(3,.lf (.own 7)),(4,.lf (.int .i64))],[(7,.sl .eG 2)],[]⟩
def apE:List (Nat×aI):=[(2,⟨[(3,.lf (.own 7))],[(7,.sl .eG 2)],[]⟩)]
abbrev abm:=(((List dB)×Unit×Int×Unit)×((List dB)×Unit))
def abn(x:abm):Option (abm⊕(((Unit×Unit)×((List dB)×Unit))⊕Empty)):=bif (decide (x.1.2.2.1<(x.1.1.length:Int)))then if h1:0 <= x.1.2.2.1/\x.1.2.2.1.toNat<x.1.1.length then (let e2:=x.1.1[x.1.2.2.1.toNat]'h1.2;(FF e2).bind fun y3=>if h4:0 <= x.1.2.2.1/\x.1.2.2.1.toNat<x.2.1.length then if h5:x.1.2.2.1.toNat<x.2.1.length then (let e6:=x.2.1[x.1.2.2.1.toNat]'h5;some (.inl ((x.1.1,(),(IntKind.i64.wrap (x.1.2.2.1+(1:Int))),()),((x.2.1.set x.1.2.2.1.toNat y3),()))))else none else none)else none else some (.inr (.inl (((),()),(x.2.1,()))))
def abo:bB:=bF 0 apD apE abn (fun _=>au)
theorem apF:bE Tryz.prog 23 (.block 0 (.loop (bC (bD Tryz.f41) 0))) abo:=bH 23 [(101,.p abl)] [] ⟨apC,trivial⟩ aD fun x=>by kernel_rfl
def Kw(x0:List dB):Option ((List dB)):=if 0 <= (x0.length:Int)/\(x0.length:Int) <= (x0.length:Int)/\(x0.length:Int)<1073741824 then (iter abn au ((x0,(),(0:Int),()),((List.replicate (x0.length:Int).toNat (⟨(0:Int),(0:Int),(0:Int)⟩:dB)),()))).bind (Sum.elim (fun z7=>some z7.2.1) (fun z=>nomatch z))else none
def abp:aE:=aG [(false,(.sl .eG))] [(false,(.sl .eG),2)] (fun x=>Kw x.1)
theorem apG:enters Tryz.prog 41/\aF Tryz.prog 41 abp:=aH 23 [] [(0,abo)] Tryz.func41 trivial (bO (by kernel_rfl) _ ⟨⟨_,by kernel_rfl,apF⟩,trivial⟩) fun x=>by kernel_rfl
def Kx(x0:az):Option (az):=some x0
def abq:aE:=aG [(true,.Command)] [(true,.Command,0)] (fun x=>Kx x.1)
theorem apH:enters Tryz.prog 180/\aF Tryz.prog 180 abq:=aH 17 [] [] Tryz.func180 trivial aD fun x=>by kernel_rfl
def FG(x0:gK):Option (gK):=(Kx x0.cmd).bind fun y1=>some (⟨x0.at_,y1⟩:gK)
def abr:aE:=aG [(true,.Event)] [(true,.Event,0)] (fun x=>FG x.1)
theorem apI:enters Tryz.prog 102/\aF Tryz.prog 102 abr:=aH 12 [(180,.p abq)] [] Tryz.func102 ⟨apH,trivial⟩ aD fun x=>by kernel_rfl
def apJ:aI:=⟨[(0,.lf (.ah .Event 0)),(3,.lf (.own 7)),(4,.lf (.int .i64))],[(7,.sl .Event 2)],[]⟩
def apK:List (Nat×aI):=[(2,⟨[(3,.lf (.own 7))],[(7,.sl .Event 2)],[]⟩)]
abbrev abt:=(((List gK)×Unit×Int×Unit)×((List gK)×Unit))
def abu(x:abt):Option (abt⊕(((Unit×Unit)×((List gK)×Unit))⊕Empty)):=bif (decide (x.1.2.2.1<(x.1.1.length:Int)))then if h1:0 <= x.1.2.2.1/\x.1.2.2.1.toNat<x.1.1.length then (let e2:=x.1.1[x.1.2.2.1.toNat]'h1.2;(FG e2).bind fun y3=>if h4:0 <= x.1.2.2.1/\x.1.2.2.1.toNat<x.2.1.length then if h5:x.1.2.2.1.toNat<x.2.1.length then (let e6:=x.2.1[x.1.2.2.1.toNat]'h5;some (.inl ((x.1.1,(),(IntKind.i64.wrap (x.1.2.2.1+(1:Int))),()),((x.2.1.set x.1.2.2.1.toNat y3),()))))else none else none)else none else some (.inr (.inl (((),()),(x.2.1,()))))
def abv:bB:=bF 0 apJ apK abu (fun _=>au)
theorem apL:bE Tryz.prog 23 (.block 0 (.loop (bC (bD Tryz.f42) 0))) abv:=bH 23 [(102,.p abr)] [] ⟨apI,trivial⟩ aD fun x=>by kernel_rfl
def Ky(x0:List gK):Option ((List gK)):=if 0 <= (x0.length:Int)/\(x0.length:Int) <= (x0.length:Int)/\(x0.length:Int)<1073741824 then (iter abu au ((x0,(),(0:Int),()),((List.replicate (x0.length:Int).toNat (⟨(0:Int),⟨(0:Int),(0:Int),(0:Int),(0:Int)⟩⟩:gK)),()))).bind (Sum.elim (fun z7=>some z7.2.1) (fun z=>nomatch z))else none
def abw:aE:=aG [(false,(.sl .Event))] [(false,(.sl .Event),2)] (fun x=>Ky x.1)
theorem apM:enters Tryz.prog 42/\aF Tryz.prog 42 abw:=aH 23 [] [(0,abv)] Tryz.func42 trivial (bO (by kernel_rfl) _ ⟨⟨_,by kernel_rfl,apL⟩,trivial⟩) fun x=>by kernel_rfl
def FH(x0:gU):Option (gU):=some x0
def abx:aE:=aG [(true,.hJ)] [(true,.hJ,0)] (fun x=>FH x.1)
theorem apN:enters Tryz.prog 103/\aF Tryz.prog 103 abx:=aH 17 [] [] Tryz.func103 trivial aD fun x=>by kernel_rfl
def apO:aI:=⟨[(0,.lf (.ah .hJ 0)),(3,.lf (.own 7)),(4,.lf (.int .i64))],[(7,.sl .hJ 2)],[]⟩
def apP:List (Nat×aI):=[(2,⟨[(3,.lf (.own 7))],[(7,.sl .hJ 2)],[]⟩)]
abbrev aby:=(((List gU)×Unit×Int×Unit)×((List gU)×Unit))
def abz(x:aby):Option (aby⊕(((Unit×Unit)×((List gU)×Unit))⊕Empty)):=bif (decide (x.1.2.2.1<(x.1.1.length:Int)))then if h1:0 <= x.1.2.2.1/\x.1.2.2.1.toNat<x.1.1.length then (let e2:=x.1.1[x.1.2.2.1.toNat]'h1.2;(FH e2).bind fun y3=>if h4:0 <= x.1.2.2.1/\x.1.2.2.1.toNat<x.2.1.length then if h5:x.1.2.2.1.toNat<x.2.1.length then (let e6:=x.2.1[x.1.2.2.1.toNat]'h5;some (.inl ((x.1.1,(),(IntKind.i64.wrap (x.1.2.2.1+(1:Int))),()),((x.2.1.set x.1.2.2.1.toNat y3),()))))else none else none)else none else some (.inr (.inl (((),()),(x.2.1,()))))
def abA:bB:=bF 0 apO apP abz (fun _=>au)
theorem apQ:bE Tryz.prog 23 (.block 0 (.loop (bC (bD Tryz.f43) 0))) abA:=bH 23 [(103,.p abx)] [] ⟨apN,trivial⟩ aD fun x=>by kernel_rfl
def Kz(x0:List gU):Option ((List gU)):=if 0 <= (x0.length:Int)/\(x0.length:Int) <= (x0.length:Int)/\(x0.length:Int)<1073741824 then (iter abz au ((x0,(),(0:Int),()),((List.replicate (x0.length:Int).toNat (⟨(0:Int),(0:Int),(0:Int),(0:Int)⟩:gU)),()))).bind (Sum.elim (fun z7=>some z7.2.1) (fun z=>nomatch z))else none
def abC:aE:=aG [(false,(.sl .hJ))] [(false,(.sl .hJ),2)] (fun x=>Kz x.1)
theorem apR:enters Tryz.prog 43/\aF Tryz.prog 43 abC:=aH 23 [] [(0,abA)] Tryz.func43 trivial (bO (by kernel_rfl) _ ⟨⟨_,by kernel_rfl,apQ⟩,trivial⟩) fun x=>by kernel_rfl
def BO(x0:aQ):Option (aQ):=(Kf x0.config).bind fun y1=>(Kh x0.box).bind fun y2=>(Kj x0.bx).bind fun y3=>(Kk x0.ready).bind fun y4=>(Km x0.array).bind fun y5=>(Kn x0.spare).bind fun y6=>(Ko x0.bu).bind fun y7=>(Kp x0.eV).bind fun y8=>(oh x0.guard).bind fun y9=>(Kq x0.pending).bind fun ga=>(Kr x0.queue).bind fun eS=>(Ks x0.shares).bind fun gY=>(Kt x0.drain).bind fun dZ=>(Ku x0.aZ).bind fun iP=>(Kv x0.jy).bind fun uH=>(Kw x0.errors).bind fun lR=>(Ky x0.trace).bind fun o8=>(Kz x0.nx).bind fun sG=>some (⟨y1,y2,x0.now,y3,y4,y5,y6,y7,y8,y9,ga,eS,gY,dZ,iP,uH,lR,o8,sG⟩:aQ)
def abD:aE:=aG [(true,.cG)] [(true,.cG,4)] (fun x=>BO x.1)
theorem apS:enters Tryz.prog 6/\aF Tryz.prog 6 abD:=aH 80 [(26,.p aaC),(27,.p aaI),(28,.p aaO),(29,.p aaP),(30,.p aaV),(31,.p aaW),(32,.p aaX),(33,.p aa2),(34,.p uM),(35,.p aa7),(36,.p abc),(37,.p abh),(38,.p abi),(39,.p abj),(40,.p abk),(41,.p abp),(42,.p abw),(43,.p abC)] [] Tryz.func6 ⟨aoS,aoY,ao4,ao5,apb,apc,apd,api,wL,apn,apt,apy,apz,apA,apB,apG,apM,apR,trivial⟩ aD fun x=>by kernel_rfl
def cJ(x0:Int)(x1:Int)(x2:Int):Option (Bool):=bif (decide (x0 >= x1))then some (decide (x0 <= x2))else some false
def eT:aE:=aG [(false,.int),(false,.int),(false,.int)] [(false,.bool,0)] (fun x=>cJ x.1 x.2.1 x.2.2.1)
theorem eZ:enters Tryz.prog 105/\aF Tryz.prog 105 eT:=aH 15 [] [] Tryz.func105 trivial aD fun x=>by kernel_rfl
def qe(x0:bg):Option (Bool):=(cJ x0.cQ (1:Int) (2:Int)).bind fun y1=>bif y1 then (cJ x0.av (1:Int) (4:Int)).bind fun y2=>bif y2 then (cJ x0.rows (2:Int) (16:Int)).bind fun y3=>bif y3 then (cJ x0.aS (1:Int) (8:Int)).bind fun y4=>some y4 else some false else some false else some false
def sI:aE:=aG [(true,.dO)] [(false,.bool,0)] (fun x=>qe x.1)
theorem uN:enters Tryz.prog 184/\aF Tryz.prog 184 sI:=aH 21 [(105,.p eT)] [] Tryz.func184 ⟨eZ,trivial⟩ aD fun x=>by kernel_rfl
def m9(x0:bg):Option (Int):=(qe x0).bind fun y1=>bif (!y1)then some (0:Int)else some (IntKind.i64.wrap (x0.cQ*x0.av))
def o9:aE:=aG [(true,.dO)] [(false,.int,0)] (fun x=>m9 x.1)
theorem qf:enters Tryz.prog 185/\aF Tryz.prog 185 o9:=aH 11 [(184,.p sI)] [] Tryz.func185 ⟨uN,trivial⟩ aD fun x=>by kernel_rfl
def apT:aI:=⟨[(1,.lf (.int .i64)),(2,.aC 2 0),(4,.aC 4 0),(6,.aC 6 0),(7,.lf (.int .i64)),(8,.lf (.int .i64))],[(2,.ak [.int .i64,.int .i64,.int .i64,.int .i64]),(4,.ak [.int .i64,.own 90101]),(6,.ak [.int .i64,.own 90201]),(90101,.sl .int 2),(90201,.sl .int 2)],[]⟩
def apU:List (Nat×aI):=[(4,⟨[(1,.lf (.int .i64)),(2,.aC 2 0),(4,.aC 4 0),(6,.aC 6 0),(7,.lf (.int .i64))],[(2,.ak [.int .i64,.int .i64,.int .i64,.int .i64]),(4,.ak [.int .i64,.own 90101]),(6,.ak [.int .i64,.own 90201]),(90101,.sl .int 2),(90201,.sl .int 2)],[]⟩)]
abbrev abE:=((Int×Unit×Unit×Unit×Int×Int×Unit)×((Int×Int×Int×Int×Unit)×(Int×Unit×Unit)×(Int×Unit×Unit)×(List Int)×(List Int)×Unit))
def BP(x:abE):Option (abE⊕(((Int×Unit×Unit×Unit×Int×Unit)×((Int×Int×Int×Int×Unit)×(Int×Unit×Unit)×(Int×Unit×Unit)×(List Int)×(List Int)×Unit))⊕Empty)):=bif (decide (x.1.2.2.2.2.2.1<(IntKind.i64.wrap (x.2.1.2.2.1-x.1.1))))then bif cu (x.2.2.2.2.2.1.length+([x.1.2.2.2.2.2.1]:List Int).length)then some (.inl ((x.1.1,(),(),(),x.1.2.2.2.2.1,(IntKind.i64.wrap (x.1.2.2.2.2.2.1+(1:Int))),()),(x.2.1,x.2.2.1,x.2.2.2.1,x.2.2.2.2.1,(x.2.2.2.2.2.1++([x.1.2.2.2.2.2.1]:List Int)),())))else none else some (.inr (.inl ((x.1.1,(),(),(),x.1.2.2.2.2.1,()),(x.2.1,x.2.2.1,x.2.2.2.1,x.2.2.2.2.1,x.2.2.2.2.2.1,()))))
def abF:bB:=bF 2 apT apU BP (fun _=>au)
theorem apV:bE Tryz.prog 48 (.block 2 (.loop (bC (bC (bD Tryz.f189) 0) 2))) abF:=bH 48 [] [] trivial aD fun x=>by kernel_rfl
def apW:aI:=⟨[(1,.lf (.int .i64)),(2,.aC 2 0),(4,.aC 4 0),(6,.aC 6 0),(7,.lf (.int .i64))],[(2,.ak [.int .i64,.int .i64,.int .i64,.int .i64]),(4,.ak [.int .i64,.own 90101]),(6,.ak [.int .i64,.own 90201]),(90101,.sl .int 2),(90201,.sl .int 2)],[]⟩
def apX:List (Nat×aI):=[(2,⟨[(4,.aC 4 0),(6,.aC 6 0)],[(4,.ak [.int .i64,.own 90101]),(6,.ak [.int .i64,.own 90201]),(90101,.sl .int 2),(90201,.sl .int 2)],[]⟩)]
abbrev abG:=((Int×Unit×Unit×Unit×Int×Unit)×((Int×Int×Int×Int×Unit)×(Int×Unit×Unit)×(Int×Unit×Unit)×(List Int)×(List Int)×Unit))
def FI(x:abG):Option (abG⊕(((Unit×Unit×Unit)×((Int×Unit×Unit)×(Int×Unit×Unit)×(List Int)×(List Int)×Unit))⊕Empty)):=(m9 (⟨x.2.1.1,x.2.1.2.1,x.2.1.2.2.1,x.2.1.2.2.2.1⟩:bg)).bind fun y3=>bif (decide (x.1.2.2.2.2.1<y3))then (iter BP au ((x.1.1,(),(),(),x.1.2.2.2.2.1,(0:Int),()),(x.2.1,x.2.2.1,x.2.2.2.1,x.2.2.2.2.1,x.2.2.2.2.2.1,()))).bind (Sum.elim (fun z4=>some (.inl ((z4.1.1,(),(),(),(IntKind.i64.wrap (z4.1.2.2.2.2.1+(1:Int))),()),(z4.2.1,z4.2.2.1,z4.2.2.2.1,z4.2.2.2.2.1,z4.2.2.2.2.2.1,())))) (fun z=>nomatch z))else some (.inr (.inl (((),(),()),(x.2.2.1,x.2.2.2.1,x.2.2.2.2.1,x.2.2.2.2.2.1,()))))
def abH:bB:=bF 0 apW apX FI (fun _=>au)
theorem apY:bE Tryz.prog 48 (.block 0 (.loop (bC (bD Tryz.f189) 0))) abH:=bH 48 [(185,.p o9)] [(2,abF)] ⟨qf,trivial⟩ (bO (by kernel_rfl) _ ⟨⟨_,by kernel_rfl,apV⟩,trivial⟩) fun x=>by kernel_rfl
def FJ(x0:bg)(x1:Int):Option (ee×Bool):=(qe x0).bind fun y1=>bif (!y1)then some ((⟨(0:Int),[]⟩:ee),false)else (cJ x1 (0:Int) (2:Int)).bind fun y2=>bif (!y2)then some ((⟨(0:Int),[]⟩:ee),false)else bif (decide ((IntKind.i64.wrap (x0.rows-x1))<(2:Int)))then some ((⟨(0:Int),[]⟩:ee),false)else (iter FI au ((x1,(),(),(),(0:Int),()),((x0.cQ,x0.av,x0.rows,x0.aS,()),((0:Int),(),()),(x1,(),()),([]:List Int),([]:List Int),()))).bind (Sum.elim (fun z5=>some ((⟨z5.2.2.1.1,z5.2.2.2.2.1⟩:ee),true)) (fun z=>nomatch z))
def QY:aE:=aG [(true,.dO),(false,.int)] [(true,.jk,2),(false,.bool,0)] (fun x=>FJ x.1 x.2.1)
theorem abI:enters Tryz.prog 189/\aF Tryz.prog 189 QY:=aH 48 [(105,.p eT),(184,.p sI)] [(0,abH)] Tryz.func189 ⟨eZ,uN,trivial⟩ (bO (by kernel_rfl) _ ⟨⟨_,by kernel_rfl,apY⟩,trivial⟩) fun x=>by kernel_rfl
def apZ:aI:=⟨[(1,.aC 1 0),(39,.lf (.own 39)),(40,.lf (.int .i64)),(41,.lf (.int .i64))],[(1,.st .fB),(39,.sl .int 2)],[]⟩
def ap0:List (Nat×aI):=[(1,⟨[(2,.lf (.bool))],[],[]⟩),(2,⟨[(1,.aC 1 0)],[(1,.st .fB)],[]⟩)]
abbrev abJ:=((Unit×Unit×Int×Int×Unit)×(cI×(List Int)×Unit))
def BQ(x:abJ):Option (abJ⊕(((Bool×Unit)×(Unit))⊕(((Unit×Unit)×(cI×Unit))⊕Empty))):=bif (decide (x.1.2.2.2.1<x.1.2.2.1))then if h1:0 <= x.1.2.2.2.1/\x.1.2.2.2.1.toNat<x.2.2.1.length then if h2:x.1.2.2.2.1.toNat<x.2.2.1.length then (let e3:=x.2.2.1[x.1.2.2.2.1.toNat]'h2;(cJ e3 (1:Int) (64:Int)).bind fun y4=>bif (!y4)then some (.inr (.inl ((false,()),())))else some (.inl (((),(),x.1.2.2.1,(IntKind.i64.wrap (x.1.2.2.2.1+(1:Int))),()),(x.2.1,x.2.2.1,()))))else none else none else some (.inr (.inr (.inl (((),()),(x.2.1,())))))
def abK:bB:=bF 0 apZ ap0 BQ (fun _=>au)
theorem ap1:bE Tryz.prog 75 (.block 0 (.loop (bC (bD Tryz.f228) 0))) abK:=bH 75 [(105,.p eT)] [] ⟨eZ,trivial⟩ aD fun x=>by kernel_rfl
def BR(x0:cI):Option (Bool):=(iter BQ au (((),(),(([x0.iU,x0.rp,x0.fj,x0.kG,x0.iV,x0.hG,x0.kH,x0.kI,x0.iA,x0.wr,x0.lV,x0.lW,x0.oA,x0.lX,x0.mF,x0.xp,x0.xs]:List Int).length:Int),(0:Int),()),(x0,([x0.iU,x0.rp,x0.fj,x0.kG,x0.iV,x0.hG,x0.kH,x0.kI,x0.iA,x0.wr,x0.lV,x0.lW,x0.oA,x0.lX,x0.mF,x0.xp,x0.xs]:List Int),()))).bind (Sum.elim (fun z5=>some z5.1.1) (Sum.elim (fun z6=>bif (decide (z6.2.1.iU <= z6.2.1.fj))then bif (decide (z6.2.1.kG <= z6.2.1.iV))then bif (decide (z6.2.1.kH <= z6.2.1.kI))then some (decide (z6.2.1.lV <= z6.2.1.lW))else some false else some false else some false) (fun z=>nomatch z)))
def KA:aE:=aG [(true,.fB)] [(false,.bool,0)] (fun x=>BR x.1)
theorem QZ:enters Tryz.prog 228/\aF Tryz.prog 228 KA:=aH 75 [] [(0,abK)] Tryz.func228 trivial (bO (by kernel_rfl) _ ⟨⟨_,by kernel_rfl,ap1⟩,trivial⟩) fun x=>by kernel_rfl
def FK(x0:iT):Option (Bool):=(cJ x0.order (0:Int) (2:Int)).bind fun y1=>some y1
def Q0:aE:=aG [(true,.lD)] [(false,.bool,0)] (fun x=>FK x.1)
theorem abL:enters Tryz.prog 229/\aF Tryz.prog 229 Q0:=aH 6 [(105,.p eT)] [] Tryz.func229 ⟨eZ,trivial⟩ aD fun x=>by kernel_rfl
def wM(x0:cI):Option (Int):=(BR x0).bind fun y1=>bif (!y1)then some (0:Int)else some (IntKind.i64.wrap ((2:Int)*(IntKind.i64.wrap ((IntKind.i64.wrap ((IntKind.i64.wrap ((IntKind.i64.wrap ((IntKind.i64.wrap ((IntKind.i64.wrap ((IntKind.i64.wrap ((IntKind.i64.wrap ((IntKind.i64.wrap (x0.mF+x0.xp))+x0.fj))+x0.wr))+x0.iA))+x0.rp))+x0.lX))+x0.iU))+(IntKind.i64.wrap ((8:Int)*x0.iV))))+(16:Int)))))
def abM:aE:=aG [(true,.fB)] [(false,.int,0)] (fun x=>wM x.1)
theorem ap2:enters Tryz.prog 230/\aF Tryz.prog 230 abM:=aH 35 [(228,.p KA)] [] Tryz.func230 ⟨QZ,trivial⟩ aD fun x=>by kernel_rfl
def KB(x0:gL):Option (Bool):=(FJ x0.aY x0.bP).bind fun y1=>(qe x0.aY).bind fun y2=>bif y2 then (BR x0.cy).bind fun y3=>bif y3 then (FK x0.mapping).bind fun y4=>bif y4 then bif y1.2 then (wM x0.cy).bind fun y5=>(cJ x0.interval y5 (10000:Int)).bind fun y6=>bif y6 then (cJ x0.nv (1:Int) (16:Int)).bind fun y7=>bif y7 then (cJ x0.ji.dz (IntKind.i64.wrap ((6:Int)*x0.interval)) (100000:Int)).bind fun y8=>bif y8 then (cJ x0.ji.dA (0:Int) (100000:Int)).bind fun y9=>some y9 else some false else some false else some false else some false else some false else some false else some false
def abN:aE:=aG [(true,.Config)] [(false,.bool,0)] (fun x=>KB x.1)
theorem ap3:enters Tryz.prog 181/\aF Tryz.prog 181 abN:=aH 57 [(105,.p eT),(184,.p sI),(189,.p QY),(228,.p KA),(229,.p Q0),(230,.p abM)] [] Tryz.func181 ⟨eZ,uN,abI,QZ,abL,ap2,trivial⟩ aD fun x=>by kernel_rfl
def zj(x0:iC):Option (Bool):=bif (decide (x0.low >= (0:Int)))then bif (decide (x0.low<x0.high))then some (decide (x0.high <= (12:Int)))else some false else some false
def KC:aE:=aG [(true,.lE)] [(false,.bool,0)] (fun x=>zj x.1)
theorem Q1:enters Tryz.prog 115/\aF Tryz.prog 115 KC:=aH 18 [] [] Tryz.func115 trivial aD fun x=>by kernel_rfl
def BS(x0:iX):Option (Bool):=(cJ x0.down (1:Int) (10000:Int)).bind fun y1=>bif y1 then bif (decide (x0.sleep > x0.down))then some (decide (x0.sleep <= (20000:Int)))else some false else some false
def Q2:aE:=aG [(true,.lF)] [(false,.bool,0)] (fun x=>BS x.1)
theorem abO:enters Tryz.prog 198/\aF Tryz.prog 198 Q2:=aH 18 [(105,.p eT)] [] Tryz.func198 ⟨eZ,trivial⟩ aD fun x=>by kernel_rfl
def ap4:aI:=⟨[(0,.lf (.ah .dI 0)),(5,.lf (.ah .dI 0)),(6,.lf (.int .i64)),(7,.lf (.int .i64))],[],[]⟩
def ap5:List (Nat×aI):=[(1,⟨[(2,.lf (.bool))],[],[]⟩),(2,⟨[(0,.lf (.ah .dI 0))],[],[]⟩)]
abbrev abP:=(((List bA)×(List bA)×Int×Int×Unit)×(Unit))
def FL(x:abP):Option (abP⊕(((Bool×Unit)×(Unit))⊕((((List bA)×Unit)×(Unit))⊕Empty))):=bif (decide (x.1.2.2.2.1<x.1.2.2.1))then if h1:0 <= x.1.2.2.2.1/\x.1.2.2.2.1.toNat<x.1.2.1.length then (let e2:=x.1.2.1[x.1.2.2.2.1.toNat]'h1.2;(cJ e2.weight (1:Int) (9:Int)).bind fun y3=>bif (!y3)then some (.inr (.inl ((false,()),())))else (cJ e2.fW (0:Int) e2.weight).bind fun y4=>bif (!y4)then some (.inr (.inl ((false,()),())))else some (.inl ((x.1.1,x.1.2.1,x.1.2.2.1,(IntKind.i64.wrap (x.1.2.2.2.1+(1:Int))),()),())))else none else some (.inr (.inr (.inl ((x.1.1,()),()))))
def abQ:bB:=bF 0 ap4 ap5 FL (fun _=>au)
theorem ap6:bE Tryz.prog 27 (.block 0 (.loop (bC (bD Tryz.f114) 0))) abQ:=bH 27 [(105,.p eT)] [] ⟨eZ,trivial⟩ aD fun x=>by kernel_rfl
def BT(x0:List bA):Option (Bool):=(iter FL au ((x0,x0,(x0.length:Int),(0:Int),()),())).bind (Sum.elim (fun z5=>some z5.1.1) (Sum.elim (fun z6=>(cJ (z6.1.1.length:Int) (1:Int) (4:Int)).bind fun y7=>some y7) (fun z=>nomatch z)))
def KD:aE:=aG [(false,(.sl .dI))] [(false,.bool,0)] (fun x=>BT x.1)
theorem Q3:enters Tryz.prog 114/\aF Tryz.prog 114 KD:=aH 27 [(105,.p eT)] [(0,abQ)] Tryz.func114 ⟨eZ,trivial⟩ (bO (by kernel_rfl) _ ⟨⟨_,by kernel_rfl,ap6⟩,trivial⟩) fun x=>by kernel_rfl
def ap7:aI:=⟨[(4,.lf (.own 7)),(8,.lf (.ah .int 0)),(9,.lf (.int .i64)),(10,.lf (.int .i64))],[(7,.sl .dI 2)],[]⟩
def ap8:List (Nat×aI):=[(2,⟨[(4,.lf (.own 7))],[(7,.sl .dI 2)],[]⟩)]
abbrev abR:=((Unit×(List Int)×Int×Int×Unit)×((List bA)×Unit))
def FM(x:abR):Option (abR⊕(((Unit×Unit)×((List bA)×Unit))⊕Empty)):=bif (decide (x.1.2.2.2.1<x.1.2.2.1))then if h1:0 <= x.1.2.2.2.1/\x.1.2.2.2.1.toNat<x.1.2.1.length then (let e2:=x.1.2.1[x.1.2.2.2.1.toNat]'h1.2;bif cu (x.2.1.length+([(⟨e2,e2⟩:bA)]:List bA).length)then some (.inl (((),x.1.2.1,x.1.2.2.1,(IntKind.i64.wrap (x.1.2.2.2.1+(1:Int))),()),((x.2.1++([(⟨e2,e2⟩:bA)]:List bA)),())))else none)else none else some (.inr (.inl (((),()),(x.2.1,()))))
def abS:bB:=bF 0 ap7 ap8 FM (fun _=>au)
theorem ap9:bE Tryz.prog 25 (.block 0 (.loop (bC (bD Tryz.f231) 0))) abS:=bH 25 [] [] trivial aD fun x=>by kernel_rfl
def KE(x0:List Int):Option ((List bA)×Bool):=(iter FM au (((),x0,(x0.length:Int),(0:Int),()),(([]:List bA),()))).bind (Sum.elim (fun z3=>(BT z3.2.1).bind fun y4=>bif (!y4)then some ([],false)else some (z3.2.1,true)) (fun z=>nomatch z))
def abU:aE:=aG [(false,(.sl .int))] [(false,(.sl .dI),2),(false,.bool,0)] (fun x=>KE x.1)
theorem aqa:enters Tryz.prog 231/\aF Tryz.prog 231 abU:=aH 25 [(114,.p KD)] [(0,abS)] Tryz.func231 ⟨Q3,trivial⟩ (bO (by kernel_rfl) _ ⟨⟨_,by kernel_rfl,ap9⟩,trivial⟩) fun x=>by kernel_rfl
def KF(x0:fS):Option (Bool):=(KE x0.weights).bind fun y1=>bif (x0.eU==(0:Int))then (cJ x0.cap (0:Int) (100000:Int)).bind fun y2=>bif y2 then (cJ x0.iD (3:Int) (1000:Int)).bind fun y3=>bif y3 then (zj (⟨false,x0.low,x0.high⟩:iC)).bind fun y4=>bif y4 then bif ((x0.weights.length:Int)==(4:Int))then bif y1.2 then (BS x0.fH).bind fun y5=>some y5 else some false else some false else some false else some false else some false else bif (x0.eU==(1:Int))then (cJ x0.cap (0:Int) (100000:Int)).bind fun y6=>bif y6 then (cJ x0.iD (3:Int) (1000:Int)).bind fun y7=>bif y7 then (zj (⟨false,x0.low,x0.high⟩:iC)).bind fun y8=>bif y8 then bif ((x0.weights.length:Int)==(4:Int))then bif y1.2 then (BS x0.fH).bind fun y9=>some y9 else some false else some false else some false else some false else some false else some false
def abV:aE:=aG [(true,.kK)] [(false,.bool,0)] (fun x=>KF x.1)
theorem aqb:enters Tryz.prog 182/\aF Tryz.prog 182 abV:=aH 51 [(105,.p eT),(115,.p KC),(198,.p Q2),(231,.p abU)] [] Tryz.func182 ⟨eZ,Q1,abO,aqa,trivial⟩ aD fun x=>by kernel_rfl
def BU(x0:Int):Option (Int):=(cJ x0 (3:Int) (1000:Int)).bind fun y1=>bif (!y1)then some (0:Int)else some (IntKind.i64.wrap ((IntKind.i64.wrap ((2:Int)*x0))+(2:Int)))
def abW:aE:=aG [(false,.int)] [(false,.int,0)] (fun x=>BU x.1)
theorem aqc:enters Tryz.prog 183/\aF Tryz.prog 183 abW:=aH 9 [(105,.p eT)] [] Tryz.func183 ⟨eZ,trivial⟩ aD fun x=>by kernel_rfl
def sJ(x0:gL)(x1:fS):Option (Bool):=(KB x0).bind fun y1=>bif y1 then (KF x1).bind fun y2=>bif y2 then (BU x1.iD).bind fun y3=>bif (decide ((IntKind.i64.wrap (y3+(2:Int))) <= x0.ji.dA))then if (IntKind.i64.wrap (x0.cy.fj+x0.cy.rp))=0 then none else some (decide ((IntKind.i64.wrap ((IntKind.i64.wrap (x0.nv+(1:Int)))*x1.iD)) > (IntKind.i64.wrap ((IntKind.i64.wrap ((IntKind.i64.wrap ((5:Int)*x0.interval)).tdiv (IntKind.i64.wrap (x0.cy.fj+x0.cy.rp))))+(2:Int)))))else some false else some false else some false
def abX:aE:=aG [(true,.Config),(true,.kK)] [(false,.bool,0)] (fun x=>sJ x.1 x.2.1)
theorem aqd:enters Tryz.prog 104/\aF Tryz.prog 104 abX:=aH 42 [(181,.p abN),(182,.p abV),(183,.p abW)] [] Tryz.func104 ⟨ap3,aqb,aqc,trivial⟩ aD fun x=>by kernel_rfl
def aqe:aI:=⟨[(3,.lf (.own 6)),(8,.lf (.ah .eF 0)),(9,.lf (.int .i64)),(10,.lf (.int .i64))],[(6,.sl .int 2)],[]⟩
def aqf:List (Nat×aI):=[(2,⟨[(3,.lf (.own 6))],[(6,.sl .int 2)],[]⟩)]
abbrev abY:=((Unit×(List dY)×Int×Int×Unit)×((List Int)×Unit))
def BV(x:abY):Option (abY⊕(((Unit×Unit)×((List Int)×Unit))⊕Empty)):=bif (decide (x.1.2.2.2.1<x.1.2.2.1))then if h1:0 <= x.1.2.2.2.1/\x.1.2.2.2.1.toNat<x.1.2.1.length then (let e2:=x.1.2.1[x.1.2.2.2.1.toNat]'h1.2;bif e2.open_ then bif cu (x.2.1.length+([x.1.2.2.2.1]:List Int).length)then some (.inl (((),x.1.2.1,x.1.2.2.1,(IntKind.i64.wrap (x.1.2.2.2.1+(1:Int))),()),((x.2.1++([x.1.2.2.2.1]:List Int)),())))else none else some (.inl (((),x.1.2.1,x.1.2.2.1,(IntKind.i64.wrap (x.1.2.2.2.1+(1:Int))),()),(x.2.1,()))))else none else some (.inr (.inl (((),()),(x.2.1,()))))
def abZ:bB:=bF 0 aqe aqf BV (fun _=>au)
theorem aqg:bE Tryz.prog 23 (.block 0 (.loop (bC (bD Tryz.f186) 0))) abZ:=bH 23 [] [] trivial aD fun x=>by kernel_rfl
def pg(x0:cV):Option ((List Int)):=(iter BV au (((),x0.av,(x0.av.length:Int),(0:Int),()),(([]:List Int),()))).bind (Sum.elim (fun z3=>some z3.2.1) (fun z=>nomatch z))
def FN:aE:=aG [(true,.gM)] [(false,(.sl .int),2)] (fun x=>pg x.1)
theorem KG:enters Tryz.prog 186/\aF Tryz.prog 186 FN:=aH 23 [] [(0,abZ)] Tryz.func186 trivial (bO (by kernel_rfl) _ ⟨⟨_,by kernel_rfl,aqg⟩,trivial⟩) fun x=>by kernel_rfl
def aqh:aI:=⟨[(2,.aC 2 0),(3,.aC 3 0),(25,.lf (.ah .eF 0)),(26,.lf (.int .i64)),(27,.lf (.int .i64))],[(2,.ak [.int .i64,.int .i64,.int .i64,.int .i64]),(3,.ak [.ah .eF 0,.int .i64])],[]⟩
def aqi:List (Nat×aI):=[(1,⟨[(4,.lf (.bool))],[],[]⟩),(2,⟨[(3,.aC 3 0)],[(3,.ak [.ah .eF 0,.int .i64])],[]⟩)]
abbrev ab0:=((Unit×Unit×(List dY)×Int×Int×Unit)×((Int×Int×Int×Int×Unit)×((List dY)×Int×Unit)×Unit))
def FO(x:ab0):Option (ab0⊕(((Bool×Unit)×(Unit))⊕(((Unit×Unit)×(((List dY)×Int×Unit)×Unit))⊕Empty))):=bif (decide (x.1.2.2.2.2.1<x.1.2.2.2.1))then if h4:0 <= x.1.2.2.2.2.1/\x.1.2.2.2.2.1.toNat<x.1.2.2.1.length then (let e5:=x.1.2.2.1[x.1.2.2.2.2.1.toNat]'h4.2;(cJ e5.row (0:Int) (IntKind.i64.wrap (x.2.1.2.2.1-(1:Int)))).bind fun y6=>bif (!y6)then some (.inr (.inl ((false,()),())))else bif (!e5.open_)then bif (e5.row != (0:Int))then some (.inr (.inl ((false,()),())))else some (.inl (((),(),x.1.2.2.1,x.1.2.2.2.1,(IntKind.i64.wrap (x.1.2.2.2.2.1+(1:Int))),()),(x.2.1,x.2.2.1,())))else some (.inl (((),(),x.1.2.2.1,x.1.2.2.2.1,(IntKind.i64.wrap (x.1.2.2.2.2.1+(1:Int))),()),(x.2.1,x.2.2.1,()))))else none else some (.inr (.inr (.inl (((),()),(x.2.2.1,())))))
def ab1:bB:=bF 0 aqh aqi FO (fun _=>au)
theorem aqj:bE Tryz.prog 58 (.block 0 (.loop (bC (bD Tryz.f106) 0))) ab1:=bH 58 [(105,.p eT)] [] ⟨eZ,trivial⟩ aD fun x=>by kernel_rfl
def FP(x0:bg)(x1:cV):Option (Bool):=(qe x0).bind fun y1=>bif (!y1)then some false else (m9 x0).bind fun y2=>bif ((x1.av.length:Int) != y2)then some false else (cJ x1.aZ (0:Int) (2:Int)).bind fun y3=>bif (!y3)then some false else (iter FO au (((),(),x1.av,(x1.av.length:Int),(0:Int),()),((x0.cQ,x0.av,x0.rows,x0.aS,()),(x1.av,x1.aZ,()),()))).bind (Sum.elim (fun z7=>some z7.1.1) (Sum.elim (fun z8=>bif (z8.2.1.2.1 != (2:Int))then some true else (pg (⟨z8.2.1.1,z8.2.1.2.1⟩:cV)).bind fun y9=>some ((y9.length:Int)==(0:Int))) (fun z=>nomatch z)))
def Q4:aE:=aG [(true,.dO),(true,.gM)] [(false,.bool,0)] (fun x=>FP x.1 x.2.1)
theorem ab2:enters Tryz.prog 106/\aF Tryz.prog 106 Q4:=aH 58 [(105,.p eT),(184,.p sI),(185,.p o9),(186,.p FN)] [(0,ab1)] Tryz.func106 ⟨eZ,uN,qf,KG,trivial⟩ (bO (by kernel_rfl) _ ⟨⟨_,by kernel_rfl,aqj⟩,trivial⟩) fun x=>by kernel_rfl
def wN(x0:Int):Option (Bool):=(cJ x0 (1:Int) (5:Int)).bind fun y1=>some y1
def KH:aE:=aG [(false,.int)] [(false,.bool,0)] (fun x=>wN x.1)
theorem Q5:enters Tryz.prog 232/\aF Tryz.prog 232 KH:=aH 5 [(105,.p eT)] [] Tryz.func232 ⟨eZ,trivial⟩ aD fun x=>by kernel_rfl
def zk(x0:bg)(x1:Int):Option (az×Bool):=(m9 x0).bind fun y1=>bif (decide ((IntKind.i64.wrap (x1.tdiv (9:Int)))<y1))then (wN (IntKind.i64.wrap ((x1.tmod (9:Int))+(1:Int)))).bind fun y2=>some ((⟨(IntKind.i64.wrap ((x1.tmod (9:Int))+(1:Int))),(IntKind.i64.wrap (x1.tdiv (9:Int))),(0:Int),(0:Int)⟩:az),((decide ((IntKind.i64.wrap (x1.tdiv (9:Int)))<y1))==y2))else (wN (IntKind.i64.wrap ((x1.tmod (9:Int))+(1:Int)))).bind fun y3=>some ((⟨(IntKind.i64.wrap ((x1.tmod (9:Int))+(1:Int))),(0:Int),(0:Int),(0:Int)⟩:az),((decide ((IntKind.i64.wrap (x1.tdiv (9:Int)))<y1))==y3))
def Q6:aE:=aG [(true,.dO),(false,.int)] [(true,.Command,0),(false,.bool,0)] (fun x=>zk x.1 x.2.1)
theorem ab3:enters Tryz.prog 187/\aF Tryz.prog 187 Q6:=aH 27 [(185,.p o9),(232,.p KH)] [] Tryz.func187 ⟨qf,Q5,trivial⟩ aD fun x=>by kernel_rfl
def aqk:aI:=⟨[(2,.aC 2 0),(3,.aC 3 0),(31,.lf (.ah .int 0)),(32,.lf (.int .i64)),(33,.lf (.int .i64))],[(2,.ak [.int .i64,.int .i64,.int .i64,.int .i64]),(3,.ak [.ah .int 0,.ah .int 0])],[]⟩
def aql:List (Nat×aI):=[(1,⟨[(4,.lf (.bool))],[],[]⟩),(2,⟨[(3,.aC 3 0)],[(3,.ak [.ah .int 0,.ah .int 0])],[]⟩)]
abbrev ab4:=((Unit×Unit×(List Int)×Int×Int×Unit)×((Int×Int×Int×Int×Unit)×((List Int)×(List Int)×Unit)×Unit))
def FQ(x:ab4):Option (ab4⊕(((Bool×Unit)×(Unit))⊕(((Unit×Unit)×(((List Int)×(List Int)×Unit)×Unit))⊕Empty))):=bif (decide (x.1.2.2.2.2.1<x.1.2.2.2.1))then if h3:0 <= x.1.2.2.2.2.1/\x.1.2.2.2.2.1.toNat<x.1.2.2.1.length then (let e4:=x.1.2.2.1[x.1.2.2.2.2.1.toNat]'h3.2;(zk (⟨x.2.1.1,x.2.1.2.1,x.2.1.2.2.1,x.2.1.2.2.2.1⟩:bg) x.1.2.2.2.2.1).bind fun y5=>(cJ e4 (-1:Int) (1000000:Int)).bind fun y6=>bif (!y6)then some (.inr (.inl ((false,()),())))else bif (!y5.2)then bif (e4 != (-1:Int))then some (.inr (.inl ((false,()),())))else some (.inl (((),(),x.1.2.2.1,x.1.2.2.2.1,(IntKind.i64.wrap (x.1.2.2.2.2.1+(1:Int))),()),(x.2.1,x.2.2.1,())))else some (.inl (((),(),x.1.2.2.1,x.1.2.2.2.1,(IntKind.i64.wrap (x.1.2.2.2.2.1+(1:Int))),()),(x.2.1,x.2.2.1,()))))else none else some (.inr (.inr (.inl (((),()),(x.2.2.1,())))))
def ab5:bB:=bF 0 aqk aql FQ (fun _=>au)
theorem aqm:bE Tryz.prog 82 (.block 0 (.loop (bC (bD Tryz.f107) 0))) ab5:=bH 82 [(105,.p eT),(187,.p Q6)] [] ⟨eZ,ab3,trivial⟩ aD fun x=>by kernel_rfl
def aqn:aI:=⟨[(3,.aC 3 0),(57,.lf (.ah .int 0)),(58,.lf (.int .i64)),(59,.lf (.int .i64))],[(3,.ak [.ah .int 0,.ah .int 0])],[]⟩
def aqo:List (Nat×aI):=[(1,⟨[(4,.lf (.bool))],[],[]⟩),(4,⟨[],[],[]⟩)]
abbrev ab6:=((Unit×(List Int)×Int×Int×Unit)×(((List Int)×(List Int)×Unit)×Unit))
def FR(x:ab6):Option (ab6⊕(((Bool×Unit)×(Unit))⊕(((Unit)×(Unit))⊕Empty))):=bif (decide (x.1.2.2.2.1<x.1.2.2.1))then if h9:0 <= x.1.2.2.2.1/\x.1.2.2.2.1.toNat<x.1.2.1.length then (let iw:=x.1.2.1[x.1.2.2.2.1.toNat]'h9.2;(cJ iw (0:Int) (1000000:Int)).bind fun eS=>bif (!eS)then some (.inr (.inl ((false,()),())))else bif (decide (x.1.2.2.2.1 > (0:Int)))then if fX:0 <= (IntKind.i64.wrap (x.1.2.2.2.1-(1:Int)))/\(IntKind.i64.wrap (x.1.2.2.2.1-(1:Int))).toNat<x.2.1.2.1.length then (let m6:=x.2.1.2.1[(IntKind.i64.wrap (x.1.2.2.2.1-(1:Int))).toNat]'fX.2;bif (decide (m6 >= iw))then some (.inr (.inl ((false,()),())))else some (.inl (((),x.1.2.1,x.1.2.2.1,(IntKind.i64.wrap (x.1.2.2.2.1+(1:Int))),()),(x.2.1,()))))else none else some (.inl (((),x.1.2.1,x.1.2.2.1,(IntKind.i64.wrap (x.1.2.2.2.1+(1:Int))),()),(x.2.1,()))))else none else some (.inr (.inr (.inl ((),()))))
def ab7:bB:=bF 2 aqn aqo FR (fun _=>au)
theorem aqp:bE Tryz.prog 82 (.block 2 (.loop (bC (bD Tryz.f107) 2))) ab7:=bH 82 [(105,.p eT)] [] ⟨eZ,trivial⟩ aD fun x=>by kernel_rfl
def FT(x0:bg)(x1:gj):Option (Bool):=(qe x0).bind fun y1=>bif (!y1)then some false else (m9 x0).bind fun y2=>bif ((x1.last.length:Int) != (IntKind.i64.wrap ((9:Int)*(IntKind.i64.wrap (y2+(1:Int))))))then some false else bif (decide ((x1.cF.length:Int) > (4:Int)))then some false else (iter FQ au (((),(),x1.last,(x1.last.length:Int),(0:Int),()),((x0.cQ,x0.av,x0.rows,x0.aS,()),(x1.last,x1.cF,()),()))).bind (Sum.elim (fun z7=>some z7.1.1) (Sum.elim (fun z8=>(iter FR au (((),z8.2.1.2.1,(z8.2.1.2.1.length:Int),(0:Int),()),(z8.2.1,()))).bind (Sum.elim (fun oe=>some oe.1.1) (Sum.elim (fun lQ=>some true) (fun z=>nomatch z)))) (fun z=>nomatch z)))
def Q7:aE:=aG [(true,.dO),(true,.kJ)] [(false,.bool,0)] (fun x=>FT x.1 x.2.1)
theorem ab8:enters Tryz.prog 107/\aF Tryz.prog 107 Q7:=aH 82 [(184,.p sI),(185,.p o9)] [(0,ab5),(2,ab7)] Tryz.func107 ⟨uN,qf,trivial⟩ (bO (by kernel_rfl) _ ⟨⟨_,by kernel_rfl,aqm⟩,⟨_,by kernel_rfl,aqp⟩,trivial⟩) fun x=>by kernel_rfl
def zl(x0:bg):Option (Int):=(m9 x0).bind fun y1=>some (IntKind.i64.wrap ((IntKind.i64.wrap (y1*x0.rows))*x0.aS))
def KI:aE:=aG [(true,.dO)] [(false,.int,0)] (fun x=>zl x.1)
theorem Q8:enters Tryz.prog 112/\aF Tryz.prog 112 KI:=aH 11 [(185,.p o9)] [] Tryz.func112 ⟨qf,trivial⟩ aD fun x=>by kernel_rfl
def Q9(x0:Int):Option (Bool):=(cJ x0 (0:Int) (15:Int)).bind fun y1=>some y1
def ab9:aE:=aG [(false,.int)] [(false,.bool,0)] (fun x=>Q9 x.1)
theorem aqq:enters Tryz.prog 233/\aF Tryz.prog 233 ab9:=aH 5 [(105,.p eT)] [] Tryz.func233 ⟨eZ,trivial⟩ aD fun x=>by kernel_rfl
def aqr:aI:=⟨[(0,.lf (.ah .int 0)),(1,.lf (.int .i64)),(7,.lf (.ah .int 0)),(8,.lf (.int .i64)),(9,.lf (.int .i64))],[],[]⟩
def aqs:List (Nat×aI):=[(1,⟨[(4,.lf (.bool))],[],[]⟩),(2,⟨[(0,.lf (.ah .int 0)),(1,.lf (.int .i64))],[],[]⟩)]
abbrev acd:=(((List Int)×Int×(List Int)×Int×Int×Unit)×(Unit))
def FU(x:acd):Option (acd⊕(((Bool×Unit)×(Unit))⊕((((List Int)×Int×Unit)×(Unit))⊕Empty))):=bif (decide (x.1.2.2.2.2.1<x.1.2.2.2.1))then if h1:0 <= x.1.2.2.2.2.1/\x.1.2.2.2.2.1.toNat<x.1.2.2.1.length then (let e2:=x.1.2.2.1[x.1.2.2.2.2.1.toNat]'h1.2;(Q9 e2).bind fun y3=>bif (!y3)then some (.inr (.inl ((false,()),())))else some (.inl ((x.1.1,x.1.2.1,x.1.2.2.1,x.1.2.2.2.1,(IntKind.i64.wrap (x.1.2.2.2.2.1+(1:Int))),()),())))else none else some (.inr (.inr (.inl ((x.1.1,x.1.2.1,()),()))))
def ace:bB:=bF 0 aqr aqs FU (fun _=>au)
theorem aqt:bE Tryz.prog 21 (.block 0 (.loop (bC (bD Tryz.f188) 0))) ace:=bH 21 [(233,.p ab9)] [] ⟨aqq,trivial⟩ aD fun x=>by kernel_rfl
def KJ(x0:List Int)(x1:Int):Option (Bool):=(iter FU au ((x0,x1,x0,(x0.length:Int),(0:Int),()),())).bind (Sum.elim (fun z4=>some z4.1.1) (Sum.elim (fun z5=>some ((z5.1.1.length:Int)==z5.1.2.1)) (fun z=>nomatch z)))
def acf:aE:=aG [(false,(.sl .int)),(false,.int)] [(false,.bool,0)] (fun x=>KJ x.1 x.2.1)
theorem aqu:enters Tryz.prog 188/\aF Tryz.prog 188 acf:=aH 21 [] [(0,ace)] Tryz.func188 trivial (bO (by kernel_rfl) _ ⟨⟨_,by kernel_rfl,aqt⟩,trivial⟩) fun x=>by kernel_rfl
def aqv:aI:=⟨[(3,.aC 3 0),(40,.lf (.ah .Cell 0)),(41,.lf (.int .i64)),(42,.lf (.int .i64))],[(3,.ak [.ah .Cell 0,.ah .int 0,.ah .int 0])],[]⟩
def aqw:List (Nat×aI):=[(1,⟨[(4,.lf (.bool))],[],[]⟩),(2,⟨[(3,.aC 3 0)],[(3,.ak [.ah .Cell 0,.ah .int 0,.ah .int 0])],[]⟩)]
abbrev acg:=((Unit×(List en)×Int×Int×Unit)×(((List en)×(List Int)×(List Int)×Unit)×Unit))
def FV(x:acg):Option (acg⊕(((Bool×Unit)×(Unit))⊕(((Unit×Unit)×(((List en)×(List Int)×(List Int)×Unit)×Unit))⊕Empty))):=bif (decide (x.1.2.2.2.1<x.1.2.2.1))then if h4:0 <= x.1.2.2.2.1/\x.1.2.2.2.1.toNat<x.1.2.1.length then (let e5:=x.1.2.1[x.1.2.2.2.1.toNat]'h4.2;(KJ e5.symbols (11:Int)).bind fun y6=>bif (!y6)then some (.inr (.inl ((false,()),())))else some (.inl (((),x.1.2.1,x.1.2.2.1,(IntKind.i64.wrap (x.1.2.2.2.1+(1:Int))),()),(x.2.1,()))))else none else some (.inr (.inr (.inl (((),()),(x.2.1,())))))
def ach:bB:=bF 0 aqv aqw FV (fun _=>au)
theorem aqx:bE Tryz.prog 74 (.block 0 (.loop (bC (bD Tryz.f108) 0))) ach:=bH 74 [(188,.p acf)] [] ⟨aqu,trivial⟩ aD fun x=>by kernel_rfl
def aqy:aI:=⟨[(3,.aC 3 0),(53,.lf (.int .i64)),(54,.lf (.int .i64))],[(3,.ak [.ah .Cell 0,.ah .int 0,.ah .int 0])],[]⟩
def aqz:List (Nat×aI):=[(1,⟨[(4,.lf (.bool))],[],[]⟩),(4,⟨[],[],[]⟩)]
abbrev aci:=((Unit×Int×Int×Unit)×(((List en)×(List Int)×(List Int)×Unit)×Unit))
def FW(x:aci):Option (aci⊕(((Bool×Unit)×(Unit))⊕(((Unit)×(Unit))⊕Empty))):=bif (decide (x.1.2.2.1<x.1.2.1))then if h9:0 <= x.1.2.2.1/\x.1.2.2.1.toNat<x.2.1.2.1.length then (let iw:=x.2.1.2.1[x.1.2.2.1.toNat]'h9.2;(cJ iw (0:Int) (100000:Int)).bind fun eS=>bif (!eS)then some (.inr (.inl ((false,()),())))else if fX:0 <= x.1.2.2.1/\x.1.2.2.1.toNat<x.2.1.2.2.1.length then (let m6:=x.2.1.2.2.1[x.1.2.2.1.toNat]'fX.2;(cJ m6 (0:Int) (100000:Int)).bind fun iP=>bif (!iP)then some (.inr (.inl ((false,()),())))else some (.inl (((),x.1.2.1,(IntKind.i64.wrap (x.1.2.2.1+(1:Int))),()),(x.2.1,()))))else none)else none else some (.inr (.inr (.inl ((),()))))
def acj:bB:=bF 2 aqy aqz FW (fun _=>au)
theorem aqA:bE Tryz.prog 74 (.block 2 (.loop (bC (bD Tryz.f108) 2))) acj:=bH 74 [(105,.p eT)] [] ⟨eZ,trivial⟩ aD fun x=>by kernel_rfl
def KL(x0:bg)(x1:jx):Option (Bool):=(m9 x0).bind fun y1=>(qe x0).bind fun y2=>bif (!y2)then some false else (zl x0).bind fun y3=>bif ((x1.cells.length:Int) != y3)then some false else bif ((x1.dz.length:Int) != (IntKind.i64.wrap (y1*x0.rows)))then some false else bif ((x1.dA.length:Int) != (IntKind.i64.wrap (y1*x0.rows)))then some false else (iter FV au (((),x1.cells,(x1.cells.length:Int),(0:Int),()),((x1.cells,x1.dz,x1.dA,()),()))).bind (Sum.elim (fun z7=>some z7.1.1) (Sum.elim (fun z8=>(iter FW au (((),(z8.2.1.2.1.length:Int),(0:Int),()),(z8.2.1,()))).bind (Sum.elim (fun lQ=>some lQ.1.1) (Sum.elim (fun gv=>some true) (fun z=>nomatch z)))) (fun z=>nomatch z)))
def ack:aE:=aG [(true,.dO),(true,.Array)] [(false,.bool,0)] (fun x=>KL x.1 x.2.1)
theorem aqB:enters Tryz.prog 108/\aF Tryz.prog 108 ack:=aH 74 [(112,.p KI),(184,.p sI),(185,.p o9)] [(0,ach),(2,acj)] Tryz.func108 ⟨Q8,uN,qf,trivial⟩ (bO (by kernel_rfl) _ ⟨⟨_,by kernel_rfl,aqx⟩,⟨_,by kernel_rfl,aqA⟩,trivial⟩) fun x=>by kernel_rfl
def BW(x0:bg)(x1:ee)(x2:Int):Option (Nat×Nat):=if 0 <= (IntKind.i64.wrap (x2*(IntKind.i64.wrap (x0.rows-x1.bP))))/\(IntKind.i64.wrap (x2*(IntKind.i64.wrap (x0.rows-x1.bP)))) <= (IntKind.i64.wrap ((IntKind.i64.wrap (x2+(1:Int)))*(IntKind.i64.wrap (x0.rows-x1.bP))))/\(IntKind.i64.wrap ((IntKind.i64.wrap (x2+(1:Int)))*(IntKind.i64.wrap (x0.rows-x1.bP)))) <= (x1.map.length:Int)then some ((IntKind.i64.wrap (x2*(IntKind.i64.wrap (x0.rows-x1.bP)))).toNat,(IntKind.i64.wrap ((IntKind.i64.wrap (x2+(1:Int)))*(IntKind.i64.wrap (x0.rows-x1.bP)))).toNat)else none
def Ra:yw:=Qc [(true,.dO),(true,.jk),(false,.int)] 1 1 .int (fun x=>BW x.1 x.2.1 x.2.2.1)
theorem acm:enters Tryz.prog 190/\Ig Tryz.prog 190 Ra:=ak4 (N:=23) (fn:=Tryz.f190) (code:=bD Tryz.f190) (Φ:=(Er [])) (Λ:=(yV [])) (t:=.int) Tryz.func190 (by kernel_rfl) (by kernel_rfl) (by kernel_rfl) (by kernel_rfl) (by kernel_rfl) (by kernel_rfl) (by kernel_rfl) (by kernel_rfl) (Et _ trivial) aD (fun x=>by kernel_rfl)
def aqC:aI:=⟨[(1,.lf (.int .i64)),(5,.lf (.int .i64)),(8,.lf (.ah .int 0)),(9,.lf (.int .i64)),(10,.lf (.int .i64))],[],[]⟩
def aqD:List (Nat×aI):=[(2,⟨[(5,.lf (.int .i64))],[],[]⟩)]
abbrev acn:=((Int×Int×(List Int)×Int×Int×Unit)×(Unit))
def FX(x:acn):Option (acn⊕(((Int×Unit)×(Unit))⊕Empty)):=bif (decide (x.1.2.2.2.2.1<x.1.2.2.2.1))then if h1:0 <= x.1.2.2.2.2.1/\x.1.2.2.2.2.1.toNat<x.1.2.2.1.length then (let e2:=x.1.2.2.1[x.1.2.2.2.2.1.toNat]'h1.2;bif (e2==x.1.1)then some (.inl ((x.1.1,(IntKind.i64.wrap (x.1.2.1+(1:Int))),x.1.2.2.1,x.1.2.2.2.1,(IntKind.i64.wrap (x.1.2.2.2.2.1+(1:Int))),()),()))else some (.inl ((x.1.1,x.1.2.1,x.1.2.2.1,x.1.2.2.2.1,(IntKind.i64.wrap (x.1.2.2.2.2.1+(1:Int))),()),())))else none else some (.inr (.inl ((x.1.2.1,()),())))
def aco:bB:=bF 0 aqC aqD FX (fun _=>au)
theorem aqE:bE Tryz.prog 21 (.block 0 (.loop (bC (bD Tryz.f191) 0))) aco:=bH 21 [] [] trivial aD fun x=>by kernel_rfl
def KM(x0:List Int)(x1:Int):Option (Int):=(iter FX au ((x1,(0:Int),x0,(x0.length:Int),(0:Int),()),())).bind (Sum.elim (fun z3=>some z3.1.1) (fun z=>nomatch z))
def acp:aE:=aG [(false,(.sl .int)),(false,.int)] [(false,.int,0)] (fun x=>KM x.1 x.2.1)
theorem aqF:enters Tryz.prog 191/\aF Tryz.prog 191 acp:=aH 21 [] [(0,aco)] Tryz.func191 trivial (bO (by kernel_rfl) _ ⟨⟨_,by kernel_rfl,aqE⟩,trivial⟩) fun x=>by kernel_rfl
def aqG:aI:=⟨[(2,.aC 2 0),(3,.aC 3 0),(7,.lf (.int .i64)),(8,.lf (.int .i64)),(9,.lf (.ah .int 0)),(45,.lf (.ah .int 0)),(46,.lf (.int .i64)),(47,.lf (.int .i64))],[(2,.ak [.int .i64,.int .i64,.int .i64,.int .i64]),(3,.ak [.int .i64,.ah .int 0])],[]⟩
def aqH:List (Nat×aI):=[(1,⟨[(4,.lf (.bool))],[],[]⟩),(4,⟨[(2,.aC 2 0),(3,.aC 3 0),(7,.lf (.int .i64)),(8,.lf (.int .i64))],[(2,.ak [.int .i64,.int .i64,.int .i64,.int .i64]),(3,.ak [.int .i64,.ah .int 0])],[]⟩)]
abbrev acq:=((Unit×Unit×Int×Int×(List Int)×(List Int)×Int×Int×Unit)×((Int×Int×Int×Int×Unit)×(Int×(List Int)×Unit)×Unit))
def BX(x:acq):Option (acq⊕(((Bool×Unit)×(Unit))⊕(((Unit×Unit×Int×Int×Unit)×((Int×Int×Int×Int×Unit)×(Int×(List Int)×Unit)×Unit))⊕Empty))):=bif (decide (x.1.2.2.2.2.2.2.2.1<x.1.2.2.2.2.2.2.1))then if h4:0 <= x.1.2.2.2.2.2.2.2.1/\x.1.2.2.2.2.2.2.2.1.toNat<x.1.2.2.2.2.2.1.length then (let e5:=x.1.2.2.2.2.2.1[x.1.2.2.2.2.2.2.2.1.toNat]'h4.2;bif (e5 != x.1.2.2.2.2.2.2.2.1)then (cJ e5 x.1.2.2.1 (IntKind.i64.wrap (x.2.1.2.2.1-(1:Int)))).bind fun y6=>bif (!y6)then some (.inr (.inl ((false,()),())))else (KM x.1.2.2.2.2.1 e5).bind fun y7=>bif (decide (y7 > (1:Int)))then some (.inr (.inl ((false,()),())))else some (.inl (((),(),x.1.2.2.1,x.1.2.2.2.1,x.1.2.2.2.2.1,x.1.2.2.2.2.2.1,x.1.2.2.2.2.2.2.1,(IntKind.i64.wrap (x.1.2.2.2.2.2.2.2.1+(1:Int))),()),(x.2.1,x.2.2.1,())))else some (.inl (((),(),x.1.2.2.1,x.1.2.2.2.1,x.1.2.2.2.2.1,x.1.2.2.2.2.2.1,x.1.2.2.2.2.2.2.1,(IntKind.i64.wrap (x.1.2.2.2.2.2.2.2.1+(1:Int))),()),(x.2.1,x.2.2.1,()))))else none else some (.inr (.inr (.inl (((),(),x.1.2.2.1,x.1.2.2.2.1,()),(x.2.1,x.2.2.1,())))))
def acr:bB:=bF 2 aqG aqH BX (fun _=>au)
theorem aqI:bE Tryz.prog 71 (.block 2 (.loop (bC (bC (bD Tryz.f109) 0) 2))) acr:=bH 71 [(105,.p eT),(191,.p acp)] [] ⟨eZ,aqF,trivial⟩ aD fun x=>by kernel_rfl
def aqJ:aI:=⟨[(2,.aC 2 0),(3,.aC 3 0),(7,.lf (.int .i64)),(8,.lf (.int .i64))],[(2,.ak [.int .i64,.int .i64,.int .i64,.int .i64]),(3,.ak [.int .i64,.ah .int 0])],[]⟩
def aqK:List (Nat×aI):=[(1,⟨[(4,.lf (.bool))],[],[]⟩),(2,⟨[],[],[]⟩)]
abbrev acs:=((Unit×Unit×Int×Int×Unit)×((Int×Int×Int×Int×Unit)×(Int×(List Int)×Unit)×Unit))
def FY(x:acs):Option (acs⊕(((Bool×Unit)×(Unit))⊕(((Unit)×(Unit))⊕Empty))):=(m9 (⟨x.2.1.1,x.2.1.2.1,x.2.1.2.2.1,x.2.1.2.2.2.1⟩:bg)).bind fun y2=>bif (decide (x.1.2.2.2.1<y2))then (BW (⟨x.2.1.1,x.2.1.2.1,x.2.1.2.2.1,x.2.1.2.2.2.1⟩:bg) (⟨x.2.2.1.1,x.2.2.1.2.1⟩:ee) x.1.2.2.2.1).bind fun y3=>bif Nat.ble y3.1 y3.2&&Nat.ble y3.2 x.2.2.1.2.1.length then (iter BX au (((),(),x.1.2.2.1,x.1.2.2.2.1,((x.2.2.1.2.1.take y3.2).drop y3.1),((x.2.2.1.2.1.take y3.2).drop y3.1),(((x.2.2.1.2.1.take y3.2).drop y3.1).length:Int),(0:Int),()),(x.2.1,x.2.2.1,()))).bind (Sum.elim (fun z8=>some (.inr (.inl ((z8.1.1,()),())))) (Sum.elim (fun z9=>some (.inl (((),(),z9.1.2.2.1,(IntKind.i64.wrap (z9.1.2.2.2.1+(1:Int))),()),(z9.2.1,z9.2.2.1,())))) (fun z=>nomatch z)))else none else some (.inr (.inr (.inl ((),()))))
def acu:bB:=bF 0 aqJ aqK FY (fun _=>au)
theorem aqL:bE Tryz.prog 71 (.block 0 (.loop (bC (bD Tryz.f109) 0))) acu:=bH 71 [(185,.p o9),(190,.v Ra)] [(2,acr)] ⟨qf,acm,trivial⟩ (bO (by kernel_rfl) _ ⟨⟨_,by kernel_rfl,aqI⟩,trivial⟩) fun x=>by kernel_rfl
def FZ(x0:bg)(x1:ee):Option (Bool):=(FJ x0 x1.bP).bind fun y1=>bif (!y1.2)then some false else bif ((x1.map.length:Int) != (y1.1.map.length:Int))then some false else (iter FY au (((),(),(IntKind.i64.wrap (x0.rows-x1.bP)),(0:Int),()),((x0.cQ,x0.av,x0.rows,x0.aS,()),(x1.bP,x1.map,()),()))).bind (Sum.elim (fun eY=>some eY.1.1) (Sum.elim (fun m7=>some true) (fun z=>nomatch z)))
def Rb:aE:=aG [(true,.dO),(true,.jk)] [(false,.bool,0)] (fun x=>FZ x.1 x.2.1)
theorem acv:enters Tryz.prog 109/\aF Tryz.prog 109 Rb:=aH 71 [(189,.p QY)] [(0,acu)] Tryz.func109 ⟨abI,trivial⟩ (bO (by kernel_rfl) _ ⟨⟨_,by kernel_rfl,aqL⟩,trivial⟩) fun x=>by kernel_rfl
end Go.Proofs.YtinbifpbkcbnkaaGreat
