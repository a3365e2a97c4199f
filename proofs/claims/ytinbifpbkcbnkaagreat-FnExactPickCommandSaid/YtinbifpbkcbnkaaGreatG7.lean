/-
  Functions of the program as plain functions of contents, and that the code computes them. Nothing here is a claim.
-/
import Derived.Test.YtinbifpbkcbnkaaGreatVZ
import Derived.Test.YtinbifpbkcbnkaaGreatRows
import Derived.Test.YtinbifpbkcbnkaaGreatG1
import Derived.Test.YtinbifpbkcbnkaaGreatG2
import Derived.Test.YtinbifpbkcbnkaaGreatG3
import Derived.Test.YtinbifpbkcbnkaaGreatG4
import Derived.Test.YtinbifpbkcbnkaaGreatG5
import Derived.Test.YtinbifpbkcbnkaaGreatG6
namespace Go.Proofs.YtinbifpbkcbnkaaGreat
open Go.RowKit
set_option linter.unusedVariables false
set_option maxRecDepth 100000
def GB(x0:bA)(x1:bA):Option (Bool):=bif (x0.weight != x1.weight)then some false else bif (x0.fW != x1.fW)then some false else some true
def aeV:aE:=aG [(true,.dI),(true,.dI)] [(false,.bool,0)] (fun x=>GB x.1 x.2.1)
theorem au8:enters Tryz.prog 138/\aF Tryz.prog 138 aeV:=aH 15 [] [] Tryz.func138 trivial aD fun x=>by kernel_rfl
def au9:aI:=⟨[(0,.lf (.ah .dI 0)),(1,.lf (.ah .dI 0)),(5,.lf (.int .i64))],[],[]⟩
def ava:List (Nat×aI):=[(1,⟨[(4,.lf (.bool))],[],[]⟩),(2,⟨[],[],[]⟩)]
abbrev aeW:=(((List bA)×(List bA)×Int×Unit)×(Unit))
def aeX(x:aeW):Option (aeW⊕(((Bool×Unit)×(Unit))⊕(((Unit)×(Unit))⊕Empty))):=bif (decide (x.1.2.2.1<(x.1.1.length:Int)))then if h1:0 <= x.1.2.2.1/\x.1.2.2.1.toNat<x.1.1.length then (let e2:=x.1.1[x.1.2.2.1.toNat]'h1.2;if h3:0 <= x.1.2.2.1/\x.1.2.2.1.toNat<x.1.2.1.length then (let e4:=x.1.2.1[x.1.2.2.1.toNat]'h3.2;(GB e2 e4).bind fun y5=>bif (!y5)then some (.inr (.inl ((false,()),())))else some (.inl ((x.1.1,x.1.2.1,(IntKind.i64.wrap (x.1.2.2.1+(1:Int))),()),())))else none)else none else some (.inr (.inr (.inl ((),()))))
def aeY:bB:=bF 0 au9 ava aeX (fun _=>au)
theorem avb:bE Tryz.prog 27 (.block 0 (.loop (bC (bD Tryz.f57) 0))) aeY:=bH 27 [(138,.p aeV)] [] ⟨au8,trivial⟩ aD fun x=>by kernel_rfl
def Ly(x0:List bA)(x1:List bA):Option (Bool):=bif ((x0.length:Int) != (x1.length:Int))then some false else (iter aeX au ((x0,x1,(0:Int),()),())).bind (Sum.elim (fun z6=>some z6.1.1) (Sum.elim (fun z7=>some true) (fun z=>nomatch z)))
def aeZ:aE:=aG [(false,(.sl .dI)),(false,(.sl .dI))] [(false,.bool,0)] (fun x=>Ly x.1 x.2.1)
theorem avc:enters Tryz.prog 57/\aF Tryz.prog 57 aeZ:=aH 27 [] [(0,aeY)] Tryz.func57 trivial (bO (by kernel_rfl) _ ⟨⟨_,by kernel_rfl,avb⟩,trivial⟩) fun x=>by kernel_rfl
def Lz(x0:iC)(x1:iC):Option (Bool):=bif (!(x0.on==x1.on))then some false else bif (x0.low != x1.low)then some false else bif (x0.high != x1.high)then some false else some true
def ae0:aE:=aG [(true,.lE),(true,.lE)] [(false,.bool,0)] (fun x=>Lz x.1 x.2.1)
theorem avd:enters Tryz.prog 58/\aF Tryz.prog 58 ae0:=aH 20 [] [] Tryz.func58 trivial aD fun x=>by kernel_rfl
def LA(x0:iW)(x1:iW):Option (Bool):=bif (x0.state != x1.state)then some false else bif (x0.since != x1.since)then some false else bif (x0.idle != x1.idle)then some false else some true
def ae1:aE:=aG [(true,.Power),(true,.Power)] [(false,.bool,0)] (fun x=>LA x.1 x.2.1)
theorem ave:enters Tryz.prog 59/\aF Tryz.prog 59 ae1:=aH 20 [] [] Tryz.func59 trivial aD fun x=>by kernel_rfl
def LB(x0:pO)(x1:pO):Option (Bool):=bif (x0.next != x1.next)then some false else bif (x0.every != x1.every)then some false else bif (x0.wait != x1.wait)then some false else some true
def ae2:aE:=aG [(true,.oC),(true,.oC)] [(false,.bool,0)] (fun x=>LB x.1 x.2.1)
theorem avf:enters Tryz.prog 60/\aF Tryz.prog 60 ae2:=aH 20 [] [] Tryz.func60 trivial aD fun x=>by kernel_rfl
def GC(x0:dB)(x1:dB):Option (Bool):=bif (x0.line != x1.line)then some false else bif (x0.code != x1.code)then some false else bif (x0.times != x1.times)then some false else some true
def ae3:aE:=aG [(true,.eG),(true,.eG)] [(false,.bool,0)] (fun x=>GC x.1 x.2.1)
theorem avg:enters Tryz.prog 139/\aF Tryz.prog 139 ae3:=aH 20 [] [] Tryz.func139 trivial aD fun x=>by kernel_rfl
def avh:aI:=⟨[(0,.lf (.ah .eG 0)),(1,.lf (.ah .eG 0)),(5,.lf (.int .i64))],[],[]⟩
def avi:List (Nat×aI):=[(1,⟨[(4,.lf (.bool))],[],[]⟩),(2,⟨[],[],[]⟩)]
abbrev ae4:=(((List dB)×(List dB)×Int×Unit)×(Unit))
def ae5(x:ae4):Option (ae4⊕(((Bool×Unit)×(Unit))⊕(((Unit)×(Unit))⊕Empty))):=bif (decide (x.1.2.2.1<(x.1.1.length:Int)))then if h1:0 <= x.1.2.2.1/\x.1.2.2.1.toNat<x.1.1.length then (let e2:=x.1.1[x.1.2.2.1.toNat]'h1.2;if h3:0 <= x.1.2.2.1/\x.1.2.2.1.toNat<x.1.2.1.length then (let e4:=x.1.2.1[x.1.2.2.1.toNat]'h3.2;(GC e2 e4).bind fun y5=>bif (!y5)then some (.inr (.inl ((false,()),())))else some (.inl ((x.1.1,x.1.2.1,(IntKind.i64.wrap (x.1.2.2.1+(1:Int))),()),())))else none)else none else some (.inr (.inr (.inl ((),()))))
def ae6:bB:=bF 0 avh avi ae5 (fun _=>au)
theorem avj:bE Tryz.prog 27 (.block 0 (.loop (bC (bD Tryz.f61) 0))) ae6:=bH 27 [(139,.p ae3)] [] ⟨avg,trivial⟩ aD fun x=>by kernel_rfl
def LC(x0:List dB)(x1:List dB):Option (Bool):=bif ((x0.length:Int) != (x1.length:Int))then some false else (iter ae5 au ((x0,x1,(0:Int),()),())).bind (Sum.elim (fun z6=>some z6.1.1) (Sum.elim (fun z7=>some true) (fun z=>nomatch z)))
def ae7:aE:=aG [(false,(.sl .eG)),(false,(.sl .eG))] [(false,.bool,0)] (fun x=>LC x.1 x.2.1)
theorem avk:enters Tryz.prog 61/\aF Tryz.prog 61 ae7:=aH 27 [] [(0,ae6)] Tryz.func61 trivial (bO (by kernel_rfl) _ ⟨⟨_,by kernel_rfl,avj⟩,trivial⟩) fun x=>by kernel_rfl
def GD(x0:gK)(x1:gK):Option (Bool):=bif (x0.at_ != x1.at_)then some false else (zz x0.cmd x1.cmd).bind fun y1=>bif (!y1)then some false else some true
def ae8:aE:=aG [(true,.Event),(true,.Event)] [(false,.bool,0)] (fun x=>GD x.1 x.2.1)
theorem avl:enters Tryz.prog 140/\aF Tryz.prog 140 ae8:=aH 16 [(8,.p Ry)] [] Tryz.func140 ⟨aef,trivial⟩ aD fun x=>by kernel_rfl
def avm:aI:=⟨[(0,.lf (.ah .Event 0)),(1,.lf (.ah .Event 0)),(5,.lf (.int .i64))],[],[]⟩
def avn:List (Nat×aI):=[(1,⟨[(4,.lf (.bool))],[],[]⟩),(2,⟨[],[],[]⟩)]
abbrev ae9:=(((List gK)×(List gK)×Int×Unit)×(Unit))
def afa(x:ae9):Option (ae9⊕(((Bool×Unit)×(Unit))⊕(((Unit)×(Unit))⊕Empty))):=bif (decide (x.1.2.2.1<(x.1.1.length:Int)))then if h1:0 <= x.1.2.2.1/\x.1.2.2.1.toNat<x.1.1.length then (let e2:=x.1.1[x.1.2.2.1.toNat]'h1.2;if h3:0 <= x.1.2.2.1/\x.1.2.2.1.toNat<x.1.2.1.length then (let e4:=x.1.2.1[x.1.2.2.1.toNat]'h3.2;(GD e2 e4).bind fun y5=>bif (!y5)then some (.inr (.inl ((false,()),())))else some (.inl ((x.1.1,x.1.2.1,(IntKind.i64.wrap (x.1.2.2.1+(1:Int))),()),())))else none)else none else some (.inr (.inr (.inl ((),()))))
def afb:bB:=bF 0 avm avn afa (fun _=>au)
theorem avo:bE Tryz.prog 27 (.block 0 (.loop (bC (bD Tryz.f62) 0))) afb:=bH 27 [(140,.p ae8)] [] ⟨avl,trivial⟩ aD fun x=>by kernel_rfl
def LD(x0:List gK)(x1:List gK):Option (Bool):=bif ((x0.length:Int) != (x1.length:Int))then some false else (iter afa au ((x0,x1,(0:Int),()),())).bind (Sum.elim (fun z6=>some z6.1.1) (Sum.elim (fun z7=>some true) (fun z=>nomatch z)))
def afc:aE:=aG [(false,(.sl .Event)),(false,(.sl .Event))] [(false,.bool,0)] (fun x=>LD x.1 x.2.1)
theorem avp:enters Tryz.prog 62/\aF Tryz.prog 62 afc:=aH 27 [] [(0,afb)] Tryz.func62 trivial (bO (by kernel_rfl) _ ⟨⟨_,by kernel_rfl,avo⟩,trivial⟩) fun x=>by kernel_rfl
def GF(x0:gU)(x1:gU):Option (Bool):=bif (x0.id != x1.id)then some false else bif (x0.at_ != x1.at_)then some false else bif (x0.data != x1.data)then some false else bif (x0.code != x1.code)then some false else some true
def afd:aE:=aG [(true,.hJ),(true,.hJ)] [(false,.bool,0)] (fun x=>GF x.1 x.2.1)
theorem avq:enters Tryz.prog 141/\aF Tryz.prog 141 afd:=aH 25 [] [] Tryz.func141 trivial aD fun x=>by kernel_rfl
def avr:aI:=⟨[(0,.lf (.ah .hJ 0)),(1,.lf (.ah .hJ 0)),(5,.lf (.int .i64))],[],[]⟩
def avs:List (Nat×aI):=[(1,⟨[(4,.lf (.bool))],[],[]⟩),(2,⟨[],[],[]⟩)]
abbrev afe:=(((List gU)×(List gU)×Int×Unit)×(Unit))
def aff(x:afe):Option (afe⊕(((Bool×Unit)×(Unit))⊕(((Unit)×(Unit))⊕Empty))):=bif (decide (x.1.2.2.1<(x.1.1.length:Int)))then if h1:0 <= x.1.2.2.1/\x.1.2.2.1.toNat<x.1.1.length then (let e2:=x.1.1[x.1.2.2.1.toNat]'h1.2;if h3:0 <= x.1.2.2.1/\x.1.2.2.1.toNat<x.1.2.1.length then (let e4:=x.1.2.1[x.1.2.2.1.toNat]'h3.2;(GF e2 e4).bind fun y5=>bif (!y5)then some (.inr (.inl ((false,()),())))else some (.inl ((x.1.1,x.1.2.1,(IntKind.i64.wrap (x.1.2.2.1+(1:Int))),()),())))else none)else none else some (.inr (.inr (.inl ((),()))))
def afg:bB:=bF 0 avr avs aff (fun _=>au)
theorem avt:bE Tryz.prog 27 (.block 0 (.loop (bC (bD Tryz.f63) 0))) afg:=bH 27 [(141,.p afd)] [] ⟨avq,trivial⟩ aD fun x=>by kernel_rfl
def LF(x0:List gU)(x1:List gU):Option (Bool):=bif ((x0.length:Int) != (x1.length:Int))then some false else (iter aff au ((x0,x1,(0:Int),()),())).bind (Sum.elim (fun z6=>some z6.1.1) (Sum.elim (fun z7=>some true) (fun z=>nomatch z)))
def afh:aE:=aG [(false,(.sl .hJ)),(false,(.sl .hJ))] [(false,.bool,0)] (fun x=>LF x.1 x.2.1)
theorem avu:enters Tryz.prog 63/\aF Tryz.prog 63 afh:=aH 27 [] [(0,afg)] Tryz.func63 trivial (bO (by kernel_rfl) _ ⟨⟨_,by kernel_rfl,avt⟩,trivial⟩) fun x=>by kernel_rfl
def LG(x0:aQ)(x1:aQ):Option (Bool):=(Lk x0.config x1.config).bind fun y1=>bif (!y1)then some false else (Ln x0.box x1.box).bind fun y2=>bif (!y2)then some false else bif (x0.now != x1.now)then some false else (Lp x0.bx x1.bx).bind fun y3=>bif (!y3)then some false else (Lq x0.ready x1.ready).bind fun y4=>bif (!y4)then some false else (Ls x0.array x1.array).bind fun y5=>bif (!y5)then some false else (Lt x0.spare x1.spare).bind fun y6=>bif (!y6)then some false else (Lu x0.bu x1.bu).bind fun y7=>bif (!y7)then some false else (Lv x0.eV x1.eV).bind fun y8=>bif (!y8)then some false else (om x0.guard x1.guard).bind fun y9=>bif (!y9)then some false else (Lw x0.pending x1.pending).bind fun ga=>bif (!ga)then some false else (Lx x0.queue x1.queue).bind fun eS=>bif (!eS)then some false else (Ly x0.shares x1.shares).bind fun gY=>bif (!gY)then some false else (Lz x0.drain x1.drain).bind fun dZ=>bif (!dZ)then some false else (LA x0.aZ x1.aZ).bind fun iP=>bif (!iP)then some false else (LB x0.jy x1.jy).bind fun uH=>bif (!uH)then some false else (LC x0.errors x1.errors).bind fun lR=>bif (!lR)then some false else (LD x0.trace x1.trace).bind fun o8=>bif (!o8)then some false else (LF x0.nx x1.nx).bind fun sG=>bif (!sG)then some false else some true
def afi:aE:=aG [(true,.cG),(true,.cG)] [(false,.bool,0)] (fun x=>LG x.1 x.2.1)
theorem avv:enters Tryz.prog 9/\aF Tryz.prog 9 afi:=aH 118 [(46,.p aek),(47,.p aeq),(48,.p aew),(49,.p aex),(50,.p aeD),(51,.p aeE),(52,.p aeF),(53,.p aeK),(54,.p uO),(55,.p aeP),(56,.p aeU),(57,.p aeZ),(58,.p ae0),(59,.p ae1),(60,.p ae2),(61,.p ae7),(62,.p afc),(63,.p afh)] [] Tryz.func9 ⟨auw,auD,auJ,auK,auQ,auR,auS,auX,wU,au2,au7,avc,avd,ave,avf,avk,avp,avu,trivial⟩ aD fun x=>by kernel_rfl
def Rz(x0:aQ):Option (Bool):=(Jm x0 (1048576:Int)).bind fun y1=>bif (decide (y1<(0:Int)))then some true else (BO x0).bind fun y2=>(Fx y2).bind fun y3=>(BO x0).bind fun y4=>(Le y4).bind fun y5=>(zz y5.1 y3.1).bind fun y6=>bif (!y6)then some false else bif (y5.2 != y3.2)then some false else (BO x0).bind fun y7=>(LG y4 y7).bind fun y8=>bif (!y8)then some false else some true
def avw:aE:=aG [(true,.cG)] [(false,.bool,0)] (fun x=>Rz x.1)
theorem avx:enters Tryz.prog 3/\aF Tryz.prog 3 avw:=aH 41 [(4,.p X4),(5,.p aax),(6,.p abD),(7,.p aee),(8,.p Ry),(9,.p afi)] [] Tryz.func3 ⟨alR,aoN,apS,aur,aef,avv,trivial⟩ aD fun x=>by kernel_rfl
end Go.Proofs.YtinbifpbkcbnkaaGreat
