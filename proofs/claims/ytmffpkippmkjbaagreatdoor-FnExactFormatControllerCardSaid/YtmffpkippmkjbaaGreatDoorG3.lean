/-
  Functions of the program as plain functions of contents, and that the code computes them. Nothing here is a claim.
-/
import Derived.Test.YtmffpkippmkjbaaGreatDoorVZ
import Derived.Test.YtmffpkippmkjbaaGreatDoorRows
import Derived.Test.YtmffpkippmkjbaaGreatDoorExt
import Derived.Test.YtmffpkippmkjbaaGreatDoorG1
import Derived.Test.YtmffpkippmkjbaaGreatDoorG2
namespace Go.Proofs.YtmffpkippmkjbaaGreatDoor
open Go.RowKit
set_option linter.unusedVariables false
set_option maxRecDepth 100000
def aid:aC:=⟨[(0,.lf (.ah .Cell 0)),(3,.lf (.own 7)),(4,.lf (.int .i64))],[(7,.sl .Cell 4)],[]⟩
def aie:List (Nat×aC):=[(2,⟨[(3,.lf (.own 7))],[(7,.sl .Cell 4)],[]⟩)]
abbrev Vo:=(((List cO)×Unit×Int×Unit)×((List cO)×Unit))
def Vp(x:Vo):Option (Vo⊕(((Unit×Unit)×((List cO)×Unit))⊕Empty)):=bif (decide (x.1.2.2.1<(x.1.1.length:Int)))then if h1:0 <= x.1.2.2.1/\x.1.2.2.1.toNat<x.1.1.length then (let e2:=x.1.1[x.1.2.2.1.toNat]'h1.2;(C6 e2).bind fun y3=>if h4:0 <= x.1.2.2.1/\x.1.2.2.1.toNat<x.2.1.length then if h5:x.1.2.2.1.toNat<x.2.1.length then (let e6:=x.2.1[x.1.2.2.1.toNat]'h5;some (.inl ((x.1.1,(),(IntKind.i64.wrap (x.1.2.2.1+(1:Int))),()),((x.2.1.set x.1.2.2.1.toNat y3),()))))else none else none)else none else some (.inr (.inl (((),()),(x.2.1,()))))
def Vq:bh:=bu 0 aid aie Vp (fun _=>big)
theorem aif:br Tryz.prog 23 (.block 0 (.loop (bq (aW Tryz.f113) 0))) Vq:=bA 23 [(174,.p Vn)] [] ⟨aic,trivial⟩ aF fun x=>by kernel_rfl
def Hs(x0:List cO):Option ((List cO)):=if 0 <= (x0.length:Int)/\(x0.length:Int) <= (x0.length:Int)/\(x0.length:Int)<1073741824 then (iter Vp big ((x0,(),(0:Int),()),((List.replicate (x0.length:Int).toNat (⟨[],false⟩:cO)),()))).bind (Sum.elim (fun z7=>some z7.2.1) (fun z=>nomatch z))else none
def Vr:aI:=aH [(false,(.sl .Cell))] [(false,(.sl .Cell),4)] (fun x=>Hs x.1)
theorem aih:enters Tryz.prog 113/\aG Tryz.prog 113 Vr:=aJ 23 [] [(0,Vq)] Tryz.func113 trivial (bH (by kernel_rfl) _ ⟨⟨_,by kernel_rfl,aif⟩,trivial⟩) fun x=>by kernel_rfl
def Ht(x0:iE):Option (iE):=(Hs x0.cells).bind fun y1=>(nq x0.cT).bind fun y2=>(nq x0.cU).bind fun y3=>some (⟨y1,y2,y3⟩:iE)
def Vs:aI:=aH [(true,.Array)] [(true,.Array,4)] (fun x=>Ht x.1)
theorem aii:enters Tryz.prog 35/\aG Tryz.prog 35 Vs:=aJ 17 [(39,.p sV),(113,.p Vr)] [] Tryz.func35 ⟨u6,aih,trivial⟩ aF fun x=>by kernel_rfl
def Hu(x0:dO):Option (dO):=(nq x0.map).bind fun y1=>some (⟨x0.cx,y1⟩:dO)
def Vt:aI:=aH [(true,.iI)] [(true,.iI,2)] (fun x=>Hu x.1)
theorem aij:enters Tryz.prog 36/\aG Tryz.prog 36 Vt:=aJ 12 [(39,.p sV)] [] Tryz.func36 ⟨u6,trivial⟩ aF fun x=>by kernel_rfl
def Hv(x0:iF):Option (iF):=(nq x0.bX).bind fun y1=>some (⟨y1,x0.wait,x0.j8⟩:iF)
def Vu:aI:=aH [(true,.kQ)] [(true,.kQ,2)] (fun x=>Hv x.1)
theorem aik:enters Tryz.prog 37/\aG Tryz.prog 37 Vu:=aJ 15 [(39,.p sV)] [] Tryz.func37 ⟨u6,trivial⟩ aF fun x=>by kernel_rfl
def C7(x0:cu):Option (cu):=(nq x0.rows).bind fun y1=>(nq x0.counts).bind fun y2=>some (⟨y1,y2,x0.eE⟩:cu)
def Vv:aI:=aH [(true,.eP)] [(true,.eP,2)] (fun x=>C7 x.1)
theorem ail:enters Tryz.prog 114/\aG Tryz.prog 114 Vv:=aJ 16 [(39,.p sV)] [] Tryz.func114 ⟨u6,trivial⟩ aF fun x=>by kernel_rfl
def aim:aC:=⟨[(0,.lf (.ah .eP 0)),(3,.lf (.own 7)),(4,.lf (.int .i64))],[(7,.sl .eP 4)],[]⟩
def ain:List (Nat×aC):=[(2,⟨[(3,.lf (.own 7))],[(7,.sl .eP 4)],[]⟩)]
abbrev Vw:=(((List cu)×Unit×Int×Unit)×((List cu)×Unit))
def Vx(x:Vw):Option (Vw⊕(((Unit×Unit)×((List cu)×Unit))⊕Empty)):=bif (decide (x.1.2.2.1<(x.1.1.length:Int)))then if h1:0 <= x.1.2.2.1/\x.1.2.2.1.toNat<x.1.1.length then (let e2:=x.1.1[x.1.2.2.1.toNat]'h1.2;(C7 e2).bind fun y3=>if h4:0 <= x.1.2.2.1/\x.1.2.2.1.toNat<x.2.1.length then if h5:x.1.2.2.1.toNat<x.2.1.length then (let e6:=x.2.1[x.1.2.2.1.toNat]'h5;some (.inl ((x.1.1,(),(IntKind.i64.wrap (x.1.2.2.1+(1:Int))),()),((x.2.1.set x.1.2.2.1.toNat y3),()))))else none else none)else none else some (.inr (.inl (((),()),(x.2.1,()))))
def Vy:bh:=bu 0 aim ain Vx (fun _=>big)
theorem aio:br Tryz.prog 23 (.block 0 (.loop (bq (aW Tryz.f38) 0))) Vy:=bA 23 [(114,.p Vv)] [] ⟨ail,trivial⟩ aF fun x=>by kernel_rfl
def Hw(x0:List cu):Option ((List cu)):=if 0 <= (x0.length:Int)/\(x0.length:Int) <= (x0.length:Int)/\(x0.length:Int)<1073741824 then (iter Vx big ((x0,(),(0:Int),()),((List.replicate (x0.length:Int).toNat (⟨[],[],(0:Int)⟩:cu)),()))).bind (Sum.elim (fun z7=>some z7.2.1) (fun z=>nomatch z))else none
def Vz:aI:=aH [(false,(.sl .eP))] [(false,(.sl .eP),4)] (fun x=>Hw x.1)
theorem aip:enters Tryz.prog 38/\aG Tryz.prog 38 Vz:=aJ 23 [] [(0,Vy)] Tryz.func38 trivial (bH (by kernel_rfl) _ ⟨⟨_,by kernel_rfl,aio⟩,trivial⟩) fun x=>by kernel_rfl
def C8(x0:bW):Option (bW):=some x0
def VA:aI:=aH [(true,.Addr)] [(true,.Addr,0)] (fun x=>C8 x.1)
theorem aiq:enters Tryz.prog 115/\aG Tryz.prog 115 VA:=aJ 14 [] [] Tryz.func115 trivial aF fun x=>by kernel_rfl
def air:aC:=⟨[(0,.lf (.ah .Addr 0)),(3,.lf (.own 7)),(4,.lf (.int .i64))],[(7,.sl .Addr 2)],[]⟩
def ais:List (Nat×aC):=[(2,⟨[(3,.lf (.own 7))],[(7,.sl .Addr 2)],[]⟩)]
abbrev VB:=(((List bW)×Unit×Int×Unit)×((List bW)×Unit))
def VC(x:VB):Option (VB⊕(((Unit×Unit)×((List bW)×Unit))⊕Empty)):=bif (decide (x.1.2.2.1<(x.1.1.length:Int)))then if h1:0 <= x.1.2.2.1/\x.1.2.2.1.toNat<x.1.1.length then (let e2:=x.1.1[x.1.2.2.1.toNat]'h1.2;(C8 e2).bind fun y3=>if h4:0 <= x.1.2.2.1/\x.1.2.2.1.toNat<x.2.1.length then if h5:x.1.2.2.1.toNat<x.2.1.length then (let e6:=x.2.1[x.1.2.2.1.toNat]'h5;some (.inl ((x.1.1,(),(IntKind.i64.wrap (x.1.2.2.1+(1:Int))),()),((x.2.1.set x.1.2.2.1.toNat y3),()))))else none else none)else none else some (.inr (.inl (((),()),(x.2.1,()))))
def VD:bh:=bu 0 air ais VC (fun _=>big)
theorem ait:br Tryz.prog 23 (.block 0 (.loop (bq (aW Tryz.f40) 0))) VD:=bA 23 [(115,.p VA)] [] ⟨aiq,trivial⟩ aF fun x=>by kernel_rfl
def Hx(x0:List bW):Option ((List bW)):=if 0 <= (x0.length:Int)/\(x0.length:Int) <= (x0.length:Int)/\(x0.length:Int)<1073741824 then (iter VC big ((x0,(),(0:Int),()),((List.replicate (x0.length:Int).toNat (⟨(0:Int),(0:Int),(0:Int)⟩:bW)),()))).bind (Sum.elim (fun z7=>some z7.2.1) (fun z=>nomatch z))else none
def VE:aI:=aH [(false,(.sl .Addr))] [(false,(.sl .Addr),2)] (fun x=>Hx x.1)
theorem aiu:enters Tryz.prog 40/\aG Tryz.prog 40 VE:=aJ 23 [] [(0,VD)] Tryz.func40 trivial (bH (by kernel_rfl) _ ⟨⟨_,by kernel_rfl,ait⟩,trivial⟩) fun x=>by kernel_rfl
def C9(x0:aS):Option (aS):=some x0
def VF:aI:=aH [(true,.dB)] [(true,.dB,0)] (fun x=>C9 x.1)
theorem aiv:enters Tryz.prog 116/\aG Tryz.prog 116 VF:=aJ 23 [] [] Tryz.func116 trivial aF fun x=>by kernel_rfl
def aiw:aC:=⟨[(0,.lf (.ah .dB 0)),(3,.lf (.own 7)),(4,.lf (.int .i64))],[(7,.sl .dB 2)],[]⟩
def aix:List (Nat×aC):=[(2,⟨[(3,.lf (.own 7))],[(7,.sl .dB 2)],[]⟩)]
abbrev VG:=(((List aS)×Unit×Int×Unit)×((List aS)×Unit))
def VH(x:VG):Option (VG⊕(((Unit×Unit)×((List aS)×Unit))⊕Empty)):=bif (decide (x.1.2.2.1<(x.1.1.length:Int)))then if h1:0 <= x.1.2.2.1/\x.1.2.2.1.toNat<x.1.1.length then (let e2:=x.1.1[x.1.2.2.1.toNat]'h1.2;(C9 e2).bind fun y3=>if h4:0 <= x.1.2.2.1/\x.1.2.2.1.toNat<x.2.1.length then if h5:x.1.2.2.1.toNat<x.2.1.length then (let e6:=x.2.1[x.1.2.2.1.toNat]'h5;some (.inl ((x.1.1,(),(IntKind.i64.wrap (x.1.2.2.1+(1:Int))),()),((x.2.1.set x.1.2.2.1.toNat y3),()))))else none else none)else none else some (.inr (.inl (((),()),(x.2.1,()))))
def VI:bh:=bu 0 aiw aix VH (fun _=>big)
theorem aiy:br Tryz.prog 23 (.block 0 (.loop (bq (aW Tryz.f41) 0))) VI:=bA 23 [(116,.p VF)] [] ⟨aiv,trivial⟩ aF fun x=>by kernel_rfl
def Hy(x0:List aS):Option ((List aS)):=if 0 <= (x0.length:Int)/\(x0.length:Int) <= (x0.length:Int)/\(x0.length:Int)<1073741824 then (iter VH big ((x0,(),(0:Int),()),((List.replicate (x0.length:Int).toNat (⟨(0:Int),(0:Int),(0:Int),false,(0:Int),(0:Int)⟩:aS)),()))).bind (Sum.elim (fun z7=>some z7.2.1) (fun z=>nomatch z))else none
def VJ:aI:=aH [(false,(.sl .dB))] [(false,(.sl .dB),2)] (fun x=>Hy x.1)
theorem aiz:enters Tryz.prog 41/\aG Tryz.prog 41 VJ:=aJ 23 [] [(0,VI)] Tryz.func41 trivial (bH (by kernel_rfl) _ ⟨⟨_,by kernel_rfl,aiy⟩,trivial⟩) fun x=>by kernel_rfl
def Da(x0:bT):Option (bT):=some x0
def VK:aI:=aH [(true,.dP)] [(true,.dP,0)] (fun x=>Da x.1)
theorem aiA:enters Tryz.prog 117/\aG Tryz.prog 117 VK:=aJ 11 [] [] Tryz.func117 trivial aF fun x=>by kernel_rfl
def aiB:aC:=⟨[(0,.lf (.ah .dP 0)),(3,.lf (.own 7)),(4,.lf (.int .i64))],[(7,.sl .dP 2)],[]⟩
def aiC:List (Nat×aC):=[(2,⟨[(3,.lf (.own 7))],[(7,.sl .dP 2)],[]⟩)]
abbrev VL:=(((List bT)×Unit×Int×Unit)×((List bT)×Unit))
def VM(x:VL):Option (VL⊕(((Unit×Unit)×((List bT)×Unit))⊕Empty)):=bif (decide (x.1.2.2.1<(x.1.1.length:Int)))then if h1:0 <= x.1.2.2.1/\x.1.2.2.1.toNat<x.1.1.length then (let e2:=x.1.1[x.1.2.2.1.toNat]'h1.2;(Da e2).bind fun y3=>if h4:0 <= x.1.2.2.1/\x.1.2.2.1.toNat<x.2.1.length then if h5:x.1.2.2.1.toNat<x.2.1.length then (let e6:=x.2.1[x.1.2.2.1.toNat]'h5;some (.inl ((x.1.1,(),(IntKind.i64.wrap (x.1.2.2.1+(1:Int))),()),((x.2.1.set x.1.2.2.1.toNat y3),()))))else none else none)else none else some (.inr (.inl (((),()),(x.2.1,()))))
def VN:bh:=bu 0 aiB aiC VM (fun _=>big)
theorem aiD:br Tryz.prog 23 (.block 0 (.loop (bq (aW Tryz.f42) 0))) VN:=bA 23 [(117,.p VK)] [] ⟨aiA,trivial⟩ aF fun x=>by kernel_rfl
def Hz(x0:List bT):Option ((List bT)):=if 0 <= (x0.length:Int)/\(x0.length:Int) <= (x0.length:Int)/\(x0.length:Int)<1073741824 then (iter VM big ((x0,(),(0:Int),()),((List.replicate (x0.length:Int).toNat (⟨(0:Int),(0:Int)⟩:bT)),()))).bind (Sum.elim (fun z7=>some z7.2.1) (fun z=>nomatch z))else none
def VO:aI:=aH [(false,(.sl .dP))] [(false,(.sl .dP),2)] (fun x=>Hz x.1)
theorem aiE:enters Tryz.prog 42/\aG Tryz.prog 42 VO:=aJ 23 [] [(0,VN)] Tryz.func42 trivial (bH (by kernel_rfl) _ ⟨⟨_,by kernel_rfl,aiD⟩,trivial⟩) fun x=>by kernel_rfl
def HA(x0:iS):Option (iS):=some x0
def VP:aI:=aH [(true,.lE)] [(true,.lE,0)] (fun x=>HA x.1)
theorem aiF:enters Tryz.prog 43/\aG Tryz.prog 43 VP:=aJ 14 [] [] Tryz.func43 trivial aF fun x=>by kernel_rfl
def HB(x0:j9):Option (j9):=some x0
def VQ:aI:=aH [(true,.Power)] [(true,.Power,0)] (fun x=>HB x.1)
theorem aiG:enters Tryz.prog 44/\aG Tryz.prog 44 VQ:=aJ 14 [] [] Tryz.func44 trivial aF fun x=>by kernel_rfl
def HC(x0:og):Option (og):=some x0
def VR:aI:=aH [(true,.ny)] [(true,.ny,0)] (fun x=>HC x.1)
theorem aiH:enters Tryz.prog 45/\aG Tryz.prog 45 VR:=aJ 14 [] [] Tryz.func45 trivial aF fun x=>by kernel_rfl
def Db(x0:bx):Option (bx):=some x0
def VS:aI:=aH [(true,.dF)] [(true,.dF,0)] (fun x=>Db x.1)
theorem aiI:enters Tryz.prog 118/\aG Tryz.prog 118 VS:=aJ 14 [] [] Tryz.func118 trivial aF fun x=>by kernel_rfl
def aiJ:aC:=⟨[(0,.lf (.ah .dF 0)),(3,.lf (.own 7)),(4,.lf (.int .i64))],[(7,.sl .dF 2)],[]⟩
def aiK:List (Nat×aC):=[(2,⟨[(3,.lf (.own 7))],[(7,.sl .dF 2)],[]⟩)]
abbrev VT:=(((List bx)×Unit×Int×Unit)×((List bx)×Unit))
def VU(x:VT):Option (VT⊕(((Unit×Unit)×((List bx)×Unit))⊕Empty)):=bif (decide (x.1.2.2.1<(x.1.1.length:Int)))then if h1:0 <= x.1.2.2.1/\x.1.2.2.1.toNat<x.1.1.length then (let e2:=x.1.1[x.1.2.2.1.toNat]'h1.2;(Db e2).bind fun y3=>if h4:0 <= x.1.2.2.1/\x.1.2.2.1.toNat<x.2.1.length then if h5:x.1.2.2.1.toNat<x.2.1.length then (let e6:=x.2.1[x.1.2.2.1.toNat]'h5;some (.inl ((x.1.1,(),(IntKind.i64.wrap (x.1.2.2.1+(1:Int))),()),((x.2.1.set x.1.2.2.1.toNat y3),()))))else none else none)else none else some (.inr (.inl (((),()),(x.2.1,()))))
def VV:bh:=bu 0 aiJ aiK VU (fun _=>big)
theorem aiL:br Tryz.prog 23 (.block 0 (.loop (bq (aW Tryz.f46) 0))) VV:=bA 23 [(118,.p VS)] [] ⟨aiI,trivial⟩ aF fun x=>by kernel_rfl
def HD(x0:List bx):Option ((List bx)):=if 0 <= (x0.length:Int)/\(x0.length:Int) <= (x0.length:Int)/\(x0.length:Int)<1073741824 then (iter VU big ((x0,(),(0:Int),()),((List.replicate (x0.length:Int).toNat (⟨(0:Int),(0:Int),(0:Int)⟩:bx)),()))).bind (Sum.elim (fun z7=>some z7.2.1) (fun z=>nomatch z))else none
def VW:aI:=aH [(false,(.sl .dF))] [(false,(.sl .dF),2)] (fun x=>HD x.1)
theorem aiM:enters Tryz.prog 46/\aG Tryz.prog 46 VW:=aJ 23 [] [(0,VV)] Tryz.func46 trivial (bH (by kernel_rfl) _ ⟨⟨_,by kernel_rfl,aiL⟩,trivial⟩) fun x=>by kernel_rfl
def HE(x0:j5):Option (j5):=some x0
def VX:aI:=aH [(true,.Command)] [(true,.Command,0)] (fun x=>HE x.1)
theorem aiN:enters Tryz.prog 175/\aG Tryz.prog 175 VX:=aJ 17 [] [] Tryz.func175 trivial aF fun x=>by kernel_rfl
def Dc(x0:bQ):Option (bQ):=(HE x0.cmd).bind fun y1=>some (⟨x0.at_,y1⟩:bQ)
def VY:aI:=aH [(true,.Event)] [(true,.Event,0)] (fun x=>Dc x.1)
theorem aiO:enters Tryz.prog 119/\aG Tryz.prog 119 VY:=aJ 12 [(175,.p VX)] [] Tryz.func119 ⟨aiN,trivial⟩ aF fun x=>by kernel_rfl
def aiP:aC:=⟨[(0,.lf (.ah .Event 0)),(3,.lf (.own 7)),(4,.lf (.int .i64))],[(7,.sl .Event 2)],[]⟩
def aiQ:List (Nat×aC):=[(2,⟨[(3,.lf (.own 7))],[(7,.sl .Event 2)],[]⟩)]
abbrev VZ:=(((List bQ)×Unit×Int×Unit)×((List bQ)×Unit))
def V0(x:VZ):Option (VZ⊕(((Unit×Unit)×((List bQ)×Unit))⊕Empty)):=bif (decide (x.1.2.2.1<(x.1.1.length:Int)))then if h1:0 <= x.1.2.2.1/\x.1.2.2.1.toNat<x.1.1.length then (let e2:=x.1.1[x.1.2.2.1.toNat]'h1.2;(Dc e2).bind fun y3=>if h4:0 <= x.1.2.2.1/\x.1.2.2.1.toNat<x.2.1.length then if h5:x.1.2.2.1.toNat<x.2.1.length then (let e6:=x.2.1[x.1.2.2.1.toNat]'h5;some (.inl ((x.1.1,(),(IntKind.i64.wrap (x.1.2.2.1+(1:Int))),()),((x.2.1.set x.1.2.2.1.toNat y3),()))))else none else none)else none else some (.inr (.inl (((),()),(x.2.1,()))))
def V1:bh:=bu 0 aiP aiQ V0 (fun _=>big)
theorem aiR:br Tryz.prog 23 (.block 0 (.loop (bq (aW Tryz.f47) 0))) V1:=bA 23 [(119,.p VY)] [] ⟨aiO,trivial⟩ aF fun x=>by kernel_rfl
def HF(x0:List bQ):Option ((List bQ)):=if 0 <= (x0.length:Int)/\(x0.length:Int) <= (x0.length:Int)/\(x0.length:Int)<1073741824 then (iter V0 big ((x0,(),(0:Int),()),((List.replicate (x0.length:Int).toNat (⟨(0:Int),⟨(0:Int),(0:Int),(0:Int),(0:Int)⟩⟩:bQ)),()))).bind (Sum.elim (fun z7=>some z7.2.1) (fun z=>nomatch z))else none
def V2:aI:=aH [(false,(.sl .Event))] [(false,(.sl .Event),2)] (fun x=>HF x.1)
theorem aiS:enters Tryz.prog 47/\aG Tryz.prog 47 V2:=aJ 23 [] [(0,V1)] Tryz.func47 trivial (bH (by kernel_rfl) _ ⟨⟨_,by kernel_rfl,aiR⟩,trivial⟩) fun x=>by kernel_rfl
def Dd(x0:cF):Option (cF):=some x0
def V3:aI:=aH [(true,.fK)] [(true,.fK,0)] (fun x=>Dd x.1)
theorem aiT:enters Tryz.prog 120/\aG Tryz.prog 120 V3:=aJ 17 [] [] Tryz.func120 trivial aF fun x=>by kernel_rfl
def aiU:aC:=⟨[(0,.lf (.ah .fK 0)),(3,.lf (.own 7)),(4,.lf (.int .i64))],[(7,.sl .fK 2)],[]⟩
def aiV:List (Nat×aC):=[(2,⟨[(3,.lf (.own 7))],[(7,.sl .fK 2)],[]⟩)]
abbrev V4:=(((List cF)×Unit×Int×Unit)×((List cF)×Unit))
def V5(x:V4):Option (V4⊕(((Unit×Unit)×((List cF)×Unit))⊕Empty)):=bif (decide (x.1.2.2.1<(x.1.1.length:Int)))then if h1:0 <= x.1.2.2.1/\x.1.2.2.1.toNat<x.1.1.length then (let e2:=x.1.1[x.1.2.2.1.toNat]'h1.2;(Dd e2).bind fun y3=>if h4:0 <= x.1.2.2.1/\x.1.2.2.1.toNat<x.2.1.length then if h5:x.1.2.2.1.toNat<x.2.1.length then (let e6:=x.2.1[x.1.2.2.1.toNat]'h5;some (.inl ((x.1.1,(),(IntKind.i64.wrap (x.1.2.2.1+(1:Int))),()),((x.2.1.set x.1.2.2.1.toNat y3),()))))else none else none)else none else some (.inr (.inl (((),()),(x.2.1,()))))
def V6:bh:=bu 0 aiU aiV V5 (fun _=>big)
theorem aiW:br Tryz.prog 23 (.block 0 (.loop (bq (aW Tryz.f48) 0))) V6:=bA 23 [(120,.p V3)] [] ⟨aiT,trivial⟩ aF fun x=>by kernel_rfl
def HG(x0:List cF):Option ((List cF)):=if 0 <= (x0.length:Int)/\(x0.length:Int) <= (x0.length:Int)/\(x0.length:Int)<1073741824 then (iter V5 big ((x0,(),(0:Int),()),((List.replicate (x0.length:Int).toNat (⟨(0:Int),(0:Int),(0:Int),(0:Int)⟩:cF)),()))).bind (Sum.elim (fun z7=>some z7.2.1) (fun z=>nomatch z))else none
def V7:aI:=aH [(false,(.sl .fK))] [(false,(.sl .fK),2)] (fun x=>HG x.1)
theorem aiX:enters Tryz.prog 48/\aG Tryz.prog 48 V7:=aJ 23 [] [(0,V6)] Tryz.func48 trivial (bH (by kernel_rfl) _ ⟨⟨_,by kernel_rfl,aiW⟩,trivial⟩) fun x=>by kernel_rfl
def wZ(x0:cB):Option (cB):=(Hj x0.config).bind fun y1=>(Ho x0.box).bind fun y2=>(Hq x0.gy).bind fun y3=>(Hr x0.ready).bind fun y4=>(Ht x0.array).bind fun y5=>(Hu x0.spare).bind fun y6=>(Hv x0.dc).bind fun y7=>(Hw x0.dW).bind fun y8=>(nq x0.guard).bind fun y9=>(Hx x0.pending).bind fun iP=>(Hy x0.queue).bind fun fU=>(Hz x0.shares).bind fun fk=>(HA x0.drain).bind fun fV=>(HB x0.bM).bind fun gQ=>(HC x0.iG).bind fun sU=>(HD x0.errors).bind fun pX=>(HF x0.trace).bind fun pY=>(HG x0.iH).bind fun qR=>some (⟨y1,y2,x0.now,y3,y4,y5,y6,y7,y8,y9,iP,fU,fk,fV,gQ,sU,pX,pY,qR⟩:cB)
def V8:aI:=aH [(true,.eR)] [(true,.eR,4)] (fun x=>wZ x.1)
theorem aiY:enters Tryz.prog 6/\aG Tryz.prog 6 V8:=aJ 80 [(31,.p U9),(32,.p Vf),(33,.p Vl),(34,.p Vm),(35,.p Vs),(36,.p Vt),(37,.p Vu),(38,.p Vz),(39,.p sV),(40,.p VE),(41,.p VJ),(42,.p VO),(43,.p VP),(44,.p VQ),(45,.p VR),(46,.p VW),(47,.p V2),(48,.p V7)] [] Tryz.func6 ⟨ahY,ah4,aia,aib,aii,aij,aik,aip,u6,aiu,aiz,aiE,aiF,aiG,aiH,aiM,aiS,aiX,trivial⟩ aF fun x=>by kernel_rfl
def cE(x0:Int)(x1:Int)(x2:Int):Option (Bool):=bif (decide (x0 >= x1))then some (decide (x0 <= x2))else some false
def fy:aI:=aH [(false,.int),(false,.int),(false,.int)] [(false,.bool,0)] (fun x=>cE x.1 x.2.1 x.2.2.1)
theorem fJ:enters Tryz.prog 122/\aG Tryz.prog 122 fy:=aJ 15 [] [] Tryz.func122 trivial aF fun x=>by kernel_rfl
def qS(x0:bf):Option (Bool):=(cE x0.cZ (1:Int) (2:Int)).bind fun y1=>bif y1 then (cE x0.aO (1:Int) (4:Int)).bind fun y2=>bif y2 then (cE x0.rows (2:Int) (16:Int)).bind fun y3=>bif y3 then (cE x0.cV (1:Int) (8:Int)).bind fun y4=>some y4 else some false else some false else some false
def u7:aI:=aH [(true,.ef)] [(false,.bool,0)] (fun x=>qS x.1)
theorem w4:enters Tryz.prog 179/\aG Tryz.prog 179 u7:=aJ 21 [(122,.p fy)] [] Tryz.func179 ⟨fJ,trivial⟩ aF fun x=>by kernel_rfl
def oL(x0:bf):Option (Int):=(qS x0).bind fun y1=>bif (!y1)then some (0:Int)else some (IntKind.i64.wrap (x0.cZ*x0.aO))
def qT:aI:=aH [(true,.ef)] [(false,.int,0)] (fun x=>oL x.1)
theorem sW:enters Tryz.prog 180/\aG Tryz.prog 180 qT:=aJ 11 [(179,.p u7)] [] Tryz.func180 ⟨w4,trivial⟩ aF fun x=>by kernel_rfl
def aiZ:aC:=⟨[(1,.lf (.int .i64)),(2,.az 2 0),(4,.az 4 0),(6,.az 6 0),(7,.lf (.int .i64)),(8,.lf (.int .i64))],[(2,.blk [.int .i64,.int .i64,.int .i64,.int .i64]),(4,.blk [.int .i64,.own 90101]),(6,.blk [.int .i64,.own 90201]),(90101,.sl .int 2),(90201,.sl .int 2)],[]⟩
def ai0:List (Nat×aC):=[(4,⟨[(1,.lf (.int .i64)),(2,.az 2 0),(4,.az 4 0),(6,.az 6 0),(7,.lf (.int .i64))],[(2,.blk [.int .i64,.int .i64,.int .i64,.int .i64]),(4,.blk [.int .i64,.own 90101]),(6,.blk [.int .i64,.own 90201]),(90101,.sl .int 2),(90201,.sl .int 2)],[]⟩)]
abbrev V9:=((Int×Unit×Unit×Unit×Int×Int×Unit)×((Int×Int×Int×Int×Unit)×(Int×Unit×Unit)×(Int×Unit×Unit)×(List Int)×(List Int)×Unit))
def zG(x:V9):Option (V9⊕(((Int×Unit×Unit×Unit×Int×Unit)×((Int×Int×Int×Int×Unit)×(Int×Unit×Unit)×(Int×Unit×Unit)×(List Int)×(List Int)×Unit))⊕Empty)):=bif (decide (x.1.2.2.2.2.2.1<(IntKind.i64.wrap (x.2.1.2.2.1-x.1.1))))then bif aV (x.2.2.2.2.2.1.length+([x.1.2.2.2.2.2.1]:List Int).length)then some (.inl ((x.1.1,(),(),(),x.1.2.2.2.2.1,(IntKind.i64.wrap (x.1.2.2.2.2.2.1+(1:Int))),()),(x.2.1,x.2.2.1,x.2.2.2.1,x.2.2.2.2.1,(x.2.2.2.2.2.1++([x.1.2.2.2.2.2.1]:List Int)),())))else none else some (.inr (.inl ((x.1.1,(),(),(),x.1.2.2.2.2.1,()),(x.2.1,x.2.2.1,x.2.2.2.1,x.2.2.2.2.1,x.2.2.2.2.2.1,()))))
def Wa:bh:=bu 2 aiZ ai0 zG (fun _=>big)
theorem ai1:br Tryz.prog 48 (.block 2 (.loop (bq (bq (aW Tryz.f184) 0) 2))) Wa:=bA 48 [] [] trivial aF fun x=>by kernel_rfl
def ai2:aC:=⟨[(1,.lf (.int .i64)),(2,.az 2 0),(4,.az 4 0),(6,.az 6 0),(7,.lf (.int .i64))],[(2,.blk [.int .i64,.int .i64,.int .i64,.int .i64]),(4,.blk [.int .i64,.own 90101]),(6,.blk [.int .i64,.own 90201]),(90101,.sl .int 2),(90201,.sl .int 2)],[]⟩
def ai3:List (Nat×aC):=[(2,⟨[(4,.az 4 0),(6,.az 6 0)],[(4,.blk [.int .i64,.own 90101]),(6,.blk [.int .i64,.own 90201]),(90101,.sl .int 2),(90201,.sl .int 2)],[]⟩)]
abbrev Wb:=((Int×Unit×Unit×Unit×Int×Unit)×((Int×Int×Int×Int×Unit)×(Int×Unit×Unit)×(Int×Unit×Unit)×(List Int)×(List Int)×Unit))
def De(x:Wb):Option (Wb⊕(((Unit×Unit×Unit)×((Int×Unit×Unit)×(Int×Unit×Unit)×(List Int)×(List Int)×Unit))⊕Empty)):=(oL (⟨x.2.1.1,x.2.1.2.1,x.2.1.2.2.1,x.2.1.2.2.2.1⟩:bf)).bind fun y3=>bif (decide (x.1.2.2.2.2.1<y3))then (iter zG big ((x.1.1,(),(),(),x.1.2.2.2.2.1,(0:Int),()),(x.2.1,x.2.2.1,x.2.2.2.1,x.2.2.2.2.1,x.2.2.2.2.2.1,()))).bind (Sum.elim (fun z4=>some (.inl ((z4.1.1,(),(),(),(IntKind.i64.wrap (z4.1.2.2.2.2.1+(1:Int))),()),(z4.2.1,z4.2.2.1,z4.2.2.2.1,z4.2.2.2.2.1,z4.2.2.2.2.2.1,())))) (fun z=>nomatch z))else some (.inr (.inl (((),(),()),(x.2.2.1,x.2.2.2.1,x.2.2.2.2.1,x.2.2.2.2.2.1,()))))
def Wc:bh:=bu 0 ai2 ai3 De (fun _=>big)
theorem ai4:br Tryz.prog 48 (.block 0 (.loop (bq (aW Tryz.f184) 0))) Wc:=bA 48 [(180,.p qT)] [(2,Wa)] ⟨sW,trivial⟩ (bH (by kernel_rfl) _ ⟨⟨_,by kernel_rfl,ai1⟩,trivial⟩) fun x=>by kernel_rfl
def Df(x0:bf)(x1:Int):Option (dO×Bool):=(qS x0).bind fun y1=>bif (!y1)then some ((⟨(0:Int),[]⟩:dO),false)else (cE x1 (0:Int) (2:Int)).bind fun y2=>bif (!y2)then some ((⟨(0:Int),[]⟩:dO),false)else bif (decide ((IntKind.i64.wrap (x0.rows-x1))<(2:Int)))then some ((⟨(0:Int),[]⟩:dO),false)else (iter De big ((x1,(),(),(),(0:Int),()),((x0.cZ,x0.aO,x0.rows,x0.cV,()),((0:Int),(),()),(x1,(),()),([]:List Int),([]:List Int),()))).bind (Sum.elim (fun z5=>some ((⟨z5.2.2.1.1,z5.2.2.2.2.1⟩:dO),true)) (fun z=>nomatch z))
def Ng:aI:=aH [(true,.ef),(false,.int)] [(true,.iI,2),(false,.bool,0)] (fun x=>Df x.1 x.2.1)
theorem We:enters Tryz.prog 184/\aG Tryz.prog 184 Ng:=aJ 48 [(122,.p fy),(179,.p u7)] [(0,Wc)] Tryz.func184 ⟨fJ,w4,trivial⟩ (bH (by kernel_rfl) _ ⟨⟨_,by kernel_rfl,ai4⟩,trivial⟩) fun x=>by kernel_rfl
def ai5:aC:=⟨[(1,.az 1 0),(39,.lf (.own 39)),(40,.lf (.int .i64)),(41,.lf (.int .i64))],[(1,.st .hD),(39,.sl .int 2)],[]⟩
def ai6:List (Nat×aC):=[(1,⟨[(2,.lf (.bool))],[],[]⟩),(2,⟨[(1,.az 1 0)],[(1,.st .hD)],[]⟩)]
abbrev Wf:=((Unit×Unit×Int×Int×Unit)×(fo×(List Int)×Unit))
def zH(x:Wf):Option (Wf⊕(((Bool×Unit)×(Unit))⊕(((Unit×Unit)×(fo×Unit))⊕Empty))):=bif (decide (x.1.2.2.2.1<x.1.2.2.1))then if h1:0 <= x.1.2.2.2.1/\x.1.2.2.2.1.toNat<x.2.2.1.length then if h2:x.1.2.2.2.1.toNat<x.2.2.1.length then (let e3:=x.2.2.1[x.1.2.2.2.1.toNat]'h2;(cE e3 (1:Int) (64:Int)).bind fun y4=>bif (!y4)then some (.inr (.inl ((false,()),())))else some (.inl (((),(),x.1.2.2.1,(IntKind.i64.wrap (x.1.2.2.2.1+(1:Int))),()),(x.2.1,x.2.2.1,()))))else none else none else some (.inr (.inr (.inl (((),()),(x.2.1,())))))
def Wg:bh:=bu 0 ai5 ai6 zH (fun _=>big)
theorem ai7:br Tryz.prog 75 (.block 0 (.loop (bq (aW Tryz.f208) 0))) Wg:=bA 75 [(122,.p fy)] [] ⟨fJ,trivial⟩ aF fun x=>by kernel_rfl
def Dg(x0:fo):Option (Bool):=(iter zH big (((),(),(([x0.j6,x0.rp,x0.gq,x0.lA,x0.j7,x0.qb,x0.lB,x0.lC,x0.oa,x0.wr,x0.nu,x0.nv,x0.qc,x0.oc,x0.od,x0.xp,x0.xs]:List Int).length:Int),(0:Int),()),(x0,([x0.j6,x0.rp,x0.gq,x0.lA,x0.j7,x0.qb,x0.lB,x0.lC,x0.oa,x0.wr,x0.nu,x0.nv,x0.qc,x0.oc,x0.od,x0.xp,x0.xs]:List Int),()))).bind (Sum.elim (fun z5=>some z5.1.1) (Sum.elim (fun z6=>bif (decide (z6.2.1.j6 <= z6.2.1.gq))then bif (decide (z6.2.1.lA <= z6.2.1.j7))then bif (decide (z6.2.1.lB <= z6.2.1.lC))then some (decide (z6.2.1.nu <= z6.2.1.nv))else some false else some false else some false) (fun z=>nomatch z)))
def Nh:aI:=aH [(true,.hD)] [(false,.bool,0)] (fun x=>Dg x.1)
theorem Wh:enters Tryz.prog 208/\aG Tryz.prog 208 Nh:=aJ 75 [] [(0,Wg)] Tryz.func208 trivial (bH (by kernel_rfl) _ ⟨⟨_,by kernel_rfl,ai7⟩,trivial⟩) fun x=>by kernel_rfl
def HH(x0:kN):Option (Bool):=(cE x0.order (0:Int) (2:Int)).bind fun y1=>some y1
def Wi:aI:=aH [(true,.lD)] [(false,.bool,0)] (fun x=>HH x.1)
theorem ai8:enters Tryz.prog 209/\aG Tryz.prog 209 Wi:=aJ 6 [(122,.p fy)] [] Tryz.func209 ⟨fJ,trivial⟩ aF fun x=>by kernel_rfl
def va(x0:fo):Option (Int):=(Dg x0).bind fun y1=>bif (!y1)then some (0:Int)else some (IntKind.i64.wrap ((2:Int)*(IntKind.i64.wrap ((IntKind.i64.wrap ((IntKind.i64.wrap ((IntKind.i64.wrap ((IntKind.i64.wrap ((IntKind.i64.wrap ((IntKind.i64.wrap ((IntKind.i64.wrap ((IntKind.i64.wrap (x0.od+x0.xp))+x0.gq))+x0.wr))+x0.oa))+x0.rp))+x0.oc))+x0.j6))+(IntKind.i64.wrap ((8:Int)*x0.j7))))+(16:Int)))))
def Wj:aI:=aH [(true,.hD)] [(false,.int,0)] (fun x=>va x.1)
theorem ai9:enters Tryz.prog 210/\aG Tryz.prog 210 Wj:=aJ 35 [(208,.p Nh)] [] Tryz.func210 ⟨Wh,trivial⟩ aF fun x=>by kernel_rfl
def HI(x0:gu):Option (Bool):=(Df x0.bI x0.cx).bind fun y1=>(qS x0.bI).bind fun y2=>bif y2 then (Dg x0.cr).bind fun y3=>bif y3 then (HH x0.mapping).bind fun y4=>bif y4 then bif y1.2 then (va x0.cr).bind fun y5=>(cE x0.interval y5 (10000:Int)).bind fun y6=>bif y6 then (cE x0.mm (1:Int) (16:Int)).bind fun y7=>bif y7 then (cE x0.gZ.cT (IntKind.i64.wrap ((6:Int)*x0.interval)) (100000:Int)).bind fun y8=>bif y8 then (cE x0.gZ.cU (0:Int) (100000:Int)).bind fun y9=>some y9 else some false else some false else some false else some false else some false else some false else some false
def Wl:aI:=aH [(true,.Config)] [(false,.bool,0)] (fun x=>HI x.1)
theorem aja:enters Tryz.prog 176/\aG Tryz.prog 176 Wl:=aJ 57 [(122,.p fy),(179,.p u7),(184,.p Ng),(208,.p Nh),(209,.p Wi),(210,.p Wj)] [] Tryz.func176 ⟨fJ,w4,We,Wh,ai8,ai9,trivial⟩ aF fun x=>by kernel_rfl
def zI(x0:iS):Option (Bool):=bif (decide (x0.low >= (0:Int)))then bif (decide (x0.low<x0.high))then some (decide (x0.high <= (12:Int)))else some false else some false
def Ni:aI:=aH [(true,.lE)] [(false,.bool,0)] (fun x=>zI x.1)
theorem Wm:enters Tryz.prog 132/\aG Tryz.prog 132 Ni:=aJ 18 [] [] Tryz.func132 trivial aF fun x=>by kernel_rfl
def ajb:aC:=⟨[(0,.lf (.ah .dP 0)),(5,.lf (.ah .dP 0)),(6,.lf (.int .i64)),(7,.lf (.int .i64))],[],[]⟩
def ajc:List (Nat×aC):=[(1,⟨[(2,.lf (.bool))],[],[]⟩),(2,⟨[(0,.lf (.ah .dP 0))],[],[]⟩)]
abbrev Wn:=(((List bT)×(List bT)×Int×Int×Unit)×(Unit))
def Dh(x:Wn):Option (Wn⊕(((Bool×Unit)×(Unit))⊕((((List bT)×Unit)×(Unit))⊕Empty))):=bif (decide (x.1.2.2.2.1<x.1.2.2.1))then if h1:0 <= x.1.2.2.2.1/\x.1.2.2.2.1.toNat<x.1.2.1.length then (let e2:=x.1.2.1[x.1.2.2.2.1.toNat]'h1.2;(cE e2.weight (1:Int) (9:Int)).bind fun y3=>bif (!y3)then some (.inr (.inl ((false,()),())))else (cE e2.nw (0:Int) e2.weight).bind fun y4=>bif (!y4)then some (.inr (.inl ((false,()),())))else some (.inl ((x.1.1,x.1.2.1,x.1.2.2.1,(IntKind.i64.wrap (x.1.2.2.2.1+(1:Int))),()),())))else none else some (.inr (.inr (.inl ((x.1.1,()),()))))
def Wo:bh:=bu 0 ajb ajc Dh (fun _=>big)
theorem ajd:br Tryz.prog 27 (.block 0 (.loop (bq (aW Tryz.f131) 0))) Wo:=bA 27 [(122,.p fy)] [] ⟨fJ,trivial⟩ aF fun x=>by kernel_rfl
def Di(x0:List bT):Option (Bool):=(iter Dh big ((x0,x0,(x0.length:Int),(0:Int),()),())).bind (Sum.elim (fun z5=>some z5.1.1) (Sum.elim (fun z6=>(cE (z6.1.1.length:Int) (1:Int) (4:Int)).bind fun y7=>some y7) (fun z=>nomatch z)))
def Nj:aI:=aH [(false,(.sl .dP))] [(false,.bool,0)] (fun x=>Di x.1)
theorem Wp:enters Tryz.prog 131/\aG Tryz.prog 131 Nj:=aJ 27 [(122,.p fy)] [(0,Wo)] Tryz.func131 ⟨fJ,trivial⟩ (bH (by kernel_rfl) _ ⟨⟨_,by kernel_rfl,ajd⟩,trivial⟩) fun x=>by kernel_rfl
def aje:aC:=⟨[(4,.lf (.own 7)),(8,.lf (.ah .int 0)),(9,.lf (.int .i64)),(10,.lf (.int .i64))],[(7,.sl .dP 2)],[]⟩
def ajf:List (Nat×aC):=[(2,⟨[(4,.lf (.own 7))],[(7,.sl .dP 2)],[]⟩)]
abbrev Wq:=((Unit×(List Int)×Int×Int×Unit)×((List bT)×Unit))
def Dj(x:Wq):Option (Wq⊕(((Unit×Unit)×((List bT)×Unit))⊕Empty)):=bif (decide (x.1.2.2.2.1<x.1.2.2.1))then if h1:0 <= x.1.2.2.2.1/\x.1.2.2.2.1.toNat<x.1.2.1.length then (let e2:=x.1.2.1[x.1.2.2.2.1.toNat]'h1.2;bif aV (x.2.1.length+([(⟨e2,e2⟩:bT)]:List bT).length)then some (.inl (((),x.1.2.1,x.1.2.2.1,(IntKind.i64.wrap (x.1.2.2.2.1+(1:Int))),()),((x.2.1++([(⟨e2,e2⟩:bT)]:List bT)),())))else none)else none else some (.inr (.inl (((),()),(x.2.1,()))))
def Wr:bh:=bu 0 aje ajf Dj (fun _=>big)
theorem ajg:br Tryz.prog 25 (.block 0 (.loop (bq (aW Tryz.f211) 0))) Wr:=bA 25 [] [] trivial aF fun x=>by kernel_rfl
def HJ(x0:List Int):Option ((List bT)×Bool):=(iter Dj big (((),x0,(x0.length:Int),(0:Int),()),(([]:List bT),()))).bind (Sum.elim (fun z3=>(Di z3.2.1).bind fun y4=>bif (!y4)then some ([],false)else some (z3.2.1,true)) (fun z=>nomatch z))
def Ws:aI:=aH [(false,(.sl .int))] [(false,(.sl .dP),2),(false,.bool,0)] (fun x=>HJ x.1)
theorem ajh:enters Tryz.prog 211/\aG Tryz.prog 211 Ws:=aJ 25 [(131,.p Nj)] [(0,Wr)] Tryz.func211 ⟨Wp,trivial⟩ (bH (by kernel_rfl) _ ⟨⟨_,by kernel_rfl,ajg⟩,trivial⟩) fun x=>by kernel_rfl
def Dk(x0:ke):Option (Bool):=(cE x0.down (1:Int) (10000:Int)).bind fun y1=>bif y1 then bif (decide (x0.sleep > x0.down))then some (decide (x0.sleep <= (20000:Int)))else some false else some false
def Wt:aI:=aH [(true,.lF)] [(false,.bool,0)] (fun x=>Dk x.1)
theorem aji:enters Tryz.prog 212/\aG Tryz.prog 212 Wt:=aJ 18 [(122,.p fy)] [] Tryz.func212 ⟨fJ,trivial⟩ aF fun x=>by kernel_rfl
def HK(x0:fB):Option (Bool):=(HJ x0.weights).bind fun y1=>bif (x0.kf==(0:Int))then (cE x0.cap (0:Int) (100000:Int)).bind fun y2=>bif y2 then (cE x0.gX (3:Int) (1000:Int)).bind fun y3=>bif y3 then (zI (⟨false,x0.low,x0.high⟩:iS)).bind fun y4=>bif y4 then bif ((x0.weights.length:Int)==(4:Int))then bif y1.2 then (Dk x0.gY).bind fun y5=>some y5 else some false else some false else some false else some false else some false else bif (x0.kf==(1:Int))then (cE x0.cap (0:Int) (100000:Int)).bind fun y6=>bif y6 then (cE x0.gX (3:Int) (1000:Int)).bind fun y7=>bif y7 then (zI (⟨false,x0.low,x0.high⟩:iS)).bind fun y8=>bif y8 then bif ((x0.weights.length:Int)==(4:Int))then bif y1.2 then (Dk x0.gY).bind fun y9=>some y9 else some false else some false else some false else some false else some false else some false
def Wu:aI:=aH [(true,.jz)] [(false,.bool,0)] (fun x=>HK x.1)
theorem ajj:enters Tryz.prog 177/\aG Tryz.prog 177 Wu:=aJ 51 [(122,.p fy),(132,.p Ni),(211,.p Ws),(212,.p Wt)] [] Tryz.func177 ⟨fJ,Wm,ajh,aji,trivial⟩ aF fun x=>by kernel_rfl
def zJ(x0:Int):Option (Int):=(cE x0 (3:Int) (1000:Int)).bind fun y1=>bif (!y1)then some (0:Int)else some (IntKind.i64.wrap ((IntKind.i64.wrap ((2:Int)*x0))+(2:Int)))
def Wv:aI:=aH [(false,.int)] [(false,.int,0)] (fun x=>zJ x.1)
theorem ajk:enters Tryz.prog 178/\aG Tryz.prog 178 Wv:=aJ 9 [(122,.p fy)] [] Tryz.func178 ⟨fJ,trivial⟩ aF fun x=>by kernel_rfl
def sX(x0:gu)(x1:fB):Option (Bool):=(HI x0).bind fun y1=>bif y1 then (HK x1).bind fun y2=>bif y2 then (zJ x1.gX).bind fun y3=>bif (decide ((IntKind.i64.wrap (y3+(2:Int))) <= x0.gZ.cU))then if (IntKind.i64.wrap (x0.cr.gq+x0.cr.rp))=0 then none else some (decide ((IntKind.i64.wrap ((IntKind.i64.wrap (x0.mm+(1:Int)))*x1.gX)) > (IntKind.i64.wrap ((IntKind.i64.wrap ((IntKind.i64.wrap ((5:Int)*x0.interval)).tdiv (IntKind.i64.wrap (x0.cr.gq+x0.cr.rp))))+(2:Int)))))else some false else some false else some false
def Ww:aI:=aH [(true,.Config),(true,.jz)] [(false,.bool,0)] (fun x=>sX x.1 x.2.1)
theorem ajl:enters Tryz.prog 121/\aG Tryz.prog 121 Ww:=aJ 42 [(176,.p Wl),(177,.p Wu),(178,.p Wv)] [] Tryz.func121 ⟨aja,ajj,ajk,trivial⟩ aF fun x=>by kernel_rfl
def ajm:aC:=⟨[(3,.lf (.own 6)),(8,.lf (.ah .dR 0)),(9,.lf (.int .i64)),(10,.lf (.int .i64))],[(6,.sl .int 2)],[]⟩
def ajn:List (Nat×aC):=[(2,⟨[(3,.lf (.own 6))],[(6,.sl .int 2)],[]⟩)]
abbrev Wx:=((Unit×(List cq)×Int×Int×Unit)×((List Int)×Unit))
def zK(x:Wx):Option (Wx⊕(((Unit×Unit)×((List Int)×Unit))⊕Empty)):=bif (decide (x.1.2.2.2.1<x.1.2.2.1))then if h1:0 <= x.1.2.2.2.1/\x.1.2.2.2.1.toNat<x.1.2.1.length then (let e2:=x.1.2.1[x.1.2.2.2.1.toNat]'h1.2;bif e2.open_ then bif aV (x.2.1.length+([x.1.2.2.2.1]:List Int).length)then some (.inl (((),x.1.2.1,x.1.2.2.1,(IntKind.i64.wrap (x.1.2.2.2.1+(1:Int))),()),((x.2.1++([x.1.2.2.2.1]:List Int)),())))else none else some (.inl (((),x.1.2.1,x.1.2.2.1,(IntKind.i64.wrap (x.1.2.2.2.1+(1:Int))),()),(x.2.1,()))))else none else some (.inr (.inl (((),()),(x.2.1,()))))
def Wy:bh:=bu 0 ajm ajn zK (fun _=>big)
theorem ajo:br Tryz.prog 23 (.block 0 (.loop (bq (aW Tryz.f181) 0))) Wy:=bA 23 [] [] trivial aF fun x=>by kernel_rfl
def HL(x0:eN):Option ((List Int)):=(iter zK big (((),x0.aO,(x0.aO.length:Int),(0:Int),()),(([]:List Int),()))).bind (Sum.elim (fun z3=>some z3.2.1) (fun z=>nomatch z))
def Wz:aI:=aH [(true,.jf)] [(false,(.sl .int),2)] (fun x=>HL x.1)
theorem ajp:enters Tryz.prog 181/\aG Tryz.prog 181 Wz:=aJ 23 [] [(0,Wy)] Tryz.func181 trivial (bH (by kernel_rfl) _ ⟨⟨_,by kernel_rfl,ajo⟩,trivial⟩) fun x=>by kernel_rfl
def ajq:aC:=⟨[(2,.az 2 0),(3,.az 3 0),(25,.lf (.ah .dR 0)),(26,.lf (.int .i64)),(27,.lf (.int .i64))],[(2,.blk [.int .i64,.int .i64,.int .i64,.int .i64]),(3,.blk [.ah .dR 0,.int .i64])],[]⟩
def ajr:List (Nat×aC):=[(1,⟨[(4,.lf (.bool))],[],[]⟩),(2,⟨[(3,.az 3 0)],[(3,.blk [.ah .dR 0,.int .i64])],[]⟩)]
abbrev WA:=((Unit×Unit×(List cq)×Int×Int×Unit)×((Int×Int×Int×Int×Unit)×((List cq)×Int×Unit)×Unit))
def Dl(x:WA):Option (WA⊕(((Bool×Unit)×(Unit))⊕(((Unit×Unit)×(((List cq)×Int×Unit)×Unit))⊕Empty))):=bif (decide (x.1.2.2.2.2.1<x.1.2.2.2.1))then if h4:0 <= x.1.2.2.2.2.1/\x.1.2.2.2.2.1.toNat<x.1.2.2.1.length then (let e5:=x.1.2.2.1[x.1.2.2.2.2.1.toNat]'h4.2;(cE e5.row (0:Int) (IntKind.i64.wrap (x.2.1.2.2.1-(1:Int)))).bind fun y6=>bif (!y6)then some (.inr (.inl ((false,()),())))else bif (!e5.open_)then bif (e5.row != (0:Int))then some (.inr (.inl ((false,()),())))else some (.inl (((),(),x.1.2.2.1,x.1.2.2.2.1,(IntKind.i64.wrap (x.1.2.2.2.2.1+(1:Int))),()),(x.2.1,x.2.2.1,())))else some (.inl (((),(),x.1.2.2.1,x.1.2.2.2.1,(IntKind.i64.wrap (x.1.2.2.2.2.1+(1:Int))),()),(x.2.1,x.2.2.1,()))))else none else some (.inr (.inr (.inl (((),()),(x.2.2.1,())))))
def WB:bh:=bu 0 ajq ajr Dl (fun _=>big)
theorem ajs:br Tryz.prog 58 (.block 0 (.loop (bq (aW Tryz.f123) 0))) WB:=bA 58 [(122,.p fy)] [] ⟨fJ,trivial⟩ aF fun x=>by kernel_rfl
def HM(x0:bf)(x1:eN):Option (Bool):=(qS x0).bind fun y1=>bif (!y1)then some false else (oL x0).bind fun y2=>bif ((x1.aO.length:Int) != y2)then some false else (cE x1.bM (0:Int) (2:Int)).bind fun y3=>bif (!y3)then some false else (iter Dl big (((),(),x1.aO,(x1.aO.length:Int),(0:Int),()),((x0.cZ,x0.aO,x0.rows,x0.cV,()),(x1.aO,x1.bM,()),()))).bind (Sum.elim (fun z7=>some z7.1.1) (Sum.elim (fun z8=>bif (z8.2.1.2.1 != (2:Int))then some true else (HL (⟨z8.2.1.1,z8.2.1.2.1⟩:eN)).bind fun y9=>some ((y9.length:Int)==(0:Int))) (fun z=>nomatch z)))
def WC:aI:=aH [(true,.ef),(true,.jf)] [(false,.bool,0)] (fun x=>HM x.1 x.2.1)
theorem ajt:enters Tryz.prog 123/\aG Tryz.prog 123 WC:=aJ 58 [(122,.p fy),(179,.p u7),(180,.p qT),(181,.p Wz)] [(0,WB)] Tryz.func123 ⟨fJ,w4,sW,ajp,trivial⟩ (bH (by kernel_rfl) _ ⟨⟨_,by kernel_rfl,ajs⟩,trivial⟩) fun x=>by kernel_rfl
end Go.Proofs.YtmffpkippmkjbaaGreatDoor
