/-
  Functions of the program as plain functions of contents, and that the code computes them. Nothing here is a claim.
-/
import Derived.Test.YtmffpkippmkjbaaGreatDoorVZ
import Derived.Test.YtmffpkippmkjbaaGreatDoorRows
import Derived.Test.YtmffpkippmkjbaaGreatDoorExt
import Derived.Test.YtmffpkippmkjbaaGreatDoorG1
namespace Go.Proofs.YtmffpkippmkjbaaGreatDoor
open Go.RowKit
set_option linter.unusedVariables false
set_option maxRecDepth 100000
def M3(x0:Int):Option (Bool):=(cN x0 (0:Int) (15:Int)).bind fun y1=>some y1
def T3:aI:=aH [(false,.int)] [(false,.bool,0)] (fun x=>M3 x.1)
theorem agC:enters Tryz.prog 206/\aG Tryz.prog 206 T3:=aJ 5 [(92,.p fI)] [] Tryz.func206 ⟨fW,trivial⟩ aF fun x=>by kernel_rfl
def agD:aC:=⟨[(0,.lf (.ah .int 0)),(1,.lf (.int .i64)),(5,.lf (.int .i64))],[],[]⟩
def agE:List (Nat×aC):=[(1,⟨[(4,.lf (.bool))],[],[]⟩),(2,⟨[(0,.lf (.ah .int 0)),(1,.lf (.int .i64))],[],[]⟩)]
abbrev T4:=(((List Int)×Int×Int×Unit)×(Unit))
def CG(x:T4):Option (T4⊕(((Bool×Unit)×(Unit))⊕((((List Int)×Int×Unit)×(Unit))⊕Empty))):=bif (decide (x.1.2.2.1<(x.1.1.length:Int)))then if h1:0 <= x.1.2.2.1/\x.1.2.2.1.toNat<x.1.1.length then (let e2:=x.1.1[x.1.2.2.1.toNat]'h1.2;(M3 e2).bind fun y3=>bif (!y3)then some (.inr (.inl ((false,()),())))else some (.inl ((x.1.1,x.1.2.1,(IntKind.i64.wrap (x.1.2.2.1+(1:Int))),()),())))else none else some (.inr (.inr (.inl ((x.1.1,x.1.2.1,()),()))))
def T5:bh:=bu 0 agD agE CG (fun _=>big)
theorem agF:br Tryz.prog 22 (.block 0 (.loop (bq (aW Tryz.f161) 0))) T5:=bA 22 [(206,.p T3)] [] ⟨agC,trivial⟩ aF fun x=>by kernel_rfl
def GV(x0:List Int)(x1:Int):Option (Bool):=(iter CG big ((x0,x1,(0:Int),()),())).bind (Sum.elim (fun z4=>some z4.1.1) (Sum.elim (fun z5=>some ((z5.1.1.length:Int)==z5.1.2.1)) (fun z=>nomatch z)))
def T6:aI:=aH [(false,(.sl .int)),(false,.int)] [(false,.bool,0)] (fun x=>GV x.1 x.2.1)
theorem agG:enters Tryz.prog 161/\aG Tryz.prog 161 T6:=aJ 22 [] [(0,T5)] Tryz.func161 trivial (bH (by kernel_rfl) _ ⟨⟨_,by kernel_rfl,agF⟩,trivial⟩) fun x=>by kernel_rfl
def agH:aC:=⟨[(3,.az 3 0),(5,.lf (.int .i64))],[(3,.blk [.ah .Cell 0,.ah .int 0,.ah .int 0])],[]⟩
def agI:List (Nat×aC):=[(1,⟨[(4,.lf (.bool))],[],[]⟩),(2,⟨[(3,.az 3 0)],[(3,.blk [.ah .Cell 0,.ah .int 0,.ah .int 0])],[]⟩)]
abbrev T7:=((Unit×Int×Unit)×(((List cO)×(List Int)×(List Int)×Unit)×Unit))
def CH(x:T7):Option (T7⊕(((Bool×Unit)×(Unit))⊕(((Unit×Unit)×(((List cO)×(List Int)×(List Int)×Unit)×Unit))⊕Empty))):=bif (decide (x.1.2.1<(x.2.1.1.length:Int)))then if h4:0 <= x.1.2.1/\x.1.2.1.toNat<x.2.1.1.length then (let e5:=x.2.1.1[x.1.2.1.toNat]'h4.2;(GV e5.symbols (11:Int)).bind fun y6=>bif (!y6)then some (.inr (.inl ((false,()),())))else some (.inl (((),(IntKind.i64.wrap (x.1.2.1+(1:Int))),()),(x.2.1,()))))else none else some (.inr (.inr (.inl (((),()),(x.2.1,())))))
def T8:bh:=bu 0 agH agI CH (fun _=>big)
theorem agJ:br Tryz.prog 76 (.block 0 (.loop (bq (aW Tryz.f95) 0))) T8:=bA 76 [(161,.p T6)] [] ⟨agG,trivial⟩ aF fun x=>by kernel_rfl
def agK:aC:=⟨[(3,.az 3 0),(6,.lf (.int .i64))],[(3,.blk [.ah .Cell 0,.ah .int 0,.ah .int 0])],[]⟩
def agL:List (Nat×aC):=[(1,⟨[(4,.lf (.bool))],[],[]⟩),(4,⟨[],[],[]⟩)]
abbrev T9:=((Unit×Int×Unit)×(((List cO)×(List Int)×(List Int)×Unit)×Unit))
def CI(x:T9):Option (T9⊕(((Bool×Unit)×(Unit))⊕(((Unit)×(Unit))⊕Empty))):=bif (decide (x.1.2.1<(x.2.1.2.1.length:Int)))then if h9:0 <= x.1.2.1/\x.1.2.1.toNat<x.2.1.2.1.length then (let jt:=x.2.1.2.1[x.1.2.1.toNat]'h9.2;(cN jt (0:Int) (100000:Int)).bind fun fU=>bif (!fU)then some (.inr (.inl ((false,()),())))else if jg:0 <= x.1.2.1/\x.1.2.1.toNat<x.2.1.2.2.1.length then (let sQ:=x.2.1.2.2.1[x.1.2.1.toNat]'jg.2;(cN sQ (0:Int) (100000:Int)).bind fun gQ=>bif (!gQ)then some (.inr (.inl ((false,()),())))else some (.inl (((),(IntKind.i64.wrap (x.1.2.1+(1:Int))),()),(x.2.1,()))))else none)else none else some (.inr (.inr (.inl ((),()))))
def Ua:bh:=bu 2 agK agL CI (fun _=>big)
theorem agM:br Tryz.prog 76 (.block 2 (.loop (bq (aW Tryz.f95) 2))) Ua:=bA 76 [(92,.p fI)] [] ⟨fW,trivial⟩ aF fun x=>by kernel_rfl
def GW(x0:bf)(x1:iE):Option (Bool):=(sN x0).bind fun y1=>bif (!y1)then some false else (zE x0).bind fun y2=>bif ((x1.cells.length:Int) != y2)then some false else (oK x0).bind fun y3=>bif ((x1.cT.length:Int) != (IntKind.i64.wrap (y3*x0.rows)))then some false else bif ((x1.cU.length:Int) != (x1.cT.length:Int))then some false else (iter CH big (((),(0:Int),()),((x1.cells,x1.cT,x1.cU,()),()))).bind (Sum.elim (fun z7=>some z7.1.1) (Sum.elim (fun z8=>(iter CI big (((),(0:Int),()),(z8.2.1,()))).bind (Sum.elim (fun jX=>some jX.1.1) (Sum.elim (fun ju=>some true) (fun z=>nomatch z)))) (fun z=>nomatch z)))
def Ub:aI:=aH [(true,.ef),(true,.Array)] [(false,.bool,0)] (fun x=>GW x.1 x.2.1)
theorem agN:enters Tryz.prog 95/\aG Tryz.prog 95 Ub:=aJ 76 [(100,.p M1),(158,.p wX),(159,.p qQ)] [(0,T8),(2,Ua)] Tryz.func95 ⟨T2,zB,sO,trivial⟩ (bH (by kernel_rfl) _ ⟨⟨_,by kernel_rfl,agJ⟩,⟨_,by kernel_rfl,agM⟩,trivial⟩) fun x=>by kernel_rfl
def agO:aC:=⟨[(0,.lf (.ah .int 0)),(1,.lf (.int .i64)),(5,.lf (.int .i64))],[],[]⟩
def agP:List (Nat×aC):=[(1,⟨[(4,.lf (.bool))],[],[]⟩),(2,⟨[],[],[]⟩)]
abbrev Uc:=(((List Int)×Int×Int×Unit)×(Unit))
def CJ(x:Uc):Option (Uc⊕(((Bool×Unit)×(Unit))⊕(((Unit)×(Unit))⊕Empty))):=bif (decide (x.1.2.2.1<(x.1.1.length:Int)))then if h1:0 <= x.1.2.2.1/\x.1.2.2.1.toNat<x.1.1.length then (let e2:=x.1.1[x.1.2.2.1.toNat]'h1.2;bif (e2==x.1.2.1)then some (.inr (.inl ((true,()),())))else some (.inl ((x.1.1,x.1.2.1,(IntKind.i64.wrap (x.1.2.2.1+(1:Int))),()),())))else none else some (.inr (.inr (.inl ((),()))))
def Ud:bh:=bu 0 agO agP CJ (fun _=>big)
theorem agQ:br Tryz.prog 18 (.block 0 (.loop (bq (aW Tryz.f163) 0))) Ud:=bA 18 [] [] trivial aF fun x=>by kernel_rfl
def GX(x0:List Int)(x1:Int):Option (Bool):=(iter CJ big ((x0,x1,(0:Int),()),())).bind (Sum.elim (fun z3=>some z3.1.1) (Sum.elim (fun z4=>some false) (fun z=>nomatch z)))
def Ue:aI:=aH [(false,(.sl .int)),(false,.int)] [(false,.bool,0)] (fun x=>GX x.1 x.2.1)
theorem agR:enters Tryz.prog 163/\aG Tryz.prog 163 Ue:=aJ 18 [] [(0,Ud)] Tryz.func163 trivial (bH (by kernel_rfl) _ ⟨⟨_,by kernel_rfl,agQ⟩,trivial⟩) fun x=>by kernel_rfl
def agS:aC:=⟨[(2,.az 2 0),(3,.az 3 0),(7,.lf (.int .i64)),(8,.lf (.int .i64))],[(2,.blk [.int .i64,.int .i64,.int .i64,.int .i64]),(3,.blk [.int .i64,.ah .int 0])],[]⟩
def agT:List (Nat×aC):=[(1,⟨[(4,.lf (.bool))],[],[]⟩),(2,⟨[],[],[]⟩)]
abbrev Uf:=((Unit×Unit×Int×Int×Unit)×((Int×Int×Int×Int×Unit)×(Int×(List Int)×Unit)×Unit))
def CK(x:Uf):Option (Uf⊕(((Bool×Unit)×(Unit))⊕(((Unit)×(Unit))⊕Empty))):=bif (decide (x.1.2.2.2.1<(x.2.2.1.2.1.length:Int)))then if h3:0 <= x.1.2.2.2.1/\x.1.2.2.2.1.toNat<x.2.2.1.2.1.length then (let e4:=x.2.2.1.2.1[x.1.2.2.2.1.toNat]'h3.2;if x.1.2.2.1=0 then none else bif (e4==(x.1.2.2.2.1.tmod x.1.2.2.1))then some (.inl (((),(),x.1.2.2.1,(IntKind.i64.wrap (x.1.2.2.2.1+(1:Int))),()),(x.2.1,x.2.2.1,())))else if h5:0 <= x.1.2.2.2.1/\x.1.2.2.2.1.toNat<x.2.2.1.2.1.length then (let e6:=x.2.2.1.2.1[x.1.2.2.2.1.toNat]'h5.2;(cN e6 x.1.2.2.1 (IntKind.i64.wrap (x.2.1.2.2.1-(1:Int)))).bind fun y7=>bif (!y7)then some (.inr (.inl ((false,()),())))else if x.1.2.2.1=0 then none else if 0 <= (IntKind.i64.wrap ((IntKind.i64.wrap (x.1.2.2.2.1.tdiv x.1.2.2.1))*x.1.2.2.1))/\(IntKind.i64.wrap ((IntKind.i64.wrap (x.1.2.2.2.1.tdiv x.1.2.2.1))*x.1.2.2.1)) <= x.1.2.2.2.1/\x.1.2.2.2.1 <= (x.2.2.1.2.1.length:Int)then if h8:0 <= x.1.2.2.2.1/\x.1.2.2.2.1.toNat<x.2.2.1.2.1.length then (let e9:=x.2.2.1.2.1[x.1.2.2.2.1.toNat]'h8.2;(GX ((x.2.2.1.2.1.take x.1.2.2.2.1.toNat).drop (IntKind.i64.wrap ((IntKind.i64.wrap (x.1.2.2.2.1.tdiv x.1.2.2.1))*x.1.2.2.1)).toNat) e9).bind fun iP=>bif iP then some (.inr (.inl ((false,()),())))else some (.inl (((),(),x.1.2.2.1,(IntKind.i64.wrap (x.1.2.2.2.1+(1:Int))),()),(x.2.1,x.2.2.1,()))))else none else none)else none)else none else some (.inr (.inr (.inl ((),()))))
def Ug:bh:=bu 0 agS agT CK (fun _=>big)
theorem agU:br Tryz.prog 77 (.block 0 (.loop (bq (aW Tryz.f96) 0))) Ug:=bA 77 [(92,.p fI),(163,.p Ue)] [] ⟨fW,agR,trivial⟩ aF fun x=>by kernel_rfl
def CL(x0:bf)(x1:dO):Option (Bool):=(Cv x0 x1.cx).bind fun y1=>bif (!y1.2)then some false else (oK x0).bind fun y2=>bif ((x1.map.length:Int) != (IntKind.i64.wrap (y2*(IntKind.i64.wrap (x0.rows-x1.cx)))))then some false else (iter CK big (((),(),(IntKind.i64.wrap (x0.rows-x1.cx)),(0:Int),()),((x0.cZ,x0.aO,x0.rows,x0.cV,()),(x1.cx,x1.map,()),()))).bind (Sum.elim (fun sR=>some sR.1.1) (Sum.elim (fun z12=>some true) (fun z=>nomatch z)))
def M4:aI:=aH [(true,.ef),(true,.iI)] [(false,.bool,0)] (fun x=>CL x.1 x.2.1)
theorem Uh:enters Tryz.prog 96/\aG Tryz.prog 96 M4:=aJ 77 [(159,.p qQ),(162,.p MV)] [(0,Ug)] Tryz.func96 ⟨sO,Tz,trivial⟩ (bH (by kernel_rfl) _ ⟨⟨_,by kernel_rfl,agU⟩,trivial⟩) fun x=>by kernel_rfl
def agV:aC:=⟨[(1,.az 1 0),(3,.lf (.int .i64))],[(1,.blk [.ah .int 0,.int .i64,.bool])],[]⟩
def agW:List (Nat×aC):=[(1,⟨[(2,.lf (.bool))],[],[]⟩),(2,⟨[(1,.az 1 0)],[(1,.blk [.ah .int 0,.int .i64,.bool])],[]⟩)]
abbrev Ui:=((Unit×Int×Unit)×(((List Int)×Int×Bool×Unit)×Unit))
def CM(x:Ui):Option (Ui⊕(((Bool×Unit)×(Unit))⊕(((Unit×Unit)×(((List Int)×Int×Bool×Unit)×Unit))⊕Empty))):=bif (decide (x.1.2.1<(x.2.1.1.length:Int)))then if h1:0 <= x.1.2.1/\x.1.2.1.toNat<x.2.1.1.length then (let e2:=x.2.1.1[x.1.2.1.toNat]'h1.2;(cN e2 (-2:Int) (5:Int)).bind fun y3=>bif (!y3)then some (.inr (.inl ((false,()),())))else some (.inl (((),(IntKind.i64.wrap (x.1.2.1+(1:Int))),()),(x.2.1,()))))else none else some (.inr (.inr (.inl (((),()),(x.2.1,())))))
def Uj:bh:=bu 0 agV agW CM (fun _=>big)
theorem agX:br Tryz.prog 27 (.block 0 (.loop (bq (aW Tryz.f97) 0))) Uj:=bA 27 [(92,.p fI)] [] ⟨fW,trivial⟩ aF fun x=>by kernel_rfl
def GY(x0:iF):Option (Bool):=(iter CM big (((),(0:Int),()),((x0.bX,x0.wait,x0.j8,()),()))).bind (Sum.elim (fun z4=>some z4.1.1) (Sum.elim (fun z5=>(cN (z5.2.1.1.length:Int) (1:Int) (8:Int)).bind fun y6=>bif y6 then (cN z5.2.1.2.1 (1:Int) (10000:Int)).bind fun y7=>some y7 else some false) (fun z=>nomatch z)))
def Uk:aI:=aH [(true,.kQ)] [(false,.bool,0)] (fun x=>GY x.1)
theorem agY:enters Tryz.prog 97/\aG Tryz.prog 97 Uk:=aJ 27 [(92,.p fI)] [(0,Uj)] Tryz.func97 ⟨fW,trivial⟩ (bH (by kernel_rfl) _ ⟨⟨_,by kernel_rfl,agX⟩,trivial⟩) fun x=>by kernel_rfl
def agZ:aC:=⟨[(1,.az 1 0),(3,.lf (.int .i64)),(4,.lf (.int .i64))],[(1,.blk [.ah .int 0,.ah .int 0,.int .i64])],[]⟩
def ag0:List (Nat×aC):=[(1,⟨[(2,.lf (.bool))],[],[]⟩),(4,⟨[(1,.az 1 0),(3,.lf (.int .i64))],[(1,.blk [.ah .int 0,.ah .int 0,.int .i64])],[]⟩)]
abbrev Ul:=((Unit×Int×Int×Unit)×(((List Int)×(List Int)×Int×Unit)×Unit))
def wY(x:Ul):Option (Ul⊕(((Bool×Unit)×(Unit))⊕(((Unit×Int×Unit)×(((List Int)×(List Int)×Int×Unit)×Unit))⊕Empty))):=bif (decide (x.1.2.2.1<x.1.2.1))then if mG:0 <= x.1.2.1/\x.1.2.1.toNat<x.2.1.1.length then (let M5:=x.2.1.1[x.1.2.1.toNat]'mG.2;bif (decide (M5 >= (0:Int)))then if nB:0 <= x.1.2.2.1/\x.1.2.2.1.toNat<x.2.1.1.length then (let CN:=x.2.1.1[x.1.2.2.1.toNat]'nB.2;if nD:0 <= x.1.2.1/\x.1.2.1.toNat<x.2.1.1.length then (let sS:=x.2.1.1[x.1.2.1.toNat]'nD.2;bif (CN==sS)then some (.inr (.inl ((false,()),())))else some (.inl (((),x.1.2.1,(IntKind.i64.wrap (x.1.2.2.1+(1:Int))),()),(x.2.1,()))))else none)else none else some (.inl (((),x.1.2.1,(IntKind.i64.wrap (x.1.2.2.1+(1:Int))),()),(x.2.1,()))))else none else some (.inr (.inr (.inl (((),x.1.2.1,()),(x.2.1,())))))
def M6:bh:=bu 2 agZ ag0 wY (fun _=>big)
theorem Um:br Tryz.prog 90 (.block 2 (.loop (bq (bq (aW Tryz.f164) 0) 2))) M6:=bA 90 [] [] trivial aF fun x=>by kernel_rfl
def ag1:aC:=⟨[(1,.az 1 0),(3,.lf (.int .i64))],[(1,.blk [.ah .int 0,.ah .int 0,.int .i64])],[]⟩
def ag2:List (Nat×aC):=[(1,⟨[(2,.lf (.bool))],[],[]⟩),(2,⟨[],[],[]⟩)]
abbrev Un:=((Unit×Int×Unit)×(((List Int)×(List Int)×Int×Unit)×Unit))
def CO(x:Un):Option (Un⊕(((Bool×Unit)×(Unit))⊕(((Unit)×(Unit))⊕Empty))):=bif (decide (x.1.2.1<(x.2.1.1.length:Int)))then if h3:0 <= x.1.2.1/\x.1.2.1.toNat<x.2.1.1.length then (let e4:=x.2.1.1[x.1.2.1.toNat]'h3.2;(cN e4 (-1:Int) (15:Int)).bind fun y5=>bif (!y5)then some (.inr (.inl ((false,()),())))else if h6:0 <= x.1.2.1/\x.1.2.1.toNat<x.2.1.2.1.length then (let e7:=x.2.1.2.1[x.1.2.1.toNat]'h6.2;(cN e7 x.2.1.2.2.1 (100000:Int)).bind fun y8=>bif (!y8)then some (.inr (.inl ((false,()),())))else if h9:0 <= x.1.2.1/\x.1.2.1.toNat<x.2.1.1.length then (let jt:=x.2.1.1[x.1.2.1.toNat]'h9.2;bif (decide (jt<(0:Int)))then if gS:0 <= x.1.2.1/\x.1.2.1.toNat<x.2.1.2.1.length then (let cc:=x.2.1.2.1[x.1.2.1.toNat]'gS.2;bif (cc != (0:Int))then some (.inr (.inl ((false,()),())))else (iter wY big (((),x.1.2.1,(0:Int),()),(x.2.1,()))).bind (Sum.elim (fun CF=>some (.inr (.inl ((CF.1.1,()),())))) (Sum.elim (fun z20=>some (.inl (((),(IntKind.i64.wrap (z20.1.2.1+(1:Int))),()),(z20.2.1,())))) (fun z=>nomatch z))))else none else (iter wY big (((),x.1.2.1,(0:Int),()),(x.2.1,()))).bind (Sum.elim (fun z27=>some (.inr (.inl ((z27.1.1,()),())))) (Sum.elim (fun z28=>some (.inl (((),(IntKind.i64.wrap (z28.1.2.1+(1:Int))),()),(z28.2.1,())))) (fun z=>nomatch z))))else none)else none)else none else some (.inr (.inr (.inl ((),()))))
def Uo:bh:=bu 0 ag1 ag2 CO (fun _=>big)
theorem ag3:br Tryz.prog 90 (.block 0 (.loop (bq (aW Tryz.f164) 0))) Uo:=bA 90 [(92,.p fI)] [(2,M6),(2,M6)] ⟨fW,trivial⟩ (bH (by kernel_rfl) _ ⟨⟨_,by kernel_rfl,Um⟩,⟨_,by kernel_rfl,Um⟩,trivial⟩) fun x=>by kernel_rfl
def CP(x0:cu):Option (Bool):=(cN (x0.rows.length:Int) (1:Int) (16:Int)).bind fun y1=>bif (!y1)then some false else bif ((x0.rows.length:Int) != (x0.counts.length:Int))then some false else (cN x0.eE (0:Int) (100000:Int)).bind fun y2=>bif (!y2)then some false else (iter CO big (((),(0:Int),()),((x0.rows,x0.counts,x0.eE,()),()))).bind (Sum.elim (fun M7=>some M7.1.1) (Sum.elim (fun z30=>some true) (fun z=>nomatch z)))
def Up:aI:=aH [(true,.eP)] [(false,.bool,0)] (fun x=>CP x.1)
theorem ag4:enters Tryz.prog 164/\aG Tryz.prog 164 Up:=aJ 90 [(92,.p fI)] [(0,Uo)] Tryz.func164 ⟨fW,trivial⟩ (bH (by kernel_rfl) _ ⟨⟨_,by kernel_rfl,ag3⟩,trivial⟩) fun x=>by kernel_rfl
def CQ(x0:bf)(x1:bW):Option (Bool):=(oK x0).bind fun y1=>(cN x1.cW (0:Int) (IntKind.i64.wrap (y1-(1:Int)))).bind fun y2=>bif y2 then (cN x1.row (0:Int) (IntKind.i64.wrap (x0.rows-(1:Int)))).bind fun y3=>bif y3 then (cN x1.ck (0:Int) (IntKind.i64.wrap (x0.cV-(1:Int)))).bind fun y4=>some y4 else some false else some false
def Uq:aI:=aH [(true,.ef),(true,.Addr)] [(false,.bool,0)] (fun x=>CQ x.1 x.2.1)
theorem ag5:enters Tryz.prog 165/\aG Tryz.prog 165 Uq:=aJ 27 [(92,.p fI),(159,.p qQ)] [] Tryz.func165 ⟨fW,sO,trivial⟩ aF fun x=>by kernel_rfl
def ag6:aC:=⟨[(0,.lf (.ah .Addr 0)),(3,.az 3 0),(5,.lf (.int .i64))],[(3,.blk [.int .i64,.int .i64,.int .i64])],[]⟩
def ag7:List (Nat×aC):=[(1,⟨[(4,.lf (.int .i64))],[],[]⟩),(2,⟨[],[],[]⟩)]
abbrev Ur:=(((List bW)×Unit×Int×Unit)×((Int×Int×Int×Unit)×Unit))
def CR(x:Ur):Option (Ur⊕(((Int×Unit)×(Unit))⊕(((Unit)×(Unit))⊕Empty))):=bif (decide (x.1.2.2.1<(x.1.1.length:Int)))then if h1:0 <= x.1.2.2.1/\x.1.2.2.1.toNat<x.1.1.length then (let e2:=x.1.1[x.1.2.2.1.toNat]'h1.2;bif ((e2.cW==x.2.1.1)&&((e2.row==x.2.1.2.1)&&((e2.ck==x.2.1.2.2.1)&&true)))then some (.inr (.inl ((x.1.2.2.1,()),())))else some (.inl ((x.1.1,(),(IntKind.i64.wrap (x.1.2.2.1+(1:Int))),()),(x.2.1,()))))else none else some (.inr (.inr (.inl ((),()))))
def Us:bh:=bu 0 ag6 ag7 CR (fun _=>big)
theorem ag8:br Tryz.prog 19 (.block 0 (.loop (bq (aW Tryz.f166) 0))) Us:=bA 19 [] [] trivial aF fun x=>by kernel_rfl
def CS(x0:List bW)(x1:bW):Option (Int):=(iter CR big ((x0,(),(0:Int),()),((x1.cW,x1.row,x1.ck,()),()))).bind (Sum.elim (fun z3=>some z3.1.1) (Sum.elim (fun z4=>some (-1:Int)) (fun z=>nomatch z)))
def Ut:aI:=aH [(false,(.sl .Addr)),(true,.Addr)] [(false,.int,0)] (fun x=>CS x.1 x.2.1)
theorem ag9:enters Tryz.prog 166/\aG Tryz.prog 166 Ut:=aJ 19 [] [(0,Us)] Tryz.func166 trivial (bH (by kernel_rfl) _ ⟨⟨_,by kernel_rfl,ag8⟩,trivial⟩) fun x=>by kernel_rfl
def aha:aC:=⟨[(1,.az 1 0),(3,.lf (.int .i64)),(4,.lf (.int .i64))],[(1,.st .eR)],[]⟩
def ahb:List (Nat×aC):=[(1,⟨[(2,.lf (.bool))],[],[]⟩),(2,⟨[(1,.az 1 0)],[(1,.st .eR)],[]⟩)]
abbrev Uu:=((Unit×Int×Int×Unit)×(cB×Unit))
def GZ(x:Uu):Option (Uu⊕(((Bool×Unit)×(Unit))⊕(((Unit×Unit)×(cB×Unit))⊕Empty))):=bif (decide (x.1.2.2.1<x.1.2.1))then if h2:0 <= x.1.2.2.1/\x.1.2.2.1.toNat<x.2.1.dW.length then (let e3:=x.2.1.dW[x.1.2.2.1.toNat]'h2.2;(CP e3).bind fun y4=>bif (!y4)then some (.inr (.inl ((false,()),())))else if h5:0 <= x.1.2.2.1/\x.1.2.2.1.toNat<x.2.1.guard.length then (let e6:=x.2.1.guard[x.1.2.2.1.toNat]'h5.2;(cN e6 (3:Int) (1000:Int)).bind fun y7=>bif (!y7)then some (.inr (.inl ((false,()),())))else some (.inl (((),x.1.2.1,(IntKind.i64.wrap (x.1.2.2.1+(1:Int))),()),(x.2.1,()))))else none)else none else some (.inr (.inr (.inl (((),()),(x.2.1,())))))
def Uv:bh:=bu 0 aha ahb GZ (fun _=>big)
theorem ahc:br Tryz.prog 89 (.block 0 (.loop (bq (aW Tryz.f98) 0))) Uv:=bA 89 [(92,.p fI),(164,.p Up)] [] ⟨fW,ag4,trivial⟩ aF fun x=>by kernel_rfl
def ahd:aC:=⟨[(1,.az 1 0),(5,.lf (.int .i64))],[(1,.st .eR)],[]⟩
def ahe:List (Nat×aC):=[(1,⟨[(2,.lf (.bool))],[],[]⟩),(4,⟨[],[],[]⟩)]
abbrev Uw:=((Unit×Int×Unit)×(cB×Unit))
def G0(x:Uw):Option (Uw⊕(((Bool×Unit)×(Unit))⊕(((Unit)×(Unit))⊕Empty))):=bif (decide (x.1.2.1<(x.2.1.pending.length:Int)))then if fC:0 <= x.1.2.1/\x.1.2.1.toNat<x.2.1.pending.length then (let mb:=x.2.1.pending[x.1.2.1.toNat]'fC.2;(CQ x.2.1.config.bI mb).bind fun fk=>bif (!fk)then some (.inr (.inl ((false,()),())))else bif (mb.ck != (0:Int))then some (.inr (.inl ((false,()),())))else (CS x.2.1.pending mb).bind fun fV=>bif (fV != x.1.2.1)then some (.inr (.inl ((false,()),())))else some (.inl (((),(IntKind.i64.wrap (x.1.2.1+(1:Int))),()),(x.2.1,()))))else none else some (.inr (.inr (.inl ((),()))))
def Ux:bh:=bu 2 ahd ahe G0 (fun _=>big)
theorem ahf:br Tryz.prog 89 (.block 2 (.loop (bq (aW Tryz.f98) 2))) Ux:=bA 89 [(165,.p Uq),(166,.p Ut)] [] ⟨ag5,ag9,trivial⟩ aF fun x=>by kernel_rfl
def G1(x0:cB):Option (Bool):=(oK x0.config.bI).bind fun y1=>bif ((x0.dc.bX.length:Int) != y1)then some false else bif ((x0.dW.length:Int) != y1)then some false else bif ((x0.guard.length:Int) != y1)then some false else bif (decide ((x0.pending.length:Int) > (128:Int)))then some false else (iter GZ big (((),y1,(0:Int),()),(x0,()))).bind (Sum.elim (fun z8=>some z8.1.1) (Sum.elim (fun z9=>(iter G0 big (((),(0:Int),()),(z9.2.1,()))).bind (Sum.elim (fun jY=>some jY.1.1) (Sum.elim (fun jX=>some true) (fun z=>nomatch z)))) (fun z=>nomatch z)))
def Uy:aI:=aH [(true,.eR)] [(false,.bool,0)] (fun x=>G1 x.1)
theorem ahg:enters Tryz.prog 98/\aG Tryz.prog 98 Uy:=aJ 89 [(159,.p qQ)] [(0,Uv),(2,Ux)] Tryz.func98 ⟨sO,trivial⟩ (bH (by kernel_rfl) _ ⟨⟨_,by kernel_rfl,ahc⟩,⟨_,by kernel_rfl,ahf⟩,trivial⟩) fun x=>by kernel_rfl
def M8(x0:Int):Option (Bool):=(cN x0 (0:Int) (4294967295:Int)).bind fun y1=>some y1
def Uz:aI:=aH [(false,.int)] [(false,.bool,0)] (fun x=>M8 x.1)
theorem ahh:enters Tryz.prog 207/\aG Tryz.prog 207 Uz:=aJ 5 [(92,.p fI)] [] Tryz.func207 ⟨fW,trivial⟩ aF fun x=>by kernel_rfl
def G2(x0:Int)(x1:aS):Option (Bool):=(cN x1.id (1:Int) (100000:Int)).bind fun y1=>bif y1 then (cN x1.c9 (0:Int) (3:Int)).bind fun y2=>bif y2 then bif (decide (x1.line >= (0:Int)))then bif (decide (x1.line<x0))then (M8 x1.data).bind fun y3=>bif y3 then bif x1.write then (cN x1.at_ (0:Int) (1000000:Int)).bind fun y4=>some y4 else bif (x1.data==(0:Int))then (cN x1.at_ (0:Int) (1000000:Int)).bind fun y5=>some y5 else some false else some false else some false else some false else some false else some false
def UA:aI:=aH [(false,.int),(true,.dB)] [(false,.bool,0)] (fun x=>G2 x.1 x.2.1)
theorem ahi:enters Tryz.prog 167/\aG Tryz.prog 167 UA:=aJ 43 [(92,.p fI),(207,.p Uz)] [] Tryz.func167 ⟨fW,ahh,trivial⟩ aF fun x=>by kernel_rfl
def M9(x0:aS)(x1:aS):Option (Bool):=bif (decide (x0.at_<x1.at_))then some true else bif (x0.at_==x1.at_)then some (decide (x0.id<x1.id))else some false
def UB:aI:=aH [(true,.dB),(true,.dB)] [(false,.bool,0)] (fun x=>M9 x.1 x.2.1)
theorem ahj:enters Tryz.prog 168/\aG Tryz.prog 168 UB:=aJ 24 [] [] Tryz.func168 trivial aF fun x=>by kernel_rfl
def ahk:aC:=⟨[(0,.lf (.ah .dB 0)),(1,.lf (.int .i64)),(5,.lf (.int .i64))],[],[]⟩
def ahl:List (Nat×aC):=[(1,⟨[(4,.lf (.int .i64))],[],[]⟩),(2,⟨[],[],[]⟩)]
abbrev UC:=(((List aS)×Int×Int×Unit)×(Unit))
def CT(x:UC):Option (UC⊕(((Int×Unit)×(Unit))⊕(((Unit)×(Unit))⊕Empty))):=bif (decide (x.1.2.2.1<(x.1.1.length:Int)))then if h1:0 <= x.1.2.2.1/\x.1.2.2.1.toNat<x.1.1.length then (let e2:=x.1.1[x.1.2.2.1.toNat]'h1.2;bif (e2.id==x.1.2.1)then some (.inr (.inl ((x.1.2.2.1,()),())))else some (.inl ((x.1.1,x.1.2.1,(IntKind.i64.wrap (x.1.2.2.1+(1:Int))),()),())))else none else some (.inr (.inr (.inl ((),()))))
def UD:bh:=bu 0 ahk ahl CT (fun _=>big)
theorem ahm:br Tryz.prog 20 (.block 0 (.loop (bq (aW Tryz.f169) 0))) UD:=bA 20 [] [] trivial aF fun x=>by kernel_rfl
def CU(x0:List aS)(x1:Int):Option (Int):=(iter CT big ((x0,x1,(0:Int),()),())).bind (Sum.elim (fun z3=>some z3.1.1) (Sum.elim (fun z4=>some (-1:Int)) (fun z=>nomatch z)))
def UE:aI:=aH [(false,(.sl .dB)),(false,.int)] [(false,.int,0)] (fun x=>CU x.1 x.2.1)
theorem ahn:enters Tryz.prog 169/\aG Tryz.prog 169 UE:=aJ 20 [] [(0,UD)] Tryz.func169 trivial (bH (by kernel_rfl) _ ⟨⟨_,by kernel_rfl,ahm⟩,trivial⟩) fun x=>by kernel_rfl
def aho:aC:=⟨[(0,.lf (.int .i64)),(1,.lf (.ah .dB 0)),(5,.lf (.int .i64))],[],[]⟩
def ahp:List (Nat×aC):=[(1,⟨[(4,.lf (.bool))],[],[]⟩),(2,⟨[],[],[]⟩)]
abbrev UF:=((Int×(List aS)×Int×Unit)×(Unit))
def CV(x:UF):Option (UF⊕(((Bool×Unit)×(Unit))⊕(((Unit)×(Unit))⊕Empty))):=bif (decide (x.1.2.2.1<(x.1.2.1.length:Int)))then if h1:0 <= x.1.2.2.1/\x.1.2.2.1.toNat<x.1.2.1.length then (let e2:=x.1.2.1[x.1.2.2.1.toNat]'h1.2;(G2 x.1.1 e2).bind fun y3=>bif (!y3)then some (.inr (.inl ((false,()),())))else bif (decide (x.1.2.2.1 > (0:Int)))then if h4:0 <= (IntKind.i64.wrap (x.1.2.2.1-(1:Int)))/\(IntKind.i64.wrap (x.1.2.2.1-(1:Int))).toNat<x.1.2.1.length then (let e5:=x.1.2.1[(IntKind.i64.wrap (x.1.2.2.1-(1:Int))).toNat]'h4.2;if h6:0 <= x.1.2.2.1/\x.1.2.2.1.toNat<x.1.2.1.length then (let e7:=x.1.2.1[x.1.2.2.1.toNat]'h6.2;(M9 e5 e7).bind fun y8=>bif (!y8)then some (.inr (.inl ((false,()),())))else if h9:0 <= x.1.2.2.1/\x.1.2.2.1.toNat<x.1.2.1.length then (let jt:=x.1.2.1[x.1.2.2.1.toNat]'h9.2;(CU x.1.2.1 jt.id).bind fun fU=>bif (fU != x.1.2.2.1)then some (.inr (.inl ((false,()),())))else some (.inl ((x.1.1,x.1.2.1,(IntKind.i64.wrap (x.1.2.2.1+(1:Int))),()),())))else none)else none)else none else if jg:0 <= x.1.2.2.1/\x.1.2.2.1.toNat<x.1.2.1.length then (let sQ:=x.1.2.1[x.1.2.2.1.toNat]'jg.2;(CU x.1.2.1 sQ.id).bind fun gQ=>bif (gQ != x.1.2.2.1)then some (.inr (.inl ((false,()),())))else some (.inl ((x.1.1,x.1.2.1,(IntKind.i64.wrap (x.1.2.2.1+(1:Int))),()),())))else none)else none else some (.inr (.inr (.inl ((),()))))
def UG:bh:=bu 0 aho ahp CV (fun _=>big)
theorem ahq:br Tryz.prog 50 (.block 0 (.loop (bq (aW Tryz.f99) 0))) UG:=bA 50 [(167,.p UA),(168,.p UB),(169,.p UE)] [] ⟨ahi,ahj,ahn,trivial⟩ aF fun x=>by kernel_rfl
def G3(x0:Int)(x1:List aS):Option (Bool):=bif (decide ((x1.length:Int) > (12:Int)))then some false else (iter CV big ((x0,x1,(0:Int),()),())).bind (Sum.elim (fun jX=>some jX.1.1) (Sum.elim (fun ju=>some true) (fun z=>nomatch z)))
def UH:aI:=aH [(false,.int),(false,(.sl .dB))] [(false,.bool,0)] (fun x=>G3 x.1 x.2.1)
theorem ahr:enters Tryz.prog 99/\aG Tryz.prog 99 UH:=aJ 50 [] [(0,UG)] Tryz.func99 trivial (bH (by kernel_rfl) _ ⟨⟨_,by kernel_rfl,ahq⟩,trivial⟩) fun x=>by kernel_rfl
def G4(x0:bf)(x1:dO):Option (bf):=(CL x0 x1).bind fun y1=>bif (!y1)then some (⟨(0:Int),(0:Int),(0:Int),(0:Int)⟩:bf)else some (⟨x0.cZ,x0.aO,(IntKind.i64.wrap (x0.rows-x1.cx)),x0.cV⟩:bf)
def UI:aI:=aH [(true,.ef),(true,.iI)] [(true,.ef,0)] (fun x=>G4 x.1 x.2.1)
theorem ahs:enters Tryz.prog 101/\aG Tryz.prog 101 UI:=aJ 17 [(96,.p M4)] [] Tryz.func101 ⟨Uh,trivial⟩ aF fun x=>by kernel_rfl
def G5(x0:j9):Option (Bool):=(cN x0.state (0:Int) (2:Int)).bind fun y1=>bif y1 then (cN x0.since (0:Int) (1000000:Int)).bind fun y2=>bif y2 then (cN x0.idle (0:Int) (1000000:Int)).bind fun y3=>some y3 else some false else some false
def UJ:aI:=aH [(true,.Power)] [(false,.bool,0)] (fun x=>G5 x.1)
theorem aht:enters Tryz.prog 104/\aG Tryz.prog 104 UJ:=aJ 16 [(92,.p fI)] [] Tryz.func104 ⟨fW,trivial⟩ aF fun x=>by kernel_rfl
def Na(x0:bx):Option (Bool):=(cN x0.line (0:Int) (1023:Int)).bind fun y1=>bif y1 then bif (x0.code==(1:Int))then (cN x0.times (1:Int) (999:Int)).bind fun y2=>some y2 else bif (x0.code==(2:Int))then (cN x0.times (1:Int) (999:Int)).bind fun y3=>some y3 else some false else some false
def UK:aI:=aH [(true,.dF)] [(false,.bool,0)] (fun x=>Na x.1)
theorem ahu:enters Tryz.prog 170/\aG Tryz.prog 170 UK:=aJ 21 [(92,.p fI)] [] Tryz.func170 ⟨fW,trivial⟩ aF fun x=>by kernel_rfl
def ahv:aC:=⟨[(0,.lf (.ah .dF 0)),(1,.lf (.int .i64)),(2,.lf (.int .i64)),(7,.lf (.int .i64))],[],[]⟩
def ahw:List (Nat×aC):=[(1,⟨[(6,.lf (.int .i64))],[],[]⟩),(2,⟨[],[],[]⟩)]
abbrev UL:=(((List bx)×Int×Int×Int×Unit)×(Unit))
def CW(x:UL):Option (UL⊕(((Int×Unit)×(Unit))⊕(((Unit)×(Unit))⊕Empty))):=bif (decide (x.1.2.2.2.1<(x.1.1.length:Int)))then if h1:0 <= x.1.2.2.2.1/\x.1.2.2.2.1.toNat<x.1.1.length then (let e2:=x.1.1[x.1.2.2.2.1.toNat]'h1.2;bif (e2.line==x.1.2.1)then if h3:0 <= x.1.2.2.2.1/\x.1.2.2.2.1.toNat<x.1.1.length then (let e4:=x.1.1[x.1.2.2.2.1.toNat]'h3.2;bif (e4.code==x.1.2.2.1)then some (.inr (.inl ((x.1.2.2.2.1,()),())))else some (.inl ((x.1.1,x.1.2.1,x.1.2.2.1,(IntKind.i64.wrap (x.1.2.2.2.1+(1:Int))),()),())))else none else some (.inl ((x.1.1,x.1.2.1,x.1.2.2.1,(IntKind.i64.wrap (x.1.2.2.2.1+(1:Int))),()),())))else none else some (.inr (.inr (.inl ((),()))))
def UM:bh:=bu 0 ahv ahw CW (fun _=>big)
theorem ahx:br Tryz.prog 31 (.block 0 (.loop (bq (aW Tryz.f171) 0))) UM:=bA 31 [] [] trivial aF fun x=>by kernel_rfl
def G6(x0:List bx)(x1:Int)(x2:Int):Option (Int):=(iter CW big ((x0,x1,x2,(0:Int),()),())).bind (Sum.elim (fun z5=>some z5.1.1) (Sum.elim (fun z6=>some (-1:Int)) (fun z=>nomatch z)))
def UN:aI:=aH [(false,(.sl .dF)),(false,.int),(false,.int)] [(false,.int,0)] (fun x=>G6 x.1 x.2.1 x.2.2.1)
theorem ahy:enters Tryz.prog 171/\aG Tryz.prog 171 UN:=aJ 31 [] [(0,UM)] Tryz.func171 trivial (bH (by kernel_rfl) _ ⟨⟨_,by kernel_rfl,ahx⟩,trivial⟩) fun x=>by kernel_rfl
def ahz:aC:=⟨[(0,.lf (.ah .dF 0)),(3,.lf (.int .i64))],[],[]⟩
def ahA:List (Nat×aC):=[(1,⟨[(2,.lf (.bool))],[],[]⟩),(2,⟨[],[],[]⟩)]
abbrev UO:=(((List bx)×Int×Unit)×(Unit))
def CX(x:UO):Option (UO⊕(((Bool×Unit)×(Unit))⊕(((Unit)×(Unit))⊕Empty))):=bif (decide (x.1.2.1<(x.1.1.length:Int)))then if h1:0 <= x.1.2.1/\x.1.2.1.toNat<x.1.1.length then (let e2:=x.1.1[x.1.2.1.toNat]'h1.2;(Na e2).bind fun y3=>bif (!y3)then some (.inr (.inl ((false,()),())))else if h4:0 <= x.1.2.1/\x.1.2.1.toNat<x.1.1.length then (let e5:=x.1.1[x.1.2.1.toNat]'h4.2;if h6:0 <= x.1.2.1/\x.1.2.1.toNat<x.1.1.length then (let e7:=x.1.1[x.1.2.1.toNat]'h6.2;(G6 x.1.1 e5.line e7.code).bind fun y8=>bif (y8 != x.1.2.1)then some (.inr (.inl ((false,()),())))else some (.inl ((x.1.1,(IntKind.i64.wrap (x.1.2.1+(1:Int))),()),())))else none)else none)else none else some (.inr (.inr (.inl ((),()))))
def UP:bh:=bu 0 ahz ahA CX (fun _=>big)
theorem ahB:br Tryz.prog 35 (.block 0 (.loop (bq (aW Tryz.f105) 0))) UP:=bA 35 [(170,.p UK),(171,.p UN)] [] ⟨ahu,ahy,trivial⟩ aF fun x=>by kernel_rfl
def G7(x0:List bx):Option (Bool):=bif (decide ((x0.length:Int) > (6:Int)))then some false else (iter CX big ((x0,(0:Int),()),())).bind (Sum.elim (fun z9=>some z9.1.1) (Sum.elim (fun eI=>some true) (fun z=>nomatch z)))
def UQ:aI:=aH [(false,(.sl .dF))] [(false,.bool,0)] (fun x=>G7 x.1)
theorem ahC:enters Tryz.prog 105/\aG Tryz.prog 105 UQ:=aJ 35 [] [(0,UP)] Tryz.func105 trivial (bH (by kernel_rfl) _ ⟨⟨_,by kernel_rfl,ahB⟩,trivial⟩) fun x=>by kernel_rfl
def G8(x0:cB):Option (Bool):=(zD x0.config x0.box.eO).bind fun y1=>bif (!y1)then some false else (zD x0.config x0.box.next).bind fun y2=>bif (!y2)then some false else (cN x0.now (0:Int) (1000000:Int)).bind fun y3=>bif (!y3)then some false else (GR x0.config.bI x0.gy).bind fun y4=>bif (!y4)then some false else (GU x0.config.bI x0.ready).bind fun y5=>bif (!y5)then some false else (GW x0.config.bI x0.array).bind fun y6=>bif (!y6)then some false else (CL x0.config.bI x0.spare).bind fun y7=>bif (!y7)then some false else bif (x0.spare.cx != x0.config.cx)then some false else (GY x0.dc).bind fun y8=>bif (!y8)then some false else (G1 x0).bind fun y9=>bif (!y9)then some false else (G4 x0.config.bI x0.spare).bind fun iP=>(zE iP).bind fun fU=>(G3 fU x0.queue).bind fun fk=>bif (!fk)then some false else (CA x0.shares).bind fun fV=>bif (!fV)then some false else bif ((x0.shares.length:Int) != (4:Int))then some false else (Cy x0.drain).bind fun gQ=>bif (!gQ)then some false else (G5 x0.bM).bind fun sU=>bif (!sU)then some false else bif (x0.bM.state != x0.gy.bM)then some false else bif (decide (x0.bM.since > x0.now))then some false else (cN x0.iG.every (1:Int) (100000:Int)).bind fun pX=>bif pX then (cN x0.iG.wait (1:Int) x0.iG.every).bind fun pY=>bif pY then (zE x0.config.bI).bind fun qR=>(cN x0.iG.next (0:Int) (IntKind.i64.wrap (qR-(1:Int)))).bind fun CY=>bif CY then (G7 x0.errors).bind fun Nb=>bif Nb then bif (decide ((x0.trace.length:Int) <= (2000:Int)))then some (decide ((x0.iH.length:Int) <= (400:Int)))else some false else some false else some false else some false else some false
def UR:aI:=aH [(true,.eR)] [(false,.bool,0)] (fun x=>G8 x.1)
theorem ahD:enters Tryz.prog 27/\aG Tryz.prog 27 UR:=aJ 161 [(91,.p TS),(92,.p fI),(93,.p TV),(94,.p T1),(95,.p Ub),(96,.p M4),(97,.p Uk),(98,.p Uy),(99,.p UH),(100,.p M1),(101,.p UI),(102,.p MZ),(103,.p MY),(104,.p UJ),(105,.p UQ)] [] Tryz.func27 ⟨agp,fW,agt,agB,agN,Uh,agY,ahg,ahr,T2,ahs,TL,TI,aht,ahC,trivial⟩ aF fun x=>by kernel_rfl
def CZ(x0:Int):Option (Int):=bif (decide (x0<(10:Int)))then some (IntKind.u8.wrap (IntKind.i64.wrap ((48:Int)+x0)))else some (IntKind.u8.wrap (IntKind.i64.wrap ((IntKind.i64.wrap ((97:Int)+x0))-(10:Int))))
def US:aI:=aH [(false,.int)] [(false,.u8,0)] (fun x=>CZ x.1)
theorem ahE:enters Tryz.prog 106/\aG Tryz.prog 106 US:=aJ 12 [] [] Tryz.func106 trivial aF fun x=>by kernel_rfl
def ahF:aC:=⟨[(0,.lf (.int .i64)),(3,.lf (.bool)),(4,.lf (.str))],[],[]⟩
def ahG:List (Nat×aC):=[(2,⟨[(3,.lf (.bool)),(4,.lf (.str))],[],[]⟩)]
abbrev UT:=((Int×Bool×ByteArray×Unit)×(Unit))
def Nc(x:UT):Option (UT⊕(((Bool×ByteArray×Unit)×(Unit))⊕Empty)):=bif (x.1.1 != (0:Int))then bif (decide ((x.1.1.tmod (10:Int))<(0:Int)))then (CZ (IntKind.i64.wrap (0-(x.1.1.tmod (10:Int))))).bind fun y1=>bif aV ((strOfNums ([y1]:List Int)).size+x.1.2.2.1.size)then some (.inl (((IntKind.i64.wrap (x.1.1.tdiv (10:Int))),x.1.2.1,((strOfNums ([y1]:List Int))++x.1.2.2.1),()),()))else none else (CZ (x.1.1.tmod (10:Int))).bind fun y2=>bif aV ((strOfNums ([y2]:List Int)).size+x.1.2.2.1.size)then some (.inl (((IntKind.i64.wrap (x.1.1.tdiv (10:Int))),x.1.2.1,((strOfNums ([y2]:List Int))++x.1.2.2.1),()),()))else none else some (.inr (.inl ((x.1.2.1,x.1.2.2.1,()),())))
def UU:bh:=bu 0 ahF ahG Nc (fun _=>big)
theorem ahH:br Tryz.prog 30 (.block 0 (.loop (bq (aW Tryz.f28) 0))) UU:=bA 30 [(106,.p US)] [] ⟨ahE,trivial⟩ aF fun x=>by kernel_rfl
def jv(x0:Int):Option (ByteArray):=bif (x0==(0:Int))then some (ByteArray.mk #[48])else (iter Nc big ((x0,(decide (x0<(0:Int))),(ByteArray.mk #[]),()),())).bind (Sum.elim (fun z3=>bif z3.1.1 then bif aV ((ByteArray.mk #[45]).size+z3.1.2.1.size)then some ((ByteArray.mk #[45])++z3.1.2.1)else none else some z3.1.2.1) (fun z=>nomatch z))
def C0:aI:=aH [(false,.int)] [(false,.str,0)] (fun x=>jv x.1)
theorem G9:enters Tryz.prog 28/\aG Tryz.prog 28 C0:=aJ 30 [] [(0,UU)] Tryz.func28 trivial (bH (by kernel_rfl) _ ⟨⟨_,by kernel_rfl,ahH⟩,trivial⟩) fun x=>by kernel_rfl
def ahI:aC:=⟨[(1,.az 1 0),(3,.lf (.str)),(4,.lf (.int .i64))],[(1,.blk [.ah .dR 0,.int .i64])],[]⟩
def ahJ:List (Nat×aC):=[(2,⟨[(1,.az 1 0),(3,.lf (.str))],[(1,.blk [.ah .dR 0,.int .i64])],[]⟩)]
abbrev UW:=((Unit×ByteArray×Int×Unit)×(((List cq)×Int×Unit)×Unit))
def Nd(x:UW):Option (UW⊕(((Unit×ByteArray×Unit)×(((List cq)×Int×Unit)×Unit))⊕Empty)):=bif (decide (x.1.2.2.1<(x.2.1.1.length:Int)))then if h2:0 <= x.1.2.2.1/\x.1.2.2.1.toNat<x.2.1.1.length then (let e3:=x.2.1.1[x.1.2.2.1.toNat]'h2.2;bif e3.open_ then if h4:0 <= x.1.2.2.1/\x.1.2.2.1.toNat<x.2.1.1.length then (let e5:=x.2.1.1[x.1.2.2.1.toNat]'h4.2;(jv e5.row).bind fun y6=>bif aV (x.1.2.1.size+y6.size)then bif aV ((x.1.2.1++y6).size+(ByteArray.mk #[32]).size)then some (.inl (((),((x.1.2.1++y6)++(ByteArray.mk #[32])),(IntKind.i64.wrap (x.1.2.2.1+(1:Int))),()),(x.2.1,())))else none else none)else none else bif aV (x.1.2.1.size+(ByteArray.mk #[45,32]).size)then some (.inl (((),(x.1.2.1++(ByteArray.mk #[45,32])),(IntKind.i64.wrap (x.1.2.2.1+(1:Int))),()),(x.2.1,())))else none)else none else some (.inr (.inl (((),x.1.2.1,()),(x.2.1,()))))
def UX:bh:=bu 0 ahI ahJ Nd (fun _=>big)
theorem ahK:br Tryz.prog 41 (.block 0 (.loop (bq (aW Tryz.f29) 0))) UX:=bA 41 [(28,.p C0)] [] ⟨G9,trivial⟩ aF fun x=>by kernel_rfl
def C1(x0:eN):Option (ByteArray):=(cN x0.bM (0:Int) (2:Int)).bind fun y1=>bif (!y1)then some (ByteArray.mk #[])else (iter Nd big (((),(ByteArray.mk #[]),(0:Int),()),((x0.aO,x0.bM,()),()))).bind (Sum.elim (fun z7=>if h8:0 <= z7.2.1.2.1/\z7.2.1.2.1.toNat<([(ByteArray.mk #[97,99,116,105,118,101]),(ByteArray.mk #[100,111,119,110]),(ByteArray.mk #[115,108,101,101,112])]:List ByteArray).length then if h9:z7.2.1.2.1.toNat<([(ByteArray.mk #[97,99,116,105,118,101]),(ByteArray.mk #[100,111,119,110]),(ByteArray.mk #[115,108,101,101,112])]:List ByteArray).length then (let jt:=([(ByteArray.mk #[97,99,116,105,118,101]),(ByteArray.mk #[100,111,119,110]),(ByteArray.mk #[115,108,101,101,112])]:List ByteArray)[z7.2.1.2.1.toNat]'h9;bif aV (z7.1.2.1.size+jt.size)then some (z7.1.2.1++jt)else none)else none else none) (fun z=>nomatch z))
def UY:aI:=aH [(true,.jf)] [(false,.str,0)] (fun x=>C1 x.1)
theorem ahL:enters Tryz.prog 29/\aG Tryz.prog 29 UY:=aJ 41 [(92,.p fI)] [(0,UX)] Tryz.func29 ⟨fW,trivial⟩ (bH (by kernel_rfl) _ ⟨⟨_,by kernel_rfl,ahK⟩,trivial⟩) fun x=>by kernel_rfl
def ahM:aC:=⟨[(0,.lf (.ah .dF 0)),(3,.lf (.own 9)),(4,.lf (.int .i64))],[(9,.sl .u8 2)],[]⟩
def ahN:List (Nat×aC):=[(2,⟨[(3,.lf (.own 9))],[(9,.sl .u8 2)],[]⟩)]
abbrev UZ:=(((List bx)×Unit×Int×Unit)×((List Int)×Unit))
def Nf(x:UZ):Option (UZ⊕(((Unit×Unit)×((List Int)×Unit))⊕Empty)):=bif (decide (x.1.2.2.1<(x.1.1.length:Int)))then bif (decide (x.1.2.2.1 > (0:Int)))then bif aV (x.2.1.length+([(32:Int)]:List Int).length)then if h1:0 <= x.1.2.2.1/\x.1.2.2.1.toNat<x.1.1.length then (let e2:=x.1.1[x.1.2.2.1.toNat]'h1.2;bif (e2.code==(1:Int))then if h3:0 <= x.1.2.2.1/\x.1.2.2.1.toNat<x.1.1.length then (let e4:=x.1.1[x.1.2.2.1.toNat]'h3.2;if h5:0 <= x.1.2.2.1/\x.1.2.2.1.toNat<x.1.1.length then (let e6:=x.1.1[x.1.2.2.1.toNat]'h5.2;(jv e4.line).bind fun y7=>bif aV (y7.size+(ByteArray.mk #[58]).size)then bif aV ((y7++(ByteArray.mk #[58])).size+(ByteArray.mk #[102,105,120,101,100]).size)then bif aV (((y7++(ByteArray.mk #[58]))++(ByteArray.mk #[102,105,120,101,100])).size+(ByteArray.mk #[120]).size)then (jv e6.times).bind fun y8=>bif aV ((((y7++(ByteArray.mk #[58]))++(ByteArray.mk #[102,105,120,101,100]))++(ByteArray.mk #[120])).size+y8.size)then bif aV ((x.2.1++([(32:Int)]:List Int)).length+(jb ((((y7++(ByteArray.mk #[58]))++(ByteArray.mk #[102,105,120,101,100]))++(ByteArray.mk #[120]))++y8)).length)then some (.inl ((x.1.1,(),(IntKind.i64.wrap (x.1.2.2.1+(1:Int))),()),(((x.2.1++([(32:Int)]:List Int))++(jb ((((y7++(ByteArray.mk #[58]))++(ByteArray.mk #[102,105,120,101,100]))++(ByteArray.mk #[120]))++y8))),())))else none else none else none else none else none)else none)else none else if h9:0 <= x.1.2.2.1/\x.1.2.2.1.toNat<x.1.1.length then (let jt:=x.1.1[x.1.2.2.1.toNat]'h9.2;if gS:0 <= x.1.2.2.1/\x.1.2.2.1.toNat<x.1.1.length then (let cc:=x.1.1[x.1.2.2.1.toNat]'gS.2;(jv jt.line).bind fun fV=>bif aV (fV.size+(ByteArray.mk #[58]).size)then bif aV ((fV++(ByteArray.mk #[58])).size+(ByteArray.mk #[108,111,115,116]).size)then bif aV (((fV++(ByteArray.mk #[58]))++(ByteArray.mk #[108,111,115,116])).size+(ByteArray.mk #[120]).size)then (jv cc.times).bind fun gQ=>bif aV ((((fV++(ByteArray.mk #[58]))++(ByteArray.mk #[108,111,115,116]))++(ByteArray.mk #[120])).size+gQ.size)then bif aV ((x.2.1++([(32:Int)]:List Int)).length+(jb ((((fV++(ByteArray.mk #[58]))++(ByteArray.mk #[108,111,115,116]))++(ByteArray.mk #[120]))++gQ)).length)then some (.inl ((x.1.1,(),(IntKind.i64.wrap (x.1.2.2.1+(1:Int))),()),(((x.2.1++([(32:Int)]:List Int))++(jb ((((fV++(ByteArray.mk #[58]))++(ByteArray.mk #[108,111,115,116]))++(ByteArray.mk #[120]))++gQ))),())))else none else none else none else none else none)else none)else none)else none else none else if nB:0 <= x.1.2.2.1/\x.1.2.2.1.toNat<x.1.1.length then (let CN:=x.1.1[x.1.2.2.1.toNat]'nB.2;bif (CN.code==(1:Int))then if nD:0 <= x.1.2.2.1/\x.1.2.2.1.toNat<x.1.1.length then (let sS:=x.1.1[x.1.2.2.1.toNat]'nD.2;if vw:0 <= x.1.2.2.1/\x.1.2.2.1.toNat<x.1.1.length then (let e20:=x.1.1[x.1.2.2.1.toNat]'vw.2;(jv sS.line).bind fun uY=>bif aV (uY.size+(ByteArray.mk #[58]).size)then bif aV ((uY++(ByteArray.mk #[58])).size+(ByteArray.mk #[102,105,120,101,100]).size)then bif aV (((uY++(ByteArray.mk #[58]))++(ByteArray.mk #[102,105,120,101,100])).size+(ByteArray.mk #[120]).size)then (jv e20.times).bind fun C2=>bif aV ((((uY++(ByteArray.mk #[58]))++(ByteArray.mk #[102,105,120,101,100]))++(ByteArray.mk #[120])).size+C2.size)then bif aV (x.2.1.length+(jb ((((uY++(ByteArray.mk #[58]))++(ByteArray.mk #[102,105,120,101,100]))++(ByteArray.mk #[120]))++C2)).length)then some (.inl ((x.1.1,(),(IntKind.i64.wrap (x.1.2.2.1+(1:Int))),()),((x.2.1++(jb ((((uY++(ByteArray.mk #[58]))++(ByteArray.mk #[102,105,120,101,100]))++(ByteArray.mk #[120]))++C2))),())))else none else none else none else none else none)else none)else none else if AT:0 <= x.1.2.2.1/\x.1.2.2.1.toNat<x.1.1.length then (let e24:=x.1.1[x.1.2.2.1.toNat]'AT.2;if AU:0 <= x.1.2.2.1/\x.1.2.2.1.toNat<x.1.1.length then (let e26:=x.1.1[x.1.2.2.1.toNat]'AU.2;(jv e24.line).bind fun uZ=>bif aV (uZ.size+(ByteArray.mk #[58]).size)then bif aV ((uZ++(ByteArray.mk #[58])).size+(ByteArray.mk #[108,111,115,116]).size)then bif aV (((uZ++(ByteArray.mk #[58]))++(ByteArray.mk #[108,111,115,116])).size+(ByteArray.mk #[120]).size)then (jv e26.times).bind fun u5=>bif aV ((((uZ++(ByteArray.mk #[58]))++(ByteArray.mk #[108,111,115,116]))++(ByteArray.mk #[120])).size+u5.size)then bif aV (x.2.1.length+(jb ((((uZ++(ByteArray.mk #[58]))++(ByteArray.mk #[108,111,115,116]))++(ByteArray.mk #[120]))++u5)).length)then some (.inl ((x.1.1,(),(IntKind.i64.wrap (x.1.2.2.1+(1:Int))),()),((x.2.1++(jb ((((uZ++(ByteArray.mk #[58]))++(ByteArray.mk #[108,111,115,116]))++(ByteArray.mk #[120]))++u5))),())))else none else none else none else none else none)else none)else none)else none else some (.inr (.inl (((),()),(x.2.1,()))))
def U0:bh:=bu 0 ahM ahN Nf (fun _=>big)
theorem ahO:br Tryz.prog 48 (.block 0 (.loop (bq (aW Tryz.f30) 0))) U0:=bA 48 [(28,.p C0)] [] ⟨G9,trivial⟩ aF fun x=>by kernel_rfl
def C3(x0:List bx):Option (ByteArray):=bif ((x0.length:Int)==(0:Int))then some (ByteArray.mk #[110,111,110,101])else (iter Nf big ((x0,(),(0:Int),()),(([]:List Int),()))).bind (Sum.elim (fun M7=>some (strOfNums M7.2.1)) (fun z=>nomatch z))
def U1:aI:=aH [(false,(.sl .dF))] [(false,.str,0)] (fun x=>C3 x.1)
theorem ahP:enters Tryz.prog 30/\aG Tryz.prog 30 U1:=aJ 48 [] [(0,U0)] Tryz.func30 trivial (bH (by kernel_rfl) _ ⟨⟨_,by kernel_rfl,ahO⟩,trivial⟩) fun x=>by kernel_rfl
def ahQ:aC:=⟨[(1,.az 1 0),(3,.lf (.str)),(4,.lf (.int .i64))],[(1,.st .eR)],[]⟩
def ahR:List (Nat×aC):=[(2,⟨[(1,.az 1 0),(3,.lf (.str))],[(1,.st .eR)],[]⟩)]
abbrev U2:=((Unit×ByteArray×Int×Unit)×(cB×Unit))
def zF(x:U2):Option (U2⊕(((Unit×ByteArray×Unit)×(cB×Unit))⊕Empty)):=bif (decide (x.1.2.2.1<(x.2.1.dc.bX.length:Int)))then bif aV (x.1.2.1.size+(ByteArray.mk #[32]).size)then if h2:0 <= x.1.2.2.1/\x.1.2.2.1.toNat<x.2.1.dc.bX.length then (let e3:=x.2.1.dc.bX[x.1.2.2.1.toNat]'h2.2;(jv e3).bind fun y4=>bif aV ((x.1.2.1++(ByteArray.mk #[32])).size+y4.size)then some (.inl (((),((x.1.2.1++(ByteArray.mk #[32]))++y4),(IntKind.i64.wrap (x.1.2.2.1+(1:Int))),()),(x.2.1,())))else none)else none else none else some (.inr (.inl (((),x.1.2.1,()),(x.2.1,()))))
def U3:bh:=bu 0 ahQ ahR zF (fun _=>big)
theorem ahS:br Tryz.prog 63 (.block 0 (.loop (bq (aW Tryz.f5) 0))) U3:=bA 63 [(28,.p C0)] [] ⟨G9,trivial⟩ aF fun x=>by kernel_rfl
def He(x0:cB):Option ((List ByteArray)):=(G8 x0).bind fun y1=>bif (!y1)then some ([]:List ByteArray)else (iter zF big (((),(ByteArray.mk #[100,101,98,116,115]),(0:Int),()),(x0,()))).bind (Sum.elim (fun z5=>(jv z5.2.1.now).bind fun y6=>bif aV ((ByteArray.mk #[110,111,119,32]).size+y6.size)then (C1 z5.2.1.gy).bind fun y7=>bif aV ((ByteArray.mk #[114,97,110,107,32]).size+y7.size)then (jv (z5.2.1.queue.length:Int)).bind fun y8=>bif aV ((ByteArray.mk #[113,117,101,117,101,32]).size+y8.size)then bif aV (((ByteArray.mk #[113,117,101,117,101,32])++y8).size+(ByteArray.mk #[32,112,101,110,100,105,110,103,32]).size)then (jv (z5.2.1.pending.length:Int)).bind fun y9=>bif aV ((((ByteArray.mk #[113,117,101,117,101,32])++y8)++(ByteArray.mk #[32,112,101,110,100,105,110,103,32])).size+y9.size)then (jv (z5.2.1.trace.length:Int)).bind fun iP=>bif aV ((ByteArray.mk #[99,111,109,109,97,110,100,115,32]).size+iP.size)then bif aV (((ByteArray.mk #[99,111,109,109,97,110,100,115,32])++iP).size+(ByteArray.mk #[32,114,101,112,108,105,101,115,32]).size)then (jv (z5.2.1.iH.length:Int)).bind fun fU=>bif aV ((((ByteArray.mk #[99,111,109,109,97,110,100,115,32])++iP)++(ByteArray.mk #[32,114,101,112,108,105,101,115,32])).size+fU.size)then (C3 z5.2.1.errors).bind fun fk=>bif aV ((ByteArray.mk #[101,114,114,111,114,115,32]).size+fk.size)then some ([((ByteArray.mk #[110,111,119,32])++y6),((ByteArray.mk #[114,97,110,107,32])++y7),((((ByteArray.mk #[113,117,101,117,101,32])++y8)++(ByteArray.mk #[32,112,101,110,100,105,110,103,32]))++y9),z5.1.2.1,((((ByteArray.mk #[99,111,109,109,97,110,100,115,32])++iP)++(ByteArray.mk #[32,114,101,112,108,105,101,115,32]))++fU),((ByteArray.mk #[101,114,114,111,114,115,32])++fk)]:List ByteArray)else none else none else none else none else none else none else none else none else none) (fun z=>nomatch z))
def U4:aI:=aH [(true,.eR)] [(false,(.sl .str),2)] (fun x=>He x.1)
theorem ahT:enters Tryz.prog 5/\aG Tryz.prog 5 U4:=aJ 63 [(27,.p UR),(28,.p C0),(29,.p UY),(30,.p U1)] [(0,U3)] Tryz.func5 ⟨ahD,G9,ahL,ahP,trivial⟩ (bH (by kernel_rfl) _ ⟨⟨_,by kernel_rfl,ahS⟩,trivial⟩) fun x=>by kernel_rfl
def Hf(x0:bf):Option (bf):=some x0
def U5:aI:=aH [(true,.ef)] [(true,.ef,0)] (fun x=>Hf x.1)
theorem ahU:enters Tryz.prog 107/\aG Tryz.prog 107 U5:=aJ 17 [] [] Tryz.func107 trivial aF fun x=>by kernel_rfl
def Hg(x0:fo):Option (fo):=some x0
def U6:aI:=aH [(true,.hD)] [(true,.hD,0)] (fun x=>Hg x.1)
theorem ahV:enters Tryz.prog 108/\aG Tryz.prog 108 U6:=aJ 56 [] [] Tryz.func108 trivial aF fun x=>by kernel_rfl
def Hh(x0:kN):Option (kN):=some x0
def U7:aI:=aH [(true,.lD)] [(true,.lD,0)] (fun x=>Hh x.1)
theorem ahW:enters Tryz.prog 109/\aG Tryz.prog 109 U7:=aJ 11 [] [] Tryz.func109 trivial aF fun x=>by kernel_rfl
def Hi(x0:oe):Option (oe):=some x0
def U8:aI:=aH [(true,.nx)] [(true,.nx,0)] (fun x=>Hi x.1)
theorem ahX:enters Tryz.prog 110/\aG Tryz.prog 110 U8:=aJ 11 [] [] Tryz.func110 trivial aF fun x=>by kernel_rfl
def Hj(x0:gu):Option (gu):=(Hf x0.bI).bind fun y1=>(Hg x0.cr).bind fun y2=>(Hh x0.mapping).bind fun y3=>(Hi x0.gZ).bind fun y4=>some (⟨y1,y2,y3,x0.cx,x0.interval,x0.mm,y4⟩:gu)
def U9:aI:=aH [(true,.Config)] [(true,.Config,0)] (fun x=>Hj x.1)
theorem ahY:enters Tryz.prog 31/\aG Tryz.prog 31 U9:=aJ 30 [(107,.p U5),(108,.p U6),(109,.p U7),(110,.p U8)] [] Tryz.func31 ⟨ahU,ahV,ahW,ahX,trivial⟩ aF fun x=>by kernel_rfl
def ahZ:aC:=⟨[(0,.lf (.ah .int 0)),(3,.lf (.own 7)),(4,.lf (.int .i64))],[(7,.sl .int 2)],[]⟩
def ah0:List (Nat×aC):=[(2,⟨[(3,.lf (.own 7))],[(7,.sl .int 2)],[]⟩)]
abbrev Va:=(((List Int)×Unit×Int×Unit)×((List Int)×Unit))
def Vb(x:Va):Option (Va⊕(((Unit×Unit)×((List Int)×Unit))⊕Empty)):=bif (decide (x.1.2.2.1<(x.1.1.length:Int)))then if h1:0 <= x.1.2.2.1/\x.1.2.2.1.toNat<x.1.1.length then (let e2:=x.1.1[x.1.2.2.1.toNat]'h1.2;if h3:0 <= x.1.2.2.1/\x.1.2.2.1.toNat<x.2.1.length then if h4:x.1.2.2.1.toNat<x.2.1.length then (let e5:=x.2.1[x.1.2.2.1.toNat]'h4;some (.inl ((x.1.1,(),(IntKind.i64.wrap (x.1.2.2.1+(1:Int))),()),((x.2.1.set x.1.2.2.1.toNat e2),()))))else none else none)else none else some (.inr (.inl (((),()),(x.2.1,()))))
def Vc:bh:=bu 0 ahZ ah0 Vb (fun _=>big)
theorem ah1:br Tryz.prog 22 (.block 0 (.loop (bq (aW Tryz.f39) 0))) Vc:=bA 22 [] [] trivial aF fun x=>by kernel_rfl
def nq(x0:List Int):Option ((List Int)):=if 0 <= (x0.length:Int)/\(x0.length:Int) <= (x0.length:Int)/\(x0.length:Int)<1073741824 then (iter Vb big ((x0,(),(0:Int),()),((List.replicate (x0.length:Int).toNat (0:Int)),()))).bind (Sum.elim (fun z6=>some z6.2.1) (fun z=>nomatch z))else none
def sV:aI:=aH [(false,(.sl .int))] [(false,(.sl .int),2)] (fun x=>nq x.1)
theorem u6:enters Tryz.prog 39/\aG Tryz.prog 39 sV:=aJ 22 [] [(0,Vc)] Tryz.func39 trivial (bH (by kernel_rfl) _ ⟨⟨_,by kernel_rfl,ah1⟩,trivial⟩) fun x=>by kernel_rfl
def Hl(x0:ke):Option (ke):=some x0
def Vd:aI:=aH [(true,.lF)] [(true,.lF,0)] (fun x=>Hl x.1)
theorem ah2:enters Tryz.prog 172/\aG Tryz.prog 172 Vd:=aJ 11 [] [] Tryz.func172 trivial aF fun x=>by kernel_rfl
def C4(x0:fB):Option (fB):=(nq x0.weights).bind fun y1=>(Hl x0.gY).bind fun y2=>some (⟨x0.kf,x0.cap,x0.gX,x0.low,x0.high,y1,y2⟩:fB)
def Ve:aI:=aH [(true,.jz)] [(true,.jz,2)] (fun x=>C4 x.1)
theorem ah3:enters Tryz.prog 111/\aG Tryz.prog 111 Ve:=aJ 28 [(39,.p sV),(172,.p Vd)] [] Tryz.func111 ⟨u6,ah2,trivial⟩ aF fun x=>by kernel_rfl
def Ho(x0:kO):Option (kO):=(C4 x0.eO).bind fun y1=>(C4 x0.next).bind fun y2=>some (⟨y1,y2,x0.waits⟩:kO)
def Vf:aI:=aH [(true,.mo)] [(true,.mo,2)] (fun x=>Ho x.1)
theorem ah4:enters Tryz.prog 32/\aG Tryz.prog 32 Vf:=aJ 16 [(111,.p Ve)] [] Tryz.func32 ⟨ah3,trivial⟩ aF fun x=>by kernel_rfl
def C5(x0:cq):Option (cq):=some x0
def Vg:aI:=aH [(true,.dR)] [(true,.dR,0)] (fun x=>C5 x.1)
theorem ah5:enters Tryz.prog 173/\aG Tryz.prog 173 Vg:=aJ 11 [] [] Tryz.func173 trivial aF fun x=>by kernel_rfl
def ah6:aC:=⟨[(0,.lf (.ah .dR 0)),(3,.lf (.own 7)),(4,.lf (.int .i64))],[(7,.sl .dR 2)],[]⟩
def ah7:List (Nat×aC):=[(2,⟨[(3,.lf (.own 7))],[(7,.sl .dR 2)],[]⟩)]
abbrev Vh:=(((List cq)×Unit×Int×Unit)×((List cq)×Unit))
def Vi(x:Vh):Option (Vh⊕(((Unit×Unit)×((List cq)×Unit))⊕Empty)):=bif (decide (x.1.2.2.1<(x.1.1.length:Int)))then if h1:0 <= x.1.2.2.1/\x.1.2.2.1.toNat<x.1.1.length then (let e2:=x.1.1[x.1.2.2.1.toNat]'h1.2;(C5 e2).bind fun y3=>if h4:0 <= x.1.2.2.1/\x.1.2.2.1.toNat<x.2.1.length then if h5:x.1.2.2.1.toNat<x.2.1.length then (let e6:=x.2.1[x.1.2.2.1.toNat]'h5;some (.inl ((x.1.1,(),(IntKind.i64.wrap (x.1.2.2.1+(1:Int))),()),((x.2.1.set x.1.2.2.1.toNat y3),()))))else none else none)else none else some (.inr (.inl (((),()),(x.2.1,()))))
def Vj:bh:=bu 0 ah6 ah7 Vi (fun _=>big)
theorem ah8:br Tryz.prog 23 (.block 0 (.loop (bq (aW Tryz.f112) 0))) Vj:=bA 23 [(173,.p Vg)] [] ⟨ah5,trivial⟩ aF fun x=>by kernel_rfl
def Hp(x0:List cq):Option ((List cq)):=if 0 <= (x0.length:Int)/\(x0.length:Int) <= (x0.length:Int)/\(x0.length:Int)<1073741824 then (iter Vi big ((x0,(),(0:Int),()),((List.replicate (x0.length:Int).toNat (⟨false,(0:Int)⟩:cq)),()))).bind (Sum.elim (fun z7=>some z7.2.1) (fun z=>nomatch z))else none
def Vk:aI:=aH [(false,(.sl .dR))] [(false,(.sl .dR),2)] (fun x=>Hp x.1)
theorem ah9:enters Tryz.prog 112/\aG Tryz.prog 112 Vk:=aJ 23 [] [(0,Vj)] Tryz.func112 trivial (bH (by kernel_rfl) _ ⟨⟨_,by kernel_rfl,ah8⟩,trivial⟩) fun x=>by kernel_rfl
def Hq(x0:eN):Option (eN):=(Hp x0.aO).bind fun y1=>some (⟨y1,x0.bM⟩:eN)
def Vl:aI:=aH [(true,.jf)] [(true,.jf,2)] (fun x=>Hq x.1)
theorem aia:enters Tryz.prog 33/\aG Tryz.prog 33 Vl:=aJ 12 [(112,.p Vk)] [] Tryz.func33 ⟨ah9,trivial⟩ aF fun x=>by kernel_rfl
def Hr(x0:iD):Option (iD):=(nq x0.last).bind fun y1=>(nq x0.dA).bind fun y2=>some (⟨y1,y2⟩:iD)
def Vm:aI:=aH [(true,.kP)] [(true,.kP,2)] (fun x=>Hr x.1)
theorem aib:enters Tryz.prog 34/\aG Tryz.prog 34 Vm:=aJ 13 [(39,.p sV)] [] Tryz.func34 ⟨u6,trivial⟩ aF fun x=>by kernel_rfl
def C6(x0:cO):Option (cO):=(nq x0.symbols).bind fun y1=>some (⟨y1,x0.qd⟩:cO)
def Vn:aI:=aH [(true,.Cell)] [(true,.Cell,2)] (fun x=>C6 x.1)
theorem aic:enters Tryz.prog 174/\aG Tryz.prog 174 Vn:=aJ 12 [(39,.p sV)] [] Tryz.func174 ⟨u6,trivial⟩ aF fun x=>by kernel_rfl
end Go.Proofs.YtmffpkippmkjbaaGreatDoor
