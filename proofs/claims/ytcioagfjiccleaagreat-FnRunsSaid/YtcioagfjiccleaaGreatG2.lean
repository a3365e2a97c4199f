/-
  Functions of the program as plain functions of contents, and that the code computes them. Nothing here is a claim.
-/
import Derived.Test.YtcioagfjiccleaaGreatVZ
import Derived.Test.YtcioagfjiccleaaGreatRows
import Derived.Test.YtcioagfjiccleaaGreatG1
namespace Go.Proofs.YtcioagfjiccleaaGreat
open Go.RowKit
set_option linter.unusedVariables false
set_option maxRecDepth 100000
abbrev abR:=((ak×ak×(af gy)×Int×Int×ak)×((Int×Int×Int×Int×ak)×((af gy)×Int×ak)×ak))
def JI(x:abR):aj (abR⊕(((Bool×ak)×(ak))⊕(((ak×ak)×(((af gy)×Int×ak)×ak))⊕Empty))):=bif x.1.2.2.2.2.1<x.1.2.2.2.1 then xI x.1.2.2.1 x.1.2.2.2.2.1 λe5=>(cx e5.row 0 (W6 (x.2.1.2.2.1-1))).bind λy6=>bif (!y6)then aH ((false,()),())else bif (!e5.open_)then bif (e5.row != 0)then aH ((false,()),())else xG (((),(),x.1.2.2.1,x.1.2.2.2.1,(W6 (x.1.2.2.2.2.1+1)),()),(x.2.1,x.2.2.1,()))else xG (((),(),x.1.2.2.1,x.1.2.2.2.1,(W6 (x.1.2.2.2.2.1+1)),()),(x.2.1,x.2.2.1,()))else bI (((),()),(x.2.2.1,()))
def alL:KY 58 (bN Tryz.f39):=⟨0,lB 0 ⟨[(2,.aG 2 0),(3,.aG 3 0),(25,.lf (.aA .kP 0)),(26,tI),(27,tI)],[(2,.ax [.int .i64,.int .i64,.int .i64,.int .i64]),(3,.ax [.aA .kP 0,.int .i64])],[]⟩ [(1,⟨[(4,tB)],[],[]⟩),(2,⟨[(3,.aG 3 0)],[(3,.ax [.aA .kP 0,.int .i64])],[]⟩)] JI,lp [eC]⟩
def JJ(x0:aR)(x1:dj):aj (Bool):=(q9 x0).bind λy1=>bif (!y1)then some false else (mR x0).bind λy2=>bif ((x1.aI.length:Int) != y2)then some false else (cx x1.aX 0 2).bind λy3=>bif (!y3)then some false else cX JI (((),(),x1.aI,(x1.aI.length:Int),0,()),((x0.cU,x0.aI,x0.rows,x0.aU,()),(x1.aI,x1.aX,()),())) (λz7=>some z7.1.1) λz8=>bif (z8.2.1.2.1 != 2)then some true else (tM (⟨z8.2.1.1,z8.2.1.2.1⟩:dj)).bind λy9=>some ((y9.length:Int)==0)
def abS:KX:=⟨39,.p (aZ [(true,.fq),(true,.lW)] [(false,.bool,0)] λx=>JJ x.1 x.2.1),kq 58 [eC,oI,uL,Og] [alL] Tryz.func39⟩
def zh(x0:Int):aj (Bool):=(cx x0 1 5).bind λy1=>some y1
def Oh:KX:=⟨134,.p (aZ [(false,.int)] [(false,.bool,0)] λx=>zh x.1),kp 5 [eC] Tryz.func134⟩
def Dq(x0:aR)(x1:Int):aj (aT×Bool):=(mR x0).bind λy1=>bif (W6 (x1.tdiv 9))<y1 then (zh (W6 ((x1.tmod 9)+1))).bind λy2=>some ((⟨(W6 ((x1.tmod 9)+1)),(W6 (x1.tdiv 9)),0,0⟩:aT),((decide ((W6 (x1.tdiv 9))<y1))==y2))else (zh (W6 ((x1.tmod 9)+1))).bind λy3=>some ((⟨(W6 ((x1.tmod 9)+1)),0,0,0⟩:aT),((decide ((W6 (x1.tdiv 9))<y1))==y3))
def abU:KX:=⟨98,.p (aZ [(true,.fq),(false,.int)] [(true,.Command,0),(false,.bool,0)] λx=>Dq x.1 x.2.1),kp 27 [oI,Oh] Tryz.func98⟩
abbrev abV:=((ak×ak×(af Int)×Int×Int×ak)×((Int×Int×Int×Int×ak)×((af Int)×(af Int)×ak)×ak))
def JK(x:abV):aj (abV⊕(((Bool×ak)×(ak))⊕(((ak×ak)×(((af Int)×(af Int)×ak)×ak))⊕Empty))):=bif x.1.2.2.2.2.1<x.1.2.2.2.1 then xI x.1.2.2.1 x.1.2.2.2.2.1 λe4=>(Dq (⟨x.2.1.1,x.2.1.2.1,x.2.1.2.2.1,x.2.1.2.2.2.1⟩:aR) x.1.2.2.2.2.1).bind λy5=>(cx e4 (-1) 1000000).bind λy6=>bif (!y6)then aH ((false,()),())else bif (!y5.2)then bif (e4 != (-1))then aH ((false,()),())else xG (((),(),x.1.2.2.1,x.1.2.2.2.1,(W6 (x.1.2.2.2.2.1+1)),()),(x.2.1,x.2.2.1,()))else xG (((),(),x.1.2.2.1,x.1.2.2.2.1,(W6 (x.1.2.2.2.2.1+1)),()),(x.2.1,x.2.2.1,()))else bI (((),()),(x.2.2.1,()))
def alM:KY 82 (bN Tryz.f40):=⟨0,lB 0 ⟨[(2,.aG 2 0),(3,.aG 3 0),(31,.lf (.aA .int 0)),(32,tI),(33,tI)],[(2,.ax [.int .i64,.int .i64,.int .i64,.int .i64]),(3,.ax [.aA .int 0,.aA .int 0])],[]⟩ [(1,⟨[(4,tB)],[],[]⟩),(2,⟨[(3,.aG 3 0)],[(3,.ax [.aA .int 0,.aA .int 0])],[]⟩)] JK,lp [eC,abU]⟩
abbrev abW:=((ak×(af Int)×Int×Int×ak)×(((af Int)×(af Int)×ak)×ak))
def JL(x:abW):aj (abW⊕(((Bool×ak)×(ak))⊕(((ak)×(ak))⊕Empty))):=bif x.1.2.2.2.1<x.1.2.2.1 then xI x.1.2.1 x.1.2.2.2.1 λiW=>(cx iW 0 1000000).bind λfM=>bif (!fM)then aH ((false,()),())else bif x.1.2.2.2.1 > 0 then xI x.2.1.2.1 (W6 (x.1.2.2.2.1-1)) λri=>bif ri >= iW then aH ((false,()),())else xG (((),x.1.2.1,x.1.2.2.1,(W6 (x.1.2.2.2.1+1)),()),(x.2.1,()))else xG (((),x.1.2.1,x.1.2.2.1,(W6 (x.1.2.2.2.1+1)),()),(x.2.1,()))else bI ((),())
def alN:KY 82 (bN Tryz.f40):=⟨2,lB 2 ⟨[(3,.aG 3 0),(57,.lf (.aA .int 0)),(58,tI),(59,tI)],[(3,.ax [.aA .int 0,.aA .int 0])],[]⟩ [(1,⟨[(4,tB)],[],[]⟩),(4,⟨[],[],[]⟩)] JL,lp [eC]⟩
def FK(x0:aR)(x1:gA):aj (Bool):=(q9 x0).bind λy1=>bif (!y1)then some false else (mR x0).bind λy2=>bif ((x1.last.length:Int) != (W6 (9*(W6 (y2+1)))))then some false else bif (x1.aY.length:Int) > 4 then some false else cX JK (((),(),x1.last,(x1.last.length:Int),0,()),((x0.cU,x0.aI,x0.rows,x0.aU,()),(x1.last,x1.aY,()),())) (λz7=>some z7.1.1) λz8=>cX JL (((),z8.2.1.2.1,(z8.2.1.2.1.length:Int),0,()),(z8.2.1,())) (λfy=>some fy.1.1) λjq=>some true
def U7:KX:=⟨40,.p (aZ [(true,.fq),(true,.qz)] [(false,.bool,0)] λx=>FK x.1 x.2.1),kq 82 [oI,uL] [alM,alN] Tryz.func40⟩
def rj(x0:aR):aj (Int):=(mR x0).bind λy1=>some (W6 ((W6 (y1*x0.rows))*x0.aU))
def FL:KX:=⟨45,.p (aZ [(true,.fq)] [(false,.int,0)] λx=>rj x.1),kp 11 [oI] Tryz.func45⟩
def uN(x0:Int):aj (Bool):=(cx x0 0 15).bind λy1=>some y1
def JM:KX:=⟨22,.p (aZ [(false,.int)] [(false,.bool,0)] λx=>uN x.1),kp 5 [eC] Tryz.func22⟩
abbrev abX:=(((af Int)×Int×(af Int)×Int×Int×ak)×(ak))
def zi(x:abX):aj (abX⊕(((Bool×ak)×(ak))⊕((((af Int)×Int×ak)×(ak))⊕Empty))):=bif x.1.2.2.2.2.1<x.1.2.2.2.1 then xI x.1.2.2.1 x.1.2.2.2.2.1 λe2=>(uN e2).bind λy3=>bif (!y3)then aH ((false,()),())else xG ((x.1.1,x.1.2.1,x.1.2.2.1,x.1.2.2.2.1,(W6 (x.1.2.2.2.2.1+1)),()),())else bI ((x.1.1,x.1.2.1,()),())
def alO:KY 21 (bN Tryz.f99):=⟨0,lB 0 ⟨[(0,.lf (.aA .int 0)),(1,tI),(7,.lf (.aA .int 0)),(8,tI),(9,tI)],[],[]⟩ [(1,⟨[(4,tB)],[],[]⟩),(2,⟨[(0,.lf (.aA .int 0)),(1,tI)],[],[]⟩)] zi,lp [JM]⟩
def xu(x0:af Int)(x1:Int):aj (Bool):=cX zi ((x0,x1,x0,(x0.length:Int),0,()),()) (λz4=>some z4.1.1) λz5=>some ((z5.1.1.length:Int)==z5.1.2.1)
def JN:KX:=⟨99,.p (aZ [(false,(.sl .int)),(false,.int)] [(false,.bool,0)] λx=>xu x.1 x.2.1),kq 21 [] [alO] Tryz.func99⟩
abbrev abY:=((ak×(af cq)×Int×Int×ak)×(((af cq)×(af Int)×(af Int)×ak)×ak))
def JO(x:abY):aj (abY⊕(((Bool×ak)×(ak))⊕(((ak×ak)×(((af cq)×(af Int)×(af Int)×ak)×ak))⊕Empty))):=bif x.1.2.2.2.1<x.1.2.2.1 then xI x.1.2.1 x.1.2.2.2.1 λe5=>(xu e5.symbols 11).bind λy6=>bif (!y6)then aH ((false,()),())else xG (((),x.1.2.1,x.1.2.2.1,(W6 (x.1.2.2.2.1+1)),()),(x.2.1,()))else bI (((),()),(x.2.1,()))
def alP:KY 74 (bN Tryz.f41):=⟨0,lB 0 ⟨[(3,.aG 3 0),(40,.lf (.aA .Cell 0)),(41,tI),(42,tI)],[(3,.ax [.aA .Cell 0,.aA .int 0,.aA .int 0])],[]⟩ [(1,⟨[(4,tB)],[],[]⟩),(2,⟨[(3,.aG 3 0)],[(3,.ax [.aA .Cell 0,.aA .int 0,.aA .int 0])],[]⟩)] JO,lp [JN]⟩
abbrev abZ:=((ak×Int×Int×ak)×(((af cq)×(af Int)×(af Int)×ak)×ak))
def JP(x:abZ):aj (abZ⊕(((Bool×ak)×(ak))⊕(((ak)×(ak))⊕Empty))):=bif x.1.2.2.1<x.1.2.1 then xI x.2.1.2.1 x.1.2.2.1 λiW=>(cx iW 0 100000).bind λfM=>bif (!fM)then aH ((false,()),())else xI x.2.1.2.2.1 x.1.2.2.1 λri=>(cx ri 0 100000).bind λgw=>bif (!gw)then aH ((false,()),())else xG (((),x.1.2.1,(W6 (x.1.2.2.1+1)),()),(x.2.1,()))else bI ((),())
def alQ:KY 74 (bN Tryz.f41):=⟨2,lB 2 ⟨[(3,.aG 3 0),(53,tI),(54,tI)],[(3,.ax [.aA .Cell 0,.aA .int 0,.aA .int 0])],[]⟩ [(1,⟨[(4,tB)],[],[]⟩),(4,⟨[],[],[]⟩)] JP,lp [eC]⟩
def Ds(x0:aR)(x1:dK):aj (Bool):=(mR x0).bind λy1=>(q9 x0).bind λy2=>bif (!y2)then some false else (rj x0).bind λy3=>bif ((x1.cells.length:Int) != y3)then some false else bif ((x1.bU.length:Int) != (W6 (y1*x0.rows)))then some false else bif ((x1.bL.length:Int) != (W6 (y1*x0.rows)))then some false else cX JO (((),x1.cells,(x1.cells.length:Int),0,()),((x1.cells,x1.bU,x1.bL,()),())) (λz7=>some z7.1.1) λz8=>cX JP (((),(z8.2.1.2.1.length:Int),0,()),(z8.2.1,())) (λjq=>some jq.1.1) λkG=>some true
def U8:KX:=⟨41,.p (aZ [(true,.fq),(true,.Array)] [(false,.bool,0)] λx=>Ds x.1 x.2.1),kq 74 [FL,oI,uL] [alP,alQ] Tryz.func41⟩
def Dt(x0:aR)(x1:fF)(x2:Int):aj (Nat×Nat):=if 0 <= (W6 (x2*(W6 (x0.rows-x1.cg))))/\(W6 (x2*(W6 (x0.rows-x1.cg)))) <= (W6 ((W6 (x2+1))*(W6 (x0.rows-x1.cg))))/\(W6 ((W6 (x2+1))*(W6 (x0.rows-x1.cg)))) <= (x1.map.length:Int)then some ((W6 (x2*(W6 (x0.rows-x1.cg)))).toNat,(W6 ((W6 (x2+1))*(W6 (x0.rows-x1.cg)))).toNat)else none
def Oi:CU:=UH [(true,.fq),(true,.pU),(false,.int)] 1 1 .int (λx=>Dt x.1 x.2.1 x.2.2.1)
theorem U9:enters Tryz.prog 100/\MZ Tryz.prog 100 Oi:=akM (N:=23) (fn:=Tryz.f100) (code:=bN Tryz.f100) (Φ:=(q8 [])) (Λ:=(nT [])) (t:=.int) Tryz.func100 (by kernel_rfl) (by kernel_rfl) (by kernel_rfl) (by kernel_rfl) (by kernel_rfl) (by kernel_rfl) (by kernel_rfl) (by kernel_rfl) (zd _ trivial) vT (λx=>by kernel_rfl)
abbrev ab0:=((Int×Int×(af Int)×Int×Int×ak)×(ak))
def JQ(x:ab0):aj (ab0⊕(((Int×ak)×(ak))⊕Empty)):=bif x.1.2.2.2.2.1<x.1.2.2.2.1 then xI x.1.2.2.1 x.1.2.2.2.2.1 λe2=>bif (e2==x.1.1)then xG ((x.1.1,(W6 (x.1.2.1+1)),x.1.2.2.1,x.1.2.2.2.1,(W6 (x.1.2.2.2.2.1+1)),()),())else xG ((x.1.1,x.1.2.1,x.1.2.2.1,x.1.2.2.2.1,(W6 (x.1.2.2.2.2.1+1)),()),())else aH ((x.1.2.1,()),())
def alR:KY 21 (bN Tryz.f101):=⟨0,lB 0 ⟨[(1,tI),(5,tI),(8,.lf (.aA .int 0)),(9,tI),(10,tI)],[],[]⟩ [(2,⟨[(5,tI)],[],[]⟩)] JQ,lp []⟩
def Oj(x0:af Int)(x1:Int):aj (Int):=cC JQ ((x1,0,x0,(x0.length:Int),0,()),()) λz3=>some z3.1.1
def alS:KX:=⟨101,.p (aZ [(false,(.sl .int)),(false,.int)] [(false,.int,0)] λx=>Oj x.1 x.2.1),kq 21 [] [alR] Tryz.func101⟩
abbrev ab1:=((ak×ak×Int×Int×(af Int)×(af Int)×Int×Int×ak)×((Int×Int×Int×Int×ak)×(Int×(af Int)×ak)×ak))
def FM(x:ab1):aj (ab1⊕(((Bool×ak)×(ak))⊕(((ak×ak×Int×Int×ak)×((Int×Int×Int×Int×ak)×(Int×(af Int)×ak)×ak))⊕Empty))):=bif x.1.2.2.2.2.2.2.2.1<x.1.2.2.2.2.2.2.1 then xI x.1.2.2.2.2.2.1 x.1.2.2.2.2.2.2.2.1 λe5=>bif (e5 != x.1.2.2.2.2.2.2.2.1)then (cx e5 x.1.2.2.1 (W6 (x.2.1.2.2.1-1))).bind λy6=>bif (!y6)then aH ((false,()),())else (Oj x.1.2.2.2.2.1 e5).bind λy7=>bif y7 > 1 then aH ((false,()),())else xG (((),(),x.1.2.2.1,x.1.2.2.2.1,x.1.2.2.2.2.1,x.1.2.2.2.2.2.1,x.1.2.2.2.2.2.2.1,(W6 (x.1.2.2.2.2.2.2.2.1+1)),()),(x.2.1,x.2.2.1,()))else xG (((),(),x.1.2.2.1,x.1.2.2.2.1,x.1.2.2.2.2.1,x.1.2.2.2.2.2.1,x.1.2.2.2.2.2.2.1,(W6 (x.1.2.2.2.2.2.2.2.1+1)),()),(x.2.1,x.2.2.1,()))else bI (((),(),x.1.2.2.1,x.1.2.2.2.1,()),(x.2.1,x.2.2.1,()))
def alT:KY 71 (Bm (bN Tryz.f42) 0):=⟨2,lB 2 ⟨[(2,.aG 2 0),(3,.aG 3 0),(7,tI),(8,tI),(9,.lf (.aA .int 0)),(45,.lf (.aA .int 0)),(46,tI),(47,tI)],[(2,.ax [.int .i64,.int .i64,.int .i64,.int .i64]),(3,.ax [.int .i64,.aA .int 0])],[]⟩ [(1,⟨[(4,tB)],[],[]⟩),(4,⟨[(2,.aG 2 0),(3,.aG 3 0),(7,tI),(8,tI)],[(2,.ax [.int .i64,.int .i64,.int .i64,.int .i64]),(3,.ax [.int .i64,.aA .int 0])],[]⟩)] FM,lp [eC,alS]⟩
abbrev ab2:=((ak×ak×Int×Int×ak)×((Int×Int×Int×Int×ak)×(Int×(af Int)×ak)×ak))
def JR(x:ab2):aj (ab2⊕(((Bool×ak)×(ak))⊕(((ak)×(ak))⊕Empty))):=(mR (⟨x.2.1.1,x.2.1.2.1,x.2.1.2.2.1,x.2.1.2.2.2.1⟩:aR)).bind λy2=>bif x.1.2.2.2.1<y2 then (Dt (⟨x.2.1.1,x.2.1.2.1,x.2.1.2.2.1,x.2.1.2.2.2.1⟩:aR) (⟨x.2.2.1.1,x.2.2.1.2.1⟩:fF) x.1.2.2.2.1).bind λy3=>bif Nat.ble y3.1 y3.2&&Nat.ble y3.2 x.2.2.1.2.1.length then cX FM (((),(),x.1.2.2.1,x.1.2.2.2.1,((x.2.2.1.2.1.take y3.2).drop y3.1),((x.2.2.1.2.1.take y3.2).drop y3.1),(((x.2.2.1.2.1.take y3.2).drop y3.1).length:Int),0,()),(x.2.1,x.2.2.1,())) (λz8=>aH ((z8.1.1,()),())) λz9=>xG (((),(),z9.1.2.2.1,(W6 (z9.1.2.2.2.1+1)),()),(z9.2.1,z9.2.2.1,()))else none else bI ((),())
def alU:KY 71 (bN Tryz.f42):=⟨0,lB 0 ⟨[(2,.aG 2 0),(3,.aG 3 0),(7,tI),(8,tI)],[(2,.ax [.int .i64,.int .i64,.int .i64,.int .i64]),(3,.ax [.int .i64,.aA .int 0])],[]⟩ [(1,⟨[(4,tB)],[],[]⟩),(2,⟨[],[],[]⟩)] JR,lq [oI,⟨100,.v Oi,U9⟩] [alT]⟩
def JS(x0:aR)(x1:fF):aj (Bool):=(FB x0 x1.cg).bind λy1=>bif (!y1.2)then some false else bif ((x1.map.length:Int) != (y1.1.map.length:Int))then some false else cX JR (((),(),(W6 (x0.rows-x1.cg)),0,()),((x0.cU,x0.aI,x0.rows,x0.aU,()),(x1.cg,x1.map,()),())) (λbF=>some bF.1.1) λfm=>some true
def ab3:KX:=⟨42,.p (aZ [(true,.fq),(true,.pU)] [(false,.bool,0)] λx=>JS x.1 x.2.1),kq 71 [U1] [alU] Tryz.func42⟩
def zj(x0:aR)(x1:aV):aj (Bool):=(q9 x0).bind λy1=>bif y1 then (mR x0).bind λy2=>(cx x1.aE 0 (W6 (y2-1))).bind λy3=>bif y3 then (cx x1.row 0 (W6 (x0.rows-1))).bind λy4=>bif y4 then (cx x1.cO 0 (W6 (x0.aU-1))).bind λy5=>some y5 else some false else some false else some false
def JT:KX:=⟨21,.p (aZ [(true,.fq),(true,.Addr)] [(false,.bool,0)] λx=>zj x.1 x.2.1),kp 31 [eC,oI,uL] Tryz.func21⟩
abbrev ab4:=((ak×(af Int)×Int×Int×ak)×(((af Int)×Int×Bool×ak)×ak))
def JU(x:ab4):aj (ab4⊕(((Bool×ak)×(ak))⊕(((ak×ak)×(((af Int)×Int×Bool×ak)×ak))⊕Empty))):=bif x.1.2.2.2.1<x.1.2.2.1 then xI x.1.2.1 x.1.2.2.2.1 λe2=>(cx e2 (-2) 5).bind λy3=>bif (!y3)then aH ((false,()),())else xG (((),x.1.2.1,x.1.2.2.1,(W6 (x.1.2.2.2.1+1)),()),(x.2.1,()))else bI (((),()),(x.2.1,()))
def alV:KY 25 (bN Tryz.f87):=⟨0,lB 0 ⟨[(1,.aG 1 0),(6,.lf (.aA .int 0)),(7,tI),(8,tI)],[(1,.ax [.aA .int 0,.int .i64,.bool])],[]⟩ [(1,⟨[(2,tB)],[],[]⟩),(2,⟨[(1,.aG 1 0)],[(1,.ax [.aA .int 0,.int .i64,.bool])],[]⟩)] JU,lp [eC]⟩
def zk(x0:eo):aj (Bool):=cX JU (((),x0.aN,(x0.aN.length:Int),0,()),((x0.aN,x0.wait,x0.gL,()),())) (λz4=>some z4.1.1) λz5=>(cx (z5.2.1.1.length:Int) 1 8).bind λy6=>bif y6 then (cx z5.2.1.2.1 1 10000).bind λy7=>some y7 else some false
def FN:KX:=⟨87,.p (aZ [(true,.mY)] [(false,.bool,0)] λx=>zk x.1),kq 25 [eC] [alV] Tryz.func87⟩
abbrev ab5:=(((af Int)×Int×Int×Int×ak)×(ak))
def JV(x:ab5):aj (ab5⊕(((Int×ak)×(ak))⊕(((ak)×(ak))⊕Empty))):=bif x.1.2.2.2.1<x.1.2.2.1 then xI x.1.1 x.1.2.2.2.1 λe2=>bif (x.1.2.1==e2)then aH ((x.1.2.2.2.1,()),())else xG ((x.1.1,x.1.2.1,x.1.2.2.1,(W6 (x.1.2.2.2.1+1)),()),())else bI ((),())
def alW:KY 19 (bN Tryz.f135):=⟨0,lB 0 ⟨[(0,.lf (.aA .int 0)),(1,tI),(7,tI),(8,tI)],[],[]⟩ [(1,⟨[(4,tI)],[],[]⟩),(2,⟨[],[],[]⟩)] JV,lp []⟩
def Bt(x0:af Int)(x1:Int):aj (Int):=(iter JV bB ((x0,x1,(x0.length:Int),0,()),())).bind (Sum.elim (λz3=>some z3.1.1) (Sum.elim (λz4=>some (-1)) (λz=>nomatch z)))
def Va:KX:=⟨135,.p (aZ [(false,(.sl .int)),(false,.int)] [(false,.int,0)] λx=>Bt x.1 x.2.1),kq 19 [] [alW] Tryz.func135⟩
abbrev ab6:=((ak×(af Int)×Int×Int×ak)×(((af Int)×(af Int)×Int×ak)×ak))
def JW(x:ab6):aj (ab6⊕(((Bool×ak)×(ak))⊕(((ak)×(ak))⊕Empty))):=bif x.1.2.2.2.1<x.1.2.2.1 then xI x.1.2.1 x.1.2.2.2.1 λe4=>(cx e4 (-1) 15).bind λy5=>bif (!y5)then aH ((false,()),())else xI x.2.1.2.1 x.1.2.2.2.1 λe7=>(cx e7 x.2.1.2.2.1 100000).bind λy8=>bif (!y8)then aH ((false,()),())else bif (e4==(-1))then xI x.2.1.2.1 x.1.2.2.2.1 λiW=>bif (iW != 0)then aH ((false,()),())else bif (e4 != (-1))then (Bt x.2.1.1 e4).bind λfM=>bif (fM != x.1.2.2.2.1)then aH ((false,()),())else xG (((),x.1.2.1,x.1.2.2.1,(W6 (x.1.2.2.2.1+1)),()),(x.2.1,()))else xG (((),x.1.2.1,x.1.2.2.1,(W6 (x.1.2.2.2.1+1)),()),(x.2.1,()))else bif (e4 != (-1))then (Bt x.2.1.1 e4).bind λfW=>bif (fW != x.1.2.2.2.1)then aH ((false,()),())else xG (((),x.1.2.1,x.1.2.2.1,(W6 (x.1.2.2.2.1+1)),()),(x.2.1,()))else xG (((),x.1.2.1,x.1.2.2.1,(W6 (x.1.2.2.2.1+1)),()),(x.2.1,()))else bI ((),())
def alX:KY 72 (bN Tryz.f102):=⟨0,lB 0 ⟨[(1,.aG 1 0),(26,.lf (.aA .int 0)),(27,tI),(28,tI)],[(1,.ax [.aA .int 0,.aA .int 0,.int .i64])],[]⟩ [(1,⟨[(2,tB)],[],[]⟩),(2,⟨[],[],[]⟩)] JW,lp [eC,Va]⟩
def Bu(x0:dm):aj (Bool):=(cx (x0.rows.length:Int) 1 16).bind λy1=>bif (!y1)then some false else bif ((x0.counts.length:Int) != (x0.rows.length:Int))then some false else (cx x0.fR 0 100000).bind λy2=>bif (!y2)then some false else cX JW (((),x0.rows,(x0.rows.length:Int),0,()),((x0.rows,x0.counts,x0.fR,()),())) (λiH=>some iH.1.1) λfy=>some true
def ab7:KX:=⟨102,.p (aZ [(true,.lN)] [(false,.bool,0)] λx=>Bu x.1),kq 72 [eC] [alX] Tryz.func102⟩
abbrev ab8:=(((af aV)×ak×Int×Int×ak)×((Int×Int×Int×ak)×ak))
def JX(x:ab8):aj (ab8⊕(((Int×ak)×(ak))⊕(((ak)×(ak))⊕Empty))):=bif x.1.2.2.2.1<x.1.2.2.1 then xI x.1.1 x.1.2.2.2.1 λe2=>bif ((x.2.1.1==e2.aE)&&((x.2.1.2.1==e2.row)&&((x.2.1.2.2.1==e2.cO)&&true)))then aH ((x.1.2.2.2.1,()),())else xG ((x.1.1,(),x.1.2.2.1,(W6 (x.1.2.2.2.1+1)),()),(x.2.1,()))else bI ((),())
def alY:KY 19 (bN Tryz.f103):=⟨0,lB 0 ⟨[(0,.lf (.aA .Addr 0)),(3,.aG 3 0),(7,tI),(8,tI)],[(3,.ax [.int .i64,.int .i64,.int .i64])],[]⟩ [(1,⟨[(4,tI)],[],[]⟩),(2,⟨[],[],[]⟩)] JX,lp []⟩
def FO(x0:af aV)(x1:aV):aj (Int):=(iter JX bB ((x0,(),(x0.length:Int),0,()),((x1.aE,x1.row,x1.cO,()),()))).bind (Sum.elim (λz3=>some z3.1.1) (Sum.elim (λz4=>some (-1)) (λz=>nomatch z)))
def ab9:KX:=⟨103,.p (aZ [(false,(.sl .Addr)),(true,.Addr)] [(false,.int,0)] λx=>FO x.1 x.2.1),kq 19 [] [alY] Tryz.func103⟩
abbrev acd:=((ak×ak×Int×Int×ak)×(ay×(Int×Int×Int×Int×ak)×ak))
def Ok(x:acd):aj (acd⊕(((Bool×ak)×(ak))⊕(((ak×ak×ak)×(ay×(Int×Int×Int×Int×ak)×ak))⊕Empty))):=bif x.1.2.2.2.1<x.1.2.2.1 then xI x.2.1.bx x.1.2.2.2.1 λe4=>(Bu e4).bind λy5=>bif (!y5)then aH ((false,()),())else xI x.2.1.guard x.1.2.2.2.1 λe7=>(cx e7 3 1000).bind λy8=>bif (!y8)then aH ((false,()),())else xG (((),(),x.1.2.2.1,(W6 (x.1.2.2.2.1+1)),()),(x.2.1,x.2.2.1,()))else bI (((),(),()),(x.2.1,x.2.2.1,()))
def alZ:KY 94 (bN Tryz.f43):=⟨0,lB 0 ⟨[(1,.aG 1 0),(3,.aG 3 0),(47,tI),(48,tI)],[(1,.st .cr),(3,.ax [.int .i64,.int .i64,.int .i64,.int .i64])],[]⟩ [(1,⟨[(2,tB)],[],[]⟩),(2,⟨[(1,.aG 1 0),(3,.aG 3 0)],[(1,.st .cr),(3,.ax [.int .i64,.int .i64,.int .i64,.int .i64])],[]⟩)] Ok,lp [eC,ab7]⟩
abbrev ace:=((ak×ak×(af aV)×Int×Int×ak)×(ay×(Int×Int×Int×Int×ak)×ak))
def Ol(x:ace):aj (ace⊕(((Bool×ak)×(ak))⊕(((ak)×(ak))⊕Empty))):=bif x.1.2.2.2.2.1<x.1.2.2.2.1 then xI x.1.2.2.1 x.1.2.2.2.2.1 λjb=>(zj (⟨x.2.2.1.1,x.2.2.1.2.1,x.2.2.1.2.2.1,x.2.2.1.2.2.2.1⟩:aR) jb).bind λez=>bif (!ez)then aH ((false,()),())else bif (jb.cO != 0)then aH ((false,()),())else (FO x.2.1.pending jb).bind λgw=>bif (gw != x.1.2.2.2.2.1)then aH ((false,()),())else xG (((),(),x.1.2.2.1,x.1.2.2.2.1,(W6 (x.1.2.2.2.2.1+1)),()),(x.2.1,x.2.2.1,()))else bI ((),())
def al0:KY 94 (bN Tryz.f43):=⟨2,lB 2 ⟨[(1,.aG 1 0),(3,.aG 3 0),(69,.lf (.aA .Addr 0)),(70,tI),(71,tI)],[(1,.st .cr),(3,.ax [.int .i64,.int .i64,.int .i64,.int .i64])],[]⟩ [(1,⟨[(2,tB)],[],[]⟩),(4,⟨[],[],[]⟩)] Ol,lp [JT,ab9]⟩
def Om(x0:ay):aj (Bool):=(mR x0.config.aD).bind λy1=>(zk x0.bh).bind λy2=>bif (!y2)then some false else bif ((x0.bh.aN.length:Int) != y1)then some false else bif ((x0.bx.length:Int) != y1)then some false else bif ((x0.guard.length:Int) != y1)then some false else bif (x0.pending.length:Int) > 128 then some false else cX Ok (((),(),(x0.bx.length:Int),0,()),(x0,(x0.config.aD.cU,x0.config.aD.aI,x0.config.aD.rows,x0.config.aD.aU,()),())) (λz9=>some z9.1.1) λbF=>cX Ol (((),(),bF.2.1.pending,(bF.2.1.pending.length:Int),0,()),(bF.2.1,bF.2.2.1,())) (λjq=>some jq.1.1) λkG=>some true
def al1:KX:=⟨43,.p (aZ [(true,.cr)] [(false,.bool,0)] λx=>Om x.1),kq 94 [oI,FN] [alZ,al0] Tryz.func43⟩
def Du(x0:Int):aj (Bool):=(cx x0 0 4294967295).bind λy1=>some y1
def Vb:KX:=⟨136,.p (aZ [(false,.int)] [(false,.bool,0)] λx=>Du x.1),kp 5 [eC] Tryz.func136⟩
def On(x0:Int)(x1:bk):aj (Bool):=(cx x1.id 1 100000).bind λy1=>bif y1 then (cx x1.bM 0 3).bind λy2=>bif y2 then bif x1.line >= 0 then bif x1.line<x0 then (Du x1.data).bind λy3=>bif y3 then bif x1.write then (cx x1.at_ 0 1000000).bind λy4=>some y4 else bif (x1.data==0)then (cx x1.at_ 0 1000000).bind λy5=>some y5 else some false else some false else some false else some false else some false else some false
def al2:KX:=⟨104,.p (aZ [(false,.int),(true,.ep)] [(false,.bool,0)] λx=>On x.1 x.2.1),kp 43 [eC,Vb] Tryz.func104⟩
def JY(x0 x1:bk):aj (Bool):=bif x0.at_<x1.at_ then some true else bif (x0.at_==x1.at_)then some (x0.id<x1.id)else some false
def acf:KX:=⟨105,.p (aZ [(true,.ep),(true,.ep)] [(false,.bool,0)] λx=>JY x.1 x.2.1),kp 24 [] Tryz.func105⟩
abbrev acg:=((Int×(af bk)×ak×(af bk)×Int×Int×(af bk)×Int×Int×ak)×((Int×Int×Int×Bool×Int×Int×ak)×ak))
def Dv(x:acg):aj (acg⊕(((Bool×ak)×(ak))⊕(((Int×(af bk)×(af bk)×Int×Int×ak)×(ak))⊕Empty))):=bif x.1.2.2.2.2.2.2.2.2.1<x.1.2.2.2.2.2.2.2.1 then xI x.1.2.2.2.2.2.2.1 x.1.2.2.2.2.2.2.2.2.1 λe8=>bif (e8.id==x.2.1.1)then aH ((false,()),())else xG ((x.1.1,x.1.2.1,(),x.1.2.2.2.1,x.1.2.2.2.2.1,x.1.2.2.2.2.2.1,x.1.2.2.2.2.2.2.1,x.1.2.2.2.2.2.2.2.1,(W6 (x.1.2.2.2.2.2.2.2.2.1+1)),()),(x.2.1,()))else bI ((x.1.1,x.1.2.1,x.1.2.2.2.1,x.1.2.2.2.2.1,x.1.2.2.2.2.2.1,()),())
def ach:KY 52 (Bm (bN Tryz.f44) 0):=⟨2,lB 2 ⟨[(0,tI),(1,.lf (.aA .ep 0)),(6,.aG 6 0),(9,.lf (.aA .ep 0)),(10,tI),(11,tI),(36,.lf (.aA .ep 0)),(37,tI),(38,tI)],[(6,.ax [.int .i64,.int .i64,.int .i64,.bool,.int .i64,.int .i64])],[]⟩ [(1,⟨[(4,tB)],[],[]⟩),(4,⟨[(0,tI),(1,.lf (.aA .ep 0)),(9,.lf (.aA .ep 0)),(10,tI),(11,tI)],[],[]⟩)] Dv,lp []⟩
abbrev aci:=((Int×(af bk)×(af bk)×Int×Int×ak)×(ak))
def JZ(x:aci):aj (aci⊕(((Bool×ak)×(ak))⊕((((af bk)×ak)×(ak))⊕Empty))):=bif x.1.2.2.2.2.1<x.1.2.2.2.1 then xI x.1.2.2.1 x.1.2.2.2.2.1 λe2=>(On x.1.1 e2).bind λy3=>bif (!y3)then aH ((false,()),())else bif x.1.2.2.2.2.1 > 0 then xI x.1.2.1 (W6 (x.1.2.2.2.2.1-1)) λe5=>(JY e5 e2).bind λy6=>bif (!y6)then aH ((false,()),())else if 0 <= (0:Int)/\0 <= x.1.2.2.2.2.1/\x.1.2.2.2.2.1 <= (x.1.2.1.length:Int)then cX Dv ((x.1.1,x.1.2.1,(),x.1.2.2.1,x.1.2.2.2.1,x.1.2.2.2.2.1,((x.1.2.1.take x.1.2.2.2.2.1.toNat).drop (0:Int).toNat),(((x.1.2.1.take x.1.2.2.2.2.1.toNat).drop (0:Int).toNat).length:Int),0,()),((e2.id,e2.bM,e2.line,e2.write,e2.data,e2.at_,()),())) (λz9=>aH ((z9.1.1,()),())) λbF=>xG ((bF.1.1,bF.1.2.1,bF.1.2.2.1,bF.1.2.2.2.1,(W6 (bF.1.2.2.2.2.1+1)),()),())else none else if 0 <= (0:Int)/\0 <= x.1.2.2.2.2.1/\x.1.2.2.2.2.1 <= (x.1.2.1.length:Int)then cX Dv ((x.1.1,x.1.2.1,(),x.1.2.2.1,x.1.2.2.2.1,x.1.2.2.2.2.1,((x.1.2.1.take x.1.2.2.2.2.1.toNat).drop (0:Int).toNat),(((x.1.2.1.take x.1.2.2.2.2.1.toNat).drop (0:Int).toNat).length:Int),0,()),((e2.id,e2.bM,e2.line,e2.write,e2.data,e2.at_,()),())) (λiH=>aH ((iH.1.1,()),())) λfy=>xG ((fy.1.1,fy.1.2.1,fy.1.2.2.1,fy.1.2.2.2.1,(W6 (fy.1.2.2.2.2.1+1)),()),())else none else bI ((x.1.2.1,()),())
def al3:KY 52 (bN Tryz.f44):=⟨0,lB 0 ⟨[(0,tI),(1,.lf (.aA .ep 0)),(9,.lf (.aA .ep 0)),(10,tI),(11,tI)],[],[]⟩ [(1,⟨[(4,tB)],[],[]⟩),(2,⟨[(1,.lf (.aA .ep 0))],[],[]⟩)] JZ,lq [al2,acf] [ach,ach]⟩
def Dw(x0:Int)(x1:af bk):aj (Bool):=cX JZ ((x0,x1,x1,(x1.length:Int),0,()),()) (λjq=>some jq.1.1) λkG=>some ((kG.1.1.length:Int) <= 12)
def acj:KX:=⟨44,.p (aZ [(false,.int),(false,(.sl .ep))] [(false,.bool,0)] λx=>Dw x.1 x.2.1),kq 52 [] [al3] Tryz.func44⟩
def zl(x0:aR)(x1:fF):aj (aR):=(JS x0 x1).bind λy1=>bif (!y1)then some (⟨0,0,0,0⟩:aR)else some (⟨x0.cU,x0.aI,(W6 (x0.rows-x1.cg)),x0.aU⟩:aR)
def FP:KX:=⟨46,.p (aZ [(true,.fq),(true,.pU)] [(true,.fq,0)] λx=>zl x.1 x.2.1),kp 17 [ab3] Tryz.func46⟩
def Dx(x0:jh):aj (Bool):=(cx x0.state 0 2).bind λy1=>bif y1 then (cx x0.since 0 1000000).bind λy2=>bif y2 then (cx x0.idle 0 1000000).bind λy3=>some y3 else some false else some false
def Oo:KX:=⟨49,.p (aZ [(true,.Power)] [(false,.bool,0)] λx=>Dx x.1),kp 16 [eC] Tryz.func49⟩
abbrev ack:=(((af cy)×ak×(af cy)×Int×Int×(af cy)×Int×Int×ak)×((Int×Int×Int×ak)×ak))
def Dy(x:ack):aj (ack⊕(((Bool×ak)×(ak))⊕((((af cy)×(af cy)×Int×Int×ak)×(ak))⊕Empty))):=bif x.1.2.2.2.2.2.2.2.1<x.1.2.2.2.2.2.2.1 then xI x.1.2.2.2.2.2.1 x.1.2.2.2.2.2.2.2.1 λe6=>bif (x.2.1.1==e6.line)then bif (x.2.1.2.1==e6.code)then aH ((false,()),())else xG ((x.1.1,(),x.1.2.2.1,x.1.2.2.2.1,x.1.2.2.2.2.1,x.1.2.2.2.2.2.1,x.1.2.2.2.2.2.2.1,(W6 (x.1.2.2.2.2.2.2.2.1+1)),()),(x.2.1,()))else xG ((x.1.1,(),x.1.2.2.1,x.1.2.2.2.1,x.1.2.2.2.2.1,x.1.2.2.2.2.2.1,x.1.2.2.2.2.2.2.1,(W6 (x.1.2.2.2.2.2.2.2.1+1)),()),(x.2.1,()))else bI ((x.1.1,x.1.2.2.1,x.1.2.2.2.1,x.1.2.2.2.2.1,()),())
def acm:KY 59 (Bm (bN Tryz.f50) 0):=⟨2,lB 2 ⟨[(0,.lf (.aA .gB 0)),(4,.aG 4 0),(7,.lf (.aA .gB 0)),(8,tI),(9,tI),(36,.lf (.aA .gB 0)),(37,tI),(38,tI)],[(4,.ax [.int .i64,.int .i64,.int .i64])],[]⟩ [(1,⟨[(2,tB)],[],[]⟩),(4,⟨[(0,.lf (.aA .gB 0)),(7,.lf (.aA .gB 0)),(8,tI),(9,tI)],[],[]⟩)] Dy,lp []⟩
abbrev acn:=(((af cy)×(af cy)×Int×Int×ak)×(ak))
def J0(x:acn):aj (acn⊕(((Bool×ak)×(ak))⊕((((af cy)×ak)×(ak))⊕Empty))):=bif x.1.2.2.2.1<x.1.2.2.1 then xI x.1.2.1 x.1.2.2.2.1 λe2=>(cx e2.line 0 1023).bind λy3=>bif (!y3)then aH ((false,()),())else bif (e2.code != 1)then bif (e2.code != 2)then aH ((false,()),())else (cx e2.times 1 999).bind λy4=>bif (!y4)then aH ((false,()),())else if 0 <= (0:Int)/\0 <= x.1.2.2.2.1/\x.1.2.2.2.1 <= (x.1.1.length:Int)then cX Dy ((x.1.1,(),x.1.2.1,x.1.2.2.1,x.1.2.2.2.1,((x.1.1.take x.1.2.2.2.1.toNat).drop (0:Int).toNat),(((x.1.1.take x.1.2.2.2.1.toNat).drop (0:Int).toNat).length:Int),0,()),((e2.line,e2.code,e2.times,()),())) (λz7=>aH ((z7.1.1,()),())) λz8=>xG ((z8.1.1,z8.1.2.1,z8.1.2.2.1,(W6 (z8.1.2.2.2.1+1)),()),())else none else (cx e2.times 1 999).bind λy9=>bif (!y9)then aH ((false,()),())else if 0 <= (0:Int)/\0 <= x.1.2.2.2.1/\x.1.2.2.2.1 <= (x.1.1.length:Int)then cX Dy ((x.1.1,(),x.1.2.1,x.1.2.2.1,x.1.2.2.2.1,((x.1.1.take x.1.2.2.2.1.toNat).drop (0:Int).toNat),(((x.1.1.take x.1.2.2.2.1.toNat).drop (0:Int).toNat).length:Int),0,()),((e2.line,e2.code,e2.times,()),())) (λgI=>aH ((gI.1.1,()),())) λiH=>xG ((iH.1.1,iH.1.2.1,iH.1.2.2.1,(W6 (iH.1.2.2.2.1+1)),()),())else none else bI ((x.1.1,()),())
def al4:KY 59 (bN Tryz.f50):=⟨0,lB 0 ⟨[(0,.lf (.aA .gB 0)),(7,.lf (.aA .gB 0)),(8,tI),(9,tI)],[],[]⟩ [(1,⟨[(2,tB)],[],[]⟩),(2,⟨[(0,.lf (.aA .gB 0))],[],[]⟩)] J0,lq [eC] [acm,acm]⟩
def J1(x0:af cy):aj (Bool):=cX J0 ((x0,x0,(x0.length:Int),0,()),()) (λfy=>some fy.1.1) λjq=>some ((jq.1.1.length:Int) <= 6)
def aco:KX:=⟨50,.p (aZ [(false,(.sl .gB))] [(false,.bool,0)] λx=>J1 x.1),kq 59 [] [al4] Tryz.func50⟩
def zm(x0:ay):aj (Bool):=(uM x0.config x0.box.ck).bind λy1=>bif (!y1)then some false else (uM x0.config x0.box.next).bind λy2=>bif (!y2)then some false else (cx x0.now 0 1000000).bind λy3=>bif (!y3)then some false else (JJ x0.config.aD x0.br).bind λy4=>bif (!y4)then some false else (FK x0.config.aD x0.ready).bind λy5=>bif (!y5)then some false else (Ds x0.config.aD x0.array).bind λy6=>bif (!y6)then some false else (JS x0.config.aD x0.spare).bind λy7=>bif (!y7)then some false else bif (x0.spare.cg != x0.config.cg)then some false else (Om x0).bind λy8=>bif (!y8)then some false else (zl x0.config.aD x0.spare).bind λy9=>(rj y9).bind λgX=>(Dw gX x0.queue).bind λfM=>bif (!fM)then some false else (FF x0.shares).bind λfW=>bif (!fW)then some false else bif ((x0.shares.length:Int) != 4)then some false else (Br x0.drain).bind λez=>bif (!ez)then some false else (Dx x0.aX).bind λgw=>bif (!gw)then some false else bif (x0.aX.state != x0.br.aX)then some false else bif x0.aX.since > x0.now then some false else (cx x0.cB.every 1 100000).bind λfX=>bif fX then (cx x0.cB.wait 1 x0.cB.every).bind λcM=>bif cM then (rj x0.config.aD).bind λiu=>(cx x0.cB.next 0 (W6 (iu-1))).bind λkH=>bif kH then (J1 x0.errors).bind λvU=>bif vU then bif (x0.trace.length:Int) <= 2000 then some ((x0.bR.length:Int) <= 400)else some false else some false else some false else some false else some false
def FQ:KX:=⟨10,.p (aZ [(true,.cr)] [(false,.bool,0)] λx=>zm x.1),kp 155 [eC,U6,abS,U7,U8,ab3,al1,acj,FL,FP,U3,Of,Oo,aco] Tryz.func10⟩
def uO(x0:eM):aj (eM):=bif bZ (([]:af Int).length+x0.weights.length)then some (⟨x0.fS,x0.cap,x0.fB,x0.low,x0.high,(([]:af Int)++x0.weights),x0.eE⟩:eM)else none
def Oq:KX:=⟨91,.p (aZ [(true,.lX)] [(true,.lX,2)] λx=>uO x.1),kp 9 [] Tryz.func91⟩
def FR(x0:kX):aj (kX):=(uO x0.ck).bind λy1=>(uO x0.next).bind λy2=>some (⟨y1,y2,x0.waits⟩:kX)
def Vc:KX:=⟨68,.p (aZ [(true,.qA)] [(true,.qA,2)] λx=>FR x.1),kp 12 [Oq] Tryz.func68⟩
def FT(x0:dj):aj (dj):=bif bZ (([]:af gy).length+x0.aI.length)then some (⟨(([]:af gy)++x0.aI),x0.aX⟩:dj)else none
def acp:KX:=⟨69,.p (aZ [(true,.lW)] [(true,.lW,2)] λx=>FT x.1),kp 9 [] Tryz.func69⟩
def FU(x0:gA):aj (gA):=bif bZ (([]:af Int).length+x0.last.length)then bif bZ (([]:af Int).length+x0.aY.length)then some (⟨(([]:af Int)++x0.last),(([]:af Int)++x0.aY)⟩:gA)else none else none
def acq:KX:=⟨70,.p (aZ [(true,.qz)] [(true,.qz,2)] λx=>FU x.1),kp 12 [] Tryz.func70⟩
def J2(x0:cq):aj (cq):=bif bZ (([]:af Int).length+x0.symbols.length)then some (⟨(([]:af Int)++x0.symbols),x0.jg⟩:cq)else none
def acr:KX:=⟨94,.p (aZ [(true,.Cell)] [(true,.Cell,2)] λx=>J2 x.1),kp 9 [] Tryz.func94⟩
def al5:cG:=⟨[(2,.aG 2 0),(3,.aG 3 0),(16,.lf (.aA .Cell 0)),(17,tI),(18,tI)],[(2,.ax [.own 90100,.own 90101,.own 90102]),(3,.ax [.own 90200,.own 6,.own 10]),(90100,.sl .Cell 4),(90101,.sl .int 2),(90102,.sl .int 2),(90200,.sl .Cell 4),(6,.sl .int 2),(10,.sl .int 2)],[]⟩
def al6:af (Nat×cG):=[(2,⟨[(2,.aG 2 0),(3,.aG 3 0)],[(2,.ax [.own 90100,.own 90101,.own 90102]),(3,.ax [.own 90200,.own 6,.own 10]),(90100,.sl .Cell 4),(90101,.sl .int 2),(90102,.sl .int 2),(90200,.sl .Cell 4),(6,.sl .int 2),(10,.sl .int 2)],[]⟩)]
abbrev acs:=((ak×ak×(af cq)×Int×Int×ak)×((ak×ak×ak×ak)×(ak×ak×ak×ak)×(af cq)×(af Int)×(af Int)×(af cq)×(af Int)×(af Int)×ak))
def J3(x:acs):aj (acs⊕(((ak×ak×ak)×((ak×ak×ak×ak)×(ak×ak×ak×ak)×(af cq)×(af Int)×(af Int)×(af cq)×(af Int)×(af Int)×ak))⊕Empty)):=bif x.1.2.2.2.2.1<x.1.2.2.2.1 then xI x.1.2.2.1 x.1.2.2.2.2.1 λe2=>(J2 e2).bind λy3=>bif bZ (x.2.2.2.2.2.2.1.length+[y3].length)then xG (((),(),x.1.2.2.1,x.1.2.2.2.1,(W6 (x.1.2.2.2.2.1+1)),()),(((),(),(),()),((),(),(),()),x.2.2.2.1,x.2.2.2.2.1,x.2.2.2.2.2.1,(x.2.2.2.2.2.2.1++[y3]),x.2.2.2.2.2.2.2.1,x.2.2.2.2.2.2.2.2.1,()))else none else aH (((),(),()),(((),(),(),()),((),(),(),()),x.2.2.2.1,x.2.2.2.2.1,x.2.2.2.2.2.1,x.2.2.2.2.2.2.1,x.2.2.2.2.2.2.2.1,x.2.2.2.2.2.2.2.2.1,()))
def al7:KY 31 (bN Tryz.f71):=⟨0,lB 0 al5 al6 J3,lp [acr]⟩
def Dz(x0:dK):aj (dK):=bif bZ (([]:af Int).length+x0.bU.length)then bif bZ (([]:af Int).length+x0.bL.length)then cC J3 (((),(),x0.cells,(x0.cells.length:Int),0,()),(((),(),(),()),((),(),(),()),([]:af cq),([]:af Int),([]:af Int),([]:af cq),(([]:af Int)++x0.bU),(([]:af Int)++x0.bL),())) λz4=>some (⟨z4.2.2.2.2.2.2.1,z4.2.2.2.2.2.2.2.1,z4.2.2.2.2.2.2.2.2.1⟩:dK)else none else none
def Vd:KX:=⟨71,.p (aZ [(true,.Array)] [(true,.Array,4)] λx=>Dz x.1),kq 31 [] [al7] Tryz.func71⟩
def acu(x0:af Int):aj ((af Int)):=bif kT x0 then none else bif bZ (([]:af Int).length+x0.length)then some (([]:af Int)++x0)else none
def Ot(x0:af Int):aj ((af Int)):=bif kT x0 then some []else acu x0
def acv:mb:=aZ [(false,(.sl .int))] [(false,(.sl .int),2)] (λx=>Ot x.1)
theorem al8:enters Tryz.prog 72/\lD Tryz.prog 72 acv:=Di 8 [] [] Tryz.func72 trivial vT (t:=.int) (g:=2) (F:=acu) λx=>by kernel_rfl
def zn(x0:eo):aj (eo):=bif bZ (([]:af Int).length+x0.aN.length)then some (⟨(([]:af Int)++x0.aN),x0.wait,x0.gL⟩:eo)else none
def Ou:KX:=⟨73,.p (aZ [(true,.mY)] [(true,.mY,2)] λx=>zn x.1),kp 9 [] Tryz.func73⟩
def FV(x0:dm):aj (dm):=bif bZ (([]:af Int).length+x0.rows.length)then bif bZ (([]:af Int).length+x0.counts.length)then some (⟨(([]:af Int)++x0.rows),(([]:af Int)++x0.counts),x0.fR⟩:dm)else none else none
def acw:KX:=⟨74,.p (aZ [(true,.lN)] [(true,.lN,2)] λx=>FV x.1),kp 14 [] Tryz.func74⟩
def acy(x0:af aV):aj ((af aV)):=bif kT x0 then none else bif bZ (([]:af aV).length+x0.length)then some (([]:af aV)++x0)else none
def Ve(x0:af aV):aj ((af aV)):=bif kT x0 then some []else acy x0
def acz:mb:=aZ [(false,(.sl .Addr))] [(false,(.sl .Addr),2)] (λx=>Ve x.1)
theorem al9:enters Tryz.prog 75/\lD Tryz.prog 75 acz:=Di 8 [] [] Tryz.func75 trivial vT (t:=.Addr) (g:=2) (F:=acy) λx=>by kernel_rfl
def acA(x0:af bk):aj ((af bk)):=bif kT x0 then none else bif bZ (([]:af bk).length+x0.length)then some (([]:af bk)++x0)else none
def Vf(x0:af bk):aj ((af bk)):=bif kT x0 then some []else acA x0
def acB:mb:=aZ [(false,(.sl .ep))] [(false,(.sl .ep),2)] (λx=>Vf x.1)
theorem ama:enters Tryz.prog 76/\lD Tryz.prog 76 acB:=Di 8 [] [] Tryz.func76 trivial vT (t:=.ep) (g:=2) (F:=acA) λx=>by kernel_rfl
def acC(x0:af cI):aj ((af cI)):=bif kT x0 then none else bif bZ (([]:af cI).length+x0.length)then some (([]:af cI)++x0)else none
def Vg(x0:af cI):aj ((af cI)):=bif kT x0 then some []else acC x0
def acD:mb:=aZ [(false,(.sl .iZ))] [(false,(.sl .iZ),2)] (λx=>Vg x.1)
theorem amb:enters Tryz.prog 77/\lD Tryz.prog 77 acD:=Di 8 [] [] Tryz.func77 trivial vT (t:=.iZ) (g:=2) (F:=acC) λx=>by kernel_rfl
def acE(x0:af cy):aj ((af cy)):=bif kT x0 then none else bif bZ (([]:af cy).length+x0.length)then some (([]:af cy)++x0)else none
def Vh(x0:af cy):aj ((af cy)):=bif kT x0 then some []else acE x0
def acF:mb:=aZ [(false,(.sl .gB))] [(false,(.sl .gB),2)] (λx=>Vh x.1)
theorem amc:enters Tryz.prog 78/\lD Tryz.prog 78 acF:=Di 8 [] [] Tryz.func78 trivial vT (t:=.gB) (g:=2) (F:=acE) λx=>by kernel_rfl
def acG(x0:af fo):aj ((af fo)):=bif kT x0 then none else bif bZ (([]:af fo).length+x0.length)then some (([]:af fo)++x0)else none
def Vi(x0:af fo):aj ((af fo)):=bif kT x0 then some []else acG x0
def acH:mb:=aZ [(false,(.sl .Event))] [(false,(.sl .Event),2)] (λx=>Vi x.1)
theorem amd:enters Tryz.prog 79/\lD Tryz.prog 79 acH:=Di 8 [] [] Tryz.func79 trivial vT (t:=.Event) (g:=2) (F:=acG) λx=>by kernel_rfl
def acI(x0:af eN):aj ((af eN)):=bif kT x0 then none else bif bZ (([]:af eN).length+x0.length)then some (([]:af eN)++x0)else none
def Vj(x0:af eN):aj ((af eN)):=bif kT x0 then some []else acI x0
def acJ:mb:=aZ [(false,(.sl .lY))] [(false,(.sl .lY),2)] (λx=>Vj x.1)
theorem ame:enters Tryz.prog 80/\lD Tryz.prog 80 acJ:=Di 8 [] [] Tryz.func80 trivial vT (t:=.lY) (g:=2) (F:=acI) λx=>by kernel_rfl
end Go.Proofs.YtcioagfjiccleaaGreat
