/-
  Functions of the program as plain functions of contents, and that the code computes them. Nothing here is a claim.
-/
import Derived.Test.YtgjfmljpdnnihaaGreatVZ
import Derived.Test.YtgjfmljpdnnihaaGreatRows
import Derived.Test.YtgjfmljpdnnihaaGreatG1
namespace Go.Proofs.YtgjfmljpdnnihaaGreat
set_option linter.defProp false
open Go.RowKit Go.Proofs.Tryz
set_option linter.unusedVariables false
set_option maxRecDepth 100000
def BH(I:aF)(E:Int):aj (aR×Bool):=letI u1:=W6 (E.tdiv 9);letI C:=W6 ((E.tmod 9)+1);(jA I).bind λD=>bif u1<D then (xu C).bind λO=>some ((⟨C,u1,0,0⟩:aR),((decide (u1<D))==O))else (xu C).bind λT=>some ((⟨C,0,0,0⟩:aR),((decide (u1<D))==T))
def aaU:=bM SI [(true,.Command,0),(false,.bool,0)] (cV BH) 27 [lK,LB] func126
abbrev aaV:=((ah×ah×(aa Int)×Int×Int×ah)×((Int×Int×Int×Int×ah)×((aa Int)×(aa Int)×ah)×ah))
def G1(x:aaV):aj (aaV⊕(((Bool×ah)×(ah))⊕(((ah×ah)×(((aa Int)×(aa Int)×ah)×ah))⊕Empty))):=letI u1:=x.1.2.2;letI u2:=u1.2.2.1;letI C:=xG (((),(),u1.1,u1.2.1,(W6 (u2+1)),()),(x.2.1,x.2.2.1,()));bif u2<u1.2.1 then xI u1.1 u2 λD=>(BH (⟨x.2.1.1,x.2.1.2.1,x.2.1.2.2.1,x.2.1.2.2.2.1⟩:aF) u2).bind λE=>(bO D (-1) 1000000).bind λI=>bif (!I)then aK ((false,()),())else bif (!E.2)then bif (D != (-1))then aK ((false,()),())else C else C else bF (((),()),(x.2.2.1,()))
def akN:KY 82 (bw f55):=⟨0,lB 0 ⟨[(2,.aH 2 0),(3,.aH 3 0),(31,.lf (.aG .int 0)),(32,tI),(33,tI)],[(2,.ay gd),(3,.ay GM)],[]⟩ [(1,sk),(2,⟨[(3,.aH 3 0)],[(3,.ay GM)],[]⟩)] G1,lp [dw,aaU]⟩
abbrev aaW:=((ah×(aa Int)×Int×Int×ah)×(((aa Int)×(aa Int)×ah)×ah))
def G2(x:aaW):aj (aaW⊕(((Bool×ah)×(ah))⊕(((ah)×(ah))⊕Empty))):=letI u1:=x.1.2.2.2.1;letI C:=xG (((),x.1.2.1,x.1.2.2.1,(W6 (u1+1)),()),(x.2.1,()));bif u1<x.1.2.2.1 then xI x.1.2.1 u1 λD=>(bO D 0 1000000).bind λE=>bif (!E)then aK ((false,()),())else bif u1 > 0 then xI x.2.1.2.1 (W6 (u1-1)) λI=>bif I >= D then aK ((false,()),())else C else C else bF ((),())
def akO:KY 82 (bw f55):=⟨2,lB 2 ⟨[(3,.aH 3 0),(57,.lf (.aG .int 0)),(58,tI),(59,tI)],[(3,.ay GM)],[]⟩ [(1,sk),(4,lJ)] G2,lp [dw]⟩
def DP(C:aF)(D:dP):aj (Bool):=(m0 C).bind λI=>bif (!I)then some false else (jA C).bind λO=>bif ((D.last.length:Int) != (W6 (9*(W6 (O+1)))))then some false else bif (D.aX.length:Int) > 4 then some false else cH G1 (((),(),D.last,(D.last.length:Int),0,()),((C.bD,C.aD,C.rows,C.aM,()),(D.last,D.aX,()),())) (λT=>some T.1.1) λE=>cH G2 (((),E.2.1.2.1,(E.2.1.2.1.length:Int),0,()),(E.2.1,())) (λU=>some U.1.1) λY=>some true
def S1:=cY [(true,.fB),(true,.nU)] dy (cV DP) 82 [lK,pO] [akN,akO] func55
def sv(C:Int):aj (Bool):=(bO C 0 15).bind λD=>some D
def G3:=bM sn dy (cw sv) 5 [dw] func120
abbrev aaX:=(((aa Int)×Int×(aa Int)×Int×Int×ah)×(ah))
def zJ(x:aaX):aj (aaX⊕(((Bool×ah)×(ah))⊕((((aa Int)×Int×ah)×(ah))⊕Empty))):=letI C:=x.1.2.2;bif C.2.2.1<C.2.1 then xI C.1 C.2.2.1 λD=>(sv D).bind λE=>bif (!E)then aK ((false,()),())else xG ((x.1.1,x.1.2.1,C.1,C.2.1,(W6 (C.2.2.1+1)),()),())else bF ((x.1.1,x.1.2.1,()),())
def akP:KY 21 (bw f127):=⟨0,lB 0 ⟨[(0,.lf (.aG .int 0)),(1,tI),(7,.lf (.aG .int 0)),(8,tI),(9,tI)],[],[]⟩ [(1,sk),(2,⟨[(0,.lf (.aG .int 0)),(1,tI)],[],[]⟩)] zJ,lp [G3]⟩
def vk(C:aa Int)(E:Int):aj (Bool):=cH zJ ((C,E,C,(C.length:Int),0,()),()) (λI=>some I.1.1) λD=>some ((D.1.1.length:Int)==D.1.2.1)
def G4:=cY Lo dy (cV vk) 21 [] [akP] func127
abbrev aaY:=((ah×(aa cu)×Int×Int×ah)×(((aa cu)×(aa Int)×(aa Int)×ah)×ah))
def G5(x:aaY):aj (aaY⊕(((Bool×ah)×(ah))⊕(((ah×ah)×(((aa cu)×(aa Int)×(aa Int)×ah)×ah))⊕Empty))):=letI C:=x.1.2.2;bif C.2.1<C.1 then xI x.1.2.1 C.2.1 λD=>(vk D.symbols 11).bind λE=>bif (!E)then aK ((false,()),())else xG (((),x.1.2.1,C.1,(W6 (C.2.1+1)),()),(x.2.1,()))else bF (((),()),(x.2.1,()))
def akQ:KY 74 (bw f56):=⟨0,lB 0 ⟨[(3,.aH 3 0),(40,.lf (.aG .Cell 0)),(41,tI),(42,tI)],SD,[]⟩ [(1,sk),(2,⟨[(3,.aH 3 0)],SD,[]⟩)] G5,lp [G4]⟩
abbrev aaZ:=((ah×Int×Int×ah)×(((aa cu)×(aa Int)×(aa Int)×ah)×ah))
def G6(x:aaZ):aj (aaZ⊕(((Bool×ah)×(ah))⊕(((ah)×(ah))⊕Empty))):=letI C:=x.1.2.2.1;bif C<x.1.2.1 then xI x.2.1.2.1 C λD=>(bO D 0 100000).bind λE=>bif (!E)then aK ((false,()),())else xI x.2.1.2.2.1 C λI=>(bO I 0 100000).bind λO=>bif (!O)then aK ((false,()),())else xG (((),x.1.2.1,(W6 (C+1)),()),(x.2.1,()))else bF ((),())
def akR:KY 74 (bw f56):=⟨2,lB 2 ⟨[(3,.aH 3 0),(53,tI),(54,tI)],SD,[]⟩ [(1,sk),(4,lJ)] G6,lp [dw]⟩
def BI(D:aF)(C:cN):aj (Bool):=(jA D).bind λE=>(m0 D).bind λO=>bif (!O)then some false else (su D).bind λT=>bif ((C.cells.length:Int) != T)then some false else bif ((C.bq.length:Int) != (W6 (E*D.rows)))then some false else bif ((C.aY.length:Int) != (W6 (E*D.rows)))then some false else cH G5 (((),C.cells,(C.cells.length:Int),0,()),((C.cells,C.bq,C.aY,()),())) (λU=>some U.1.1) λI=>cH G6 (((),(I.2.1.2.1.length:Int),0,()),(I.2.1,())) (λY=>some Y.1.1) λZ=>some true
def S2:=cY [(true,.fB),(true,.Array)] dy (cV BI) 74 [lK,DL,pO] [akQ,akR] func56
def xw(C:aF)(D:aN):aj (Bool):=(m0 C).bind λE=>bif E then (jA C).bind λI=>(bO D.aA 0 (W6 (I-1))).bind λO=>bif O then (bO D.row 0 (W6 (C.rows-1))).bind λT=>bif T then (bO D.bX 0 (W6 (C.aM-1))).bind λU=>some U else some false else some false else some false
def G7:=bM [(true,.fB),(true,.Addr)] dy (cV xw) 31 [lK,dw,pO] func119
abbrev aa0:=((ah×(aa Int)×Int×Int×ah)×(((aa Int)×Int×Bool×ah)×ah))
def G8(x:aa0):aj (aa0⊕(((Bool×ah)×(ah))⊕(((ah×ah)×(((aa Int)×Int×Bool×ah)×ah))⊕Empty))):=letI C:=x.1.2.2;bif C.2.1<C.1 then xI x.1.2.1 C.2.1 λD=>(bO D (-2) 5).bind λE=>bif (!E)then aK ((false,()),())else xG (((),x.1.2.1,C.1,(W6 (C.2.1+1)),()),(x.2.1,()))else bF (((),()),(x.2.1,()))
def akS:KY 25 (bw f130):=⟨0,lB 0 ⟨[(1,.aH 1 0),(6,.lf (.aG .int 0)),(7,tI),(8,tI)],[(1,.ay Ll)],[]⟩ [(1,sj),(2,⟨[(1,.aH 1 0)],[(1,.ay Ll)],[]⟩)] G8,lp [dw]⟩
def xx(C:dB):aj (Bool):=cH G8 (((),C.aC,(C.aC.length:Int),0,()),((C.aC,C.wait,C.dL,()),())) (λE=>some E.1.1) λD=>(bO (D.2.1.1.length:Int) 1 8).bind λI=>bif I then (bO D.2.1.2.1 1 10000).bind λO=>some O else some false
def DR:=cY [(true,.ld)] dy (cw xx) 25 [dw] [akS] func130
abbrev aa1:=(((aa Int)×Int×Int×Int×ah)×(ah))
def G9(x:aa1):aj (aa1⊕(((Int×ah)×(ah))⊕(((ah)×(ah))⊕Empty))):=letI C:=x.1.2.2.2.1;bif C<x.1.2.2.1 then xI x.1.1 C λD=>bif (x.1.2.1==D)then aK ((C,()),())else xG ((x.1.1,x.1.2.1,x.1.2.2.1,(W6 (C+1)),()),())else bF ((),())
def akT:KY 19 (bw f200):=⟨0,lB 0 ⟨[(0,.lf (.aG .int 0)),(1,tI),(7,tI),(8,tI)],[],[]⟩ [(1,By),(2,lJ)] G9,lp []⟩
def BJ(C:aa Int)(D:Int):aj (Int):=(iter G9 br ((C,D,(C.length:Int),0,()),())).bind (Sum.elim (λE=>some E.1.1) (Sum.elim (λI=>some (-1)) (λz=>nomatch z)))
def S3:=cY Lo fV (cV BJ) 19 [] [akT] func200
abbrev aa2:=((ah×(aa Int)×Int×Int×ah)×(((aa Int)×(aa Int)×Int×ah)×ah))
def He(x:aa2):aj (aa2⊕(((Bool×ah)×(ah))⊕(((ah)×(ah))⊕Empty))):=letI u3:=aK ((false,()),());letI u2:=x.1.2.2.2.1;letI u1:=xG (((),x.1.2.1,x.1.2.2.1,(W6 (u2+1)),()),(x.2.1,()));bif u2<x.1.2.2.1 then xI x.1.2.1 u2 λC=>letI D:=bif (C != (-1))then (BJ x.2.1.1 C).bind λE=>bif (E != u2)then u3 else u1 else u1;(bO C (-1) 15).bind λI=>bif (!I)then u3 else xI x.2.1.2.1 u2 λO=>(bO O x.2.1.2.2.1 100000).bind λT=>bif (!T)then u3 else bif (C==(-1))then xI x.2.1.2.1 u2 λU=>bif (U != 0)then u3 else D else D else bF ((),())
def akU:KY 72 (bw f131):=⟨0,lB 0 ⟨[(1,.aH 1 0),(26,.lf (.aG .int 0)),(27,tI),(28,tI)],[(1,.ay [.aG .int 0,.aG .int 0,.int .i64])],[]⟩ [(1,sj),(2,lJ)] He,lp [dw,S3]⟩
def zK(C:cK):aj (Bool):=letI D:=(C.rows.length:Int);(bO D 1 16).bind λE=>bif (!E)then some false else bif ((C.counts.length:Int) != D)then some false else (bO C.eX 0 100000).bind λI=>bif (!I)then some false else cH He (((),C.rows,D,0,()),((C.rows,C.counts,C.eX,()),())) (λO=>some O.1.1) λT=>some true
def aa3:=cY [(true,.mN)] dy (cw zK) 72 [dw] [akU] func131
abbrev aa4:=(((aa aN)×ah×Int×Int×ah)×((Int×Int×Int×ah)×ah))
def Hf(x:aa4):aj (aa4⊕(((Int×ah)×(ah))⊕(((ah)×(ah))⊕Empty))):=letI C:=x.1.2.2.2.1;bif C<x.1.2.2.1 then xI x.1.1 C λD=>bif ((x.2.1.1==D.aA)&&((x.2.1.2.1==D.row)&&((x.2.1.2.2.1==D.bX)&&true)))then aK ((C,()),())else xG ((x.1.1,(),x.1.2.2.1,(W6 (C+1)),()),(x.2.1,()))else bF ((),())
def akV:KY 19 (bw f132):=⟨0,lB 0 ⟨[(0,.lf (.aG .Addr 0)),(3,.aH 3 0),(7,tI),(8,tI)],[(3,.ay aal)],[]⟩ [(1,By),(2,lJ)] Hf,lp []⟩
def DS(D:aa aN)(C:aN):aj (Int):=(iter Hf br ((D,(),(D.length:Int),0,()),((C.aA,C.row,C.bX,()),()))).bind (Sum.elim (λE=>some E.1.1) (Sum.elim (λI=>some (-1)) (λz=>nomatch z)))
def aa5:=cY [(false,(.sl .Addr)),(true,.Addr)] fV (cV DS) 19 [] [akV] func132
abbrev aa6:=((ah×ah×Int×Int×ah)×(ax×(Int×Int×Int×Int×ah)×ah))
def LC(x:aa6):aj (aa6⊕(((Bool×ah)×(ah))⊕(((ah×ah×ah)×(ax×(Int×Int×Int×Int×ah)×ah))⊕Empty))):=letI C:=x.1.2.2.2.1;bif C<x.1.2.2.1 then xI x.2.1.bE C λD=>(zK D).bind λE=>bif (!E)then aK ((false,()),())else xI x.2.1.guard C λI=>(bO I 3 1000).bind λO=>bif (!O)then aK ((false,()),())else xG (((),(),x.1.2.2.1,(W6 (C+1)),()),(x.2.1,x.2.2.1,()))else bF (((),(),()),(x.2.1,x.2.2.1,()))
def akW:KY 94 (bw f58):=⟨0,lB 0 ⟨[(1,.aH 1 0),(3,.aH 3 0),(47,tI),(48,tI)],GL,[]⟩ [(1,sj),(2,aah)] LC,lp [dw,aa3]⟩
abbrev aa7:=((ah×ah×(aa aN)×Int×Int×ah)×(ax×(Int×Int×Int×Int×ah)×ah))
def LD(x:aa7):aj (aa7⊕(((Bool×ah)×(ah))⊕(((ah)×(ah))⊕Empty))):=letI u2:=x.2.2.1;letI u1:=aK ((false,()),());letI C:=x.1.2.2;letI u3:=C.2.2.1;bif u3<C.2.1 then xI C.1 u3 λD=>(xw (⟨u2.1,u2.2.1,u2.2.2.1,u2.2.2.2.1⟩:aF) D).bind λE=>bif (!E)then u1 else bif (D.bX != 0)then u1 else (DS x.2.1.pending D).bind λI=>bif (I != u3)then u1 else xG (((),(),C.1,C.2.1,(W6 (u3+1)),()),(x.2.1,u2,()))else bF ((),())
def akX:KY 94 (bw f58):=⟨2,lB 2 ⟨[(1,.aH 1 0),(3,.aH 3 0),(69,.lf (.aG .Addr 0)),(70,tI),(71,tI)],GL,[]⟩ [(1,sj),(4,lJ)] LD,lp [G7,aa5]⟩
def LF(C:ax):aj (Bool):=(jA C.config.ak).bind λE=>(xx C.aE).bind λI=>bif (!I)then some false else bif ((C.aE.aC.length:Int) != E)then some false else bif ((C.bE.length:Int) != E)then some false else bif ((C.guard.length:Int) != E)then some false else bif (C.pending.length:Int) > 128 then some false else cH LC (((),(),(C.bE.length:Int),0,()),(C,(C.config.ak.bD,C.config.ak.aD,C.config.ak.rows,C.config.ak.aM,()),())) (λO=>some O.1.1) λD=>cH LD (((),(),D.2.1.pending,(D.2.1.pending.length:Int),0,()),(D.2.1,D.2.2.1,())) (λT=>some T.1.1) λU=>some true
def akY:=cY tZ dy (cw LF) 94 [lK,DR] [akW,akX] func58
def Hg(C D:bg):aj (Bool):=bif C.at_<D.at_ then some true else bif (C.at_==D.at_)then some (C.id<D.id)else some false
def aa8:=bM [(true,.eD),(true,.eD)] dy (cV Hg) 24 [] func110
def BM(C:Int):aj (Bool):=(bO C 0 4294967295).bind λD=>some D
def S4:=bM sn dy (cw BM) 5 [dw] func185
def LG(E:Int)(C:bg):aj (Bool):=letI D:=(bO C.at_ 0 1000000).bind λI=>some I;(bO C.id 1 100000).bind λO=>bif O then (bO C.eC 0 3).bind λT=>bif T then bif C.line >= 0 then bif C.line<E then (BM C.data).bind λU=>bif U then bif C.write then D else bif (C.data==0)then D else some false else some false else some false else some false else some false else some false
def akZ:=bM [(false,.int),(true,.eD)] dy (cV LG) 43 [dw,S4] func133
abbrev aa9:=((Int×(aa bg)×ah×(aa bg)×Int×Int×(aa bg)×Int×Int×ah)×((Int×Int×Int×Bool×Int×Int×ah)×ah))
def DT(x:aa9):aj (aa9⊕(((Bool×ah)×(ah))⊕(((Int×(aa bg)×(aa bg)×Int×Int×ah)×(ah))⊕Empty))):=letI C:=x.1.2.2.2.2;letI u1:=C.2.2;bif u1.2.2.1<u1.2.1 then xI u1.1 u1.2.2.1 λD=>bif (D.id==x.2.1.1)then aK ((false,()),())else xG ((x.1.1,x.1.2.1,(),x.1.2.2.2.1,C.1,C.2.1,u1.1,u1.2.1,(W6 (u1.2.2.1+1)),()),(x.2.1,()))else bF ((x.1.1,x.1.2.1,x.1.2.2.2.1,C.1,C.2.1,()),())
def aba:KY 52 (xg (bw f59) 0):=⟨2,lB 2 ⟨[(0,tI),(1,.lf (.aG .eD 0)),(6,.aH 6 0),(9,.lf (.aG .eD 0)),(10,tI),(11,tI),(36,.lf (.aG .eD 0)),(37,tI),(38,tI)],[(6,.ay ZT)],[]⟩ [(1,sk),(4,Z5)] DT,lp []⟩
abbrev abb:=((Int×(aa bg)×(aa bg)×Int×Int×ah)×(ah))
def Hh(x:abb):aj (abb⊕(((Bool×ah)×(ah))⊕((((aa bg)×ah)×(ah))⊕Empty))):=letI u3:=x.1.2;letI u1:=u3.2.2.2.1;letI u2:=(u3.1.take u1.toNat).drop (0:Int).toNat;bif u1<u3.2.2.1 then xI u3.2.1 u1 λC=>letI E:=if 0 <= (0:Int)/\0 <= u1/\u1 <= (u3.1.length:Int)then cH DT ((x.1.1,u3.1,(),u3.2.1,u3.2.2.1,u1,u2,(u2.length:Int),0,()),((C.id,C.eC,C.line,C.write,C.data,C.at_,()),())) (λI=>aK ((I.1.1,()),())) λD=>xG ((D.1.1,D.1.2.1,D.1.2.2.1,D.1.2.2.2.1,(W6 (D.1.2.2.2.2.1+1)),()),())else none;(LG x.1.1 C).bind λO=>bif (!O)then aK ((false,()),())else bif u1 > 0 then xI u3.1 (W6 (u1-1)) λT=>(Hg T C).bind λU=>bif (!U)then aK ((false,()),())else E else E else bF ((u3.1,()),())
def ak0:KY 52 (bw f59):=⟨0,lB 0 Z5 [(1,sk),(2,⟨[(1,.lf (.aG .eD 0))],[],[]⟩)] Hh,lq [aa8,akZ] [aba,aba]⟩
def BN(D:Int)(C:aa bg):aj (Bool):=cH Hh ((D,C,C,(C.length:Int),0,()),()) (λE=>some E.1.1) λI=>some ((I.1.1.length:Int) <= 12)
def abc:=cY [(false,.int),(false,(.sl .eD))] dy (cV BN) 52 [] [ak0] func59
def BO(C:iG):aj (Bool):=(bO C.state 0 2).bind λD=>bif D then (bO C.since 0 1000000).bind λE=>bif E then (bO C.idle 0 1000000).bind λI=>some I else some false else some false
def LH:=bM [(true,.Power)] dy (cw BO) 16 [dw] func62
abbrev abd:=(((aa cC)×ah×(aa cC)×Int×Int×(aa cC)×Int×Int×ah)×((Int×Int×Int×ah)×ah))
def DU(x:abd):aj (abd⊕(((Bool×ah)×(ah))⊕((((aa cC)×(aa cC)×Int×Int×ah)×(ah))⊕Empty))):=letI u2:=x.1.2.2;letI u1:=u2.2.2;letI C:=xG ((x.1.1,(),u2.1,u2.2.1,u1.1,u1.2.1,u1.2.2.1,(W6 (u1.2.2.2.1+1)),()),(x.2.1,()));bif u1.2.2.2.1<u1.2.2.1 then xI u1.2.1 u1.2.2.2.1 λD=>bif (x.2.1.1==D.line)then bif (x.2.1.2.1==D.code)then aK ((false,()),())else C else C else bF ((x.1.1,u2.1,u2.2.1,u1.1,()),())
def abe:KY 59 (xg (bw f63) 0):=⟨2,lB 2 ⟨[(0,.lf (.aG .iV 0)),(4,.aH 4 0),(7,.lf (.aG .iV 0)),(8,tI),(9,tI),(36,.lf (.aG .iV 0)),(37,tI),(38,tI)],[(4,.ay aal)],[]⟩ [(1,sj),(4,Z6)] DU,lp []⟩
abbrev abf:=(((aa cC)×(aa cC)×Int×Int×ah)×(ah))
def Hi(x:abf):aj (abf⊕(((Bool×ah)×(ah))⊕((((aa cC)×ah)×(ah))⊕Empty))):=letI u3:=aK ((false,()),());letI u1:=x.1.2.2.2.1;letI u2:=(x.1.1.take u1.toNat).drop (0:Int).toNat;bif u1<x.1.2.2.1 then xI x.1.2.1 u1 λC=>letI E:=(bO C.times 1 999).bind λI=>bif (!I)then u3 else if 0 <= (0:Int)/\0 <= u1/\u1 <= (x.1.1.length:Int)then cH DU ((x.1.1,(),x.1.2.1,x.1.2.2.1,u1,u2,(u2.length:Int),0,()),((C.line,C.code,C.times,()),())) (λO=>aK ((O.1.1,()),())) λD=>xG ((D.1.1,D.1.2.1,D.1.2.2.1,(W6 (D.1.2.2.2.1+1)),()),())else none;(bO C.line 0 1023).bind λT=>bif (!T)then u3 else bif (C.code != 1)then bif (C.code != 2)then u3 else E else E else bF ((x.1.1,()),())
def ak1:KY 59 (bw f63):=⟨0,lB 0 Z6 [(1,sj),(2,⟨[(0,.lf (.aG .iV 0))],[],[]⟩)] Hi,lq [dw] [abe,abe]⟩
def Hj(C:aa cC):aj (Bool):=cH Hi ((C,C,(C.length:Int),0,()),()) (λD=>some D.1.1) λE=>some ((E.1.1.length:Int) <= 6)
def abg:=cY [(false,(.sl .iV))] dy (cw Hj) 59 [] [ak1] func63
def sx(C:ax):aj (Bool):=(qX C.config C.box.bS).bind λD=>bif (!D)then some false else (qX C.config C.box.next).bind λE=>bif (!E)then some false else (bO C.now 0 1000000).bind λI=>bif (!I)then some false else (G0 C.config.ak C.aS).bind λO=>bif (!O)then some false else (DP C.config.ak C.ready).bind λT=>bif (!T)then some false else (BI C.config.ak C.array).bind λU=>bif (!U)then some false else (GY C.config.ak C.spare).bind λY=>bif (!Y)then some false else bif (C.spare.bR != C.config.bR)then some false else (LF C).bind λZ=>bif (!Z)then some false else (xq C.config.ak C.spare).bind λy9=>(su y9).bind λoE=>(BN oE C.queue).bind λoD=>bif (!oD)then some false else (DJ C.shares).bind λzG=>bif (!zG)then some false else bif ((C.shares.length:Int) != 4)then some false else (BF C.drain).bind λjR=>bif (!jR)then some false else (BO C.aU).bind λmq=>bif (!mq)then some false else bif (C.aU.state != C.aS.aU)then some false else bif C.aU.since > C.now then some false else (bO C.dD.every 1 100000).bind λmw=>bif mw then (bO C.dD.wait 1 C.dD.every).bind λpL=>bif pL then (su C.config.ak).bind λqW=>(bO C.dD.next 0 (W6 (qW-1))).bind λzL=>bif zL then (Hj C.errors).bind λHl=>bif Hl then bif (C.trace.length:Int) <= 2000 then some ((C.cx.length:Int) <= 400)else some false else some false else some false else some false else some false
def xy:=bM tZ dy (cw sx) 155 [SZ,dw,DL,DN,aaT,S1,S2,aaQ,akY,abc,SW,Lx,LH,abg] func17
def BP(C:Int)(D:Bool)(E:Int):aj (Bool):=bif (!D)then some (C==0)else (bO C 0 (W6 (E-1))).bind λI=>some I
def ak2:=bM [(false,.int),(false,.bool),(false,.int)] dy (gT BP) 15 [dw] func265
def LI(C:Int):aj (Bool):=some (C==1)
def ak3:=bM sn dy (cw LI) 5 [] func266
def LJ(C:Int):aj (Bool):=bif (C==2)then some true else some (C==3)
def ak4:=bM sn dy (cw LJ) 9 [] func267
def S5(C:aR)(D E I:Int):aj (Bool):=(bO C.kind 1 9).bind λO=>bif O then (xu C.kind).bind λT=>(BP C.aA T D).bind λU=>bif U then (LI C.kind).bind λY=>(BP C.row Y E).bind λZ=>bif Z then (LJ C.kind).bind λy6=>(BP C.bX y6 I).bind λy7=>some y7 else some false else some false else some false
def ak5:=bM [(true,.Command),(false,.int),(false,.int),(false,.int)] dy (xj S5) 39 [dw,LB,ak2,ak3,ak4] func193
def BQ(C:aF)(D:aR):aj (Bool):=(m0 C).bind λE=>bif E then (jA C).bind λI=>(S5 D I C.rows C.aM).bind λO=>some O else some false
def LK:=bM [(true,.fB),(true,.Command)] dy (cV BQ) 17 [lK,pO,ak5] func114
def Ho(I:aF)(D:bL)(C:aR):aj (Bool):=letI u4:=D.aU==0;letI u3:=bif u4 then xI D.aD C.aA λO=>some (!O.open_)else some false;letI u2:=bif u4 then xI D.aD C.aA λT=>some T.open_ else some false;letI E:=bif (C.kind==6)then some u4 else bif (C.kind==8)then bif u4 then (zI D).bind λU=>some ((U.length:Int)==0)else some false else bif (C.kind==7)then some (D.aU==1)else some (D.aU==2);letI u1:=bif (C.kind==2)then bif (C.kind==2)then u2 else E else bif (C.kind==3)then bif (C.kind==3)then u2 else E else bif (C.kind==4)then u2 else E;(G0 I D).bind λY=>bif (!Y)then some false else (BQ I C).bind λZ=>bif (!Z)then some false else bif (C.kind==1)then bif (C.kind==1)then u3 else u1 else bif (C.kind==5)then u3 else u1
def abh:=bM [(true,.fB),(true,.kI),(true,.Command)] dy (gT Ho) 75 [aaT,LK,LA] func165
def LL(C:bW)(D E:Int):aj (Int):=(let T:Bool -> aj (Int):=λI=>(let O:Bool -> aj (Int):=λj2=>bif j2 then some C.qq else (let U:Bool -> aj (Int):=λj3=>bif j3 then some C.jD else (let Y:Bool -> aj (Int):=λj4=>bif j4 then some (W6 (C.jD+C.rp))else (let Z:Bool -> aj (Int):=λj5=>bif j5 then some C.mK else (let S6:Bool -> aj (Int):=λj6=>bif j6 then some (W6 (C.mK+C.rp))else (let S7:Bool -> aj (Int):=λj7=>bif j7 then some C.wr else (let DV:Bool -> aj (Int):=λj8=>bif j8 then some (W6 (C.wr+C.rp))else (let S8:Bool -> aj (Int):=λj9=>bif j9 then some C.rp else (let S9:Bool -> aj (Int):=λHp=>bif Hp then some C.sW else some 0;bif (D==5)then (S9 I)else (S9 false));bif (D==4)then (S8 I)else (S8 false));bif (D==3)then (DV I)else (DV false));bif (D==3)then (S7 (E==4))else (S7 false));bif (D==2)then (S6 I)else (S6 false));bif (D==2)then (Z (E==4))else (Z false));bif (D==1)then (Y I)else (Y false));bif (D==1)then (U (E==4))else (U false));bif (D==1)then bif (E==2)then (O true)else (O (E==3))else (O false));bif (E==1)then (T true)else (T (E==5)))
def abi:=bM [(true,.js),(false,.int),(false,.int)] fV (gT LL) 103 [] func270
def ak6:enters Tryz.prog 307/\qK Tryz.prog 307 (ci Tryz.prog f307 1 []):=GJ 1 [] func307 trivial
def LM(C:bW)(D E:Int)(I:Bool):aj (Int):=bif (D==7)then some C.xp else bif (D==9)then some C.xs else (let U:Bool -> aj (Int):=λj1=>bif j1 then (let Y:Int -> aj (Int):=λj2=>some j2;bif I then (Y C.nT)else (Y C.rz))else (let O:Bool -> aj (Int):=λj4=>bif j4 then (let Z:Int -> aj (Int):=λj5=>some j5;bif I then (Z C.rB)else (Z C.rA))else (let Hq:Bool -> aj (Int):=λj7=>bif j7 then (let k9:Int -> aj (Int):=λj8=>some j8;bif I then (k9 C.rD)else (k9 C.rC))else (let k20:Bool -> aj (Int):=λHp=>bif Hp then some C.uF else (let k19:Bool -> aj (Int):=λj11=>bif j11 then some C.nT else (let k18:Bool -> aj (Int):=λj12=>bif j12 then some C.mK else (let Hr:Bool -> aj (Int):=λTa=>bif Ta then some C.wr else bif (E==8)then (LL C D 1).bind λmq=>some mq else (let T:Bool -> aj (Int):=λj15=>bif j15 then some C.sX else some 0;letI u0:=bif (D==8)then (T (E==9))else (T false);bif (D==6)then bif (E==7)then (T true)else u0 else u0);bif (D==3)then (Hr (E==6))else (Hr false));bif (D==2)then (k18 (E==6))else (k18 false));bif (D==5)then (k19 (E==5))else (k19 false));bif (D==2)then (k20 (E==3))else (k20 false));bif (D==3)then (Hq (E==2))else (Hq false));letI u1:=bif (D==3)then (O (E==3))else (O false);bif (D==2)then bif (E==2)then (O true)else u1 else u1);bif (D==1)then (U (E==1))else (U false))
def ak7:=bM [(true,.js),(false,.int),(false,.int),(false,.bool)] fV (xj LM) 126 [abi,⟨307,.i _,ak6⟩] func268
def Hs(C:aF)(D:Int):aj (Int):=(jA C).bind λE=>(bO D 0 (W6 (E-1))).bind λI=>bif (!I)then some (-1)else if C.aD=0 then none else some (W6 (D.tdiv C.aD))
def ak8:=bM SI fV (cV Hs) 15 [lK,dw] func269
def zM(U:aF)(O:bW)(C D:aR):aj (Int):=letI u3:=LL O C.kind D.kind;letI Y:=LM O C.kind D.kind false;(xu C.kind).bind λy1=>bif y1 then (xu D.kind).bind λT=>bif T then (Hs U C.aA).bind λy3=>(Hs U D.aA).bind λy4=>(LM O C.kind D.kind (y3==y4)).bind λE=>letI u1:=some (if E > 1 then E else 1);bif T then bif (C.aA==D.aA)then u3.bind λZ=>some (if Z > (if E > 1 then E else 1)then Z else (if E > 1 then E else 1))else u1 else u1 else Y.bind λI=>letI u2:=some (if I > 1 then I else 1);bif T then bif (C.aA==D.aA)then u3.bind λy8=>some (if y8 > (if I > 1 then I else 1)then y8 else (if I > 1 then I else 1))else u2 else u2 else Y.bind λy9=>some (if y9 > 1 then y9 else 1)
def abj:=bM [(true,.fB),(true,.js),(true,.Command),(true,.Command)] fV (xj zM) 55 [LB,ak7,ak8,abi] func194
def ak9:bC:=⟨[(4,.aH 4 0),(5,.aH 5 0),(6,.aH 6 0),(7,.aH 7 0),(9,tI),(30,.lf (.aG .int 0)),(31,tI),(32,tI)],[(4,.ay gd),(5,.st .js),(6,.ay GM),(7,.ay gd)],[]⟩
def ala:aa (Nat×bC):=[(2,⟨[(5,.aH 5 0),(6,.aH 6 0),(7,.aH 7 0),(9,tI)],[(5,.st .js),(6,.ay GM),(7,.ay gd)],[]⟩)]
abbrev abk:=((ah×ah×ah×ah×Int×(aa Int)×Int×Int×ah)×((Int×Int×Int×Int×ah)×bW×((aa Int)×(aa Int)×ah)×(Int×Int×Int×Int×ah)×ah))
def Hu(x:abk):aj (abk⊕(((ah×ah×ah×Int×ah)×(bW×((aa Int)×(aa Int)×ah)×(Int×Int×Int×Int×ah)×ah))⊕Empty)):=letI u2:=(⟨x.2.1.1,x.2.1.2.1,x.2.1.2.2.1,x.2.1.2.2.2.1⟩:aF);letI u1:=x.2.2.2.2.1;letI u4:=(x.2.1,x.2.2.1,x.2.2.2.1,u1,());letI C:=x.1.2.2.2.2;letI u3:=C.2.2.2.1;bif u3<C.2.2.1 then xI C.2.1 u3 λD=>bif D<0 then xG (((),(),(),(),C.1,C.2.1,C.2.2.1,(W6 (u3+1)),()),u4)else (BH u2 u3).bind λE=>(zM u2 x.2.2.1 E.1 (⟨u1.1,u1.2.1,u1.2.2.1,u1.2.2.2.1⟩:aR)).bind λI=>letI u5:=W6 (D+I);xG (((),(),(),(),(if u5 > C.1 then u5 else C.1),C.2.1,C.2.2.1,(W6 (u3+1)),()),u4)else aK (((),(),(),C.1,()),(x.2.2.1,x.2.2.2.1,u1,()))
def alb:KY 76 (bw f166):=⟨0,lB 0 ak9 ala Hu,lp [aaU,abj]⟩
def LN(C:aF)(T:bW)(D:dP)(E:aR):aj (Int):=(BB T).bind λU=>bif (!U)then some (-1)else (DP C D).bind λY=>bif (!Y)then some (-1)else (BQ C E).bind λZ=>bif (!Z)then some (-1)else bQ Hu (((),(),(),(),0,D.last,(D.last.length:Int),0,()),((C.bD,C.aD,C.rows,C.aM,()),T,(D.last,D.aX,()),(E.kind,E.aA,E.row,E.bX,()),())) λI=>letI u3:=I.1.2.2.2.1;letI u1:=u3;letI u2:=bif u1 > 1000000 then some (-1)else some u1;bif (I.2.2.2.1.1==1)then bif ((I.2.2.1.2.1.length:Int)==4)then xI I.2.2.1.2.1 (0:Int) λLO=>letI O:=W6 (LO+I.2.1.jY);bif (if O > u3 then O else u1) > 1000000 then some (-1)else some (if O > u3 then O else u1)else u2 else u2
def alc:=cY [(true,.fB),(true,.js),(true,.nU),(true,.Command)] fV (xj LN) 76 [S1,Lv,LK] [alb] func166
def iN(C:ax)(D:aR):aj (Bool):=(Ho C.config.ak C.aS D).bind λI=>bif (!I)then some false else (LN C.config.ak C.config.bU C.ready D).bind λE=>bif (E != (-1))then some (E <= C.now)else some false
def DW:=bM [(true,.dG),(true,.Command)] dy (cV iN) 32 [abh,alc] func68
abbrev abl:=((ah×(aa Int)×Int×Int×ah)×((aa Int)×ah))
def Hv(x:abl):aj (abl⊕(((ah×ah)×((aa Int)×ah))⊕Empty)):=letI u1:=x.1.2.2.2.1;letI C:=((),x.1.2.1,x.1.2.2.1,(W6 (u1+1)),());bif u1<x.1.2.2.1 then xI x.1.2.1 u1 λD=>bif D >= 4 then bif cv (x.2.1.length+([u1]:aa Int).length)then xG (C,((x.2.1++([u1]:aa Int)),()))else none else xG (C,(x.2.1,()))else aK (((),()),(x.2.1,()))
def ald:KY 26 (bw f135):=⟨0,lB 0 ⟨[(3,.lf (.own 9)),(11,.lf (.aG .int 0)),(12,tI),(13,tI)],[(9,.sl .int 2)],[]⟩ [(2,⟨[(3,.lf (.own 9))],[(9,.sl .int 2)],[]⟩)] Hv,lp []⟩
def DX(C:dB):aj ((aa Int)):=(xx C).bind λD=>bif (!D)then some ([])else bQ Hv (((),C.aC,(C.aC.length:Int),0,()),(([]:aa Int),())) λE=>some E.2.1
def Tb:=cY [(true,.ld)] xk (cw DX) 26 [DR] [ald] func135
def zN(C:ax):aj (Bool):=bif (C.queue.length:Int) > 0 then some true else bif (C.pending.length:Int) > 0 then some true else (DX C.aE).bind λD=>some ((D.length:Int) > 0)
def abm:=bM tZ dy (cw zN) 20 [Tb] func105
def LP(D:vJ)(C:iG)(E:Bool):aj (Int):=letI u1:=bif (C.state==1)then bif C.idle >= D.sleep then some 7 else some 0 else some 0;letI u2:=bif (C.state==0)then bif C.idle >= D.down then some 6 else u1 else u1;letI I:=bif E then some 0 else bif (C.state==0)then bif C.idle >= D.sleep then some 8 else u2 else u2;letI u3:=bif E then bif (C.state==2)then some 9 else I else I;(GV D).bind λO=>bif (!O)then some 0 else (BO C).bind λT=>bif (!T)then some 0 else bif E then bif (C.state==1)then some 7 else u3 else u3
def ale:=bM [(true,.vM),(true,.Power),(false,.bool)] fV (gT LP) 64 [LH,aaM] func136
def zO(D:ax)(C:Int)(E:aR):aj (aR):=xI D.aS.aD C λI=>bif I.open_ then some (⟨4,C,0,0⟩:aR)else some E
def Tc:=bM [(true,.dG),(false,.int),(true,.Command)] [(true,.Command,0)] (gT zO) 17 [] func137
def vl(C:aa Int)(D:Int):aj (Bool):=(BJ C D).bind λE=>some (decide (E >= 0))
def Td:=bM Lo dy (cV vl) 9 [S3] func138
def alf:enters Tryz.prog 205/\qK Tryz.prog 205 (cj Tryz.prog f205 1 []):=Lg (GJ 1 [] func205 trivial)
abbrev abn:=(((aa aN)×Int×Int×Int×ah)×(ah))
def DY(x:abn):aj (abn⊕(((Int×ah)×(ah))⊕(((ah)×(ah))⊕Empty))):=letI C:=x.1.2.2.2.1;bif C<x.1.2.2.1 then xI x.1.1 C λD=>bif (D.aA==x.1.2.1)then aK ((C,()),())else xG ((x.1.1,x.1.2.1,x.1.2.2.1,(W6 (C+1)),()),())else bF ((),())
def alg:KY 19 (bw f252):=⟨0,lB 0 ⟨[(0,.lf (.aG .Addr 0)),(1,.fc 205 .int),(7,tI),(8,tI)],[],[]⟩ [(1,By),(2,lJ)] DY,lp [⟨205,.i _,alf⟩]⟩
def Te(C:aa aN)(D:Int):aj (Int):=(iter DY br ((C,D,(C.length:Int),0,()),())).bind (Sum.elim (λE=>some E.1.1) (Sum.elim (λI=>some (-1)) (λz=>nomatch z)))
def alh:KX:=⟨252,.q (gS [(false,(.sl .Addr)),(false,(.AE 205))] [(false,.int,0)] λx=>Te x.1 x.2.1),kq 19 [] [alg] func252⟩
def Tf(C:aa aN)(D:Int):aj (Bool):=(Te C D).bind λE=>some (decide (E >= 0))
def ali:KX:=⟨204,.q (gS [(false,(.sl .Addr)),(false,(.AE 205))] [(false,.bool,0)] λx=>Tf x.1 x.2.1),kp 9 [alh] func204⟩
def BR(C:aa aN)(D:Int):aj (Bool):=(Tf C D).bind λE=>some E
def Tg:=bM [(false,(.sl .Addr)),(false,.int)] dy (cV BR) 8 [ali] func139
end Go.Proofs.YtgjfmljpdnnihaaGreat
