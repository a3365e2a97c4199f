/-
  Functions of the program as plain functions of contents, and that the code computes them. Nothing here is a claim.
-/
import Derived.Test.YtpigmalhjkekiaaGreatVZ
import Derived.Test.YtpigmalhjkekiaaGreatRows
import Derived.Test.YtpigmalhjkekiaaGreatG1
import Derived.Test.YtpigmalhjkekiaaGreatG2
namespace Go.Proofs.YtpigmalhjkekiaaGreat
set_option linter.defProp false
open Go.RowKit Go.Proofs.Tryz
set_option linter.unusedVariables false
set_option maxRecDepth 100000
abbrev abU:=((Int×Int×(aa Int)×Int×Int×ah)×(ah))
def HQ(x:abU):aj (abU⊕(((Int×ah)×(ah))⊕Empty)):=letI C:=x.1.2.2;letI u1:=C.2.2.1;bif u1<C.2.1 then xI C.1 u1 λD=>bif (D==x.1.1)then xG ((x.1.1,(W6 (x.1.2.1+1)),C.1,C.2.1,(W6 (u1+1)),()),())else xG ((x.1.1,x.1.2.1,C.1,C.2.1,(W6 (u1+1)),()),())else aM ((x.1.2.1,()),())
def amb:KY 21 (bw f165):=⟨0,lB 0 ⟨[(1,tI),(5,tI),(8,.lf (.aG .int 0)),(9,tI),(10,tI)],[],[]⟩ [(2,Hg)] HQ,lp []⟩
def MK(C:aa Int)(D:Int):aj (Int):=bR HQ ((D,0,C,(C.length:Int),0,()),()) λE=>some E.1.1
def amc:=dg Hf gq (dc MK) 21 [] [amb] func165
abbrev abV:=((ah×ah×Int×Int×(aa Int)×(aa Int)×Int×Int×ah)×((Int×Int×Int×Int×ah)×(Int×(aa Int)×ah)×ah))
def Er(x:abV):aj (abV⊕(((Bool×ah)×(ah))⊕(((ah×ah×Int×Int×ah)×((Int×Int×Int×Int×ah)×(Int×(aa Int)×ah)×ah))⊕Empty))):=letI u2:=x.1.2.2;letI u1:=u2.2.2;letI u3:=u1.2.2.2.1;letI D:=xG (((),(),u2.1,u2.2.1,u1.1,u1.2.1,u1.2.2.1,(W6 (u3+1)),()),(x.2.1,x.2.2.1,()));bif u3<u1.2.2.1 then xI u1.2.1 u3 λC=>bif (C != u3)then (bZ C u2.1 (W6 (x.2.1.2.2.1-1))).bind λE=>bif (!E)then aM ((false,()),())else (MK u1.1 C).bind λI=>bif I > 1 then aM ((false,()),())else D else D else bF (((),(),u2.1,u2.2.1,()),(x.2.1,x.2.2.1,()))
def amd:KY 71 (yc (bw f100) 0):=⟨2,lB 2 ⟨[(2,.aL 2 0),(3,.aL 3 0),(7,tI),(8,tI),(9,.lf (.aG .int 0)),(45,.lf (.aG .int 0)),(46,tI),(47,tI)],aaE,[]⟩ [(1,qm),(4,Tf)] Er,lp [dO,amc]⟩
abbrev abW:=((ah×ah×Int×Int×ah)×((Int×Int×Int×Int×ah)×(Int×(aa Int)×ah)×ah))
def HR(x:abW):aj (abW⊕(((Bool×ah)×(ah))⊕(((ah)×(ah))⊕Empty))):=letI u3:=x.1.2.2.2.1;letI u2:=x.2.2.1;letI u1:=(⟨x.2.1.1,x.2.1.2.1,x.2.1.2.2.1,x.2.1.2.2.2.1⟩:aH);(jP u1).bind λI=>bif u3<I then (Ep u1 (⟨u2.1,u2.2.1⟩:dL) u3).bind λC=>letI E:=(u2.2.1.take C.2).drop C.1;bif Nat.ble C.1 C.2&&Nat.ble C.2 u2.2.1.length then cY Er (((),(),x.1.2.2.1,u3,E,E,(E.length:Int),0,()),(x.2.1,u2,())) (λO=>aM ((O.1.1,()),())) λD=>xG (((),(),D.1.2.2.1,(W6 (D.1.2.2.2.1+1)),()),(D.2.1,D.2.2.1,()))else none else bF ((),())
def ame:KY 71 (bw f100):=⟨0,lB 0 Tf [(1,qm),(2,lC)] HR,lq [lW,⟨164,.v TO,abS⟩] [amd]⟩
def HS(C:aH)(D:dL):aj (Bool):=(Eb C D.cF).bind λE=>bif (!E.2)then some false else bif ((D.map.length:Int) != (E.1.map.length:Int))then some false else cY HR (((),(),(W6 (C.rows-D.cF)),0,()),((C.bI,C.aE,C.rows,C.aR,()),(D.cF,D.map,()),())) (λI=>some I.1.1) λO=>some true
def abX:=dg L6 dJ (dc HS) 71 [Tv] [ame] func100
def Cg(C:aH)(D:dL):aj (aH):=(HS C D).bind λE=>bif (!E)then some (⟨0,0,0,0⟩:aH)else some (⟨C.bI,C.aE,(W6 (C.rows-D.cF)),C.aR⟩:aH)
def ML:=bS L6 [(true,.fO,0)] (dc Cg) 17 [abX] func42
abbrev abY:=((ah×(aa ep)×Int×Int×ah)×((aa Int)×ah))
def Es(x:abY):aj (abY⊕(((ah×ah)×((aa Int)×ah))⊕Empty)):=letI u1:=x.1.2.2.2.1;letI C:=((),x.1.2.1,x.1.2.2.1,(W6 (u1+1)),());bif u1<x.1.2.2.1 then xI x.1.2.1 u1 λD=>bif D.open_ then bif bV (x.2.1.length+([u1]:aa Int).length)then xG (C,((x.2.1++([u1]:aa Int)),()))else none else xG (C,(x.2.1,()))else aM (((),()),(x.2.1,()))
def amf:KY 23 (bw f161):=⟨0,lB 0 ⟨[(3,.lf (.own 6)),(8,.lf (.aG .ke 0)),(9,tI),(10,tI)],[(6,.sl .int 2)],[]⟩ [(2,aaK)] Es,lp []⟩
def Af(C:bM):aj ((aa Int)):=bR Es (((),C.aE,(C.aE.length:Int),0,()),(([]:aa Int),())) λD=>some D.2.1
def MM:=dg [(true,.kU)] vO (cA Af) 23 [] [amf] func161
abbrev abZ:=((ah×ah×(aa ep)×Int×Int×ah)×((Int×Int×Int×Int×ah)×((aa ep)×Int×ah)×ah))
def HT(x:abZ):aj (abZ⊕(((Bool×ah)×(ah))⊕(((ah×ah)×(((aa ep)×Int×ah)×ah))⊕Empty))):=letI u1:=x.1.2.2;letI D:=xG (((),(),u1.1,u1.2.1,(W6 (u1.2.2.1+1)),()),(x.2.1,x.2.2.1,()));bif u1.2.2.1<u1.2.1 then xI u1.1 u1.2.2.1 λC=>(bZ C.row 0 (W6 (x.2.1.2.2.1-1))).bind λE=>bif (!E)then aM ((false,()),())else bif (!C.open_)then bif (C.row != 0)then aM ((false,()),())else D else D else bF (((),()),(x.2.2.1,()))
def amg:KY 58 (bw f97):=⟨0,lB 0 ⟨[(2,.aL 2 0),(3,.aL 3 0),(25,.lf (.aG .ke 0)),(26,tI),(27,tI)],[(2,.aB gQ),(3,.aB Tc)],[]⟩ [(1,qm),(2,⟨[(3,.aL 3 0)],[(3,.aB Tc)],[]⟩)] HT,lp [dO]⟩
def HU(C:aH)(D:bM):aj (Bool):=(nA C).bind λI=>bif (!I)then some false else (jP C).bind λO=>bif ((D.aE.length:Int) != O)then some false else (bZ D.aN 0 2).bind λT=>bif (!T)then some false else cY HT (((),(),D.aE,(D.aE.length:Int),0,()),((C.bI,C.aE,C.rows,C.aR,()),(D.aE,D.aN,()),())) (λU=>some U.1.1) λE=>bif (E.2.1.2.1 != 2)then some true else (Af (⟨E.2.1.1,E.2.1.2.1⟩:bM)).bind λY=>some ((Y.length:Int)==0)
def ab0:=dg [(true,.fO),(true,.kU)] dJ (dc HU) 58 [lW,dO,qt,MM] [amg] func97
def yg(C:Int):aj (Bool):=(bZ C 1 5).bind λD=>some D
def MN:=bS sX dJ (cA yg) 5 [dO] func206
def Ch(I:aH)(E:Int):aj (aP×Bool):=letI u1:=W6 (E.tdiv 9);letI C:=W6 ((E.tmod 9)+1);(jP I).bind λD=>bif u1<D then (yg C).bind λO=>some ((⟨C,u1,0,0⟩:aP),((decide (u1<D))==O))else (yg C).bind λT=>some ((⟨C,0,0,0⟩:aP),((decide (u1<D))==T))
def ab1:=bS L4 [(true,.Command,0),(false,.bool,0)] (dc Ch) 27 [lW,MN] func162
abbrev ab2:=((ah×ah×(aa Int)×Int×Int×ah)×((Int×Int×Int×Int×ah)×((aa Int)×(aa Int)×ah)×ah))
def HV(x:ab2):aj (ab2⊕(((Bool×ah)×(ah))⊕(((ah×ah)×(((aa Int)×(aa Int)×ah)×ah))⊕Empty))):=letI u1:=x.1.2.2;letI u2:=u1.2.2.1;letI C:=xG (((),(),u1.1,u1.2.1,(W6 (u2+1)),()),(x.2.1,x.2.2.1,()));bif u2<u1.2.1 then xI u1.1 u2 λD=>(Ch (⟨x.2.1.1,x.2.1.2.1,x.2.1.2.2.1,x.2.1.2.2.2.1⟩:aH) u2).bind λE=>(bZ D (-1) 1000000).bind λI=>bif (!I)then aM ((false,()),())else bif (!E.2)then bif (D != (-1))then aM ((false,()),())else C else C else bF (((),()),(x.2.2.1,()))
def amh:KY 82 (bw f98):=⟨0,lB 0 ⟨[(2,.aL 2 0),(3,.aL 3 0),(31,.lf (.aG .int 0)),(32,tI),(33,tI)],[(2,.aB gQ),(3,.aB Hi)],[]⟩ [(1,qm),(2,⟨[(3,.aL 3 0)],[(3,.aB Hi)],[]⟩)] HV,lp [dO,ab1]⟩
abbrev ab3:=((ah×(aa Int)×Int×Int×ah)×(((aa Int)×(aa Int)×ah)×ah))
def HW(x:ab3):aj (ab3⊕(((Bool×ah)×(ah))⊕(((ah)×(ah))⊕Empty))):=letI u1:=x.1.2.2.2.1;letI C:=xG (((),x.1.2.1,x.1.2.2.1,(W6 (u1+1)),()),(x.2.1,()));bif u1<x.1.2.2.1 then xI x.1.2.1 u1 λD=>(bZ D 0 1000000).bind λE=>bif (!E)then aM ((false,()),())else bif u1 > 0 then xI x.2.1.2.1 (W6 (u1-1)) λI=>bif I >= D then aM ((false,()),())else C else C else bF ((),())
def ami:KY 82 (bw f98):=⟨2,lB 2 ⟨[(3,.aL 3 0),(57,.lf (.aG .int 0)),(58,tI),(59,tI)],[(3,.aB Hi)],[]⟩ [(1,qm),(4,lC)] HW,lp [dO]⟩
def Et(C:aH)(D:dR):aj (Bool):=(nA C).bind λI=>bif (!I)then some false else (jP C).bind λO=>bif ((D.last.length:Int) != (W6 (9*(W6 (O+1)))))then some false else bif (D.bf.length:Int) > 4 then some false else cY HV (((),(),D.last,(D.last.length:Int),0,()),((C.bI,C.aE,C.rows,C.aR,()),(D.last,D.bf,()),())) (λT=>some T.1.1) λE=>cY HW (((),E.2.1.2.1,(E.2.1.2.1.length:Int),0,()),(E.2.1,())) (λU=>some U.1.1) λY=>some true
def TP:=dg [(true,.fO),(true,.oD)] dJ (dc Et) 82 [lW,qt] [amh,ami] func98
abbrev ab4:=((ah×(aa cB)×Int×Int×ah)×(((aa cB)×(aa Int)×(aa Int)×ah)×ah))
def HX(x:ab4):aj (ab4⊕(((Bool×ah)×(ah))⊕(((ah×ah)×(((aa cB)×(aa Int)×(aa Int)×ah)×ah))⊕Empty))):=letI C:=x.1.2.2;bif C.2.1<C.1 then xI x.1.2.1 C.2.1 λD=>(vQ D.symbols 11).bind λE=>bif (!E)then aM ((false,()),())else xG (((),x.1.2.1,C.1,(W6 (C.2.1+1)),()),(x.2.1,()))else bF (((),()),(x.2.1,()))
def amj:KY 74 (bw f99):=⟨0,lB 0 ⟨[(3,.aL 3 0),(40,.lf (.aG .Cell 0)),(41,tI),(42,tI)],Tg,[]⟩ [(1,qm),(2,⟨[(3,.aL 3 0)],Tg,[]⟩)] HX,lp [HF]⟩
abbrev ab5:=((ah×Int×Int×ah)×(((aa cB)×(aa Int)×(aa Int)×ah)×ah))
def HY(x:ab5):aj (ab5⊕(((Bool×ah)×(ah))⊕(((ah)×(ah))⊕Empty))):=letI C:=x.1.2.2.1;bif C<x.1.2.1 then xI x.2.1.2.1 C λD=>(bZ D 0 100000).bind λE=>bif (!E)then aM ((false,()),())else xI x.2.1.2.2.1 C λI=>(bZ I 0 100000).bind λO=>bif (!O)then aM ((false,()),())else xG (((),x.1.2.1,(W6 (C+1)),()),(x.2.1,()))else bF ((),())
def amk:KY 74 (bw f99):=⟨2,lB 2 ⟨[(3,.aL 3 0),(53,tI),(54,tI)],Tg,[]⟩ [(1,qm),(4,lC)] HY,lp [dO]⟩
def Eu(D:aH)(C:dw):aj (Bool):=(jP D).bind λE=>(nA D).bind λO=>bif (!O)then some false else (sZ D).bind λT=>bif ((C.cells.length:Int) != T)then some false else bif ((C.bu.length:Int) != (W6 (E*D.rows)))then some false else bif ((C.bg.length:Int) != (W6 (E*D.rows)))then some false else cY HX (((),C.cells,(C.cells.length:Int),0,()),((C.cells,C.bu,C.bg,()),())) (λU=>some U.1.1) λI=>cY HY (((),(I.2.1.2.1.length:Int),0,()),(I.2.1,())) (λY=>some Y.1.1) λZ=>some true
def ab6:=dg [(true,.fO),(true,.Array)] dJ (dc Eu) 74 [lW,Ef,qt] [amj,amk] func99
def Ci(C:aH)(D:aQ):aj (Bool):=(nA C).bind λE=>bif E then (jP C).bind λI=>(bZ D.aq 0 (W6 (I-1))).bind λO=>bif O then (bZ D.row 0 (W6 (C.rows-1))).bind λT=>bif T then (bZ D.bW 0 (W6 (C.aR-1))).bind λU=>some U else some false else some false else some false
def TQ:=bS [(true,.fO),(true,.Addr)] dJ (dc Ci) 31 [lW,dO,qt] func143
abbrev ab7:=((ah×(aa Int)×Int×Int×ah)×(((aa Int)×Int×Bool×ah)×ah))
def HZ(x:ab7):aj (ab7⊕(((Bool×ah)×(ah))⊕(((ah×ah)×(((aa Int)×Int×Bool×ah)×ah))⊕Empty))):=letI C:=x.1.2.2;bif C.2.1<C.1 then xI x.1.2.1 C.2.1 λD=>(bZ D (-2) 5).bind λE=>bif (!E)then aM ((false,()),())else xG (((),x.1.2.1,C.1,(W6 (C.2.1+1)),()),(x.2.1,()))else bF (((),()),(x.2.1,()))
def aml:KY 25 (bw f166):=⟨0,lB 0 ⟨[(1,.aL 1 0),(6,.lf (.aG .int 0)),(7,tI),(8,tI)],[(1,.aB L3)],[]⟩ [(1,uE),(2,⟨[(1,.aL 1 0)],[(1,.aB L3)],[]⟩)] HZ,lp [dO]⟩
def Ag(C:eH):aj (Bool):=cY HZ (((),C.aC,(C.aC.length:Int),0,()),((C.aC,C.wait,C.dY,()),())) (λE=>some E.1.1) λD=>(bZ (D.2.1.1.length:Int) 1 8).bind λI=>bif I then (bZ D.2.1.2.1 1 10000).bind λO=>some O else some false
def H6:=dg [(true,.m0)] dJ (cA Ag) 25 [dO] [aml] func166
abbrev ab8:=(((aa Int)×Int×Int×Int×ah)×(ah))
def H7(x:ab8):aj (ab8⊕(((Int×ah)×(ah))⊕(((ah)×(ah))⊕Empty))):=letI C:=x.1.2.2.2.1;bif C<x.1.2.2.1 then xI x.1.1 C λD=>bif (x.1.2.1==D)then aM ((C,()),())else xG ((x.1.1,x.1.2.1,x.1.2.2.1,(W6 (C+1)),()),())else bF ((),())
def amm:KY 19 (bw f207):=⟨0,lB 0 ⟨[(0,.lf (.aG .int 0)),(1,tI),(7,tI),(8,tI)],[],[]⟩ [(1,B4),(2,lC)] H7,lp []⟩
def Cj(C:aa Int)(D:Int):aj (Int):=(iter H7 bq ((C,D,(C.length:Int),0,()),())).bind (Sum.elim (λE=>some E.1.1) (Sum.elim (λI=>some (-1)) (λz=>nomatch z)))
def TR:=dg Hf gq (dc Cj) 19 [] [amm] func207
abbrev ab9:=((ah×(aa Int)×Int×Int×ah)×(((aa Int)×(aa Int)×Int×ah)×ah))
def H8(x:ab9):aj (ab9⊕(((Bool×ah)×(ah))⊕(((ah)×(ah))⊕Empty))):=letI u3:=aM ((false,()),());letI u2:=x.1.2.2.2.1;letI u1:=xG (((),x.1.2.1,x.1.2.2.1,(W6 (u2+1)),()),(x.2.1,()));bif u2<x.1.2.2.1 then xI x.1.2.1 u2 λC=>letI D:=bif (C != (-1))then (Cj x.2.1.1 C).bind λE=>bif (E != u2)then u3 else u1 else u1;(bZ C (-1) 15).bind λI=>bif (!I)then u3 else xI x.2.1.2.1 u2 λO=>(bZ O x.2.1.2.2.1 100000).bind λT=>bif (!T)then u3 else bif (C==(-1))then xI x.2.1.2.1 u2 λU=>bif (U != 0)then u3 else D else D else bF ((),())
def amn:KY 72 (bw f167):=⟨0,lB 0 ⟨[(1,.aL 1 0),(26,.lf (.aG .int 0)),(27,tI),(28,tI)],[(1,.aB [.aG .int 0,.aG .int 0,.int .i64])],[]⟩ [(1,uE),(2,lC)] H8,lp [dO,TR]⟩
def Ah(C:cX):aj (Bool):=letI D:=(C.rows.length:Int);(bZ D 1 16).bind λE=>bif (!E)then some false else bif ((C.counts.length:Int) != D)then some false else (bZ C.fj 0 100000).bind λI=>bif (!I)then some false else cY H8 (((),C.rows,D,0,()),((C.rows,C.counts,C.fj,()),())) (λO=>some O.1.1) λT=>some true
def acd:=dg [(true,.mZ)] dJ (cA Ah) 72 [dO] [amn] func167
abbrev ace:=(((aa aQ)×ah×Int×Int×ah)×((Int×Int×Int×ah)×ah))
def H9(x:ace):aj (ace⊕(((Int×ah)×(ah))⊕(((ah)×(ah))⊕Empty))):=letI C:=x.1.2.2.2.1;bif C<x.1.2.2.1 then xI x.1.1 C λD=>bif ((x.2.1.1==D.aq)&&((x.2.1.2.1==D.row)&&((x.2.1.2.2.1==D.bW)&&true)))then aM ((C,()),())else xG ((x.1.1,(),x.1.2.2.1,(W6 (C+1)),()),(x.2.1,()))else bF ((),())
def amo:KY 19 (bw f168):=⟨0,lB 0 ⟨[(0,.lf (.aG .Addr 0)),(3,.aL 3 0),(7,tI),(8,tI)],[(3,.aB aaN)],[]⟩ [(1,B4),(2,lC)] H9,lp []⟩
def Ev(D:aa aQ)(C:aQ):aj (Int):=(iter H9 bq ((D,(),(D.length:Int),0,()),((C.aq,C.row,C.bW,()),()))).bind (Sum.elim (λE=>some E.1.1) (Sum.elim (λI=>some (-1)) (λz=>nomatch z)))
def acf:=dg [(false,(.sl .Addr)),(true,.Addr)] gq (dc Ev) 19 [] [amo] func168
abbrev acg:=((ah×ah×Int×Int×ah)×(av×(Int×Int×Int×Int×ah)×ah))
def MO(x:acg):aj (acg⊕(((Bool×ah)×(ah))⊕(((ah×ah×ah)×(av×(Int×Int×Int×Int×ah)×ah))⊕Empty))):=letI C:=x.1.2.2.2.1;bif C<x.1.2.2.1 then xI x.2.1.bB C λD=>(Ah D).bind λE=>bif (!E)then aM ((false,()),())else xI x.2.1.guard C λI=>(bZ I 3 1000).bind λO=>bif (!O)then aM ((false,()),())else xG (((),(),x.1.2.2.1,(W6 (C+1)),()),(x.2.1,x.2.2.1,()))else bF (((),(),()),(x.2.1,x.2.2.1,()))
def amp:KY 94 (bw f101):=⟨0,lB 0 ⟨[(1,.aL 1 0),(3,.aL 3 0),(47,tI),(48,tI)],Hh,[]⟩ [(1,uE),(2,aaC)] MO,lp [dO,acd]⟩
abbrev ach:=((ah×ah×(aa aQ)×Int×Int×ah)×(av×(Int×Int×Int×Int×ah)×ah))
def MP(x:ach):aj (ach⊕(((Bool×ah)×(ah))⊕(((ah)×(ah))⊕Empty))):=letI u2:=x.2.2.1;letI u1:=aM ((false,()),());letI C:=x.1.2.2;letI u3:=C.2.2.1;bif u3<C.2.1 then xI C.1 u3 λD=>(Ci (⟨u2.1,u2.2.1,u2.2.2.1,u2.2.2.2.1⟩:aH) D).bind λE=>bif (!E)then u1 else bif (D.bW != 0)then u1 else (Ev x.2.1.pending D).bind λI=>bif (I != u3)then u1 else xG (((),(),C.1,C.2.1,(W6 (u3+1)),()),(x.2.1,u2,()))else bF ((),())
def amq:KY 94 (bw f101):=⟨2,lB 2 ⟨[(1,.aL 1 0),(3,.aL 3 0),(69,.lf (.aG .Addr 0)),(70,tI),(71,tI)],Hh,[]⟩ [(1,uE),(4,lC)] MP,lp [TQ,acf]⟩
def MQ(C:av):aj (Bool):=(jP C.config.ak).bind λE=>(Ag C.az).bind λI=>bif (!I)then some false else bif ((C.az.aC.length:Int) != E)then some false else bif ((C.bB.length:Int) != E)then some false else bif ((C.guard.length:Int) != E)then some false else bif (C.pending.length:Int) > 128 then some false else cY MO (((),(),(C.bB.length:Int),0,()),(C,(C.config.ak.bI,C.config.ak.aE,C.config.ak.rows,C.config.ak.aR,()),())) (λO=>some O.1.1) λD=>cY MP (((),(),D.2.1.pending,(D.2.1.pending.length:Int),0,()),(D.2.1,D.2.2.1,())) (λT=>some T.1.1) λU=>some true
def amr:=dg vP dJ (cA MQ) 94 [lW,H6] [amp,amq] func101
def Ia(C D:aX):aj (Bool):=bif C.at_<D.at_ then some true else bif (C.at_==D.at_)then some (C.id<D.id)else some false
def aci:=bS [(true,.eK),(true,.eK)] dJ (dc Ia) 24 [] func106
def MR(E:Int)(C:aX):aj (Bool):=letI D:=(bZ C.at_ 0 1000000).bind λI=>some I;(bZ C.id 1 100000).bind λO=>bif O then (bZ C.dn 0 3).bind λT=>bif T then bif C.line >= 0 then bif C.line<E then (Ca C.data).bind λU=>bif U then bif C.write then D else bif (C.data==0)then D else some false else some false else some false else some false else some false else some false
def ams:=bS [(false,.int),(true,.eK)] dJ (dc MR) 43 [dO,Tz] func169
abbrev acj:=((Int×(aa aX)×ah×(aa aX)×Int×Int×(aa aX)×Int×Int×ah)×((Int×Int×Int×Bool×Int×Int×ah)×ah))
def Ew(x:acj):aj (acj⊕(((Bool×ah)×(ah))⊕(((Int×(aa aX)×(aa aX)×Int×Int×ah)×(ah))⊕Empty))):=letI C:=x.1.2.2.2.2;letI u1:=C.2.2;bif u1.2.2.1<u1.2.1 then xI u1.1 u1.2.2.1 λD=>bif (D.id==x.2.1.1)then aM ((false,()),())else xG ((x.1.1,x.1.2.1,(),x.1.2.2.2.1,C.1,C.2.1,u1.1,u1.2.1,(W6 (u1.2.2.1+1)),()),(x.2.1,()))else bF ((x.1.1,x.1.2.1,x.1.2.2.2.1,C.1,C.2.1,()),())
def ack:KY 52 (yc (bw f102) 0):=⟨2,lB 2 ⟨[(0,tI),(1,.lf (.aG .eK 0)),(6,.aL 6 0),(9,.lf (.aG .eK 0)),(10,tI),(11,tI),(36,.lf (.aG .eK 0)),(37,tI),(38,tI)],[(6,.aB aap)],[]⟩ [(1,qm),(4,aax)] Ew,lp []⟩
abbrev acm:=((Int×(aa aX)×(aa aX)×Int×Int×ah)×(ah))
def Ib(x:acm):aj (acm⊕(((Bool×ah)×(ah))⊕((((aa aX)×ah)×(ah))⊕Empty))):=letI u3:=x.1.2;letI u1:=u3.2.2.2.1;letI u2:=(u3.1.take u1.toNat).drop (0:Int).toNat;bif u1<u3.2.2.1 then xI u3.2.1 u1 λC=>letI E:=if 0 <= (0:Int)/\0 <= u1/\u1 <= (u3.1.length:Int)then cY Ew ((x.1.1,u3.1,(),u3.2.1,u3.2.2.1,u1,u2,(u2.length:Int),0,()),((C.id,C.dn,C.line,C.write,C.data,C.at_,()),())) (λI=>aM ((I.1.1,()),())) λD=>xG ((D.1.1,D.1.2.1,D.1.2.2.1,D.1.2.2.2.1,(W6 (D.1.2.2.2.2.1+1)),()),())else none;(MR x.1.1 C).bind λO=>bif (!O)then aM ((false,()),())else bif u1 > 0 then xI u3.1 (W6 (u1-1)) λT=>(Ia T C).bind λU=>bif (!U)then aM ((false,()),())else E else E else bF ((u3.1,()),())
def amt:KY 52 (bw f102):=⟨0,lB 0 aax [(1,qm),(2,⟨[(1,.lf (.aG .eK 0))],[],[]⟩)] Ib,lq [aci,ams] [ack,ack]⟩
def Cl(D:Int)(C:aa aX):aj (Bool):=cY Ib ((D,C,C,(C.length:Int),0,()),()) (λE=>some E.1.1) λI=>some ((I.1.1.length:Int) <= 12)
def acn:=dg [(false,.int),(false,(.sl .eK))] dJ (dc Cl) 52 [] [amt] func102
def Cm(C:iC):aj (Bool):=(bZ C.state 0 2).bind λD=>bif D then (bZ C.since 0 1000000).bind λE=>bif E then (bZ C.idle 0 1000000).bind λI=>some I else some false else some false
def MS:=bS [(true,.Power)] dJ (cA Cm) 16 [dO] func104
abbrev aco:=(((aa cP)×ah×(aa cP)×Int×Int×(aa cP)×Int×Int×ah)×((Int×Int×Int×ah)×ah))
def Ex(x:aco):aj (aco⊕(((Bool×ah)×(ah))⊕((((aa cP)×(aa cP)×Int×Int×ah)×(ah))⊕Empty))):=letI u2:=x.1.2.2;letI u1:=u2.2.2;letI C:=xG ((x.1.1,(),u2.1,u2.2.1,u1.1,u1.2.1,u1.2.2.1,(W6 (u1.2.2.2.1+1)),()),(x.2.1,()));bif u1.2.2.2.1<u1.2.2.1 then xI u1.2.1 u1.2.2.2.1 λD=>bif (x.2.1.1==D.line)then bif (x.2.1.2.1==D.code)then aM ((false,()),())else C else C else bF ((x.1.1,u2.1,u2.2.1,u1.1,()),())
def acp:KY 59 (yc (bw f105) 0):=⟨2,lB 2 ⟨[(0,.lf (.aG .iV 0)),(4,.aL 4 0),(7,.lf (.aG .iV 0)),(8,tI),(9,tI),(36,.lf (.aG .iV 0)),(37,tI),(38,tI)],[(4,.aB aaN)],[]⟩ [(1,uE),(4,aaz)] Ex,lp []⟩
abbrev acq:=(((aa cP)×(aa cP)×Int×Int×ah)×(ah))
def Ic(x:acq):aj (acq⊕(((Bool×ah)×(ah))⊕((((aa cP)×ah)×(ah))⊕Empty))):=letI u3:=aM ((false,()),());letI u1:=x.1.2.2.2.1;letI u2:=(x.1.1.take u1.toNat).drop (0:Int).toNat;bif u1<x.1.2.2.1 then xI x.1.2.1 u1 λC=>letI E:=(bZ C.times 1 999).bind λI=>bif (!I)then u3 else if 0 <= (0:Int)/\0 <= u1/\u1 <= (x.1.1.length:Int)then cY Ex ((x.1.1,(),x.1.2.1,x.1.2.2.1,u1,u2,(u2.length:Int),0,()),((C.line,C.code,C.times,()),())) (λO=>aM ((O.1.1,()),())) λD=>xG ((D.1.1,D.1.2.1,D.1.2.2.1,(W6 (D.1.2.2.2.1+1)),()),())else none;(bZ C.line 0 1023).bind λT=>bif (!T)then u3 else bif (C.code != 1)then bif (C.code != 2)then u3 else E else E else bF ((x.1.1,()),())
def amu:KY 59 (bw f105):=⟨0,lB 0 aaz [(1,uE),(2,⟨[(0,.lf (.aG .iV 0))],[],[]⟩)] Ic,lq [dO] [acp,acp]⟩
def Ie(C:aa cP):aj (Bool):=cY Ic ((C,C,(C.length:Int),0,()),()) (λD=>some D.1.1) λE=>some ((E.1.1.length:Int) <= 6)
def acr:=dg [(false,(.sl .iV))] dJ (cA Ie) 59 [] [amu] func105
def yh(C:av):aj (Bool):=(sY C.config C.box.bX).bind λD=>bif (!D)then some false else (sY C.config C.box.next).bind λE=>bif (!E)then some false else (bZ C.now 0 1000000).bind λI=>bif (!I)then some false else (HU C.config.ak C.aF).bind λO=>bif (!O)then some false else (Et C.config.ak C.ready).bind λT=>bif (!T)then some false else (Eu C.config.ak C.array).bind λU=>bif (!U)then some false else (HS C.config.ak C.spare).bind λY=>bif (!Y)then some false else bif (C.spare.cF != C.config.cF)then some false else (MQ C).bind λZ=>bif (!Z)then some false else (Cg C.config.ak C.spare).bind λy9=>(sZ y9).bind λrN=>(Cl rN C.queue).bind λoZ=>bif (!oZ)then some false else (Ed C.shares).bind λzY=>bif (!zY)then some false else bif ((C.shares.length:Int) != 4)then some false else (B9 C.drain).bind λmH=>bif (!mH)then some false else (Cm C.aN).bind λn8=>bif (!n8)then some false else bif (C.aN.state != C.aF.aN)then some false else bif C.aN.since > C.now then some false else (bZ C.eA.every 1 100000).bind λo8=>bif o8 then (bZ C.eA.wait 1 C.eA.every).bind λqq=>bif qq then (sZ C.config.ak).bind λo6=>(bZ C.eA.next 0 (W6 (o6-1))).bind λAi=>bif Ai then (Ie C.errors).bind λIg=>bif Ig then bif (C.trace.length:Int) <= 2000 then some ((C.bA.length:Int) <= 400)else some false else some false else some false else some false else some false
def Ey:=bS vP dJ (cA yh) 155 [aa9,Ef,ML,dO,Tw,ab0,TP,ab6,abX,amr,acn,Mv,MS,acr] func39
def Ih(C:aa aX):aj ((aa aX)):=bif xZ C then some (xA C)else none
def amv:=bS [(false,(.sl .eK))] [(false,(.sl .eK),2)] (cA Ih) 6 [] func107
abbrev acs:=((Int×(aa aX)×ah×Int×ah)×((Int×Int×Int×Bool×Int×Int×ah)×ah))
def Ii(x:acs):aj (acs⊕(((Int×(aa aX)×ah×Int×ah)×((Int×Int×Int×Bool×Int×Int×ah)×ah))⊕Empty)):=letI u2:=x.2.1;letI u1:=x.1.2.2.2.1;letI C:=aM ((x.1.1,x.1.2.1,(),u1,()),(u2,()));bif u1<(x.1.2.1.length:Int)then xI x.1.2.1 u1 λD=>(Ia D (⟨u2.1,u2.2.1,u2.2.2.1,u2.2.2.2.1,u2.2.2.2.2.1,u2.2.2.2.2.2.1⟩:aX)).bind λE=>bif E then xG ((x.1.1,x.1.2.1,(),(W6 (u1+1)),()),(u2,()))else C else C
def amw:KY 48 (bw f40):=⟨0,lB 0 aaq [(2,aaq)] Ii,lp [aci]⟩
def MT(O:Int)(T:aa aX)(C:aX):aj ((aa aX)×Bool):=bR Ii ((O,T,(),0,()),((C.id,C.dn,C.line,C.write,C.data,C.at_,()),())) λD=>letI u6:=D.2.1.2;letI u5:=D.1.2.1;letI u4:=(Ih u5).bind λU=>some (U,false);letI u3:=D.1.2.2.2.1;letI u2:=(u5.length:Int);letI u1:=(u5.take u2.toNat).drop u3.toNat;letI E:=([(⟨D.2.1.1,u6.1,u6.2.1,u6.2.2.1,u6.2.2.2.1,u6.2.2.2.2.1⟩:aX)]:aa aX);if 0 <= (0:Int)/\0 <= u3/\u3 <= u2 then if 0 <= u3/\u3 <= u2/\u2 <= u2 then (Ih ((u5.take u3.toNat).drop (0:Int).toNat)).bind λI=>bif bV (I.length+E.length)then bif bV ((I++E).length+u1.length)then (Cl D.1.1 u5).bind λY=>bif (!Y)then u4 else (Cl D.1.1 ((I++E)++u1)).bind λZ=>bif (!Z)then u4 else some (((I++E)++u1),true)else none else none else none else none
def amx:=dg [(false,.int),(false,(.sl .eK)),(true,.eK)] [(false,(.sl .eK),2),(false,.bool,0)] (iZ MT) 48 [acn,amv] [amw] func40
def amy:enters Tryz.prog 44/\qf Tryz.prog 44 (cj Tryz.prog f44 1 []):=He (D6 1 [] func44 trivial)
abbrev acu:=(((aa gj)×aX×Int×Int×ah)×(ah))
def Ij(x:acu):aj (acu⊕(((Int×ah)×(ah))⊕(((ah)×(ah))⊕Empty))):=letI C:=x.1.2.2.2.1;bif C<x.1.2.2.1 then xI x.1.1 C λD=>bif (D.id==x.1.2.1.id)then aM ((C,()),())else xG ((x.1.1,x.1.2.1,x.1.2.2.1,(W6 (C+1)),()),())else bF ((),())
def amz:KY 19 (bw f108):=⟨0,lB 0 ⟨[(0,.lf (.aG .nN 0)),(1,.fc 44 .eK),(7,tI),(8,tI)],[],[]⟩ [(1,B4),(2,lC)] Ij,lp [⟨44,.i _,amy⟩]⟩
def TS(C:aa gj)(D:aX):aj (Int):=(iter Ij bq ((C,D,(C.length:Int),0,()),())).bind (Sum.elim (λE=>some E.1.1) (Sum.elim (λI=>some (-1)) (λz=>nomatch z)))
def amA:KX:=⟨108,.q (iu [(false,(.sl .nN)),(false,(.A1 44))] [(false,.int,0)] λx=>TS x.1 x.2.1),kq 19 [] [amz] func108⟩
def MU(C:aa gj)(D:aX):aj (Bool):=(TS C D).bind λE=>some (decide (E >= 0))
def amB:KX:=⟨43,.q (iu [(false,(.sl .nN)),(false,(.A1 44))] [(false,.bool,0)] λx=>MU x.1 x.2.1),kp 9 [amA] func43⟩
def MV(C:av)(D:aX):aj (av×Bool):=letI E:=(⟨D.id,D.dn,D.line,D.write,D.data,C.now⟩:aX);(Cf C).bind λI=>letI u1:=some (I,false);(yh C).bind λT=>bif (!T)then u1 else (Cg C.config.ak C.spare).bind λU=>(sZ U).bind λY=>(MT Y C.queue E).bind λO=>(MU C.bA E).bind λZ=>bif (!O.2)then u1 else bif Z then u1 else some ({I with queue:=O.1},true)
def amC:=bS [(true,.eC),(true,.eK)] Th (dc MV) 46 [MJ,Ey,amx,Ef,ML,amB] func11
def amD:bD:=⟨[(1,tI),(2,.aL 2 0),(4,.aL 4 0),(5,.aL 5 0),(28,tI),(29,tI)],aak,[]⟩
def amE:aa (Nat×bD):=[(2,⟨[(1,tI),(2,.aL 2 0),(4,.aL 4 0),(5,.aL 5 0)],aak,[]⟩)]
abbrev acv:=((Int×ah×ah×ah×Int×Int×ah)×(((aa Int)×Int×Bool×ah)×(ah×Int×Bool×ah)×(ah×Int×Bool×ah)×(aa Int)×(aa Int)×ah))
def Ik(x:acv):aj (acv⊕(((Int×ah×ah×ah×ah)×(((aa Int)×Int×Bool×ah)×(ah×Int×Bool×ah)×(ah×Int×Bool×ah)×(aa Int)×(aa Int)×ah))⊕Empty)):=letI u2:=((),x.2.2.1.2.1,x.2.2.1.2.2.1,());letI u1:=x.2.2.2;letI u4:=u1.2.2.1;letI u3:=((),u1.1.2.1,u1.1.2.2.1,());letI C:=x.1.2.2.2.2;bif C.2.1<C.1 then xL u4 C.2.1 λD=>letI u5:=W6 (D+1);xL u4 C.2.1 λE=>xG ((x.1.1,(),(),(),C.1,(W6 (C.2.1+1)),()),(x.2.1,u2,u3,u1.2.1,(u4.set C.2.1.toNat (if 5<u5 then 5 else u5)),()))else aM ((x.1.1,(),(),(),()),(x.2.1,u2,u3,u1.2.1,u4,()))
def amF:KY 52 (bw f109):=⟨0,lB 0 amD amE Ik,lp []⟩
def MW(D:eH)(O:Int):aj (eH):=(Ce D).bind λC=>letI I:=W6 (C.wait-1);(Ag D).bind λT=>bif (!T)then some C else (bZ O 2 10000).bind λU=>bif (!U)then some C else bif I > 0 then some (⟨C.aC,I,C.dY⟩:eH)else bR Ik ((O,(),(),(),(C.aC.length:Int),0,()),((D.aC,D.wait,D.dY,()),((),0,false,()),((),I,C.dY,()),([]:aa Int),C.aC,())) λE=>letI u1:=E.2.2.2;bif E.2.1.2.2.1 then some (⟨u1.2.2.1,(W6 (E.1.1.tdiv 2)),u1.1.2.2.1⟩:eH)else some (⟨u1.2.2.1,E.1.1,u1.1.2.2.1⟩:eH)
def amG:=dg [(true,.m0),(false,.int)] [(true,.m0,2)] (dc MW) 52 [dO,TG,H6] [amF] func109
def amH:bD:=⟨[(2,tI),(6,.aL 6 0),(7,.aL 7 0),(23,tI),(24,tI)],zz7,[]⟩
def amI:aa (Nat×bD):=[(2,⟨[(6,.aL 6 0),(7,.aL 7 0)],zz7,[]⟩)]
abbrev acw:=((Int×ah×ah×Int×Int×ah)×((ah×ah×ah×ah)×(ah×ah×ah×ah)×(aa cB)×(aa Int)×(aa Int)×(aa cB)×(aa Int)×(aa Int)×ah))
def Il(x:acw):aj (acw⊕(((ah×ah×ah)×((ah×ah×ah×ah)×(ah×ah×ah×ah)×(aa cB)×(aa Int)×(aa Int)×(aa cB)×(aa Int)×(aa Int)×ah))⊕Empty)):=letI u4:=x.2.2.2;letI u2:=((),(),(),());letI u1:=x.1.2.2.2.2.1;letI C:=u4.2.2;letI u5:=C.2.2;bif u1<x.1.2.2.2.1 then xL u5.1 u1 λD=>letI u3:=W6 (D+x.1.1);xL u5.1 u1 λE=>xG ((x.1.1,(),(),x.1.2.2.2.1,(W6 (u1+1)),()),(u2,u2,u4.1,u4.2.1,C.1,C.2.1,(u5.1.set u1.toNat (if 100000<u3 then 100000 else u3)),u5.2.1,()))else aM (((),(),()),(u2,u2,u4.1,u4.2.1,C.1,C.2.1,u5.1,u5.2.1,()))
def amJ:KY 41 (bw f110):=⟨0,lB 0 amH amI Il,lp []⟩
def Im(O:aH)(E:dw)(I:Int):aj (dw):=(Em E).bind λC=>(Eu O E).bind λT=>bif (!T)then some C else (bZ I 0 100000).bind λU=>bif (!U)then some C else bR Il ((I,(),(),(C.bu.length:Int),0,()),(((),(),(),()),((),(),(),()),([]:aa cB),([]:aa Int),([]:aa Int),C.cells,C.bu,C.bg,())) λY=>letI D:=Y.2.2.2.2.2.2;some (⟨D.1,D.2.1,D.2.2.1⟩:dw)
def amK:=dg [(true,.fO),(true,.Array),(false,.int)] [(true,.Array,4)] (iZ Im) 41 [dO,abA,ab6] [amJ] func110
def Ez(C:mX)(D:Int):aj (mX):=(B9 C).bind λE=>bif (!E)then some C else bif D >= C.high then some (⟨true,C.low,C.high⟩:mX)else bif D <= C.low then some (⟨false,C.low,C.high⟩:mX)else some C
def amL:=bS [(true,.tP),(false,.int)] [(true,.tP,0)] (dc Ez) 22 [Mv] func111
abbrev acy:=((Bool×Int×(aa aX)×Int×Int×ah)×(ah))
def Io(x:acy):aj (acy⊕(((Int×ah)×(ah))⊕Empty)):=letI C:=x.1.2.2;letI u1:=C.2.2.1;bif u1<C.2.1 then xI C.1 u1 λD=>bif (D.write==x.1.1)then xG ((x.1.1,(W6 (x.1.2.1+1)),C.1,C.2.1,(W6 (u1+1)),()),())else xG ((x.1.1,x.1.2.1,C.1,C.2.1,(W6 (u1+1)),()),())else aM ((x.1.2.1,()),())
def amM:KY 22 (bw f112):=⟨0,lB 0 ⟨[(1,tB),(5,tI),(8,.lf (.aG .eK 0)),(9,tI),(10,tI)],[],[]⟩ [(2,Hg)] Io,lp []⟩
def EA(C:aa aX)(D:Bool):aj (Int):=bR Io ((D,0,C,(C.length:Int),0,()),()) λE=>some E.1.1
def amN:=dg [(false,(.sl .eK)),(false,.bool)] gq (dc EA) 22 [] [amM] func112
def EB(C:iC)(E:Bool):aj (iC):=letI D:=W6 (C.idle+1);(Cm C).bind λI=>bif (!I)then some C else bif E then some (⟨C.state,C.since,0⟩:iC)else some (⟨C.state,C.since,(if 1000000<D then 1000000 else D)⟩:iC)
def amO:=bS [(true,.Power),(false,.bool)] [(true,.Power,0)] (dc EB) 18 [MS] func113
abbrev acz:=((ah×(aa Int)×Int×Int×ah)×((aa Int)×ah))
def Ip(x:acz):aj (acz⊕(((ah×ah)×((aa Int)×ah))⊕Empty)):=letI u1:=x.1.2.2.2.1;letI C:=((),x.1.2.1,x.1.2.2.1,(W6 (u1+1)),());bif u1<x.1.2.2.1 then xI x.1.2.1 u1 λD=>bif D >= 4 then bif bV (x.2.1.length+([u1]:aa Int).length)then xG (C,((x.2.1++([u1]:aa Int)),()))else none else xG (C,(x.2.1,()))else aM (((),()),(x.2.1,()))
def amP:KY 26 (bw f170):=⟨0,lB 0 ⟨[(3,.lf (.own 9)),(11,.lf (.aG .int 0)),(12,tI),(13,tI)],[(9,.sl .int 2)],[]⟩ [(2,⟨[(3,.lf (.own 9))],[(9,.sl .int 2)],[]⟩)] Ip,lp []⟩
def EC(C:eH):aj ((aa Int)):=(Ag C).bind λD=>bif (!D)then some ([])else bR Ip (((),C.aC,(C.aC.length:Int),0,()),(([]:aa Int),())) λE=>some E.2.1
def TT:=dg [(true,.m0)] vO (cA EC) 26 [H6] [amP] func170
def Aj(C:av):aj (Bool):=bif (C.queue.length:Int) > 0 then some true else bif (C.pending.length:Int) > 0 then some true else (EC C.az).bind λD=>some ((D.length:Int) > 0)
def acA:=bS vP dJ (cA Aj) 20 [TT] func114
def Iq(C:mY)(E:Bool):aj (mY×Bool):=(HO C).bind λD=>bif (!E)then some (D,false)else bif (!C.waits)then some (D,false)else (vR C.next).bind λI=>some ((⟨I,D.next,false⟩:mY),true)
def amQ:=bS [(true,.sj),(false,.bool)] [(true,.sj,2),(false,.bool,0)] (dc Iq) 23 [TE,abw] func115
def yj(C:tO)(D:Int):aj (tO×Int):=letI E:=some (C,(-1));(bZ C.every 1 100000).bind λI=>bif (!I)then E else (bZ C.wait 1 C.every).bind λO=>bif (!O)then E else bif D<1 then E else (bZ C.next 0 (W6 (D-1))).bind λT=>bif (!T)then E else bif (W6 (C.wait-1)) > 0 then some ((⟨C.next,C.every,(W6 (C.wait-1))⟩:tO),(-1))else if D=0 then none else some ((⟨((W6 (C.next+1)).tmod D),C.every,C.every⟩:tO),C.next)
def amR:=bS [(true,.vf),(false,.int)] [(true,.vf,0),(false,.int,0)] (dc yj) 52 [dO] func116
def MX(D:aa Int):aj (Bool):=(Ab D).bind λC=>bif jH C then none else xL C (0:Int) λE=>bif (E==0)then xL C (1:Int) λI=>bif (I==0)then xL C (2:Int) λO=>some (O==0)else some false else some false
def amS:=bS zR dJ (cA MX) 26 [TB] func208
abbrev acB:=((Int×Int×ah)×(ah))
def acC(x:acB):aj (acB⊕(((Int×ah)×(ah))⊕(((ah)×(ah))⊕Empty))):=bif x.1.2.1<15 then (HH 2 x.1.2.1).bind λC=>bif (C==x.1.1)then aM ((x.1.2.1,()),())else xG ((x.1.1,(W6 (x.1.2.1+1)),()),())else bF ((),())
def amT:KY 13 (bw f209):=⟨0,lB 0 aaM [(1,⟨[(2,tI)],[],[]⟩),(2,lC)] acC,lp [abh]⟩
def MY(C:Int):aj (Int):=cY acC ((C,0,()),()) (λD=>some D.1.1) λE=>some (-1)
def amU:=dg sX gq (cA MY) 13 [] [amT] func209
def Ir(E:aa Int):aj ((aa Int)×Int×Int):=letI u1:=xA E;letI I:=some (u1,2,(-1));(Ab E).bind λD=>bif jH D then none else bif xZ E then (MX E).bind λT=>bif T then some (u1,0,(-1))else xL D (0:Int) λU=>bif (U != 0)then xL D (1:Int) λY=>bif (Y != 0)then xL D (1:Int) λZ=>xL D (0:Int) λAc=>(Cd Ac).bind λo8=>(jx Z o8).bind λO=>(MY O).bind λC=>bif C<11 then xL D (1:Int) λe20=>xL D (2:Int) λe23=>(jx e20 O).bind λAd=>bif (Ad==e23)then xC u1 C (if h26:C.toNat<u1.length then (let Mw:=u1[C.toNat]'h26;xL D (0:Int) λTD=>xC u1 C (if h32:C.toNat<u1.length then (let e33:=u1[C.toNat]'h32;some ((u1.set C.toNat (bits .xor .i64 Mw TD)),1,C))else none))else none)else I else I else I else I else none
def acD:=bS zR [(false,(.sl .int),2),(false,.int,0),(false,.int,0)] (cA Ir) 64 [TB,abm,HG,amS,amU] func171
abbrev acE:=((Int×(aa Int)×Int×Int×ah)×(ah))
def Is(x:acE):aj (acE⊕(((Int×ah)×(ah))⊕Empty)):=letI C:=x.1.2.2.2.1;bif C<x.1.2.2.1 then xI x.1.2.1 C λD=>if (W6 (4*C))<0 then none else xG (((bits .or .i64 x.1.1 (W6 (D*2 ^ (min (W6 (4*C)).toNat IntKind.i64.bits)))),x.1.2.1,x.1.2.2.1,(W6 (C+1)),()),())else aM ((x.1.1,()),())
def amV:KY 25 (bw f210):=⟨0,lB 0 ⟨[(4,tI),(10,.lf (.aG .int 0)),(11,tI),(12,tI)],[],[]⟩ [(2,B4)] Is,lp []⟩
def MZ(C:aa Int):aj (Int×Bool):=(vQ C 8).bind λD=>bif (!D)then some (0,false)else bR Is ((0,C,(C.length:Int),0,()),()) λE=>some (E.1.1,true)
def amW:=dg zR [(false,.int,0),(false,.bool,0)] (cA MZ) 25 [HF] [amV] func210
end Go.Proofs.YtpigmalhjkekiaaGreat
