/-
  Functions of the program as plain functions of contents, and that the code computes them. Nothing here is a claim.
-/
import Derived.Test.YtdfkhfiglknaoaaGreatVZ
import Derived.Test.YtdfkhfiglknaoaaGreatRows
import Derived.Test.YtdfkhfiglknaoaaGreatRep
import Derived.Test.YtdfkhfiglknaoaaGreatG1
import Derived.Test.YtdfkhfiglknaoaaGreatG2
namespace Go.Proofs.YtdfkhfiglknaoaaGreat
set_option linter.defProp false
open Go.RowKit Go.Proofs.Tryz
set_option linter.unusedVariables false
set_option maxRecDepth 100000
def atO:bF:=⟨[(1,.aE 1 0),(2,.aE 2 0),(4,.aE 4 0),(5,tI)],[(1,.aB eK),(2,.aB Df),(4,.aB [.own 90200,.own 16,.own 18]),(90100,.sl .Cell 4),(90101,.sl .int 2),(90102,.sl .int 2),(90200,.sl .Cell 4),(16,.sl .int 2),(18,.sl .int 2)],[]⟩
def atP:aa (Nat×bF):=[(2,⟨[(2,.aE 2 0),(4,.aE 4 0)],[(2,.aB Df),(4,.aB [.own 90200,.own 16,.own 18]),(90100,.sl .Cell 4),(90101,.sl .int 2),(90102,.sl .int 2),(90200,.sl .Cell 4),(16,.sl .int 2),(18,.sl .int 2)],[]⟩)]
abbrev agG:=((af×af×af×Int×af)×((Int×Int×Int×Int×af)×(af×af×af×af)×(af×af×af×af)×(aa bQ)×(aa Int)×(aa Int)×(aa bQ)×(aa Int)×(aa Int)×af))
def KM(x:agG):ah (agG⊕(((af×af×af)×((af×af×af×af)×(af×af×af×af)×(aa bQ)×(aa Int)×(aa Int)×(aa bQ)×(aa Int)×(aa Int)×af))⊕Empty)):=letI E:=((),(),(),());letI D:=x.2.2.2.2.2;letI C:=D.2.2;(tZ (⟨x.2.1.1,x.2.1.2.1,x.2.1.2.2.1,x.2.1.2.2.2.1⟩:aG)).bind λO=>bif x.1.2.2.2.1<O then (Bd 0).bind λI=>bif bE (C.1.length+[(⟨I,false⟩:bQ)].length)then xG (((),(),(),(W6 (x.1.2.2.2.1+1)),()),(x.2.1,E,E,x.2.2.2.2.1,D.1,D.2.1,(C.1++[(⟨I,false⟩:bQ)]),C.2.1,C.2.2.1,()))else none else az (((),(),()),(E,E,x.2.2.2.2.1,D.1,D.2.1,C.1,C.2.1,C.2.2.1,()))
def atQ:KY 34 (bf f62):=⟨0,lB 0 atO atP KM,lp [Gj,agF]⟩
def Q3(D:aG):ah (cJ):=(oN D).bind λI=>bif (!I)then some (⟨[],[],[]⟩:cJ)else (me D).bind λO=>letI C:=W6 (O*D.rows);if 0 <= C/\C <= C/\C<1073741824 then if 0 <= C/\C <= C/\C<1073741824 then bw KM (((),(),(),0,()),((D.bK,D.aA,D.rows,D.aK,()),((),(),(),()),((),(),(),()),([]:aa bQ),([]:aa Int),([]:aa Int),([]:aa bQ),(List.replicate C.toNat (0:Int)),(List.replicate C.toNat (0:Int)),())) λU=>letI E:=U.2.2.2.2.2.2;some (⟨E.1,E.2.1,E.2.2.1⟩:cJ)else none else none
def atT:=bZ tX [(true,.Array,4)] (bN Q3) 34 [oa,rO] [atQ] func62
def xb(C:dz):ah (dz):=bif xZ C.weights then some (⟨C.eG,C.cap,C.eC,C.low,C.high,(xA C.weights),C.de⟩:dz)else none
def Q4:=bB FZ [(true,.nP,2)] (bN xb) 9 [] func126
def Q5(C:dz):ah (iK×Bool):=(Gh C).bind λD=>bif (!D)then some ((⟨⟨0,0,0,0,0,[],⟨0,0⟩⟩,⟨0,0,0,0,0,[],⟨0,0⟩⟩,false⟩:iK),false)else (xb C).bind λE=>(xb C).bind λI=>some ((⟨E,I,false⟩:iK),true)
def atU:=bB FZ FW (bN Q5) 13 [YJ,Q4] func63
def Q6(C D:Int):ah (c8×Bool):=letI E:=some ((⟨[],0,false⟩:c8),false);(cz C 1 8).bind λI=>bif (!I)then E else (cz D 2 10000).bind λO=>bif (!O)then E else if 0 <= C/\C <= C/\C<1073741824 then some ((⟨(List.replicate C.toNat (0:Int)),D,false⟩:c8),true)else none
def atV:=bB A3 [(true,.ld,2),(false,.bool,0)] (bR Q6) 19 [eH] func65
def YO(C:Int):ah (lZ×Bool):=(cz C 1 100000).bind λD=>bif (!D)then some ((⟨0,0,0⟩:lZ),false)else some ((⟨0,C,C⟩:lZ),true)
def atW:=bB mb [(true,.sx,0),(false,.bool,0)] (bN YO) 11 [eH] func68
def Gm(C:Int):ah (cq×Bool):=(cz C 1 16).bind λD=>bif (!D)then some ((⟨[],[],0⟩:cq),false)else (De ([(-1)]:aa Int) C).bind λE=>if 0 <= C/\C <= C/\C<1073741824 then some ((⟨E,(List.replicate C.toNat (0:Int)),0⟩:cq),true)else none
def agH:=bB mb [(true,.jL,2),(false,.bool,0)] (bN Gm) 14 [eH,⟨127,.p aeL,asE⟩] func69
def atX:bF:=⟨[(2,.aE 2 0),(3,.aE 3 0),(4,.aE 4 0),(6,.aE 6 0),(7,.aE 7 0),(8,tI)],[(2,.st .Config),(3,.aB yZ),(6,.aB eK)],ae4⟩
def atY:aa (Nat×bF):=[(2,⟨[(4,.aE 4 0),(7,.aE 7 0)],[],ae4⟩)]
abbrev agI:=((af×af×af×af×af×Int×af)×(ax×ax×dP×(Int×Int×Int×Int×Int×(aa Int)×Int×Int×af)×(Int×Int×Int×Int×af)×af))
def Gn(x:agI):ah (agI⊕(((af×af×af)×(ax×ax×af))⊕Empty)):=letI C:=x.2.2.2.2;letI E:=([C.1.2.2.1]:aa Int);letI D:=x.2.2.1;(me (⟨C.2.1.1,C.2.1.2.1,C.2.1.2.2.1,C.2.1.2.2.2.1⟩:aG)).bind λO=>bif x.1.2.2.2.2.2.1<O then (Gm x.2.2.2.1.gO).bind λI=>bif bE (D.bH.length+[I.1].length)then bif bE (D.guard.length+E.length)then xG (((),(),(),(),(),(W6 (x.1.2.2.2.2.2.1+1)),()),(x.2.1,{D with bH:=(D.bH++[I.1]),guard:=(D.guard++E)},x.2.2.2.1,C.1,C.2.1,()))else none else none else az (((),(),()),(x.2.1,D,()))
def atZ:KY 92 (bf f35):=⟨0,lB 0 atX atY Gn,lp [oa,agH]⟩
def Q7(C:dP)(D:dz):ah (ax×Bool):=(rP C D).bind λE=>bif (!E)then some ((⟨⟨⟨0,0,0,0⟩,⟨0,0,0,0,0,0,0,0,0,0,0,0,0,0,0,0,0⟩,⟨0,false⟩,0,0,0,⟨0,0⟩⟩,⟨⟨0,0,0,0,0,[],⟨0,0⟩⟩,⟨0,0,0,0,0,[],⟨0,0⟩⟩,false⟩,0,⟨[],0⟩,⟨[],[]⟩,⟨[],[],[]⟩,⟨0,[]⟩,⟨[],0,false⟩,[],[],[],[],[],⟨false,0,0⟩,⟨0,0,0⟩,⟨0,0,0⟩,[],[],[]⟩:ax),false)else (Gi C.au).bind λI=>(KD C.au).bind λO=>(Q3 C.au).bind λU=>(Q5 D).bind λY=>(Ge C.au C.bL).bind λy6=>(me C.au).bind λy7=>(Q6 y7 C.interval).bind λy8=>(A9 D.weights).bind λy9=>(YO 10).bind λgH=>bw Gn (((),(),(),(),(),0,()),((⟨⟨⟨0,0,0,0⟩,⟨0,0,0,0,0,0,0,0,0,0,0,0,0,0,0,0,0⟩,⟨0,false⟩,0,0,0,⟨0,0⟩⟩,⟨⟨0,0,0,0,0,([]:aa Int),⟨0,0⟩⟩,⟨0,0,0,0,0,([]:aa Int),⟨0,0⟩⟩,false⟩,0,⟨([]:aa di),0⟩,⟨([]:aa Int),([]:aa Int)⟩,⟨([]:aa bQ),([]:aa Int),([]:aa Int)⟩,⟨0,([]:aa Int)⟩,⟨([]:aa Int),0,false⟩,([]:aa cq),([]:aa Int),([]:aa aM),([]:aa aN),([]:aa cD),⟨false,0,0⟩,⟨0,0,0⟩,⟨0,0,0⟩,([]:aa cB),([]:aa bW),([]:aa dA)⟩:ax),(⟨C,Y.1,0,I,O,U,y6.1,y8.1,([]:aa cq),([]:aa Int),([]:aa aM),([]:aa aN),y9.1,⟨false,D.low,D.high⟩,⟨0,0,0⟩,gH.1,([]:aa cB),([]:aa bW),([]:aa dA)⟩:ax),C,(D.eG,D.cap,D.eC,D.low,D.high,D.weights,D.de.down,D.de.sleep,()),(C.au.bK,C.au.aA,C.au.rows,C.au.aK,()),())) λmg=>some (mg.2.2.1,true)
def at0:=bZ Qr J5 (bR Q7) 92 [YK,YL,ags,atT,atU,YG,atV,oa,YI,atW] [atZ] func35
abbrev agJ:=((af×(aa di)×Int×Int×af)×((aa Int)×af))
def Gq(x:agJ):ah (agJ⊕(((af×af)×((aa Int)×af))⊕Empty)):=letI C:=x.1.2.2.2.1;letI D:=((),x.1.2.1,x.1.2.2.1,(W6 (C+1)),());bif C<x.1.2.2.1 then xI x.1.2.1 C λE=>bif E.open_ then bif bE (x.2.1.length+([C]:aa Int).length)then xG (D,((x.2.1++([C]:aa Int)),()))else none else xG (D,(x.2.1,()))else az (((),()),(x.2.1,()))
def at3:KY 23 (bf f168):=⟨0,lB 0 ⟨[(3,.lf (.own 6)),(8,.lf (.aI .kK 0)),(9,tI),(10,tI)],Qp,[]⟩ [(2,Yg)] Gq,lp []⟩
def Be(C:bX):ah ((aa Int)):=bw Gq (((),C.aA,(C.aA.length:Int),0,()),(([]:aa Int),())) λD=>some D.2.1
def Q8:=bZ [(true,.ji)] mL (bN Be) 23 [] [at3] func168
abbrev agK:=((af×af×(aa di)×Int×Int×af)×((Int×Int×Int×Int×af)×((aa di)×Int×af)×af))
def KN(x:agK):ah (agK⊕(((Bool×af)×(af))⊕(((af×af)×(((aa di)×Int×af)×af))⊕Empty))):=letI C:=x.1.2.2;letI E:=xG (((),(),C.1,C.2.1,(W6 (C.2.2.1+1)),()),(x.2.1,x.2.2.1,()));bif C.2.2.1<C.2.1 then xI C.1 C.2.2.1 λD=>(cz D.row 0 (W6 (x.2.1.2.2.1-1))).bind λI=>bif (!I)then az ((false,()),())else bif (!D.open_)then bif (D.row != 0)then az ((false,()),())else E else E else bx (((),()),(x.2.2.1,()))
def at4:KY 58 (bf f95):=⟨0,lB 0 ⟨[(2,.aE 2 0),(3,.aE 3 0),(25,.lf (.aI .kK 0)),(26,tI),(27,tI)],[(2,.aB eK),(3,.aB Dj)],[]⟩ [(1,mc),(2,⟨[(3,.aE 3 0)],[(3,.aB Dj)],[]⟩)] KN,lp [eH]⟩
def KO(C:aG)(D:bX):ah (Bool):=(oN C).bind λI=>bif (!I)then some false else (me C).bind λO=>bif ((D.aA.length:Int) != O)then some false else (cz D.aR 0 2).bind λU=>bif (!U)then some false else bU KN (((),(),D.aA,(D.aA.length:Int),0,()),((C.bK,C.aA,C.rows,C.aK,()),(D.aA,D.aR,()),())) (λY=>some Y.1.1) λE=>bif (E.2.1.2.1 != 2)then some true else (Be (⟨E.2.1.1,E.2.1.2.1⟩:bX)).bind λy9=>some ((y9.length:Int)==0)
def agL:=bZ [(true,.gd),(true,.ji)] cy (bR KO) 58 [oa,eH,rO,Q8] [at4] func95
def ze(C:Int):ah (Bool):=(cz C 1 5).bind λD=>some D
def Q9:=bB mb cy (bN ze) 5 [eH] func232
def Dy(O:aG)(I:Int):ah (aF×Bool):=letI C:=W6 (I.tdiv 9);letI D:=W6 ((I.tmod 9)+1);(me O).bind λE=>bif C<E then (ze D).bind λU=>some ((⟨D,C,0,0⟩:aF),((decide (C<E))==U))else (ze D).bind λY=>some ((⟨D,0,0,0⟩:aF),((decide (C<E))==Y))
def agM:=bB J7 [(true,.Command,0),(false,.bool,0)] (bR Dy) 27 [oa,Q9] func169
abbrev agN:=((af×af×(aa Int)×Int×Int×af)×((Int×Int×Int×Int×af)×((aa Int)×(aa Int)×af)×af))
def KP(x:agN):ah (agN⊕(((Bool×af)×(af))⊕(((af×af)×(((aa Int)×(aa Int)×af)×af))⊕Empty))):=letI C:=x.1.2.2;letI D:=C.2.2.1;letI E:=xG (((),(),C.1,C.2.1,(W6 (D+1)),()),(x.2.1,x.2.2.1,()));bif D<C.2.1 then xI C.1 D λI=>(Dy (⟨x.2.1.1,x.2.1.2.1,x.2.1.2.2.1,x.2.1.2.2.2.1⟩:aG) D).bind λO=>(cz I (-1) 1000000).bind λU=>bif (!U)then az ((false,()),())else bif (!O.2)then bif (I != (-1))then az ((false,()),())else E else E else bx (((),()),(x.2.2.1,()))
def at5:KY 82 (bf f96):=⟨0,lB 0 ⟨[(2,.aE 2 0),(3,.aE 3 0),(31,.lf (.aI .int 0)),(32,tI),(33,tI)],[(2,.aB eK),(3,.aB Di)],[]⟩ [(1,mc),(2,afB)] KP,lp [eH,agM]⟩
abbrev agO:=((af×(aa Int)×Int×Int×af)×(((aa Int)×(aa Int)×af)×af))
def KQ(x:agO):ah (agO⊕(((Bool×af)×(af))⊕(((af)×(af))⊕Empty))):=letI C:=x.1.2.2.2.1;letI D:=xG (((),x.1.2.1,x.1.2.2.1,(W6 (C+1)),()),(x.2.1,()));bif C<x.1.2.2.1 then xI x.1.2.1 C λE=>(cz E 0 1000000).bind λI=>bif (!I)then az ((false,()),())else bif C > 0 then xI x.2.1.2.1 (W6 (C-1)) λO=>bif O >= E then az ((false,()),())else D else D else bx ((),())
def at6:KY 82 (bf f96):=⟨2,lB 2 ⟨[(3,.aE 3 0),(57,.lf (.aI .int 0)),(58,tI),(59,tI)],[(3,.aB Di)],[]⟩ [(1,mc),(4,ic)] KQ,lp [eH]⟩
def Gr(C:aG)(D:c9):ah (Bool):=(oN C).bind λI=>bif (!I)then some false else (me C).bind λO=>bif ((D.last.length:Int) != (W6 (9*(W6 (O+1)))))then some false else bif (D.aT.length:Int) > 4 then some false else bU KP (((),(),D.last,(D.last.length:Int),0,()),((C.bK,C.aA,C.rows,C.aK,()),(D.last,D.aT,()),())) (λU=>some U.1.1) λE=>bU KQ (((),E.2.1.2.1,(E.2.1.2.1.length:Int),0,()),(E.2.1,())) (λY=>some Y.1.1) λrQ=>some true
def YP:=bZ [(true,.gd),(true,.oA)] cy (bR Gr) 82 [oa,rO] [at5,at6] func96
abbrev agP:=((af×(aa bQ)×Int×Int×af)×(((aa bQ)×(aa Int)×(aa Int)×af)×af))
def KR(x:agP):ah (agP⊕(((Bool×af)×(af))⊕(((af×af)×(((aa bQ)×(aa Int)×(aa Int)×af)×af))⊕Empty))):=letI C:=x.1.2.2;bif C.2.1<C.1 then xI x.1.2.1 C.2.1 λD=>(w8 D.symbols 11).bind λE=>bif (!E)then az ((false,()),())else xG (((),x.1.2.1,C.1,(W6 (C.2.1+1)),()),(x.2.1,()))else bx (((),()),(x.2.1,()))
def at7:KY 74 (bf f97):=⟨0,lB 0 ⟨[(3,.aE 3 0),(40,.lf (.aI .Cell 0)),(41,tI),(42,tI)],[(3,.aB Qn)],[]⟩ [(1,mc),(2,⟨[(3,.aE 3 0)],[(3,.aB Qn)],[]⟩)] KR,lp [KF]⟩
abbrev agQ:=((af×Int×Int×af)×(((aa bQ)×(aa Int)×(aa Int)×af)×af))
def KS(x:agQ):ah (agQ⊕(((Bool×af)×(af))⊕(((af)×(af))⊕Empty))):=letI C:=x.1.2.2.1;bif C<x.1.2.1 then xI x.2.1.2.1 C λD=>(cz D 0 100000).bind λE=>bif (!E)then az ((false,()),())else xI x.2.1.2.2.1 C λI=>(cz I 0 100000).bind λO=>bif (!O)then az ((false,()),())else xG (((),x.1.2.1,(W6 (C+1)),()),(x.2.1,()))else bx ((),())
def at8:KY 74 (bf f97):=⟨2,lB 2 ⟨[(3,.aE 3 0),(53,tI),(54,tI)],[(3,.aB Qn)],[]⟩ [(1,mc),(4,ic)] KS,lp [eH]⟩
def Dz(D:aG)(C:cJ):ah (Bool):=(me D).bind λE=>(oN D).bind λO=>bif (!O)then some false else (tZ D).bind λU=>bif ((C.cells.length:Int) != U)then some false else bif ((C.bu.length:Int) != (W6 (E*D.rows)))then some false else bif ((C.bq.length:Int) != (W6 (E*D.rows)))then some false else bU KR (((),C.cells,(C.cells.length:Int),0,()),((C.cells,C.bu,C.bq,()),())) (λY=>some Y.1.1) λI=>bU KS (((),(I.2.1.2.1.length:Int),0,()),(I.2.1,())) (λrQ=>some rQ.1.1) λz16=>some true
def YQ:=bZ [(true,.gd),(true,.Array)] cy (bR Dz) 74 [oa,Gj,rO] [at7,at8] func97
def YR:enters Tryz.prog 171/\pN Tryz.prog 171 (cj Tryz.prog f171 1 []):=Db (A1 1 [] func171 trivial)
abbrev agR:=((Int×Int×(aa Int)×Int×Int×af)×(af))
def KT(x:agR):ah (agR⊕(((Int×af)×(af))⊕Empty)):=letI C:=x.1.2.2;letI D:=C.2.2.1;bif D<C.2.1 then xI C.1 D λE=>bif (E==x.1.1)then xG ((x.1.1,(W6 (x.1.2.1+1)),C.1,C.2.1,(W6 (D+1)),()),())else xG ((x.1.1,x.1.2.1,C.1,C.2.1,(W6 (D+1)),()),())else az ((x.1.2.1,()),())
def at9:KY 21 (bf f172):=⟨0,lB 0 ⟨[(1,tI),(5,tI),(8,.lf (.aI .int 0)),(9,tI),(10,tI)],[],[]⟩ [(2,wW)] KT,lp []⟩
def Ra(C:aa Int)(D:Int):ah (Int):=bw KT ((D,0,C,(C.length:Int),0,()),()) λE=>some E.1.1
def aua:=bZ FU dS (bR Ra) 21 [] [at9] func172
abbrev agS:=((af×af×Int×Int×(aa Int)×(aa Int)×Int×Int×af)×((Int×Int×Int×Int×af)×(Int×(aa Int)×af)×af))
def Gs(x:agS):ah (agS⊕(((Bool×af)×(af))⊕(((af×af×Int×Int×af)×((Int×Int×Int×Int×af)×(Int×(aa Int)×af)×af))⊕Empty))):=letI D:=x.1.2.2;letI C:=D.2.2;letI E:=C.2.2.2.1;letI O:=xG (((),(),D.1,D.2.1,C.1,C.2.1,C.2.2.1,(W6 (E+1)),()),(x.2.1,x.2.2.1,()));bif E<C.2.2.1 then xI C.2.1 E λI=>bif (I != E)then (cz I D.1 (W6 (x.2.1.2.2.1-1))).bind λU=>bif (!U)then az ((false,()),())else (Ra C.1 I).bind λY=>bif Y > 1 then az ((false,()),())else O else O else bx (((),(),D.1,D.2.1,()),(x.2.1,x.2.2.1,()))
def aub:KY 71 (sZ (bf f98) 0):=⟨2,lB 2 ⟨[(2,.aE 99002 0),(3,.aE 99003 0),(7,tI),(8,tI),(9,.lf (.aI .int 0)),(45,.lf (.aI .int 0)),(46,tI),(47,tI)],[(99002,.aB eK),(99003,.aB FX)],[]⟩ [(1,mc),(4,ae5)] Gs,lp [eH,aua]⟩
abbrev agT:=((af×af×Int×Int×af)×((Int×Int×Int×Int×af)×(Int×(aa Int)×af)×af))
def KU(x:agT):ah (agT⊕(((Bool×af)×(af))⊕(((af)×(af))⊕Empty))):=letI C:=x.1.2.2.2.1;letI U:=W6 (x.2.1.2.2.1-x.2.2.1.1);letI E:=W6 (C*U);letI I:=W6 ((W6 (C+1))*U);letI O:=(x.2.2.1.2.1.take I.toNat).drop E.toNat;(me (⟨x.2.1.1,x.2.1.2.1,x.2.1.2.2.1,x.2.1.2.2.2.1⟩:aG)).bind λY=>bif C<Y then if 0 <= E/\E <= I/\I <= (x.2.2.1.2.1.length:Int)then bU Gs (((),(),x.1.2.2.1,C,O,O,(O.length:Int),0,()),(x.2.1,x.2.2.1,())) (λoc=>az ((oc.1.1,()),())) λD=>xG (((),(),D.1.2.2.1,(W6 (D.1.2.2.2.1+1)),()),(D.2.1,D.2.2.1,()))else none else bx ((),())
def auc:KY 71 (bf f98):=⟨0,lB 0 ae5 [(1,mc),(2,ic)] KU,lq [oa,⟨171,.i _,YR⟩] [aub]⟩
def KV(C:aG)(D:dw):ah (Bool):=(Ge C D.bL).bind λE=>bif (!E.2)then some false else bif ((D.map.length:Int) != (E.1.map.length:Int))then some false else bU KU (((),(),(W6 (C.rows-D.bL)),0,()),((C.bK,C.aA,C.rows,C.aK,()),(D.bL,D.map,()),())) (λI=>some I.1.1) λO=>some true
def agU:=bZ Qs cy (bR KV) 71 [YG] [auc] func98
def zg(C:aG)(D:aM):ah (Bool):=(oN C).bind λE=>bif E then (me C).bind λI=>(cz D.ay 0 (W6 (I-1))).bind λO=>bif O then (cz D.row 0 (W6 (C.rows-1))).bind λU=>bif U then (cz D.bV 0 (W6 (C.aK-1))).bind λY=>some Y else some false else some false else some false
def KW:=bB Qt cy (bR zg) 31 [oa,eH,rO] func74
abbrev agV:=((af×(aa Int)×Int×Int×af)×(((aa Int)×Int×Bool×af)×af))
def KZ(x:agV):ah (agV⊕(((Bool×af)×(af))⊕(((af×af)×(((aa Int)×Int×Bool×af)×af))⊕Empty))):=letI C:=x.1.2.2;bif C.2.1<C.1 then xI x.1.2.1 C.2.1 λD=>(cz D (-2) 5).bind λE=>bif (!E)then az ((false,()),())else xG (((),x.1.2.1,C.1,(W6 (C.2.1+1)),()),(x.2.1,()))else bx (((),()),(x.2.1,()))
def aud:KY 25 (bf f146):=⟨0,lB 0 ⟨[(1,.aE 1 0),(6,.lf (.aI .int 0)),(7,tI),(8,tI)],[(1,.aB Dh)],[]⟩ [(1,qO),(2,afC)] KZ,lp [eH]⟩
def zh(C:c8):ah (Bool):=bU KZ (((),C.aJ,(C.aJ.length:Int),0,()),((C.aJ,C.wait,C.dX,()),())) (λE=>some E.1.1) λD=>(cz (D.2.1.1.length:Int) 1 8).bind λI=>bif I then (cz D.2.1.2.1 1 10000).bind λO=>some O else some false
def Gt:=bZ F0 cy (bN zh) 25 [eH] [aud] func146
abbrev agW:=(((aa Int)×Int×Int×Int×af)×(af))
def K0(x:agW):ah (agW⊕(((Int×af)×(af))⊕(((af)×(af))⊕Empty))):=letI C:=x.1.2.2.2.1;bif C<x.1.2.2.1 then xI x.1.1 C λD=>bif (x.1.2.1==D)then az ((C,()),())else xG ((x.1.1,x.1.2.1,x.1.2.2.1,(W6 (C+1)),()),())else bx ((),())
def aue:KY 19 (bf f233):=⟨0,lB 0 ⟨[(0,.lf (.aI .int 0)),(1,tI),(7,tI),(8,tI)],[],[]⟩ [(1,wX),(2,ic)] K0,lp []⟩
def DA(C:aa Int)(D:Int):ah (Int):=(iter K0 aV ((C,D,(C.length:Int),0,()),())).bind (Sum.elim (λE=>some E.1.1) (Sum.elim (λI=>some (-1)) (λz=>nomatch z)))
def YS:=bZ FU dS (bR DA) 19 [] [aue] func233
abbrev agX:=((af×(aa Int)×Int×Int×af)×(((aa Int)×(aa Int)×Int×af)×af))
def K1(x:agX):ah (agX⊕(((Bool×af)×(af))⊕(((af)×(af))⊕Empty))):=letI D:=az ((false,()),());letI C:=x.1.2.2.2.1;letI I:=xG (((),x.1.2.1,x.1.2.2.1,(W6 (C+1)),()),(x.2.1,()));bif C<x.1.2.2.1 then xI x.1.2.1 C λE=>letI O:=bif (E != (-1))then (DA x.2.1.1 E).bind λU=>bif (U != C)then D else I else I;(cz E (-1) 15).bind λY=>bif (!Y)then D else xI x.2.1.2.1 C λe7=>(cz e7 x.2.1.2.2.1 100000).bind λy8=>bif (!y8)then D else bif (E==(-1))then xI x.2.1.2.1 C λnA=>bif (nA != 0)then D else O else O else bx ((),())
def auf:KY 72 (bf f173):=⟨0,lB 0 ⟨[(1,.aE 1 0),(26,.lf (.aI .int 0)),(27,tI),(28,tI)],Ye,[]⟩ [(1,qO),(2,ic)] K1,lp [eH,YS]⟩
def Bf(C:cq):ah (Bool):=letI D:=(C.rows.length:Int);(cz D 1 16).bind λE=>bif (!E)then some false else bif ((C.counts.length:Int) != D)then some false else (cz C.dm 0 100000).bind λI=>bif (!I)then some false else bU K1 (((),C.rows,D,0,()),((C.rows,C.counts,C.dm,()),())) (λO=>some O.1.1) λU=>some true
def agY:=bZ [(true,.jL)] cy (bN Bf) 72 [eH] [auf] func173
abbrev agZ:=(((aa aM)×af×Int×Int×af)×((Int×Int×Int×af)×af))
def K2(x:agZ):ah (agZ⊕(((Int×af)×(af))⊕(((af)×(af))⊕Empty))):=letI C:=x.1.2.2.2.1;bif C<x.1.2.2.1 then xI x.1.1 C λD=>bif ((x.2.1.1==D.ay)&&((x.2.1.2.1==D.row)&&((x.2.1.2.2.1==D.bV)&&true)))then az ((C,()),())else xG ((x.1.1,(),x.1.2.2.1,(W6 (C+1)),()),(x.2.1,()))else bx ((),())
def aug:KY 19 (bf f174):=⟨0,lB 0 ⟨[(0,.lf (.aI .Addr 0)),(3,.aE 3 0),(7,tI),(8,tI)],[(3,.aB J6)],[]⟩ [(1,wX),(2,ic)] K2,lp []⟩
def Gu(D:aa aM)(C:aM):ah (Int):=(iter K2 aV ((D,(),(D.length:Int),0,()),((C.ay,C.row,C.bV,()),()))).bind (Sum.elim (λE=>some E.1.1) (Sum.elim (λI=>some (-1)) (λz=>nomatch z)))
def ag0:=bZ Ym dS (bR Gu) 19 [] [aug] func174
abbrev ag1:=((af×af×Int×Int×af)×(ax×(Int×Int×Int×Int×af)×af))
def Rb(x:ag1):ah (ag1⊕(((Bool×af)×(af))⊕(((af×af×af)×(ax×(Int×Int×Int×Int×af)×af))⊕Empty))):=letI C:=x.1.2.2.2.1;bif C<x.1.2.2.1 then xI x.2.1.bH C λD=>(Bf D).bind λE=>bif (!E)then az ((false,()),())else xI x.2.1.guard C λI=>(cz I 3 1000).bind λO=>bif (!O)then az ((false,()),())else xG (((),(),x.1.2.2.1,(W6 (C+1)),()),(x.2.1,x.2.2.1,()))else bx (((),(),()),(x.2.1,x.2.2.1,()))
def auh:KY 94 (bf f99):=⟨0,lB 0 ⟨[(1,.aE 1 0),(3,.aE 3 0),(47,tI),(48,tI)],Yk,[]⟩ [(1,qO),(2,afw)] Rb,lp [eH,agY]⟩
abbrev ag2:=((af×af×(aa aM)×Int×Int×af)×(ax×(Int×Int×Int×Int×af)×af))
def Rc(x:ag2):ah (ag2⊕(((Bool×af)×(af))⊕(((af)×(af))⊕Empty))):=letI C:=x.2.2.1;letI I:=az ((false,()),());letI D:=x.1.2.2;letI E:=D.2.2.1;bif E<D.2.1 then xI D.1 E λO=>(zg (⟨C.1,C.2.1,C.2.2.1,C.2.2.2.1⟩:aG) O).bind λU=>bif (!U)then I else bif (O.bV != 0)then I else (Gu x.2.1.pending O).bind λY=>bif (Y != E)then I else xG (((),(),D.1,D.2.1,(W6 (E+1)),()),(x.2.1,C,()))else bx ((),())
def aui:KY 94 (bf f99):=⟨2,lB 2 ⟨[(1,.aE 1 0),(3,.aE 3 0),(69,.lf (.aI .Addr 0)),(70,tI),(71,tI)],Yk,[]⟩ [(1,qO),(4,ic)] Rc,lp [KW,ag0]⟩
def Rd(C:ax):ah (Bool):=(me C.config.au).bind λE=>(zh C.aS).bind λI=>bif (!I)then some false else bif ((C.aS.aJ.length:Int) != E)then some false else bif ((C.bH.length:Int) != E)then some false else bif ((C.guard.length:Int) != E)then some false else bif (C.pending.length:Int) > 128 then some false else bU Rb (((),(),(C.bH.length:Int),0,()),(C,(C.config.au.bK,C.config.au.aA,C.config.au.rows,C.config.au.aK,()),())) (λO=>some O.1.1) λD=>bU Rc (((),(),D.2.1.pending,(D.2.1.pending.length:Int),0,()),(D.2.1,D.2.2.1,())) (λU=>some U.1.1) λY=>some true
def auj:=bZ wY cy (bN Rd) 94 [oa,Gt] [auh,aui] func99
def Re(E:Int)(C:aN):ah (Bool):=letI D:=(cz C.at_ 0 1000000).bind λI=>some I;(cz C.id 1 100000).bind λO=>bif O then (cz C.dM 0 3).bind λU=>bif U then bif C.line >= 0 then bif C.line<E then (Dv C.data).bind λY=>bif Y then bif C.write then D else bif (C.data==0)then D else some false else some false else some false else some false else some false else some false
def auk:=bB [(false,.int),(true,.dx)] cy (bR Re) 43 [eH,YM] func175
def K3(C D:aN):ah (Bool):=bif C.at_<D.at_ then some true else bif (C.at_==D.at_)then some (C.id<D.id)else some false
def ag3:=bB [(true,.dx),(true,.dx)] cy (bR K3) 24 [] func176
abbrev ag4:=((Int×(aa aN)×af×(aa aN)×Int×Int×(aa aN)×Int×Int×af)×((Int×Int×Int×Bool×Int×Int×af)×af))
def Gw(x:ag4):ah (ag4⊕(((Bool×af)×(af))⊕(((Int×(aa aN)×(aa aN)×Int×Int×af)×(af))⊕Empty))):=letI D:=x.1.2.2.2.2;letI C:=D.2.2;bif C.2.2.1<C.2.1 then xI C.1 C.2.2.1 λE=>bif (E.id==x.2.1.1)then az ((false,()),())else xG ((x.1.1,x.1.2.1,(),x.1.2.2.2.1,D.1,D.2.1,C.1,C.2.1,(W6 (C.2.2.1+1)),()),(x.2.1,()))else bx ((x.1.1,x.1.2.1,x.1.2.2.2.1,D.1,D.2.1,()),())
def ag5:KY 52 (sZ (bf f100) 0):=⟨2,lB 2 ⟨[(0,tI),(1,.lf (.aI .dx 0)),(6,.aE 6 0),(9,.lf (.aI .dx 0)),(10,tI),(11,tI),(36,.lf (.aI .dx 0)),(37,tI),(38,tI)],[(6,.aB FV)],[]⟩ [(1,mc),(4,afb)] Gw,lp []⟩
abbrev ag6:=((Int×(aa aN)×(aa aN)×Int×Int×af)×(af))
def K4(x:ag6):ah (ag6⊕(((Bool×af)×(af))⊕((((aa aN)×af)×(af))⊕Empty))):=letI C:=x.1.2;letI D:=C.2.2.2.1;letI O:=(C.1.take D.toNat).drop (0:Int).toNat;bif D<C.2.2.1 then xI C.2.1 D λE=>letI U:=if 0 <= (0:Int)/\0 <= D/\D <= (C.1.length:Int)then bU Gw ((x.1.1,C.1,(),C.2.1,C.2.2.1,D,O,(O.length:Int),0,()),((E.id,E.dM,E.line,E.write,E.data,E.at_,()),())) (λY=>az ((Y.1.1,()),())) λI=>xG ((I.1.1,I.1.2.1,I.1.2.2.1,I.1.2.2.2.1,(W6 (I.1.2.2.2.2.1+1)),()),())else none;(Re x.1.1 E).bind λy3=>bif (!y3)then az ((false,()),())else bif D > 0 then xI C.1 (W6 (D-1)) λe5=>(K3 e5 E).bind λy6=>bif (!y6)then az ((false,()),())else U else U else bx ((C.1,()),())
def aul:KY 52 (bf f100):=⟨0,lB 0 afb [(1,mc),(2,⟨[(1,.lf (.aI .dx 0))],[],[]⟩)] K4,lq [auk,ag3] [ag5,ag5]⟩
def DB(D:Int)(C:aa aN):ah (Bool):=bU K4 ((D,C,C,(C.length:Int),0,()),()) (λE=>some E.1.1) λI=>some ((I.1.1.length:Int) <= 12)
def ag7:=bZ [(false,.int),(false,(.sl .dx))] cy (bR DB) 52 [] [aul] func100
def zi(C:aG)(D:dw):ah (aG):=(KV C D).bind λE=>bif (!E)then some (⟨0,0,0,0⟩:aG)else some (⟨C.bK,C.aA,(W6 (C.rows-D.bL)),C.aK⟩:aG)
def Gx:=bB Qs [(true,.gd,0)] (bR zi) 17 [agU] func102
def DC(C:fK):ah (Bool):=(cz C.state 0 2).bind λD=>bif D then (cz C.since 0 1000000).bind λE=>bif E then (cz C.idle 0 1000000).bind λI=>some I else some false else some false
def Rf:=bB [(true,.Power)] cy (bN DC) 16 [eH] func105
abbrev ag8:=(((aa cB)×af×(aa cB)×Int×Int×(aa cB)×Int×Int×af)×((Int×Int×Int×af)×af))
def Gy(x:ag8):ah (ag8⊕(((Bool×af)×(af))⊕((((aa cB)×(aa cB)×Int×Int×af)×(af))⊕Empty))):=letI D:=x.1.2.2;letI C:=D.2.2;letI E:=xG ((x.1.1,(),D.1,D.2.1,C.1,C.2.1,C.2.2.1,(W6 (C.2.2.2.1+1)),()),(x.2.1,()));bif C.2.2.2.1<C.2.2.1 then xI C.2.1 C.2.2.2.1 λI=>bif (x.2.1.1==I.line)then bif (x.2.1.2.1==I.code)then az ((false,()),())else E else E else bx ((x.1.1,D.1,D.2.1,C.1,()),())
def ag9:KY 59 (sZ (bf f106) 0):=⟨2,lB 2 ⟨[(0,.lf (.aI .iD 0)),(4,.aE 4 0),(7,.lf (.aI .iD 0)),(8,tI),(9,tI),(36,.lf (.aI .iD 0)),(37,tI),(38,tI)],[(4,.aB J6)],[]⟩ [(1,qO),(4,afd)] Gy,lp []⟩
abbrev aha:=(((aa cB)×(aa cB)×Int×Int×af)×(af))
def K5(x:aha):ah (aha⊕(((Bool×af)×(af))⊕((((aa cB)×af)×(af))⊕Empty))):=letI I:=az ((false,()),());letI D:=x.1.2.2.2.1;letI O:=(x.1.1.take D.toNat).drop (0:Int).toNat;bif D<x.1.2.2.1 then xI x.1.2.1 D λC=>letI U:=(cz C.times 1 999).bind λY=>bif (!Y)then I else if 0 <= (0:Int)/\0 <= D/\D <= (x.1.1.length:Int)then bU Gy ((x.1.1,(),x.1.2.1,x.1.2.2.1,D,O,(O.length:Int),0,()),((C.line,C.code,C.times,()),())) (λz7=>az ((z7.1.1,()),())) λE=>xG ((E.1.1,E.1.2.1,E.1.2.2.1,(W6 (E.1.2.2.2.1+1)),()),())else none;(cz C.line 0 1023).bind λy3=>bif (!y3)then I else bif (C.code != 1)then bif (C.code != 2)then I else U else U else bx ((x.1.1,()),())
def aum:KY 59 (bf f106):=⟨0,lB 0 afd [(1,qO),(2,⟨[(0,.lf (.aI .iD 0))],[],[]⟩)] K5,lq [eH] [ag9,ag9]⟩
def K6(C:aa cB):ah (Bool):=bU K5 ((C,C,(C.length:Int),0,()),()) (λD=>some D.1.1) λE=>some ((E.1.1.length:Int) <= 6)
def ahb:=bZ [(false,(.sl .iD))] cy (bN K6) 59 [] [aum] func106
def zj(C:ax):ah (Bool):=(rP C.config C.box.cr).bind λD=>bif (!D)then some false else (rP C.config C.box.next).bind λE=>bif (!E)then some false else (cz C.now 0 1000000).bind λI=>bif (!I)then some false else (KO C.config.au C.aO).bind λO=>bif (!O)then some false else (Gr C.config.au C.ready).bind λU=>bif (!U)then some false else (Dz C.config.au C.array).bind λY=>bif (!Y)then some false else (KV C.config.au C.spare).bind λy7=>bif (!y7)then some false else bif (C.spare.bL != C.config.bL)then some false else (Rd C).bind λy8=>bif (!y8)then some false else (zi C.config.au C.spare).bind λy9=>(tZ y9).bind λgH=>(DB gH C.queue).bind λfR=>bif (!fR)then some false else (Gg C.shares).bind λgC=>bif (!gC)then some false else bif ((C.shares.length:Int) != 4)then some false else (Du C.drain).bind λgU=>bif (!gU)then some false else (DC C.aR).bind λiH=>bif (!iH)then some false else bif (C.aR.state != C.aO.aR)then some false else bif C.aR.since > C.now then some false else (cz C.cY.every 1 100000).bind λiI=>bif iI then (cz C.cY.wait 1 C.cY.every).bind λny=>bif ny then (tZ C.config.au).bind λkR=>(cz C.cY.next 0 (W6 (kR-1))).bind λs7=>bif s7 then (K6 C.errors).bind λzk=>bif zk then bif (C.trace.length:Int) <= 2000 then some ((C.bP.length:Int) <= 400)else some false else some false else some false else some false else some false
def Gz:=bB wY cy (bN zj) 155 [YK,eH,agL,YP,YQ,agU,auj,ag7,Gj,Gx,YH,Q1,Rf,ahb] func39
def GA(C:iK):ah (iK):=(xb C.cr).bind λD=>(xb C.next).bind λE=>some (⟨D,E,C.waits⟩:iK)
def YT:=bB [(true,.pq)] [(true,.pq,2)] (bN GA) 12 [Q4] func128
def GB(C:bX):ah (bX):=bif xZ C.aA then some (⟨(xA C.aA),C.aR⟩:bX)else none
def ahc:=bB [(true,.ji)] [(true,.ji,2)] (bN GB) 9 [] func129
def GC(C:c9):ah (c9):=bif xZ C.last then bif xZ C.aT then some (⟨(xA C.last),(xA C.aT)⟩:c9)else none else none
def ahd:=bB [(true,.oA)] Ka (bN GC) 12 [] func130
def K7(C:bQ):ah (bQ):=bif xZ C.symbols then some (⟨(xA C.symbols),C.jK⟩:bQ)else none
def ahe:=bB [(true,.Cell)] [(true,.Cell,2)] (bN K7) 9 [] func149
def aun:bF:=⟨[(2,.aE 2 0),(3,.aE 3 0),(16,.lf (.aI .Cell 0)),(17,tI),(18,tI)],aeT,[]⟩
def auo:aa (Nat×bF):=[(2,⟨Yr,aeT,[]⟩)]
abbrev ahf:=((af×af×(aa bQ)×Int×Int×af)×((af×af×af×af)×(af×af×af×af)×(aa bQ)×(aa Int)×(aa Int)×(aa bQ)×(aa Int)×(aa Int)×af))
def K8(x:ahf):ah (ahf⊕(((af×af×af)×((af×af×af×af)×(af×af×af×af)×(aa bQ)×(aa Int)×(aa Int)×(aa bQ)×(aa Int)×(aa Int)×af))⊕Empty)):=letI E:=x.2.2.2;letI D:=x.1.2.2;letI I:=((),(),(),());letI C:=E.2.2;bif D.2.2.1<D.2.1 then xI D.1 D.2.2.1 λU=>(K7 U).bind λO=>bif bE (C.2.1.length+[O].length)then xG (((),(),D.1,D.2.1,(W6 (D.2.2.1+1)),()),(I,I,E.1,E.2.1,C.1,(C.2.1++[O]),C.2.2.1,C.2.2.2.1,()))else none else az (((),(),()),(I,I,E.1,E.2.1,C.1,C.2.1,C.2.2.1,C.2.2.2.1,()))
def aup:KY 31 (bf f131):=⟨0,lB 0 aun auo K8,lp [ahe]⟩
def DD(C:cJ):ah (cJ):=bif xZ C.bu then bif xZ C.bq then bw K8 (((),(),C.cells,(C.cells.length:Int),0,()),(((),(),(),()),((),(),(),()),([]:aa bQ),([]:aa Int),([]:aa Int),([]:aa bQ),(xA C.bu),(xA C.bq),())) λE=>letI D:=E.2.2.2.2.2.2;some (⟨D.1,D.2.1,D.2.2.1⟩:cJ)else none else none
def YU:=bZ [(true,.Array)] [(true,.Array,4)] (bN DD) 31 [] [aup] func131
def ahg(C:aa Int):ah ((aa Int)):=bif kM C then none else bif bE (([]:aa Int).length+C.length)then some (([]:aa Int)++C)else none
def Rg(C:aa Int):ah ((aa Int)):=bif kM C then some []else ahg C
def ahh:jQ:=ir [(false,(.sl .int))] [(false,(.sl .int),2)] (λx=>Rg x.1)
def auq:enters Tryz.prog 132/\jl Tryz.prog 132 ahh:=Dc 8 [] [] func132 trivial tW (t:=.int) (g:=2) (F:=ahg) λx=>by kernel_rfl
def Bg(C:c8):ah (c8):=bif xZ C.aJ then some (⟨(xA C.aJ),C.wait,C.dX⟩:c8)else none
def Rh:=bB F0 [(true,.ld,2)] (bN Bg) 9 [] func133
def GD(C:cq):ah (cq):=bif xZ C.rows then bif xZ C.counts then some (⟨(xA C.rows),(xA C.counts),C.dm⟩:cq)else none else none
def ahi:=bB [(true,.jL)] [(true,.jL,2)] (bN GD) 14 [] func134
def ahj(C:aa aM):ah ((aa aM)):=bif kM C then none else bif bE (([]:aa aM).length+C.length)then some (([]:aa aM)++C)else none
def YV(C:aa aM):ah ((aa aM)):=bif kM C then some []else ahj C
def ahk:jQ:=ir [(false,(.sl .Addr))] [(false,(.sl .Addr),2)] (λx=>YV x.1)
def aur:enters Tryz.prog 135/\jl Tryz.prog 135 ahk:=Dc 8 [] [] func135 trivial tW (t:=.Addr) (g:=2) (F:=ahj) λx=>by kernel_rfl
def ahl(C:aa aN):ah ((aa aN)):=bif kM C then none else bif bE (([]:aa aN).length+C.length)then some (([]:aa aN)++C)else none
def YW(C:aa aN):ah ((aa aN)):=bif kM C then some []else ahl C
def ahm:jQ:=ir [(false,(.sl .dx))] [(false,(.sl .dx),2)] (λx=>YW x.1)
def aus:enters Tryz.prog 136/\jl Tryz.prog 136 ahm:=Dc 8 [] [] func136 trivial tW (t:=.dx) (g:=2) (F:=ahl) λx=>by kernel_rfl
def ahn(C:aa cD):ah ((aa cD)):=bif kM C then none else bif bE (([]:aa cD).length+C.length)then some (([]:aa cD)++C)else none
def YX(C:aa cD):ah ((aa cD)):=bif kM C then some []else ahn C
def aho:jQ:=ir [(false,(.sl .hD))] [(false,(.sl .hD),2)] (λx=>YX x.1)
def aut:enters Tryz.prog 137/\jl Tryz.prog 137 aho:=Dc 8 [] [] func137 trivial tW (t:=.hD) (g:=2) (F:=ahn) λx=>by kernel_rfl
end Go.Proofs.YtdfkhfiglknaoaaGreat
