/-
  Functions of the program as plain functions of contents, and that the code computes them. Nothing here is a claim.
-/
import Derived.Test.YtnilicojgkhpnaaGreatVZ
import Derived.Test.YtnilicojgkhpnaaGreatRows
import Derived.Test.YtnilicojgkhpnaaGreatG1
import Derived.Test.YtnilicojgkhpnaaGreatG2
import Derived.Test.YtnilicojgkhpnaaGreatG3
import Derived.Test.YtnilicojgkhpnaaGreatG4
import Derived.Test.YtnilicojgkhpnaaGreatG5
import Derived.Test.YtnilicojgkhpnaaGreatG6
import Derived.Test.YtnilicojgkhpnaaGreatG7
namespace Go.Proofs.YtnilicojgkhpnaaGreat
set_option linter.defProp false
open Go.RowKit Go.Proofs.Tryz
set_option linter.unusedVariables false
set_option maxRecDepth 100000
def vO(C:aV):ah (Int):=(n8 C).bind λD=>some (W6 ((W6 (D*C.rows))*C.aT))
def Rz:=aM Cj cq (bF vO) 11 [qV] func81
abbrev aiC:=((Int×af×af×af×Int×Int×af)×((Int×Int×Int×Int×af)×(Int×af×af)×(Int×af×af)×(aa Int)×(aa Int)×af))
def Ft(x:aiC):ah (aiC⊕(((Int×af×af×af×Int×af)×((Int×Int×Int×Int×af)×(Int×af×af)×(Int×af×af)×(aa Int)×(aa Int)×af))⊕Empty)):=letI C:=x.2.2.2;letI D:=x.1.2.2.2.2;bif D.2.1<(W6 (x.2.1.2.2.1-x.1.1))then bif bP (C.2.2.1.length+([D.2.1]:aa Int).length)then xG ((x.1.1,(),(),(),D.1,(W6 (D.2.1+1)),()),(x.2.1,x.2.2.1,C.1,C.2.1,(C.2.2.1++([D.2.1]:aa Int)),()))else none else av ((x.1.1,(),(),(),D.1,()),(x.2.1,x.2.2.1,C.1,C.2.1,C.2.2.1,()))
def axn:KY 48 (qQ (aS f272) 0):=⟨2,lB 2 ⟨[(1,tI),(2,.aJ 2 0),(4,.aJ 4 0),(6,.aJ 6 0),(7,tI),(8,tI)],aew,[]⟩ [(4,Xt)] Ft,lp []⟩
abbrev aiD:=((Int×af×af×af×Int×af)×((Int×Int×Int×Int×af)×(Int×af×af)×(Int×af×af)×(aa Int)×(aa Int)×af))
def Le(x:aiD):ah (aiD⊕(((af×af×af)×((Int×af×af)×(Int×af×af)×(aa Int)×(aa Int)×af))⊕Empty)):=letI D:=x.2.2.2;(n8 (⟨x.2.1.1,x.2.1.2.1,x.2.1.2.2.1,x.2.1.2.2.2.1⟩:aV)).bind λE=>bif x.1.2.2.2.2.1<E then bh Ft ((x.1.1,(),(),(),x.1.2.2.2.2.1,0,()),(x.2.1,x.2.2.1,D.1,D.2.1,D.2.2.1,())) λC=>xG ((C.1.1,(),(),(),(W6 (C.1.2.2.2.2.1+1)),()),(C.2.1,C.2.2.1,C.2.2.2.1,C.2.2.2.2.1,C.2.2.2.2.2.1,()))else av (((),(),()),(x.2.2.1,D.1,D.2.1,D.2.2.1,()))
def axo:KY 48 (aS f272):=⟨0,lB 0 Xt [(2,aeE)] Le,lq [qV] [axn]⟩
def Lg(C:aV)(D:Int):ah (eZ×Bool):=letI E:=some ((⟨0,[]⟩:eZ),false);(sx C).bind λO=>bif (!O)then E else (cz D 0 2).bind λT=>bif (!T)then E else bif (W6 (C.rows-D))<2 then E else bh Le ((D,(),(),(),0,()),((C.cH,C.aB,C.rows,C.aT,()),(0,(),()),(D,(),()),([]:aa Int),([]:aa Int),())) λL=>some ((⟨L.2.2.1.1,L.2.2.2.2.1⟩:eZ),true)
def aiE:=bT IC [(true,.kj,2),(false,.bool,0)] (br Lg) 48 [en,xY] [axo] func272
abbrev aiF:=((af×af×Int×Int×af)×(c9×(aa Int)×af))
def Fu(x:aiF):ah (aiF⊕(((Bool×af)×(af))⊕(((af×af)×(c9×af))⊕Empty))):=letI C:=x.1.2.2;bif C.2.1<C.1 then xL x.2.2.1 C.2.1 λD=>(cz D 1 64).bind λE=>bif (!E)then av ((false,()),())else xG (((),(),C.1,(W6 (C.2.1+1)),()),(x.2.1,x.2.2.1,()))else aQ (((),()),(x.2.1,()))
def axp:KY 75 (aS f375):=⟨0,lB 0 ⟨[(1,.aJ 1 0),(39,.lf (.own 39)),(40,tI),(41,tI)],[(1,.st .jI),(39,.sl .int 2)],[]⟩ [(1,n7),(2,afb)] Fu,lp [en]⟩
def Fv(C:c9):ah (Bool):=letI E:=([C.jF,C.rp,C.gI,C.mI,C.jG,C.jH,C.mJ,C.mK,C.jh,C.wr,C.mL,C.mM,C.pG,C.mN,C.nI,C.xp,C.xs]:aa Int);bE Fu (((),(),(E.length:Int),0,()),(C,E,())) (λL=>some L.1.1) λO=>letI D:=O.2.1;bif D.jF <= D.gI then bif D.mI <= D.jG then bif D.mJ <= D.mK then some (D.mL <= D.mM)else some false else some false else some false
def YB:=bT EL bS (bF Fv) 75 [] [axp] func375
def Lh(C:jE):ah (Bool):=(cz C.order 0 2).bind λD=>some D
def aiG:=aM [(true,.nJ)] bS (bF Lh) 6 [en] func376
def x4(C:c9):ah (Int):=(Fv C).bind λD=>bif (!D)then some 0 else some (W6 (2*(W6 ((W6 ((W6 ((W6 ((W6 ((W6 ((W6 ((W6 ((W6 (C.nI+C.xp))+C.gI))+C.wr))+C.jh))+C.rp))+C.mN))+C.jF))+(W6 (8*C.jG))))+16))))
def axq:=aM EL cq (bF x4) 35 [YB] func377
def RB(C:ig):ah (Bool):=(Lg C.aE C.cr).bind λD=>(sx C.aE).bind λE=>bif E then (Fv C.ck).bind λL=>bif L then (Lh C.mapping).bind λO=>bif O then bif D.2 then (x4 C.ck).bind λT=>(cz C.interval T 10000).bind λU=>bif U then (cz C.iz 1 16).bind λY=>bif Y then (cz C.dO.bz (W6 (6*C.interval)) 100000).bind λZ=>bif Z then (cz C.dO.bu 0 100000).bind λy9=>some y9 else some false else some false else some false else some false else some false else some false else some false
def axr:=aM [(true,.Config)] bS (bF RB) 57 [en,aiE,xY,YB,aiG,axq] func281
abbrev aiH:=(((aa bV)×(aa bV)×Int×Int×af)×(af))
def Li(x:aiH):ah (aiH⊕(((Bool×af)×(af))⊕((((aa bV)×af)×(af))⊕Empty))):=letI C:=x.1.2.2;bif C.2.1<C.1 then xI x.1.2.1 C.2.1 λD=>(cz D.weight 1 9).bind λE=>bif (!E)then av ((false,()),())else (cz D.eP 0 D.weight).bind λL=>bif (!L)then av ((false,()),())else xG ((x.1.1,x.1.2.1,C.1,(W6 (C.2.1+1)),()),())else aQ ((x.1.1,()),())
def axt:KY 27 (aS f220):=⟨0,lB 0 ⟨[(0,.lf (.aF .ef 0)),(5,.lf (.aF .ef 0)),(6,tI),(7,tI)],[],[]⟩ [(1,n7),(2,aff)] Li,lp [en]⟩
def Fw(C:aa bV):ah (Bool):=bE Li ((C,C,(C.length:Int),0,()),()) (λD=>some D.1.1) λE=>(cz (E.1.1.length:Int) 1 4).bind λL=>some L
def YC:=bT [(false,(.sl .ef))] bS (bF Fw) 27 [en] [axt] func220
abbrev aiI:=((af×(aa Int)×Int×Int×af)×((aa bV)×af))
def Lj(x:aiI):ah (aiI⊕(((af×af)×((aa bV)×af))⊕Empty)):=letI C:=x.1.2.2;bif C.2.1<C.1 then xI x.1.2.1 C.2.1 λD=>letI E:=([(⟨D,D⟩:bV)]:aa bV);bif bP (x.2.1.length+E.length)then xG (((),x.1.2.1,C.1,(W6 (C.2.1+1)),()),((x.2.1++E),()))else none else av (((),()),(x.2.1,()))
def axu:KY 25 (aS f79):=⟨0,lB 0 ⟨[(4,.lf (.own 7)),(8,.lf (.aF .int 0)),(9,tI),(10,tI)],O3,[]⟩ [(2,⟨[(4,.lf (.own 7))],O3,[]⟩)] Lj,lp []⟩
def Ao(C:aa Int):ah ((aa bV)×Bool):=bh Lj (((),C,(C.length:Int),0,()),(([]:aa bV),())) λD=>(Fw D.2.1).bind λE=>bif (!E)then some ([],false)else some (D.2.1,true)
def aiJ:=bT nh [(false,(.sl .ef),2),(false,.bool,0)] (bF Ao) 25 [YC] [axu] func79
def CV(C:gB):ah (Bool):=bif C.low >= 0 then bif C.low<C.high then some (C.high <= 12)else some false else some false
def RC:=aM [(true,.kN)] bS (bF CV) 18 [] func221
def Lk(C:kL):ah (Bool):=(cz C.down 1 10000).bind λD=>bif D then bif C.sleep > C.down then some (C.sleep <= 20000)else some false else some false
def aiK:=aM [(true,.nK)] bS (bF Lk) 18 [en] func378
def RD(C:fz):ah (Bool):=(Ao C.weights).bind λE=>letI D:=(cz C.cap 0 100000).bind λL=>bif L then (cz C.fD 3 1000).bind λO=>bif O then (CV (⟨false,C.low,C.high⟩:gB)).bind λT=>bif T then bif ((C.weights.length:Int)==4)then bif E.2 then (Lk C.eK).bind λU=>some U else some false else some false else some false else some false else some false;bif (C.eO==0)then D else bif (C.eO==1)then D else some false
def axv:=aM II bS (bF RD) 51 [aiJ,en,RC,aiK] func282
def Fx(C:Int):ah (Int):=(cz C 3 1000).bind λD=>bif (!D)then some 0 else some (W6 ((W6 (2*C))+2))
def axw:=aM lM cq (bF Fx) 9 [en] func283
def vP(C:ig)(D:fz):ah (Bool):=letI E:=W6 (C.ck.gI+C.ck.rp);(RB C).bind λL=>bif L then (RD D).bind λO=>bif O then (Fx D.fD).bind λT=>bif (W6 (T+2)) <= C.dO.bu then if E=0 then none else some ((W6 ((W6 (C.iz+1))*D.fD)) > (W6 ((W6 ((W6 (5*C.interval)).tdiv E))+2)))else some false else some false else some false
def axx:=aM [(true,.Config),(true,.lU)] bS (br vP) 42 [axr,axv,axw] func150
abbrev aiL:=((af×(aa cQ)×Int×Int×af)×((aa Int)×af))
def Fy(x:aiL):ah (aiL⊕(((af×af)×((aa Int)×af))⊕Empty)):=letI C:=x.1.2.2.2.1;letI D:=((),x.1.2.1,x.1.2.2.1,(W6 (C+1)),());bif C<x.1.2.2.1 then xI x.1.2.1 C λE=>bif E.open_ then bif bP (x.2.1.length+([C]:aa Int).length)then xG (D,((x.2.1++([C]:aa Int)),()))else none else xG (D,(x.2.1,()))else av (((),()),(x.2.1,()))
def axy:KY 23 (aS f327):=⟨0,lB 0 ⟨[(3,.lf (.own 6)),(8,.lf (.aF .fQ 0)),(9,tI),(10,tI)],[(6,.sl .int 2)],[]⟩ [(2,ae5)] Fy,lp []⟩
def Ap(C:cy):ah ((aa Int)):=bh Fy (((),C.aB,(C.aB.length:Int),0,()),(([]:aa Int),())) λD=>some D.2.1
def RE:=bT IJ lK (bF Ap) 23 [] [axy] func327
abbrev aiM:=((af×af×(aa cQ)×Int×Int×af)×((Int×Int×Int×Int×af)×((aa cQ)×Int×af)×af))
def Ll(x:aiM):ah (aiM⊕(((Bool×af)×(af))⊕(((af×af)×(((aa cQ)×Int×af)×af))⊕Empty))):=letI C:=x.1.2.2;letI E:=xG (((),(),C.1,C.2.1,(W6 (C.2.2.1+1)),()),(x.2.1,x.2.2.1,()));bif C.2.2.1<C.2.1 then xI C.1 C.2.2.1 λD=>(cz D.row 0 (W6 (x.2.1.2.2.1-1))).bind λL=>bif (!L)then av ((false,()),())else bif (!D.open_)then bif (D.row != 0)then av ((false,()),())else E else E else aQ (((),()),(x.2.2.1,()))
def axz:KY 58 (aS f213):=⟨0,lB 0 ⟨[(2,.aJ 2 0),(3,.aJ 3 0),(25,.lf (.aF .fQ 0)),(26,tI),(27,tI)],[(2,.aC fZ),(3,.aC zS)],[]⟩ [(1,gC),(2,⟨[(3,.aJ 3 0)],[(3,.aC zS)],[]⟩)] Ll,lp [en]⟩
def Ln(C:aV)(D:cy):ah (Bool):=(sx C).bind λL=>bif (!L)then some false else (n8 C).bind λO=>bif ((D.aB.length:Int) != O)then some false else (cz D.aZ 0 2).bind λT=>bif (!T)then some false else bE Ll (((),(),D.aB,(D.aB.length:Int),0,()),((C.cH,C.aB,C.rows,C.aT,()),(D.aB,D.aZ,()),())) (λU=>some U.1.1) λE=>bif (E.2.1.2.1 != 2)then some true else (Ap (⟨E.2.1.1,E.2.1.2.1⟩:cy)).bind λY=>some ((Y.length:Int)==0)
def aiN:=bT [(true,.fe),(true,.iI)] bS (br Ln) 58 [en,qV,xY,RE] [axz] func213
def x5(C:Int):ah (Bool):=(cz C 1 5).bind λD=>some D
def RG:=aM lM bS (bF x5) 5 [en] func413
def CW(O:aV)(L:Int):ah (aG×Bool):=letI C:=W6 (L.tdiv 9);letI D:=W6 ((L.tmod 9)+1);(n8 O).bind λE=>bif C<E then (x5 D).bind λT=>some ((⟨D,C,0,0⟩:aG),((decide (C<E))==T))else (x5 D).bind λU=>some ((⟨D,0,0,0⟩:aG),((decide (C<E))==U))
def aiO:=aM IC [(true,.Command,0),(false,.bool,0)] (br CW) 27 [qV,RG] func328
abbrev aiP:=((af×af×(aa Int)×Int×Int×af)×((Int×Int×Int×Int×af)×((aa Int)×(aa Int)×af)×af))
def Lo(x:aiP):ah (aiP⊕(((Bool×af)×(af))⊕(((af×af)×(((aa Int)×(aa Int)×af)×af))⊕Empty))):=letI C:=x.1.2.2;letI D:=C.2.2.1;letI E:=xG (((),(),C.1,C.2.1,(W6 (D+1)),()),(x.2.1,x.2.2.1,()));bif D<C.2.1 then xI C.1 D λL=>(CW (⟨x.2.1.1,x.2.1.2.1,x.2.1.2.2.1,x.2.1.2.2.2.1⟩:aV) D).bind λO=>(cz L (-1) 1000000).bind λT=>bif (!T)then av ((false,()),())else bif (!O.2)then bif (L != (-1))then av ((false,()),())else E else E else aQ (((),()),(x.2.2.1,()))
def axA:KY 82 (aS f214):=⟨0,lB 0 ⟨[(2,.aJ 2 0),(3,.aJ 3 0),(31,.lf (.aF .int 0)),(32,tI),(33,tI)],[(2,.aC fZ),(3,.aC Ci)],[]⟩ [(1,gC),(2,afc)] Lo,lp [en,aiO]⟩
abbrev aiQ:=((af×(aa Int)×Int×Int×af)×(((aa Int)×(aa Int)×af)×af))
def Lp(x:aiQ):ah (aiQ⊕(((Bool×af)×(af))⊕(((af)×(af))⊕Empty))):=letI C:=x.1.2.2.2.1;letI D:=xG (((),x.1.2.1,x.1.2.2.1,(W6 (C+1)),()),(x.2.1,()));bif C<x.1.2.2.1 then xI x.1.2.1 C λE=>(cz E 0 1000000).bind λL=>bif (!L)then av ((false,()),())else bif C > 0 then xI x.2.1.2.1 (W6 (C-1)) λO=>bif O >= E then av ((false,()),())else D else D else aQ ((),())
def axB:KY 82 (aS f214):=⟨2,lB 2 ⟨[(3,.aJ 3 0),(57,.lf (.aF .int 0)),(58,tI),(59,tI)],[(3,.aC Ci)],[]⟩ [(1,gC),(4,fq)] Lp,lp [en]⟩
def Fz(C:aV)(D:dn):ah (Bool):=(sx C).bind λL=>bif (!L)then some false else (n8 C).bind λO=>bif ((D.last.length:Int) != (W6 (9*(W6 (O+1)))))then some false else bif (D.bx.length:Int) > 4 then some false else bE Lo (((),(),D.last,(D.last.length:Int),0,()),((C.cH,C.aB,C.rows,C.aT,()),(D.last,D.bx,()),())) (λT=>some T.1.1) λE=>bE Lp (((),E.2.1.2.1,(E.2.1.2.1.length:Int),0,()),(E.2.1,())) (λU=>some U.1.1) λY=>some true
def YD:=bT [(true,.fe),(true,.ki)] bS (br Fz) 82 [qV,xY] [axA,axB] func214
def CX(C:Int):ah (Bool):=(cz C 0 15).bind λD=>some D
def YE:=aM lM bS (bF CX) 5 [en] func147
abbrev aiR:=(((aa Int)×Int×(aa Int)×Int×Int×af)×(af))
def Aq(x:aiR):ah (aiR⊕(((Bool×af)×(af))⊕((((aa Int)×Int×af)×(af))⊕Empty))):=letI C:=x.1.2.2;bif C.2.2.1<C.2.1 then xI C.1 C.2.2.1 λD=>(CX D).bind λE=>bif (!E)then av ((false,()),())else xG ((x.1.1,x.1.2.1,C.1,C.2.1,(W6 (C.2.2.1+1)),()),())else aQ ((x.1.1,x.1.2.1,()),())
def axC:KY 21 (aS f329):=⟨0,lB 0 ⟨[(0,.lf (.aF .int 0)),(1,tI),(7,.lf (.aF .int 0)),(8,tI),(9,tI)],[],[]⟩ [(1,gC),(2,ae6)] Aq,lp [YE]⟩
def vQ(C:aa Int)(E:Int):ah (Bool):=bE Aq ((C,E,C,(C.length:Int),0,()),()) (λL=>some L.1.1) λD=>some ((D.1.1.length:Int)==D.1.2.1)
def Lq:=bT zR bS (br vQ) 21 [] [axC] func329
abbrev aiS:=((af×(aa bK)×Int×Int×af)×(((aa bK)×(aa Int)×(aa Int)×af)×af))
def Lr(x:aiS):ah (aiS⊕(((Bool×af)×(af))⊕(((af×af)×(((aa bK)×(aa Int)×(aa Int)×af)×af))⊕Empty))):=letI C:=x.1.2.2;bif C.2.1<C.1 then xI x.1.2.1 C.2.1 λD=>(vQ D.symbols 11).bind λE=>bif (!E)then av ((false,()),())else xG (((),x.1.2.1,C.1,(W6 (C.2.1+1)),()),(x.2.1,()))else aQ (((),()),(x.2.1,()))
def axD:KY 74 (aS f215):=⟨0,lB 0 ⟨[(3,.aJ 3 0),(40,.lf (.aF .Cell 0)),(41,tI),(42,tI)],IE,[]⟩ [(1,gC),(2,afm)] Lr,lp [Lq]⟩
abbrev aiT:=((af×Int×Int×af)×(((aa bK)×(aa Int)×(aa Int)×af)×af))
def Ls(x:aiT):ah (aiT⊕(((Bool×af)×(af))⊕(((af)×(af))⊕Empty))):=letI C:=x.1.2.2.1;bif C<x.1.2.1 then xI x.2.1.2.1 C λD=>(cz D 0 100000).bind λE=>bif (!E)then av ((false,()),())else xI x.2.1.2.2.1 C λL=>(cz L 0 100000).bind λO=>bif (!O)then av ((false,()),())else xG (((),x.1.2.1,(W6 (C+1)),()),(x.2.1,()))else aQ ((),())
def axE:KY 74 (aS f215):=⟨2,lB 2 ⟨[(3,.aJ 3 0),(53,tI),(54,tI)],IE,[]⟩ [(1,gC),(4,fq)] Ls,lp [en]⟩
def FA(D:aV)(C:cZ):ah (Bool):=(n8 D).bind λE=>(sx D).bind λO=>bif (!O)then some false else (vO D).bind λT=>bif ((C.cells.length:Int) != T)then some false else bif ((C.bz.length:Int) != (W6 (E*D.rows)))then some false else bif ((C.bu.length:Int) != (W6 (E*D.rows)))then some false else bE Lr (((),C.cells,(C.cells.length:Int),0,()),((C.cells,C.bz,C.bu,()),())) (λU=>some U.1.1) λL=>bE Ls (((),(L.2.1.2.1.length:Int),0,()),(L.2.1,())) (λY=>some Y.1.1) λZ=>some true
def aiU:=bT [(true,.fe),(true,.Array)] bS (br FA) 74 [Rz,qV,xY] [axD,axE] func215
def FB(T:aV)(E:eZ)(L:Int):ah (Nat×Nat):=letI O:=W6 (T.rows-E.cr);letI C:=W6 (L*O);letI D:=W6 ((W6 (L+1))*O);if 0 <= C/\C <= D/\D <= (E.map.length:Int)then some (C.toNat,D.toNat)else none
def YF:BN:=Xf [(true,.fe),(true,.kj),(false,.int)] 1 1 .int (λx=>FB x.1 x.2.1 x.2.2.1)
def aiV:enters Tryz.prog 330/\N4 Tryz.prog 330 YF:=arb (N:=23) (fn:=f330) (code:=aS f330) (Φ:=(mw [])) (Λ:=(jR [])) (t:=.int) func330 (by kernel_rfl) (by kernel_rfl) (by kernel_rfl) (by kernel_rfl) (by kernel_rfl) (by kernel_rfl) (by kernel_rfl) (by kernel_rfl) (vE _ trivial) qR (λx=>by kernel_rfl)
abbrev aiW:=((Int×Int×(aa Int)×Int×Int×af)×(af))
def Lt(x:aiW):ah (aiW⊕(((Int×af)×(af))⊕Empty)):=letI C:=x.1.2.2;letI D:=C.2.2.1;bif D<C.2.1 then xI C.1 D λE=>bif (E==x.1.1)then xG ((x.1.1,(W6 (x.1.2.1+1)),C.1,C.2.1,(W6 (D+1)),()),())else xG ((x.1.1,x.1.2.1,C.1,C.2.1,(W6 (D+1)),()),())else av ((x.1.2.1,()),())
def axF:KY 21 (aS f331):=⟨0,lB 0 ⟨[(1,tI),(5,tI),(8,.lf (.aF .int 0)),(9,tI),(10,tI)],[],[]⟩ [(2,vG)] Lt,lp []⟩
def RH(C:aa Int)(D:Int):ah (Int):=bh Lt ((D,0,C,(C.length:Int),0,()),()) λE=>some E.1.1
def axG:=bT zR cq (br RH) 21 [] [axF] func331
abbrev aiX:=((af×af×Int×Int×(aa Int)×(aa Int)×Int×Int×af)×((Int×Int×Int×Int×af)×(Int×(aa Int)×af)×af))
def FC(x:aiX):ah (aiX⊕(((Bool×af)×(af))⊕(((af×af×Int×Int×af)×((Int×Int×Int×Int×af)×(Int×(aa Int)×af)×af))⊕Empty))):=letI D:=x.1.2.2;letI C:=D.2.2;letI E:=C.2.2.2.1;letI O:=xG (((),(),D.1,D.2.1,C.1,C.2.1,C.2.2.1,(W6 (E+1)),()),(x.2.1,x.2.2.1,()));bif E<C.2.2.1 then xI C.2.1 E λL=>bif (L != E)then (cz L D.1 (W6 (x.2.1.2.2.1-1))).bind λT=>bif (!T)then av ((false,()),())else (RH C.1 L).bind λU=>bif U > 1 then av ((false,()),())else O else O else aQ (((),(),D.1,D.2.1,()),(x.2.1,x.2.2.1,()))
def axH:KY 71 (qQ (aS f216) 0):=⟨2,lB 2 ⟨[(2,.aJ 2 0),(3,.aJ 3 0),(7,tI),(8,tI),(9,.lf (.aF .int 0)),(45,.lf (.aF .int 0)),(46,tI),(47,tI)],aeL,[]⟩ [(1,gC),(4,Xx)] FC,lp [en,axG]⟩
abbrev aiY:=((af×af×Int×Int×af)×((Int×Int×Int×Int×af)×(Int×(aa Int)×af)×af))
def Lu(x:aiY):ah (aiY⊕(((Bool×af)×(af))⊕(((af)×(af))⊕Empty))):=letI L:=x.1.2.2.2.1;letI C:=x.2.2.1;letI T:=(⟨x.2.1.1,x.2.1.2.1,x.2.1.2.2.1,x.2.1.2.2.2.1⟩:aV);(n8 T).bind λU=>bif L<U then (FB T (⟨C.1,C.2.1⟩:eZ) L).bind λD=>letI O:=(C.2.1.take D.2).drop D.1;bif Nat.ble D.1 D.2&&Nat.ble D.2 C.2.1.length then bE FC (((),(),x.1.2.2.1,L,O,O,(O.length:Int),0,()),(x.2.1,C,())) (λY=>av ((Y.1.1,()),())) λE=>xG (((),(),E.1.2.2.1,(W6 (E.1.2.2.2.1+1)),()),(E.2.1,E.2.2.1,()))else none else aQ ((),())
def axI:KY 71 (aS f216):=⟨0,lB 0 Xx [(1,gC),(2,fq)] Lu,lq [qV,⟨330,.v YF,aiV⟩] [axH]⟩
def Lv(C:aV)(D:eZ):ah (Bool):=(Lg C D.cr).bind λE=>bif (!E.2)then some false else bif ((D.map.length:Int) != (E.1.map.length:Int))then some false else bE Lu (((),(),(W6 (C.rows-D.cr)),0,()),((C.cH,C.aB,C.rows,C.aT,()),(D.cr,D.map,()),())) (λL=>some L.1.1) λO=>some true
def aiZ:=bT OZ bS (br Lv) 71 [aiE] [axI] func216
def CY(C:aV)(D:aI):ah (Bool):=(sx C).bind λE=>bif E then (n8 C).bind λL=>(cz D.ay 0 (W6 (L-1))).bind λO=>bif O then (cz D.row 0 (W6 (C.rows-1))).bind λT=>bif T then (cz D.bR 0 (W6 (C.aT-1))).bind λU=>some U else some false else some false else some false
def YG:=aM O0 bS (br CY) 31 [en,qV,xY] func146
abbrev ai0:=((af×(aa Int)×Int×Int×af)×(((aa Int)×Int×Bool×af)×af))
def Lw(x:ai0):ah (ai0⊕(((Bool×af)×(af))⊕(((af×af)×(((aa Int)×Int×Bool×af)×af))⊕Empty))):=letI C:=x.1.2.2;bif C.2.1<C.1 then xI x.1.2.1 C.2.1 λD=>(cz D (-2) 5).bind λE=>bif (!E)then av ((false,()),())else xG (((),x.1.2.1,C.1,(W6 (C.2.1+1)),()),(x.2.1,()))else aQ (((),()),(x.2.1,()))
def axJ:KY 25 (aS f224):=⟨0,lB 0 ⟨[(1,.aJ 1 0),(6,.lf (.aF .int 0)),(7,tI),(8,tI)],[(1,.aC Ch)],[]⟩ [(1,n7),(2,afd)] Lw,lp [en]⟩
def As(C:de):ah (Bool):=bE Lw (((),C.aH,(C.aH.length:Int),0,()),((C.aH,C.wait,C.dS,()),())) (λE=>some E.1.1) λD=>(cz (D.2.1.1.length:Int) 1 8).bind λL=>bif L then (cz D.2.1.2.1 1 10000).bind λO=>some O else some false
def Lx:=bT Cl bS (bF As) 25 [en] [axJ] func224
abbrev ai1:=(((aa Int)×Int×Int×Int×af)×(af))
def Ly(x:ai1):ah (ai1⊕(((Int×af)×(af))⊕(((af)×(af))⊕Empty))):=letI C:=x.1.2.2.2.1;bif C<x.1.2.2.1 then xI x.1.1 C λD=>bif (x.1.2.1==D)then av ((C,()),())else xG ((x.1.1,x.1.2.1,x.1.2.2.1,(W6 (C+1)),()),())else aQ ((),())
def axK:KY 19 (aS f414):=⟨0,lB 0 ⟨[(0,.lf (.aF .int 0)),(1,tI),(7,tI),(8,tI)],[],[]⟩ [(1,kE),(2,fq)] Ly,lp []⟩
def CZ(C:aa Int)(D:Int):ah (Int):=(iter Ly aR ((C,D,(C.length:Int),0,()),())).bind (Sum.elim (λE=>some E.1.1) (Sum.elim (λL=>some (-1)) (λz=>nomatch z)))
def YH:=bT zR cq (br CZ) 19 [] [axK] func414
abbrev ai2:=((af×(aa Int)×Int×Int×af)×(((aa Int)×(aa Int)×Int×af)×af))
def Lz(x:ai2):ah (ai2⊕(((Bool×af)×(af))⊕(((af)×(af))⊕Empty))):=letI D:=av ((false,()),());letI C:=x.1.2.2.2.1;letI L:=xG (((),x.1.2.1,x.1.2.2.1,(W6 (C+1)),()),(x.2.1,()));bif C<x.1.2.2.1 then xI x.1.2.1 C λE=>letI O:=bif (E != (-1))then (CZ x.2.1.1 E).bind λT=>bif (T != C)then D else L else L;(cz E (-1) 15).bind λU=>bif (!U)then D else xI x.2.1.2.1 C λY=>(cz Y x.2.1.2.2.1 100000).bind λZ=>bif (!Z)then D else bif (E==(-1))then xI x.2.1.2.1 C λjU=>bif (jU != 0)then D else O else O else aQ ((),())
def axL:KY 72 (aS f332):=⟨0,lB 0 ⟨[(1,.aJ 1 0),(26,.lf (.aF .int 0)),(27,tI),(28,tI)],Xy,[]⟩ [(1,n7),(2,fq)] Lz,lp [en,YH]⟩
def At(C:bQ):ah (Bool):=letI D:=(C.rows.length:Int);(cz D 1 16).bind λE=>bif (!E)then some false else bif ((C.counts.length:Int) != D)then some false else (cz C.cY 0 100000).bind λL=>bif (!L)then some false else bE Lz (((),C.rows,D,0,()),((C.rows,C.counts,C.cY,()),())) (λO=>some O.1.1) λT=>some true
def ai3:=bT IK bS (bF At) 72 [en] [axL] func332
abbrev ai4:=(((aa aI)×af×Int×Int×af)×((Int×Int×Int×af)×af))
def LA(x:ai4):ah (ai4⊕(((Int×af)×(af))⊕(((af)×(af))⊕Empty))):=letI C:=x.1.2.2.2.1;bif C<x.1.2.2.1 then xI x.1.1 C λD=>bif ((x.2.1.1==D.ay)&&((x.2.1.2.1==D.row)&&((x.2.1.2.2.1==D.bR)&&true)))then av ((C,()),())else xG ((x.1.1,(),x.1.2.2.1,(W6 (C+1)),()),(x.2.1,()))else aQ ((),())
def axM:KY 19 (aS f333):=⟨0,lB 0 ⟨[(0,.lf (.aF .Addr 0)),(3,.aJ 3 0),(7,tI),(8,tI)],[(3,.aC OW)],[]⟩ [(1,kE),(2,fq)] LA,lp []⟩
def FD(D:aa aI)(C:aI):ah (Int):=(iter LA aR ((D,(),(D.length:Int),0,()),((C.ay,C.row,C.bR,()),()))).bind (Sum.elim (λE=>some E.1.1) (Sum.elim (λL=>some (-1)) (λz=>nomatch z)))
def ai5:=bT XE cq (br FD) 19 [] [axM] func333
abbrev ai6:=((af×af×Int×Int×af)×(ax×(Int×Int×Int×Int×af)×af))
def RI(x:ai6):ah (ai6⊕(((Bool×af)×(af))⊕(((af×af×af)×(ax×(Int×Int×Int×Int×af)×af))⊕Empty))):=letI C:=x.1.2.2.2.1;bif C<x.1.2.2.1 then xI x.2.1.bH C λD=>(At D).bind λE=>bif (!E)then av ((false,()),())else xI x.2.1.guard C λL=>(cz L 3 1000).bind λO=>bif (!O)then av ((false,()),())else xG (((),(),x.1.2.2.1,(W6 (C+1)),()),(x.2.1,x.2.2.1,()))else aQ (((),(),()),(x.2.1,x.2.2.1,()))
def axN:KY 94 (aS f217):=⟨0,lB 0 ⟨[(1,.aJ 1 0),(3,.aJ 3 0),(47,tI),(48,tI)],XG,[]⟩ [(1,n7),(2,⟨[(1,.aJ 1 0),(3,.aJ 3 0)],XG,[]⟩)] RI,lp [en,ai3]⟩
abbrev ai7:=((af×af×(aa aI)×Int×Int×af)×(ax×(Int×Int×Int×Int×af)×af))
def RJ(x:ai7):ah (ai7⊕(((Bool×af)×(af))⊕(((af)×(af))⊕Empty))):=letI C:=x.2.2.1;letI L:=av ((false,()),());letI D:=x.1.2.2;letI E:=D.2.2.1;bif E<D.2.1 then xI D.1 E λO=>(CY (⟨C.1,C.2.1,C.2.2.1,C.2.2.2.1⟩:aV) O).bind λT=>bif (!T)then L else bif (O.bR != 0)then L else (FD x.2.1.pending O).bind λU=>bif (U != E)then L else xG (((),(),D.1,D.2.1,(W6 (E+1)),()),(x.2.1,C,()))else aQ ((),())
def axO:KY 94 (aS f217):=⟨2,lB 2 ⟨[(1,.aJ 1 0),(3,.aJ 3 0),(69,.lf (.aF .Addr 0)),(70,tI),(71,tI)],XG,[]⟩ [(1,n7),(4,fq)] RJ,lp [YG,ai5]⟩
def RK(C:ax):ah (Bool):=(n8 C.config.aE).bind λE=>(As C.aP).bind λL=>bif (!L)then some false else bif ((C.aP.aH.length:Int) != E)then some false else bif ((C.bH.length:Int) != E)then some false else bif ((C.guard.length:Int) != E)then some false else bif (C.pending.length:Int) > 128 then some false else bE RI (((),(),(C.bH.length:Int),0,()),(C,(C.config.aE.cH,C.config.aE.aB,C.config.aE.rows,C.config.aE.aT,()),())) (λO=>some O.1.1) λD=>bE RJ (((),(),D.2.1.pending,(D.2.1.pending.length:Int),0,()),(D.2.1,D.2.2.1,())) (λT=>some T.1.1) λU=>some true
def axP:=bT sv bS (bF RK) 94 [Lx,qV] [axN,axO] func217
def C0(C:Int):ah (Bool):=(cz C 0 4294967295).bind λD=>some D
def YI:=aM lM bS (bF C0) 5 [en] func415
def RL(E:Int)(C:bA):ah (Bool):=letI D:=(cz C.at_ 0 1000000).bind λL=>some L;(cz C.id 1 100000).bind λO=>bif O then (cz C.dN 0 3).bind λT=>bif T then bif C.line >= 0 then bif C.line<E then (C0 C.data).bind λU=>bif U then bif C.write then D else bif (C.data==0)then D else some false else some false else some false else some false else some false else some false
def axQ:=aM [(false,.int),(true,.dw)] bS (br RL) 43 [en,YI] func334
def RM(C D:bA):ah (Bool):=bif C.at_<D.at_ then some true else bif (C.at_==D.at_)then some (C.id<D.id)else some false
def axR:=aM XH bS (br RM) 24 [] func335
abbrev ai8:=((Int×(aa bA)×af×(aa bA)×Int×Int×(aa bA)×Int×Int×af)×((Int×Int×Int×Bool×Int×Int×af)×af))
def FE(x:ai8):ah (ai8⊕(((Bool×af)×(af))⊕(((Int×(aa bA)×(aa bA)×Int×Int×af)×(af))⊕Empty))):=letI D:=x.1.2.2.2.2;letI C:=D.2.2;bif C.2.2.1<C.2.1 then xI C.1 C.2.2.1 λE=>bif (E.id==x.2.1.1)then av ((false,()),())else xG ((x.1.1,x.1.2.1,(),x.1.2.2.2.1,D.1,D.2.1,C.1,C.2.1,(W6 (C.2.2.1+1)),()),(x.2.1,()))else aQ ((x.1.1,x.1.2.1,x.1.2.2.2.1,D.1,D.2.1,()),())
def ai9:KY 52 (qQ (aS f218) 0):=⟨2,lB 2 ⟨[(0,tI),(1,.lf (.aF .dw 0)),(6,.aJ 6 0),(9,.lf (.aF .dw 0)),(10,tI),(11,tI),(36,.lf (.aF .dw 0)),(37,tI),(38,tI)],[(6,.aC [.int .i64,.int .i64,.int .i64,.bool,.int .i64,.int .i64])],[]⟩ [(1,gC),(4,aeI)] FE,lp []⟩
abbrev aja:=((Int×(aa bA)×(aa bA)×Int×Int×af)×(af))
def LB(x:aja):ah (aja⊕(((Bool×af)×(af))⊕((((aa bA)×af)×(af))⊕Empty))):=letI C:=x.1.2;letI D:=C.2.2.2.1;letI O:=(C.1.take D.toNat).drop (0:Int).toNat;bif D<C.2.2.1 then xI C.2.1 D λE=>letI T:=if 0 <= (0:Int)/\0 <= D/\D <= (C.1.length:Int)then bE FE ((x.1.1,C.1,(),C.2.1,C.2.2.1,D,O,(O.length:Int),0,()),((E.id,E.dN,E.line,E.write,E.data,E.at_,()),())) (λU=>av ((U.1.1,()),())) λL=>xG ((L.1.1,L.1.2.1,L.1.2.2.1,L.1.2.2.2.1,(W6 (L.1.2.2.2.2.1+1)),()),())else none;(RL x.1.1 E).bind λY=>bif (!Y)then av ((false,()),())else bif D > 0 then xI C.1 (W6 (D-1)) λZ=>(RM Z E).bind λy6=>bif (!y6)then av ((false,()),())else T else T else aQ ((C.1,()),())
def axS:KY 52 (aS f218):=⟨0,lB 0 aeI [(1,gC),(2,⟨[(1,.lf (.aF .dw 0))],[],[]⟩)] LB,lq [axQ,axR] [ai9,ai9]⟩
def RN(D:Int)(C:aa bA):ah (Bool):=bE LB ((D,C,C,(C.length:Int),0,()),()) (λE=>some E.1.1) λL=>some ((L.1.1.length:Int) <= 12)
def axT:=bT [(false,.int),(false,(.sl .dw))] bS (br RN) 52 [] [axS] func218
def FF(C:aV)(D:eZ):ah (aV):=(Lv C D).bind λE=>bif (!E)then some (⟨0,0,0,0⟩:aV)else some (⟨C.cH,C.aB,(W6 (C.rows-D.cr)),C.aT⟩:aV)
def YJ:=aM OZ [(true,.fe,0)] (br FF) 17 [aiZ] func219
def C1(C:eE):ah (Bool):=(cz C.state 0 2).bind λD=>bif D then (cz C.since 0 1000000).bind λE=>bif E then (cz C.idle 0 1000000).bind λL=>some L else some false else some false
def RO:=aM [(true,.Power)] bS (bF C1) 16 [en] func222
abbrev ajb:=(((aa bU)×af×(aa bU)×Int×Int×(aa bU)×Int×Int×af)×((Int×Int×Int×af)×af))
def FG(x:ajb):ah (ajb⊕(((Bool×af)×(af))⊕((((aa bU)×(aa bU)×Int×Int×af)×(af))⊕Empty))):=letI D:=x.1.2.2;letI C:=D.2.2;letI E:=xG ((x.1.1,(),D.1,D.2.1,C.1,C.2.1,C.2.2.1,(W6 (C.2.2.2.1+1)),()),(x.2.1,()));bif C.2.2.2.1<C.2.2.1 then xI C.2.1 C.2.2.2.1 λL=>bif (x.2.1.1==L.line)then bif (x.2.1.2.1==L.code)then av ((false,()),())else E else E else aQ ((x.1.1,D.1,D.2.1,C.1,()),())
def ajc:KY 59 (qQ (aS f223) 0):=⟨2,lB 2 ⟨[(0,.lf (.aF .eo 0)),(4,.aJ 4 0),(7,.lf (.aF .eo 0)),(8,tI),(9,tI),(36,.lf (.aF .eo 0)),(37,tI),(38,tI)],[(4,.aC OW)],[]⟩ [(1,n7),(4,aeV)] FG,lp []⟩
abbrev ajd:=(((aa bU)×(aa bU)×Int×Int×af)×(af))
def LC(x:ajd):ah (ajd⊕(((Bool×af)×(af))⊕((((aa bU)×af)×(af))⊕Empty))):=letI L:=av ((false,()),());letI D:=x.1.2.2.2.1;letI O:=(x.1.1.take D.toNat).drop (0:Int).toNat;bif D<x.1.2.2.1 then xI x.1.2.1 D λC=>letI T:=(cz C.times 1 999).bind λU=>bif (!U)then L else if 0 <= (0:Int)/\0 <= D/\D <= (x.1.1.length:Int)then bE FG ((x.1.1,(),x.1.2.1,x.1.2.2.1,D,O,(O.length:Int),0,()),((C.line,C.code,C.times,()),())) (λY=>av ((Y.1.1,()),())) λE=>xG ((E.1.1,E.1.2.1,E.1.2.2.1,(W6 (E.1.2.2.2.1+1)),()),())else none;(cz C.line 0 1023).bind λZ=>bif (!Z)then L else bif (C.code != 1)then bif (C.code != 2)then L else T else T else aQ ((x.1.1,()),())
def axU:KY 59 (aS f223):=⟨0,lB 0 aeV [(1,n7),(2,⟨[(0,.lf (.aF .eo 0))],[],[]⟩)] LC,lq [en] [ajc,ajc]⟩
def LD(C:aa bU):ah (Bool):=bE LC ((C,C,(C.length:Int),0,()),()) (λD=>some D.1.1) λE=>some ((E.1.1.length:Int) <= 6)
def aje:=bT O2 bS (bF LD) 59 [] [axU] func223
def FH(C:ax):ah (Bool):=(vP C.config C.box.bI).bind λD=>bif (!D)then some false else (vP C.config C.box.next).bind λE=>bif (!E)then some false else (cz C.now 0 1000000).bind λL=>bif (!L)then some false else (Ln C.config.aE C.bq).bind λO=>bif (!O)then some false else (Fz C.config.aE C.ready).bind λT=>bif (!T)then some false else (FA C.config.aE C.array).bind λU=>bif (!U)then some false else (Lv C.config.aE C.spare).bind λY=>bif (!Y)then some false else bif (C.spare.cr != C.config.cr)then some false else (RK C).bind λZ=>bif (!Z)then some false else (FF C.config.aE C.spare).bind λy9=>(vO y9).bind λgS=>(RN gS C.queue).bind λeM=>bif (!eM)then some false else (Fw C.shares).bind λgD=>bif (!gD)then some false else bif ((C.shares.length:Int) != 4)then some false else (CV C.drain).bind λgT=>bif (!gT)then some false else (C1 C.aZ).bind λjz=>bif (!jz)then some false else bif (C.aZ.state != C.bq.aZ)then some false else bif C.aZ.since > C.now then some false else (cz C.cK.every 1 100000).bind λiE=>bif iE then (cz C.cK.wait 1 C.cK.every).bind λkF=>bif kF then (vO C.config.aE).bind λgN=>(cz C.cK.next 0 (W6 (gN-1))).bind λjT=>bif jT then (LD C.errors).bind λtS=>bif tS then bif (C.trace.length:Int) <= 2000 then some ((C.cS.length:Int) <= 400)else some false else some false else some false else some false else some false
def YK:=aM sv bS (bF FH) 155 [Rz,en,axx,aiN,YD,aiU,aiZ,axP,axT,YJ,YC,RC,RO,aje] func71
def axV:bL:=⟨[(1,tI),(2,.aJ 2 0),(4,.aJ 4 0),(5,.aJ 5 0),(28,tI),(29,tI)],aez,[]⟩
def axW:aa (Nat×bL):=[(2,⟨[(1,tI),(2,.aJ 2 0),(4,.aJ 4 0),(5,.aJ 5 0)],aez,[]⟩)]
abbrev ajf:=((Int×af×af×af×Int×Int×af)×(((aa Int)×Int×Bool×af)×(af×Int×Bool×af)×(af×Int×Bool×af)×(aa Int)×(aa Int)×af))
def LF(x:ajf):ah (ajf⊕(((Int×af×af×af×af)×(((aa Int)×Int×Bool×af)×(af×Int×Bool×af)×(af×Int×Bool×af)×(aa Int)×(aa Int)×af))⊕Empty)):=letI L:=((),x.2.2.1.2.1,x.2.2.1.2.2.1,());letI D:=x.2.2.2;letI E:=D.2.2.1;letI O:=((),D.1.2.1,D.1.2.2.1,());letI C:=x.1.2.2.2.2;bif C.2.1<C.1 then xL E C.2.1 λU=>letI T:=W6 (U+1);xL E C.2.1 λY=>xG ((x.1.1,(),(),(),C.1,(W6 (C.2.1+1)),()),(x.2.1,L,O,D.2.1,(E.set C.2.1.toNat (if 5<T then 5 else T)),()))else av ((x.1.1,(),(),(),()),(x.2.1,L,O,D.2.1,E,()))
def axX:KY 52 (aS f72):=⟨0,lB 0 axV axW LF,lp []⟩
def LG(D:de)(T:Int):ah (de):=(CU D).bind λC=>letI O:=W6 (C.wait-1);(As D).bind λU=>bif (!U)then some C else (cz T 2 10000).bind λY=>bif (!Y)then some C else bif O > 0 then some (⟨C.aH,O,C.dS⟩:de)else bh LF ((T,(),(),(),(C.aH.length:Int),0,()),((D.aH,D.wait,D.dS,()),((),0,false,()),((),O,C.dS,()),([]:aa Int),C.aH,())) λE=>letI L:=E.2.2.2;bif E.2.1.2.2.1 then some (⟨L.2.2.1,(W6 (E.1.1.tdiv 2)),L.1.2.2.1⟩:de)else some (⟨L.2.2.1,E.1.1,L.1.2.2.1⟩:de)
def axY:=bT IA [(true,.kM,2)] (br LG) 52 [en,Yt,Lx] [axX] func72
def axZ:bL:=⟨[(2,tI),(6,.aJ 6 0),(7,.aJ 7 0),(23,tI),(24,tI)],aev,[]⟩
def ax0:aa (Nat×bL):=[(2,⟨[(6,.aJ 6 0),(7,.aJ 7 0)],aev,[]⟩)]
abbrev ajg:=((Int×af×af×Int×Int×af)×((af×af×af×af)×(af×af×af×af)×(aa bK)×(aa Int)×(aa Int)×(aa bK)×(aa Int)×(aa Int)×af))
def LH(x:ajg):ah (ajg⊕(((af×af×af)×((af×af×af×af)×(af×af×af×af)×(aa bK)×(aa Int)×(aa Int)×(aa bK)×(aa Int)×(aa Int)×af))⊕Empty)):=letI D:=x.2.2.2;letI O:=((),(),(),());letI E:=x.1.2.2.2.2.1;letI L:=D.2.2;letI C:=L.2.2;bif E<x.1.2.2.2.1 then xL C.1 E λU=>letI T:=W6 (U+x.1.1);xL C.1 E λY=>xG ((x.1.1,(),(),x.1.2.2.2.1,(W6 (E+1)),()),(O,O,D.1,D.2.1,L.1,L.2.1,(C.1.set E.toNat (if 100000<T then 100000 else T)),C.2.1,()))else av (((),(),()),(O,O,D.1,D.2.1,L.1,L.2.1,C.1,C.2.1,()))
def ax1:KY 41 (aS f73):=⟨0,lB 0 axZ ax0 LH,lp []⟩
def FI(O:aV)(E:cZ)(L:Int):ah (cZ):=(Fo E).bind λC=>(FA O E).bind λT=>bif (!T)then some C else (cz L 0 100000).bind λU=>bif (!U)then some C else bh LH ((L,(),(),(C.bz.length:Int),0,()),(((),(),(),()),((),(),(),()),([]:aa bK),([]:aa Int),([]:aa Int),C.cells,C.bz,C.bu,())) λY=>letI D:=Y.2.2.2.2.2.2;some (⟨D.1,D.2.1,D.2.2.1⟩:cZ)
def ax2:=bT [(true,.fe),(true,.Array),(false,.int)] [(true,.Array,4)] (fS FI) 41 [en,ail,aiU] [ax1] func73
end Go.Proofs.YtnilicojgkhpnaaGreat
