/-
  Functions of the program as plain functions of contents, and that the code computes them. Nothing here is a claim.
-/
import Derived.Test.YtnilicojgkhpnaaGreatVZ
import Derived.Test.YtnilicojgkhpnaaGreatRows
import Derived.Test.YtnilicojgkhpnaaGreatG1
import Derived.Test.YtnilicojgkhpnaaGreatG2
import Derived.Test.YtnilicojgkhpnaaGreatG3
import Derived.Test.YtnilicojgkhpnaaGreatG4
import Derived.Test.YtnilicojgkhpnaaGreatG5
import Derived.Test.YtnilicojgkhpnaaGreatG6
import Derived.Test.YtnilicojgkhpnaaGreatG7
namespace Go.Proofs.YtnilicojgkhpnaaGreat
set_option linter.defProp false
open Go.RowKit Go.Proofs.Tryz
set_option linter.unusedVariables false
set_option maxRecDepth 100000
def vP(C:aU):ah (Int):=(n9 C).bind λD=>some (W6 ((W6 (D*C.rows))*C.aT))
def Ry:=aM Cg cq (bF vP) 11 [qX] func81
abbrev aiy:=((Int×af×af×af×Int×Int×af)×((Int×Int×Int×Int×af)×(Int×af×af)×(Int×af×af)×(aa Int)×(aa Int)×af))
def Fq(x:aiy):ah (aiy⊕(((Int×af×af×af×Int×af)×((Int×Int×Int×Int×af)×(Int×af×af)×(Int×af×af)×(aa Int)×(aa Int)×af))⊕Empty)):=letI C:=x.2.2.2;letI D:=x.1.2.2.2.2;bif D.2.1<(W6 (x.2.1.2.2.1-x.1.1))then bif bO (C.2.2.1.length+([D.2.1]:aa Int).length)then xG ((x.1.1,(),(),(),D.1,(W6 (D.2.1+1)),()),(x.2.1,x.2.2.1,C.1,C.2.1,(C.2.2.1++([D.2.1]:aa Int)),()))else none else av ((x.1.1,(),(),(),D.1,()),(x.2.1,x.2.2.1,C.1,C.2.1,C.2.2.1,()))
def axj:KY 48 (qS (aR f272) 0):=⟨2,lB 2 ⟨[(1,tI),(2,.aJ 2 0),(4,.aJ 4 0),(6,.aJ 6 0),(7,tI),(8,tI)],aeu,[]⟩ [(4,Xr)] Fq,lp []⟩
abbrev aiz:=((Int×af×af×af×Int×af)×((Int×Int×Int×Int×af)×(Int×af×af)×(Int×af×af)×(aa Int)×(aa Int)×af))
def La(x:aiz):ah (aiz⊕(((af×af×af)×((Int×af×af)×(Int×af×af)×(aa Int)×(aa Int)×af))⊕Empty)):=letI D:=x.2.2.2;(n9 (⟨x.2.1.1,x.2.1.2.1,x.2.1.2.2.1,x.2.1.2.2.2.1⟩:aU)).bind λE=>bif x.1.2.2.2.2.1<E then bk Fq ((x.1.1,(),(),(),x.1.2.2.2.2.1,0,()),(x.2.1,x.2.2.1,D.1,D.2.1,D.2.2.1,())) λC=>xG ((C.1.1,(),(),(),(W6 (C.1.2.2.2.2.1+1)),()),(C.2.1,C.2.2.1,C.2.2.2.1,C.2.2.2.2.1,C.2.2.2.2.2.1,()))else av (((),(),()),(x.2.2.1,D.1,D.2.1,D.2.2.1,()))
def axk:KY 48 (aR f272):=⟨0,lB 0 Xr [(2,aeC)] La,lq [qX] [axj]⟩
def Lb(C:aU)(D:Int):ah (eZ×Bool):=letI E:=some ((⟨0,[]⟩:eZ),false);(sy C).bind λO=>bif (!O)then E else (cA D 0 2).bind λT=>bif (!T)then E else bif (W6 (C.rows-D))<2 then E else bk La ((D,(),(),(),0,()),((C.cF,C.aB,C.rows,C.aT,()),(0,(),()),(D,(),()),([]:aa Int),([]:aa Int),())) λL=>some ((⟨L.2.2.1.1,L.2.2.2.2.1⟩:eZ),true)
def aiA:=bT Iz [(true,.kj,2),(false,.bool,0)] (br Lb) 48 [en,xY] [axk] func272
abbrev aiB:=((af×af×Int×Int×af)×(c9×(aa Int)×af))
def Fs(x:aiB):ah (aiB⊕(((Bool×af)×(af))⊕(((af×af)×(c9×af))⊕Empty))):=letI C:=x.1.2.2;bif C.2.1<C.1 then xL x.2.2.1 C.2.1 λD=>(cA D 1 64).bind λE=>bif (!E)then av ((false,()),())else xG (((),(),C.1,(W6 (C.2.1+1)),()),(x.2.1,x.2.2.1,()))else aQ (((),()),(x.2.1,()))
def axl:KY 75 (aR f375):=⟨0,lB 0 ⟨[(1,.aJ 1 0),(39,.lf (.own 39)),(40,tI),(41,tI)],[(1,.st .jI),(39,.sl .int 2)],[]⟩ [(1,n8),(2,ae8)] Fs,lp [en]⟩
def Ft(C:c9):ah (Bool):=letI E:=([C.jF,C.rp,C.gH,C.mI,C.jG,C.jH,C.mJ,C.mK,C.ji,C.wr,C.mL,C.mM,C.pH,C.mN,C.nJ,C.xp,C.xs]:aa Int);bE Fs (((),(),(E.length:Int),0,()),(C,E,())) (λL=>some L.1.1) λO=>letI D:=O.2.1;bif D.jF <= D.gH then bif D.mI <= D.jG then bif D.mJ <= D.mK then some (D.mL <= D.mM)else some false else some false else some false
def YB:=bT EJ bS (bF Ft) 75 [] [axl] func375
def Lc(C:jE):ah (Bool):=(cA C.order 0 2).bind λD=>some D
def aiC:=aM [(true,.nK)] bS (bF Lc) 6 [en] func376
def x4(C:c9):ah (Int):=(Ft C).bind λD=>bif (!D)then some 0 else some (W6 (2*(W6 ((W6 ((W6 ((W6 ((W6 ((W6 ((W6 ((W6 ((W6 (C.nJ+C.xp))+C.gH))+C.wr))+C.ji))+C.rp))+C.mN))+C.jF))+(W6 (8*C.jG))))+16))))
def axm:=aM EJ cq (bF x4) 35 [YB] func377
def Rz(C:ia):ah (Bool):=(Lb C.aE C.cr).bind λD=>(sy C.aE).bind λE=>bif E then (Ft C.ck).bind λL=>bif L then (Lc C.mapping).bind λO=>bif O then bif D.2 then (x4 C.ck).bind λT=>(cA C.interval T 10000).bind λU=>bif U then (cA C.iz 1 16).bind λY=>bif Y then (cA C.dO.bz (W6 (6*C.interval)) 100000).bind λZ=>bif Z then (cA C.dO.bu 0 100000).bind λy9=>some y9 else some false else some false else some false else some false else some false else some false else some false
def axn:=aM [(true,.Config)] bS (bF Rz) 57 [en,aiA,xY,YB,aiC,axm] func281
abbrev aiD:=(((aa bV)×(aa bV)×Int×Int×af)×(af))
def Ld(x:aiD):ah (aiD⊕(((Bool×af)×(af))⊕((((aa bV)×af)×(af))⊕Empty))):=letI C:=x.1.2.2;bif C.2.1<C.1 then xI x.1.2.1 C.2.1 λD=>(cA D.weight 1 9).bind λE=>bif (!E)then av ((false,()),())else (cA D.eP 0 D.weight).bind λL=>bif (!L)then av ((false,()),())else xG ((x.1.1,x.1.2.1,C.1,(W6 (C.2.1+1)),()),())else aQ ((x.1.1,()),())
def axo:KY 27 (aR f220):=⟨0,lB 0 ⟨[(0,.lf (.aF .ef 0)),(5,.lf (.aF .ef 0)),(6,tI),(7,tI)],[],[]⟩ [(1,n8),(2,afc)] Ld,lp [en]⟩
def Fu(C:aa bV):ah (Bool):=bE Ld ((C,C,(C.length:Int),0,()),()) (λD=>some D.1.1) λE=>(cA (E.1.1.length:Int) 1 4).bind λL=>some L
def YC:=bT [(false,(.sl .ef))] bS (bF Fu) 27 [en] [axo] func220
abbrev aiE:=((af×(aa Int)×Int×Int×af)×((aa bV)×af))
def Le(x:aiE):ah (aiE⊕(((af×af)×((aa bV)×af))⊕Empty)):=letI C:=x.1.2.2;bif C.2.1<C.1 then xI x.1.2.1 C.2.1 λD=>letI E:=([(⟨D,D⟩:bV)]:aa bV);bif bO (x.2.1.length+E.length)then xG (((),x.1.2.1,C.1,(W6 (C.2.1+1)),()),((x.2.1++E),()))else none else av (((),()),(x.2.1,()))
def axp:KY 25 (aR f79):=⟨0,lB 0 ⟨[(4,.lf (.own 7)),(8,.lf (.aF .int 0)),(9,tI),(10,tI)],O2,[]⟩ [(2,⟨[(4,.lf (.own 7))],O2,[]⟩)] Le,lp []⟩
def An(C:aa Int):ah ((aa bV)×Bool):=bk Le (((),C,(C.length:Int),0,()),(([]:aa bV),())) λD=>(Fu D.2.1).bind λE=>bif (!E)then some ([],false)else some (D.2.1,true)
def aiF:=bT nh [(false,(.sl .ef),2),(false,.bool,0)] (bF An) 25 [YC] [axp] func79
def CS(C:gB):ah (Bool):=bif C.low >= 0 then bif C.low<C.high then some (C.high <= 12)else some false else some false
def RB:=aM [(true,.kN)] bS (bF CS) 18 [] func221
def Lg(C:kL):ah (Bool):=(cA C.down 1 10000).bind λD=>bif D then bif C.sleep > C.down then some (C.sleep <= 20000)else some false else some false
def aiG:=aM [(true,.nL)] bS (bF Lg) 18 [en] func378
def RC(C:fz):ah (Bool):=(An C.weights).bind λE=>letI D:=(cA C.cap 0 100000).bind λL=>bif L then (cA C.fD 3 1000).bind λO=>bif O then (CS (⟨false,C.low,C.high⟩:gB)).bind λT=>bif T then bif ((C.weights.length:Int)==4)then bif E.2 then (Lg C.eI).bind λU=>some U else some false else some false else some false else some false else some false;bif (C.eN==0)then D else bif (C.eN==1)then D else some false
def axq:=aM IE bS (bF RC) 51 [aiF,en,RB,aiG] func282
def Fv(C:Int):ah (Int):=(cA C 3 1000).bind λD=>bif (!D)then some 0 else some (W6 ((W6 (2*C))+2))
def axr:=aM lM cq (bF Fv) 9 [en] func283
def vQ(C:ia)(D:fz):ah (Bool):=letI E:=W6 (C.ck.gH+C.ck.rp);(Rz C).bind λL=>bif L then (RC D).bind λO=>bif O then (Fv D.fD).bind λT=>bif (W6 (T+2)) <= C.dO.bu then if E=0 then none else some ((W6 ((W6 (C.iz+1))*D.fD)) > (W6 ((W6 ((W6 (5*C.interval)).tdiv E))+2)))else some false else some false else some false
def axt:=aM [(true,.Config),(true,.lU)] bS (br vQ) 42 [axn,axq,axr] func150
abbrev aiH:=((af×(aa cR)×Int×Int×af)×((aa Int)×af))
def Fw(x:aiH):ah (aiH⊕(((af×af)×((aa Int)×af))⊕Empty)):=letI C:=x.1.2.2.2.1;letI D:=((),x.1.2.1,x.1.2.2.1,(W6 (C+1)),());bif C<x.1.2.2.1 then xI x.1.2.1 C λE=>bif E.open_ then bif bO (x.2.1.length+([C]:aa Int).length)then xG (D,((x.2.1++([C]:aa Int)),()))else none else xG (D,(x.2.1,()))else av (((),()),(x.2.1,()))
def axu:KY 23 (aR f327):=⟨0,lB 0 ⟨[(3,.lf (.own 6)),(8,.lf (.aF .fQ 0)),(9,tI),(10,tI)],[(6,.sl .int 2)],[]⟩ [(2,ae3)] Fw,lp []⟩
def Ao(C:cy):ah ((aa Int)):=bk Fw (((),C.aB,(C.aB.length:Int),0,()),(([]:aa Int),())) λD=>some D.2.1
def RD:=bT IF lK (bF Ao) 23 [] [axu] func327
abbrev aiI:=((af×af×(aa cR)×Int×Int×af)×((Int×Int×Int×Int×af)×((aa cR)×Int×af)×af))
def Lh(x:aiI):ah (aiI⊕(((Bool×af)×(af))⊕(((af×af)×(((aa cR)×Int×af)×af))⊕Empty))):=letI C:=x.1.2.2;letI E:=xG (((),(),C.1,C.2.1,(W6 (C.2.2.1+1)),()),(x.2.1,x.2.2.1,()));bif C.2.2.1<C.2.1 then xI C.1 C.2.2.1 λD=>(cA D.row 0 (W6 (x.2.1.2.2.1-1))).bind λL=>bif (!L)then av ((false,()),())else bif (!D.open_)then bif (D.row != 0)then av ((false,()),())else E else E else aQ (((),()),(x.2.2.1,()))
def axv:KY 58 (aR f213):=⟨0,lB 0 ⟨[(2,.aJ 2 0),(3,.aJ 3 0),(25,.lf (.aF .fQ 0)),(26,tI),(27,tI)],[(2,.aC fZ),(3,.aC zR)],[]⟩ [(1,gC),(2,⟨[(3,.aJ 3 0)],[(3,.aC zR)],[]⟩)] Lh,lp [en]⟩
def Li(C:aU)(D:cy):ah (Bool):=(sy C).bind λL=>bif (!L)then some false else (n9 C).bind λO=>bif ((D.aB.length:Int) != O)then some false else (cA D.aZ 0 2).bind λT=>bif (!T)then some false else bE Lh (((),(),D.aB,(D.aB.length:Int),0,()),((C.cF,C.aB,C.rows,C.aT,()),(D.aB,D.aZ,()),())) (λU=>some U.1.1) λE=>bif (E.2.1.2.1 != 2)then some true else (Ao (⟨E.2.1.1,E.2.1.2.1⟩:cy)).bind λY=>some ((Y.length:Int)==0)
def aiJ:=bT [(true,.fe),(true,.iI)] bS (br Li) 58 [en,qX,xY,RD] [axv] func213
def x5(C:Int):ah (Bool):=(cA C 1 5).bind λD=>some D
def RE:=aM lM bS (bF x5) 5 [en] func413
def CT(O:aU)(L:Int):ah (aG×Bool):=letI C:=W6 (L.tdiv 9);letI D:=W6 ((L.tmod 9)+1);(n9 O).bind λE=>bif C<E then (x5 D).bind λT=>some ((⟨D,C,0,0⟩:aG),((decide (C<E))==T))else (x5 D).bind λU=>some ((⟨D,0,0,0⟩:aG),((decide (C<E))==U))
def aiK:=aM Iz [(true,.Command,0),(false,.bool,0)] (br CT) 27 [qX,RE] func328
abbrev aiL:=((af×af×(aa Int)×Int×Int×af)×((Int×Int×Int×Int×af)×((aa Int)×(aa Int)×af)×af))
def Lj(x:aiL):ah (aiL⊕(((Bool×af)×(af))⊕(((af×af)×(((aa Int)×(aa Int)×af)×af))⊕Empty))):=letI C:=x.1.2.2;letI D:=C.2.2.1;letI E:=xG (((),(),C.1,C.2.1,(W6 (D+1)),()),(x.2.1,x.2.2.1,()));bif D<C.2.1 then xI C.1 D λL=>(CT (⟨x.2.1.1,x.2.1.2.1,x.2.1.2.2.1,x.2.1.2.2.2.1⟩:aU) D).bind λO=>(cA L (-1) 1000000).bind λT=>bif (!T)then av ((false,()),())else bif (!O.2)then bif (L != (-1))then av ((false,()),())else E else E else aQ (((),()),(x.2.2.1,()))
def axw:KY 82 (aR f214):=⟨0,lB 0 ⟨[(2,.aJ 2 0),(3,.aJ 3 0),(31,.lf (.aF .int 0)),(32,tI),(33,tI)],[(2,.aC fZ),(3,.aC Cf)],[]⟩ [(1,gC),(2,ae9)] Lj,lp [en,aiK]⟩
abbrev aiM:=((af×(aa Int)×Int×Int×af)×(((aa Int)×(aa Int)×af)×af))
def Lk(x:aiM):ah (aiM⊕(((Bool×af)×(af))⊕(((af)×(af))⊕Empty))):=letI C:=x.1.2.2.2.1;letI D:=xG (((),x.1.2.1,x.1.2.2.1,(W6 (C+1)),()),(x.2.1,()));bif C<x.1.2.2.1 then xI x.1.2.1 C λE=>(cA E 0 1000000).bind λL=>bif (!L)then av ((false,()),())else bif C > 0 then xI x.2.1.2.1 (W6 (C-1)) λO=>bif O >= E then av ((false,()),())else D else D else aQ ((),())
def axx:KY 82 (aR f214):=⟨2,lB 2 ⟨[(3,.aJ 3 0),(57,.lf (.aF .int 0)),(58,tI),(59,tI)],[(3,.aC Cf)],[]⟩ [(1,gC),(4,fq)] Lk,lp [en]⟩
def Fx(C:aU)(D:dn):ah (Bool):=(sy C).bind λL=>bif (!L)then some false else (n9 C).bind λO=>bif ((D.last.length:Int) != (W6 (9*(W6 (O+1)))))then some false else bif (D.bx.length:Int) > 4 then some false else bE Lj (((),(),D.last,(D.last.length:Int),0,()),((C.cF,C.aB,C.rows,C.aT,()),(D.last,D.bx,()),())) (λT=>some T.1.1) λE=>bE Lk (((),E.2.1.2.1,(E.2.1.2.1.length:Int),0,()),(E.2.1,())) (λU=>some U.1.1) λY=>some true
def YD:=bT [(true,.fe),(true,.ki)] bS (br Fx) 82 [qX,xY] [axw,axx] func214
def CU(C:Int):ah (Bool):=(cA C 0 15).bind λD=>some D
def YE:=aM lM bS (bF CU) 5 [en] func147
abbrev aiN:=(((aa Int)×Int×(aa Int)×Int×Int×af)×(af))
def Ap(x:aiN):ah (aiN⊕(((Bool×af)×(af))⊕((((aa Int)×Int×af)×(af))⊕Empty))):=letI C:=x.1.2.2;bif C.2.2.1<C.2.1 then xI C.1 C.2.2.1 λD=>(CU D).bind λE=>bif (!E)then av ((false,()),())else xG ((x.1.1,x.1.2.1,C.1,C.2.1,(W6 (C.2.2.1+1)),()),())else aQ ((x.1.1,x.1.2.1,()),())
def axy:KY 21 (aR f329):=⟨0,lB 0 ⟨[(0,.lf (.aF .int 0)),(1,tI),(7,.lf (.aF .int 0)),(8,tI),(9,tI)],[],[]⟩ [(1,gC),(2,ae4)] Ap,lp [YE]⟩
def vR(C:aa Int)(E:Int):ah (Bool):=bE Ap ((C,E,C,(C.length:Int),0,()),()) (λL=>some L.1.1) λD=>some ((D.1.1.length:Int)==D.1.2.1)
def Ll:=bT zP bS (br vR) 21 [] [axy] func329
abbrev aiO:=((af×(aa bK)×Int×Int×af)×(((aa bK)×(aa Int)×(aa Int)×af)×af))
def Ln(x:aiO):ah (aiO⊕(((Bool×af)×(af))⊕(((af×af)×(((aa bK)×(aa Int)×(aa Int)×af)×af))⊕Empty))):=letI C:=x.1.2.2;bif C.2.1<C.1 then xI x.1.2.1 C.2.1 λD=>(vR D.symbols 11).bind λE=>bif (!E)then av ((false,()),())else xG (((),x.1.2.1,C.1,(W6 (C.2.1+1)),()),(x.2.1,()))else aQ (((),()),(x.2.1,()))
def axz:KY 74 (aR f215):=⟨0,lB 0 ⟨[(3,.aJ 3 0),(40,.lf (.aF .Cell 0)),(41,tI),(42,tI)],IB,[]⟩ [(1,gC),(2,afi)] Ln,lp [Ll]⟩
abbrev aiP:=((af×Int×Int×af)×(((aa bK)×(aa Int)×(aa Int)×af)×af))
def Lo(x:aiP):ah (aiP⊕(((Bool×af)×(af))⊕(((af)×(af))⊕Empty))):=letI C:=x.1.2.2.1;bif C<x.1.2.1 then xI x.2.1.2.1 C λD=>(cA D 0 100000).bind λE=>bif (!E)then av ((false,()),())else xI x.2.1.2.2.1 C λL=>(cA L 0 100000).bind λO=>bif (!O)then av ((false,()),())else xG (((),x.1.2.1,(W6 (C+1)),()),(x.2.1,()))else aQ ((),())
def axA:KY 74 (aR f215):=⟨2,lB 2 ⟨[(3,.aJ 3 0),(53,tI),(54,tI)],IB,[]⟩ [(1,gC),(4,fq)] Lo,lp [en]⟩
def Fy(D:aU)(C:cZ):ah (Bool):=(n9 D).bind λE=>(sy D).bind λO=>bif (!O)then some false else (vP D).bind λT=>bif ((C.cells.length:Int) != T)then some false else bif ((C.bz.length:Int) != (W6 (E*D.rows)))then some false else bif ((C.bu.length:Int) != (W6 (E*D.rows)))then some false else bE Ln (((),C.cells,(C.cells.length:Int),0,()),((C.cells,C.bz,C.bu,()),())) (λU=>some U.1.1) λL=>bE Lo (((),(L.2.1.2.1.length:Int),0,()),(L.2.1,())) (λY=>some Y.1.1) λZ=>some true
def aiQ:=bT [(true,.fe),(true,.Array)] bS (br Fy) 74 [Ry,qX,xY] [axz,axA] func215
def Fz(T:aU)(E:eZ)(L:Int):ah (Nat×Nat):=letI O:=W6 (T.rows-E.cr);letI C:=W6 (L*O);letI D:=W6 ((W6 (L+1))*O);if 0 <= C/\C <= D/\D <= (E.map.length:Int)then some (C.toNat,D.toNat)else none
def YF:BI:=Xe [(true,.fe),(true,.kj),(false,.int)] 1 1 .int (λx=>Fz x.1 x.2.1 x.2.2.1)
def aiR:enters Tryz.prog 330/\N1 Tryz.prog 330 YF:=aq6 (N:=23) (fn:=f330) (code:=aR f330) (Φ:=(mw [])) (Λ:=(jR [])) (t:=.int) func330 (by kernel_rfl) (by kernel_rfl) (by kernel_rfl) (by kernel_rfl) (by kernel_rfl) (by kernel_rfl) (by kernel_rfl) (by kernel_rfl) (vF _ trivial) qT (λx=>by kernel_rfl)
abbrev aiS:=((Int×Int×(aa Int)×Int×Int×af)×(af))
def Lp(x:aiS):ah (aiS⊕(((Int×af)×(af))⊕Empty)):=letI C:=x.1.2.2;letI D:=C.2.2.1;bif D<C.2.1 then xI C.1 D λE=>bif (E==x.1.1)then xG ((x.1.1,(W6 (x.1.2.1+1)),C.1,C.2.1,(W6 (D+1)),()),())else xG ((x.1.1,x.1.2.1,C.1,C.2.1,(W6 (D+1)),()),())else av ((x.1.2.1,()),())
def axB:KY 21 (aR f331):=⟨0,lB 0 ⟨[(1,tI),(5,tI),(8,.lf (.aF .int 0)),(9,tI),(10,tI)],[],[]⟩ [(2,vH)] Lp,lp []⟩
def RG(C:aa Int)(D:Int):ah (Int):=bk Lp ((D,0,C,(C.length:Int),0,()),()) λE=>some E.1.1
def axC:=bT zP cq (br RG) 21 [] [axB] func331
abbrev aiT:=((af×af×Int×Int×(aa Int)×(aa Int)×Int×Int×af)×((Int×Int×Int×Int×af)×(Int×(aa Int)×af)×af))
def FA(x:aiT):ah (aiT⊕(((Bool×af)×(af))⊕(((af×af×Int×Int×af)×((Int×Int×Int×Int×af)×(Int×(aa Int)×af)×af))⊕Empty))):=letI D:=x.1.2.2;letI C:=D.2.2;letI E:=C.2.2.2.1;letI O:=xG (((),(),D.1,D.2.1,C.1,C.2.1,C.2.2.1,(W6 (E+1)),()),(x.2.1,x.2.2.1,()));bif E<C.2.2.1 then xI C.2.1 E λL=>bif (L != E)then (cA L D.1 (W6 (x.2.1.2.2.1-1))).bind λT=>bif (!T)then av ((false,()),())else (RG C.1 L).bind λU=>bif U > 1 then av ((false,()),())else O else O else aQ (((),(),D.1,D.2.1,()),(x.2.1,x.2.2.1,()))
def axD:KY 71 (qS (aR f216) 0):=⟨2,lB 2 ⟨[(2,.aJ 2 0),(3,.aJ 3 0),(7,tI),(8,tI),(9,.lf (.aF .int 0)),(45,.lf (.aF .int 0)),(46,tI),(47,tI)],aeJ,[]⟩ [(1,gC),(4,Xv)] FA,lp [en,axC]⟩
abbrev aiU:=((af×af×Int×Int×af)×((Int×Int×Int×Int×af)×(Int×(aa Int)×af)×af))
def Lq(x:aiU):ah (aiU⊕(((Bool×af)×(af))⊕(((af)×(af))⊕Empty))):=letI L:=x.1.2.2.2.1;letI C:=x.2.2.1;letI T:=(⟨x.2.1.1,x.2.1.2.1,x.2.1.2.2.1,x.2.1.2.2.2.1⟩:aU);(n9 T).bind λU=>bif L<U then (Fz T (⟨C.1,C.2.1⟩:eZ) L).bind λD=>letI O:=(C.2.1.take D.2).drop D.1;bif Nat.ble D.1 D.2&&Nat.ble D.2 C.2.1.length then bE FA (((),(),x.1.2.2.1,L,O,O,(O.length:Int),0,()),(x.2.1,C,())) (λY=>av ((Y.1.1,()),())) λE=>xG (((),(),E.1.2.2.1,(W6 (E.1.2.2.2.1+1)),()),(E.2.1,E.2.2.1,()))else none else aQ ((),())
def axE:KY 71 (aR f216):=⟨0,lB 0 Xv [(1,gC),(2,fq)] Lq,lq [qX,⟨330,.v YF,aiR⟩] [axD]⟩
def Lr(C:aU)(D:eZ):ah (Bool):=(Lb C D.cr).bind λE=>bif (!E.2)then some false else bif ((D.map.length:Int) != (E.1.map.length:Int))then some false else bE Lq (((),(),(W6 (C.rows-D.cr)),0,()),((C.cF,C.aB,C.rows,C.aT,()),(D.cr,D.map,()),())) (λL=>some L.1.1) λO=>some true
def aiV:=bT OY bS (br Lr) 71 [aiA] [axE] func216
def CV(C:aU)(D:aI):ah (Bool):=(sy C).bind λE=>bif E then (n9 C).bind λL=>(cA D.ay 0 (W6 (L-1))).bind λO=>bif O then (cA D.row 0 (W6 (C.rows-1))).bind λT=>bif T then (cA D.bR 0 (W6 (C.aT-1))).bind λU=>some U else some false else some false else some false
def YG:=aM OZ bS (br CV) 31 [en,qX,xY] func146
abbrev aiW:=((af×(aa Int)×Int×Int×af)×(((aa Int)×Int×Bool×af)×af))
def Ls(x:aiW):ah (aiW⊕(((Bool×af)×(af))⊕(((af×af)×(((aa Int)×Int×Bool×af)×af))⊕Empty))):=letI C:=x.1.2.2;bif C.2.1<C.1 then xI x.1.2.1 C.2.1 λD=>(cA D (-2) 5).bind λE=>bif (!E)then av ((false,()),())else xG (((),x.1.2.1,C.1,(W6 (C.2.1+1)),()),(x.2.1,()))else aQ (((),()),(x.2.1,()))
def axF:KY 25 (aR f224):=⟨0,lB 0 ⟨[(1,.aJ 1 0),(6,.lf (.aF .int 0)),(7,tI),(8,tI)],[(1,.aC Ce)],[]⟩ [(1,n8),(2,afa)] Ls,lp [en]⟩
def Aq(C:de):ah (Bool):=bE Ls (((),C.aH,(C.aH.length:Int),0,()),((C.aH,C.wait,C.dS,()),())) (λE=>some E.1.1) λD=>(cA (D.2.1.1.length:Int) 1 8).bind λL=>bif L then (cA D.2.1.2.1 1 10000).bind λO=>some O else some false
def Lt:=bT Ch bS (bF Aq) 25 [en] [axF] func224
abbrev aiX:=(((aa Int)×Int×Int×Int×af)×(af))
def Lu(x:aiX):ah (aiX⊕(((Int×af)×(af))⊕(((af)×(af))⊕Empty))):=letI C:=x.1.2.2.2.1;bif C<x.1.2.2.1 then xI x.1.1 C λD=>bif (x.1.2.1==D)then av ((C,()),())else xG ((x.1.1,x.1.2.1,x.1.2.2.1,(W6 (C+1)),()),())else aQ ((),())
def axG:KY 19 (aR f414):=⟨0,lB 0 ⟨[(0,.lf (.aF .int 0)),(1,tI),(7,tI),(8,tI)],[],[]⟩ [(1,kE),(2,fq)] Lu,lp []⟩
def CW(C:aa Int)(D:Int):ah (Int):=(iter Lu aS ((C,D,(C.length:Int),0,()),())).bind (Sum.elim (λE=>some E.1.1) (Sum.elim (λL=>some (-1)) (λz=>nomatch z)))
def YH:=bT zP cq (br CW) 19 [] [axG] func414
abbrev aiY:=((af×(aa Int)×Int×Int×af)×(((aa Int)×(aa Int)×Int×af)×af))
def Lv(x:aiY):ah (aiY⊕(((Bool×af)×(af))⊕(((af)×(af))⊕Empty))):=letI D:=av ((false,()),());letI C:=x.1.2.2.2.1;letI L:=xG (((),x.1.2.1,x.1.2.2.1,(W6 (C+1)),()),(x.2.1,()));bif C<x.1.2.2.1 then xI x.1.2.1 C λE=>letI O:=bif (E != (-1))then (CW x.2.1.1 E).bind λT=>bif (T != C)then D else L else L;(cA E (-1) 15).bind λU=>bif (!U)then D else xI x.2.1.2.1 C λY=>(cA Y x.2.1.2.2.1 100000).bind λZ=>bif (!Z)then D else bif (E==(-1))then xI x.2.1.2.1 C λjU=>bif (jU != 0)then D else O else O else aQ ((),())
def axH:KY 72 (aR f332):=⟨0,lB 0 ⟨[(1,.aJ 1 0),(26,.lf (.aF .int 0)),(27,tI),(28,tI)],Xw,[]⟩ [(1,n8),(2,fq)] Lv,lp [en,YH]⟩
def As(C:bQ):ah (Bool):=letI D:=(C.rows.length:Int);(cA D 1 16).bind λE=>bif (!E)then some false else bif ((C.counts.length:Int) != D)then some false else (cA C.cY 0 100000).bind λL=>bif (!L)then some false else bE Lv (((),C.rows,D,0,()),((C.rows,C.counts,C.cY,()),())) (λO=>some O.1.1) λT=>some true
def aiZ:=bT IG bS (bF As) 72 [en] [axH] func332
abbrev ai0:=(((aa aI)×af×Int×Int×af)×((Int×Int×Int×af)×af))
def Lw(x:ai0):ah (ai0⊕(((Int×af)×(af))⊕(((af)×(af))⊕Empty))):=letI C:=x.1.2.2.2.1;bif C<x.1.2.2.1 then xI x.1.1 C λD=>bif ((x.2.1.1==D.ay)&&((x.2.1.2.1==D.row)&&((x.2.1.2.2.1==D.bR)&&true)))then av ((C,()),())else xG ((x.1.1,(),x.1.2.2.1,(W6 (C+1)),()),(x.2.1,()))else aQ ((),())
def axI:KY 19 (aR f333):=⟨0,lB 0 ⟨[(0,.lf (.aF .Addr 0)),(3,.aJ 3 0),(7,tI),(8,tI)],[(3,.aC OU)],[]⟩ [(1,kE),(2,fq)] Lw,lp []⟩
def FB(D:aa aI)(C:aI):ah (Int):=(iter Lw aS ((D,(),(D.length:Int),0,()),((C.ay,C.row,C.bR,()),()))).bind (Sum.elim (λE=>some E.1.1) (Sum.elim (λL=>some (-1)) (λz=>nomatch z)))
def ai1:=bT XC cq (br FB) 19 [] [axI] func333
abbrev ai2:=((af×af×Int×Int×af)×(ax×(Int×Int×Int×Int×af)×af))
def RH(x:ai2):ah (ai2⊕(((Bool×af)×(af))⊕(((af×af×af)×(ax×(Int×Int×Int×Int×af)×af))⊕Empty))):=letI C:=x.1.2.2.2.1;bif C<x.1.2.2.1 then xI x.2.1.bH C λD=>(As D).bind λE=>bif (!E)then av ((false,()),())else xI x.2.1.guard C λL=>(cA L 3 1000).bind λO=>bif (!O)then av ((false,()),())else xG (((),(),x.1.2.2.1,(W6 (C+1)),()),(x.2.1,x.2.2.1,()))else aQ (((),(),()),(x.2.1,x.2.2.1,()))
def axJ:KY 94 (aR f217):=⟨0,lB 0 ⟨[(1,.aJ 1 0),(3,.aJ 3 0),(47,tI),(48,tI)],XE,[]⟩ [(1,n8),(2,⟨[(1,.aJ 1 0),(3,.aJ 3 0)],XE,[]⟩)] RH,lp [en,aiZ]⟩
abbrev ai3:=((af×af×(aa aI)×Int×Int×af)×(ax×(Int×Int×Int×Int×af)×af))
def RI(x:ai3):ah (ai3⊕(((Bool×af)×(af))⊕(((af)×(af))⊕Empty))):=letI C:=x.2.2.1;letI L:=av ((false,()),());letI D:=x.1.2.2;letI E:=D.2.2.1;bif E<D.2.1 then xI D.1 E λO=>(CV (⟨C.1,C.2.1,C.2.2.1,C.2.2.2.1⟩:aU) O).bind λT=>bif (!T)then L else bif (O.bR != 0)then L else (FB x.2.1.pending O).bind λU=>bif (U != E)then L else xG (((),(),D.1,D.2.1,(W6 (E+1)),()),(x.2.1,C,()))else aQ ((),())
def axK:KY 94 (aR f217):=⟨2,lB 2 ⟨[(1,.aJ 1 0),(3,.aJ 3 0),(69,.lf (.aF .Addr 0)),(70,tI),(71,tI)],XE,[]⟩ [(1,n8),(4,fq)] RI,lp [YG,ai1]⟩
def RJ(C:ax):ah (Bool):=(n9 C.config.aE).bind λE=>(Aq C.aP).bind λL=>bif (!L)then some false else bif ((C.aP.aH.length:Int) != E)then some false else bif ((C.bH.length:Int) != E)then some false else bif ((C.guard.length:Int) != E)then some false else bif (C.pending.length:Int) > 128 then some false else bE RH (((),(),(C.bH.length:Int),0,()),(C,(C.config.aE.cF,C.config.aE.aB,C.config.aE.rows,C.config.aE.aT,()),())) (λO=>some O.1.1) λD=>bE RI (((),(),D.2.1.pending,(D.2.1.pending.length:Int),0,()),(D.2.1,D.2.2.1,())) (λT=>some T.1.1) λU=>some true
def axL:=bT qa bS (bF RJ) 94 [Lt,qX] [axJ,axK] func217
def CX(C:Int):ah (Bool):=(cA C 0 4294967295).bind λD=>some D
def YI:=aM lM bS (bF CX) 5 [en] func415
def RK(E:Int)(C:bA):ah (Bool):=letI D:=(cA C.at_ 0 1000000).bind λL=>some L;(cA C.id 1 100000).bind λO=>bif O then (cA C.dN 0 3).bind λT=>bif T then bif C.line >= 0 then bif C.line<E then (CX C.data).bind λU=>bif U then bif C.write then D else bif (C.data==0)then D else some false else some false else some false else some false else some false else some false
def axM:=aM [(false,.int),(true,.dw)] bS (br RK) 43 [en,YI] func334
def RL(C D:bA):ah (Bool):=bif C.at_<D.at_ then some true else bif (C.at_==D.at_)then some (C.id<D.id)else some false
def axN:=aM XI bS (br RL) 24 [] func335
abbrev ai4:=((Int×(aa bA)×af×(aa bA)×Int×Int×(aa bA)×Int×Int×af)×((Int×Int×Int×Bool×Int×Int×af)×af))
def FC(x:ai4):ah (ai4⊕(((Bool×af)×(af))⊕(((Int×(aa bA)×(aa bA)×Int×Int×af)×(af))⊕Empty))):=letI D:=x.1.2.2.2.2;letI C:=D.2.2;bif C.2.2.1<C.2.1 then xI C.1 C.2.2.1 λE=>bif (E.id==x.2.1.1)then av ((false,()),())else xG ((x.1.1,x.1.2.1,(),x.1.2.2.2.1,D.1,D.2.1,C.1,C.2.1,(W6 (C.2.2.1+1)),()),(x.2.1,()))else aQ ((x.1.1,x.1.2.1,x.1.2.2.2.1,D.1,D.2.1,()),())
def ai5:KY 52 (qS (aR f218) 0):=⟨2,lB 2 ⟨[(0,tI),(1,.lf (.aF .dw 0)),(6,.aJ 6 0),(9,.lf (.aF .dw 0)),(10,tI),(11,tI),(36,.lf (.aF .dw 0)),(37,tI),(38,tI)],[(6,.aC [.int .i64,.int .i64,.int .i64,.bool,.int .i64,.int .i64])],[]⟩ [(1,gC),(4,aeG)] FC,lp []⟩
abbrev ai6:=((Int×(aa bA)×(aa bA)×Int×Int×af)×(af))
def Lx(x:ai6):ah (ai6⊕(((Bool×af)×(af))⊕((((aa bA)×af)×(af))⊕Empty))):=letI C:=x.1.2;letI D:=C.2.2.2.1;letI O:=(C.1.take D.toNat).drop (0:Int).toNat;bif D<C.2.2.1 then xI C.2.1 D λE=>letI T:=if 0 <= (0:Int)/\0 <= D/\D <= (C.1.length:Int)then bE FC ((x.1.1,C.1,(),C.2.1,C.2.2.1,D,O,(O.length:Int),0,()),((E.id,E.dN,E.line,E.write,E.data,E.at_,()),())) (λU=>av ((U.1.1,()),())) λL=>xG ((L.1.1,L.1.2.1,L.1.2.2.1,L.1.2.2.2.1,(W6 (L.1.2.2.2.2.1+1)),()),())else none;(RK x.1.1 E).bind λY=>bif (!Y)then av ((false,()),())else bif D > 0 then xI C.1 (W6 (D-1)) λZ=>(RL Z E).bind λy6=>bif (!y6)then av ((false,()),())else T else T else aQ ((C.1,()),())
def axO:KY 52 (aR f218):=⟨0,lB 0 aeG [(1,gC),(2,⟨[(1,.lf (.aF .dw 0))],[],[]⟩)] Lx,lq [axM,axN] [ai5,ai5]⟩
def RM(D:Int)(C:aa bA):ah (Bool):=bE Lx ((D,C,C,(C.length:Int),0,()),()) (λE=>some E.1.1) λL=>some ((L.1.1.length:Int) <= 12)
def axP:=bT [(false,.int),(false,(.sl .dw))] bS (br RM) 52 [] [axO] func218
def FD(C:aU)(D:eZ):ah (aU):=(Lr C D).bind λE=>bif (!E)then some (⟨0,0,0,0⟩:aU)else some (⟨C.cF,C.aB,(W6 (C.rows-D.cr)),C.aT⟩:aU)
def YJ:=aM OY [(true,.fe,0)] (br FD) 17 [aiV] func219
def CY(C:eC):ah (Bool):=(cA C.state 0 2).bind λD=>bif D then (cA C.since 0 1000000).bind λE=>bif E then (cA C.idle 0 1000000).bind λL=>some L else some false else some false
def RN:=aM [(true,.Power)] bS (bF CY) 16 [en] func222
abbrev ai7:=(((aa bU)×af×(aa bU)×Int×Int×(aa bU)×Int×Int×af)×((Int×Int×Int×af)×af))
def FE(x:ai7):ah (ai7⊕(((Bool×af)×(af))⊕((((aa bU)×(aa bU)×Int×Int×af)×(af))⊕Empty))):=letI D:=x.1.2.2;letI C:=D.2.2;letI E:=xG ((x.1.1,(),D.1,D.2.1,C.1,C.2.1,C.2.2.1,(W6 (C.2.2.2.1+1)),()),(x.2.1,()));bif C.2.2.2.1<C.2.2.1 then xI C.2.1 C.2.2.2.1 λL=>bif (x.2.1.1==L.line)then bif (x.2.1.2.1==L.code)then av ((false,()),())else E else E else aQ ((x.1.1,D.1,D.2.1,C.1,()),())
def ai8:KY 59 (qS (aR f223) 0):=⟨2,lB 2 ⟨[(0,.lf (.aF .eo 0)),(4,.aJ 4 0),(7,.lf (.aF .eo 0)),(8,tI),(9,tI),(36,.lf (.aF .eo 0)),(37,tI),(38,tI)],[(4,.aC OU)],[]⟩ [(1,n8),(4,aeS)] FE,lp []⟩
abbrev ai9:=(((aa bU)×(aa bU)×Int×Int×af)×(af))
def Ly(x:ai9):ah (ai9⊕(((Bool×af)×(af))⊕((((aa bU)×af)×(af))⊕Empty))):=letI L:=av ((false,()),());letI D:=x.1.2.2.2.1;letI O:=(x.1.1.take D.toNat).drop (0:Int).toNat;bif D<x.1.2.2.1 then xI x.1.2.1 D λC=>letI T:=(cA C.times 1 999).bind λU=>bif (!U)then L else if 0 <= (0:Int)/\0 <= D/\D <= (x.1.1.length:Int)then bE FE ((x.1.1,(),x.1.2.1,x.1.2.2.1,D,O,(O.length:Int),0,()),((C.line,C.code,C.times,()),())) (λY=>av ((Y.1.1,()),())) λE=>xG ((E.1.1,E.1.2.1,E.1.2.2.1,(W6 (E.1.2.2.2.1+1)),()),())else none;(cA C.line 0 1023).bind λZ=>bif (!Z)then L else bif (C.code != 1)then bif (C.code != 2)then L else T else T else aQ ((x.1.1,()),())
def axQ:KY 59 (aR f223):=⟨0,lB 0 aeS [(1,n8),(2,⟨[(0,.lf (.aF .eo 0))],[],[]⟩)] Ly,lq [en] [ai8,ai8]⟩
def Lz(C:aa bU):ah (Bool):=bE Ly ((C,C,(C.length:Int),0,()),()) (λD=>some D.1.1) λE=>some ((E.1.1.length:Int) <= 6)
def aja:=bT O1 bS (bF Lz) 59 [] [axQ] func223
def CZ(C:ax):ah (Bool):=(vQ C.config C.box.bI).bind λD=>bif (!D)then some false else (vQ C.config C.box.next).bind λE=>bif (!E)then some false else (cA C.now 0 1000000).bind λL=>bif (!L)then some false else (Li C.config.aE C.bq).bind λO=>bif (!O)then some false else (Fx C.config.aE C.ready).bind λT=>bif (!T)then some false else (Fy C.config.aE C.array).bind λU=>bif (!U)then some false else (Lr C.config.aE C.spare).bind λY=>bif (!Y)then some false else bif (C.spare.cr != C.config.cr)then some false else (RJ C).bind λZ=>bif (!Z)then some false else (FD C.config.aE C.spare).bind λy9=>(vP y9).bind λgR=>(RM gR C.queue).bind λeM=>bif (!eM)then some false else (Fu C.shares).bind λgD=>bif (!gD)then some false else bif ((C.shares.length:Int) != 4)then some false else (CS C.drain).bind λgS=>bif (!gS)then some false else (CY C.aZ).bind λjz=>bif (!jz)then some false else bif (C.aZ.state != C.bq.aZ)then some false else bif C.aZ.since > C.now then some false else (cA C.cK.every 1 100000).bind λiE=>bif iE then (cA C.cK.wait 1 C.cK.every).bind λkF=>bif kF then (vP C.config.aE).bind λgM=>(cA C.cK.next 0 (W6 (gM-1))).bind λjT=>bif jT then (Lz C.errors).bind λtU=>bif tU then bif (C.trace.length:Int) <= 2000 then some ((C.cT.length:Int) <= 400)else some false else some false else some false else some false else some false
def RO:=aM qa bS (bF CZ) 155 [Ry,en,axt,aiJ,YD,aiQ,aiV,axL,axP,YJ,YC,RB,RN,aja] func71
def axR:bM:=⟨[(1,tI),(2,.aJ 2 0),(4,.aJ 4 0),(5,.aJ 5 0),(28,tI),(29,tI)],aex,[]⟩
def axS:aa (Nat×bM):=[(2,⟨[(1,tI),(2,.aJ 2 0),(4,.aJ 4 0),(5,.aJ 5 0)],aex,[]⟩)]
abbrev ajb:=((Int×af×af×af×Int×Int×af)×(((aa Int)×Int×Bool×af)×(af×Int×Bool×af)×(af×Int×Bool×af)×(aa Int)×(aa Int)×af))
def LA(x:ajb):ah (ajb⊕(((Int×af×af×af×af)×(((aa Int)×Int×Bool×af)×(af×Int×Bool×af)×(af×Int×Bool×af)×(aa Int)×(aa Int)×af))⊕Empty)):=letI L:=((),x.2.2.1.2.1,x.2.2.1.2.2.1,());letI D:=x.2.2.2;letI E:=D.2.2.1;letI O:=((),D.1.2.1,D.1.2.2.1,());letI C:=x.1.2.2.2.2;bif C.2.1<C.1 then xL E C.2.1 λU=>letI T:=W6 (U+1);xL E C.2.1 λY=>xG ((x.1.1,(),(),(),C.1,(W6 (C.2.1+1)),()),(x.2.1,L,O,D.2.1,(E.set C.2.1.toNat (if 5<T then 5 else T)),()))else av ((x.1.1,(),(),(),()),(x.2.1,L,O,D.2.1,E,()))
def axT:KY 52 (aR f72):=⟨0,lB 0 axR axS LA,lp []⟩
def LB(D:de)(T:Int):ah (de):=(CR D).bind λC=>letI O:=W6 (C.wait-1);(Aq D).bind λU=>bif (!U)then some C else (cA T 2 10000).bind λY=>bif (!Y)then some C else bif O > 0 then some (⟨C.aH,O,C.dS⟩:de)else bk LA ((T,(),(),(),(C.aH.length:Int),0,()),((D.aH,D.wait,D.dS,()),((),0,false,()),((),O,C.dS,()),([]:aa Int),C.aH,())) λE=>letI L:=E.2.2.2;bif E.2.1.2.2.1 then some (⟨L.2.2.1,(W6 (E.1.1.tdiv 2)),L.1.2.2.1⟩:de)else some (⟨L.2.2.1,E.1.1,L.1.2.2.1⟩:de)
def axU:=bT Iy [(true,.kM,2)] (br LB) 52 [en,Yt,Lt] [axT] func72
def axV:bM:=⟨[(2,tI),(6,.aJ 6 0),(7,.aJ 7 0),(23,tI),(24,tI)],aet,[]⟩
def axW:aa (Nat×bM):=[(2,⟨[(6,.aJ 6 0),(7,.aJ 7 0)],aet,[]⟩)]
abbrev ajc:=((Int×af×af×Int×Int×af)×((af×af×af×af)×(af×af×af×af)×(aa bK)×(aa Int)×(aa Int)×(aa bK)×(aa Int)×(aa Int)×af))
def LC(x:ajc):ah (ajc⊕(((af×af×af)×((af×af×af×af)×(af×af×af×af)×(aa bK)×(aa Int)×(aa Int)×(aa bK)×(aa Int)×(aa Int)×af))⊕Empty)):=letI D:=x.2.2.2;letI O:=((),(),(),());letI E:=x.1.2.2.2.2.1;letI L:=D.2.2;letI C:=L.2.2;bif E<x.1.2.2.2.1 then xL C.1 E λU=>letI T:=W6 (U+x.1.1);xL C.1 E λY=>xG ((x.1.1,(),(),x.1.2.2.2.1,(W6 (E+1)),()),(O,O,D.1,D.2.1,L.1,L.2.1,(C.1.set E.toNat (if 100000<T then 100000 else T)),C.2.1,()))else av (((),(),()),(O,O,D.1,D.2.1,L.1,L.2.1,C.1,C.2.1,()))
def axX:KY 41 (aR f73):=⟨0,lB 0 axV axW LC,lp []⟩
def FF(O:aU)(E:cZ)(L:Int):ah (cZ):=(Fl E).bind λC=>(Fy O E).bind λT=>bif (!T)then some C else (cA L 0 100000).bind λU=>bif (!U)then some C else bk LC ((L,(),(),(C.bz.length:Int),0,()),(((),(),(),()),((),(),(),()),([]:aa bK),([]:aa Int),([]:aa Int),C.cells,C.bz,C.bu,())) λY=>letI D:=Y.2.2.2.2.2.2;some (⟨D.1,D.2.1,D.2.2.1⟩:cZ)
def axY:=bT [(true,.fe),(true,.Array),(false,.int)] [(true,.Array,4)] (fS FF) 41 [en,aih,aiQ] [axX] func73
end Go.Proofs.YtnilicojgkhpnaaGreat
