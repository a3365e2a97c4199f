/-
  Functions of the program as plain functions of contents, and that the code computes them. Nothing here is a claim.
-/
import Derived.Test.YtnilicojgkhpnaaGreatVZ
import Derived.Test.YtnilicojgkhpnaaGreatRows
import Derived.Test.YtnilicojgkhpnaaGreatG1
namespace Go.Proofs.YtnilicojgkhpnaaGreat
set_option linter.defProp false
open Go.RowKit Go.Proofs.Tryz
set_option linter.unusedVariables false
set_option maxRecDepth 100000
abbrev aeD:=(((aa bM)×Int×af)×(af))
def HK(x:aeD):ah (aeD⊕(((Bool×af)×(af))⊕((((aa bM)×af)×(af))⊕Empty))):=letI C:=x.1.2.1;bif C<(x.1.1.length:Int)then xI x.1.1 C λD=>(ck D.weight 1 9).bind λE=>bif (!E)then aq ((false,()),())else xI x.1.1 C λL=>xI x.1.1 C λO=>(ck L.dU 0 O.weight).bind λT=>bif (!T)then aq ((false,()),())else xG ((x.1.1,(W6 (C+1)),()),())else aM ((x.1.1,()),())
def arn:KY 34 (aN f175):=⟨0,lB 0 ⟨[(0,.lf (.aC .dz 0)),(3,tI)],[],[]⟩ [(1,mH),(2,aeh)] HK,lp [dS]⟩
def DP(C:aa bM):ah (Bool):=br HK ((C,0,()),()) (λD=>some D.1.1) λE=>(ck (E.1.1.length:Int) 1 4).bind λL=>some L
def WQ:=bJ [(false,(.sl .dz))] bH (bu DP) 34 [dS] [arn] func175
abbrev aeE:=(((aa Int)×af×Int×af)×((aa bM)×af))
def HL(x:aeE):ah (aeE⊕(((af×af)×((aa bM)×af))⊕Empty)):=letI D:=aq (((),()),(x.2.1,()));letI C:=x.1.2.2.1;bif C<(x.1.1.length:Int)then bif C <= 4 then xI x.1.1 C λL=>xI x.1.1 C λO=>letI E:=([(⟨L,O⟩:bM)]:aa bM);bif bD (x.2.1.length+E.length)then xG ((x.1.1,(),(W6 (C+1)),()),((x.2.1++E),()))else none else D else D
def aro:KY 34 (aN f186):=⟨0,lB 0 ⟨[(0,.lf (.aC .int 0)),(4,.lf (.own 6)),(5,tI)],[(6,.sl .dz 2)],[]⟩ [(2,⟨[(4,.lf (.own 6))],[(6,.sl .dz 2)],[]⟩)] HL,lp []⟩
def Bj(D:aa Int):ah ((aa bM)×Bool):=aW HL ((D,(),0,()),(([]:aa bM),())) λC=>(DP C.2.1).bind λE=>bif (!E)then some (([]:aa bM),false)else some (C.2.1,true)
def aeF:=bJ lK [(false,(.sl .dz),2),(false,.bool,0)] (bu Bj) 34 [WQ] [aro] func186
def HM(C:jw):ah (Bool):=(ck C.down 1 10000).bind λD=>bif D then bif C.sleep > C.down then some (C.sleep <= 20000)else some false else some false
def aeG:=aJ [(true,.mb)] bH (bu HM) 18 [dS] func384
def Of(C:eE):ah (Bool):=(Bj C.weights).bind λD=>(ck C.dR 0 1).bind λE=>bif E then (ck C.cap 0 100000).bind λL=>bif L then (ck C.eI 3 1000).bind λO=>bif O then (Bi (⟨false,C.low,C.high⟩:fI)).bind λT=>bif T then bif D.2 then bif ((C.weights.length:Int)==4)then (HM C.dO).bind λU=>some U else some false else some false else some false else some false else some false else some false
def arp:=aJ Hw bH (bu Of) 46 [dS,Oe,aeF,aeG] func291
def Og(C:Int):ah (Int):=(ck C 3 1000).bind λD=>bif (!D)then some 0 else some (W6 ((W6 (2*C))+2))
def arq:=aJ jX bS (bu Og) 9 [dS] func292
def DR(C:gp)(D:eE):ah (Bool):=letI E:=W6 (C.bQ.fO+C.bQ.rp);(Od C).bind λL=>bif (!L)then some false else (Of D).bind λO=>bif (!O)then some false else (Og D.eI).bind λT=>bif (W6 (T+2)) <= C.dg.aZ then if E=0 then none else some ((W6 ((W6 (C.gy+1))*D.eI)) > (W6 ((W6 ((W6 (5*C.interval)).tdiv E))+2)))else some false
def ars:=aJ [(true,.Config),(true,.kj)] bH (aY DR) 42 [arl,arp,arq] func165
abbrev aeH:=((af×af×Int×af)×((Int×Int×Int×Int×af)×((aa cC)×Int×af)×af))
def HN(x:aeH):ah (aeH⊕(((Bool×af)×(af))⊕(((af)×(af))⊕Empty))):=letI D:=aq ((false,()),());letI E:=xG (((),(),(W6 (x.1.2.2.1+1)),()),(x.2.1,x.2.2.1,()));bif x.1.2.2.1<(x.2.2.1.1.length:Int)then xI x.2.2.1.1 x.1.2.2.1 λC=>letI L:=bif C.open_ then bif (x.2.2.1.2.1==2)then D else E else E;(ck C.row 0 (W6 (x.2.1.2.2.1-1))).bind λO=>bif (!O)then D else bif (!C.open_)then bif (C.row != 0)then D else L else L else aM ((),())
def art:KY 62 (aN f166):=⟨0,lB 0 ⟨[(2,.aG 2 0),(3,.aG 3 0),(5,tI)],[(2,.az fl),(3,.az yE)],[]⟩ [(1,fJ),(2,eC)] HN,lp [dS]⟩
def Oh(C:aP)(D:bV):ah (Bool):=(wu C).bind λE=>bif (!E)then some false else (oD C).bind λL=>bif ((D.ay.length:Int) != L)then some false else (ck D.aS 0 2).bind λO=>bif (!O)then some false else br HN (((),(),0,()),((C.cg,C.ay,C.rows,C.aO,()),(D.ay,D.aS,()),())) (λT=>some T.1.1) λU=>some true
def aru:=bJ [(true,.en),(true,.gG)] bH (aY Oh) 62 [dS,nM,DM] [art] func166
def Oi(D:aP)(C:Int):ah (Bool):=(oD D).bind λE=>some ((decide ((W6 ((C.tmod 9)+1)) <= 5))==(decide ((W6 (C.tdiv 9))<E)))
def arv:=aJ Hs bH (aY Oi) 15 [nM] func294
abbrev aeI:=((af×af×Int×af)×((Int×Int×Int×Int×af)×((aa Int)×(aa Int)×af)×af))
def HO(x:aeI):ah (aeI⊕(((Bool×af)×(af))⊕(((af×af)×(((aa Int)×(aa Int)×af)×af))⊕Empty))):=letI C:=x.2.2.1;letI D:=x.1.2.2.1;letI E:=xG (((),(),(W6 (D+1)),()),(x.2.1,C,()));bif D<(C.1.length:Int)then xI C.1 D λL=>(ck L (-1) 1000000).bind λO=>bif (!O)then aq ((false,()),())else (Oi (⟨x.2.1.1,x.2.1.2.1,x.2.1.2.2.1,x.2.1.2.2.2.1⟩:aP) D).bind λT=>bif (!T)then xI C.1 D λU=>bif (U != (-1))then aq ((false,()),())else E else E else aM (((),()),(C,()))
def arw:KY 86 (aN f167):=⟨0,lB 0 ⟨[(2,.aG 2 0),(3,.aG 3 0),(5,tI)],[(2,.az fl),(3,.az Bd)],[]⟩ [(1,fJ),(2,aee)] HO,lp [dS,arv]⟩
abbrev aeJ:=((af×Int×af)×(((aa Int)×(aa Int)×af)×af))
def HP(x:aeJ):ah (aeJ⊕(((Bool×af)×(af))⊕(((af)×(af))⊕Empty))):=letI D:=x.2.1.2.1;letI C:=x.1.2.1;letI E:=xG (((),(W6 (C+1)),()),(x.2.1,()));bif C<(D.length:Int)then xI D C λL=>(ck L 0 1000000).bind λO=>bif (!O)then aq ((false,()),())else bif C > 0 then xI D (W6 (C-1)) λT=>xI D C λU=>bif T >= U then aq ((false,()),())else E else E else aM ((),())
def arx:KY 86 (aN f167):=⟨2,lB 2 ⟨[(3,.aG 3 0),(6,tI)],[(3,.az Bd)],[]⟩ [(1,fJ),(4,eC)] HP,lp [dS]⟩
def HQ(C:aP)(D:cP):ah (Bool):=(wu C).bind λE=>bif (!E)then some false else (oD C).bind λL=>bif ((D.last.length:Int) != (W6 (9*(W6 (L+1)))))then some false else bif (D.bg.length:Int) > 4 then some false else br HO (((),(),0,()),((C.cg,C.ay,C.rows,C.aO,()),(D.last,D.bg,()),())) (λO=>some O.1.1) λT=>br HP (((),0,()),(T.2.1,())) (λU=>some U.1.1) λY=>some true
def aeK:=bJ [(true,.en),(true,.je)] bH (aY HQ) 86 [nM,DM] [arw,arx] func167
def sq(C:aP):ah (Int):=(wu C).bind λD=>bif (!D)then some 0 else (oD C).bind λE=>some (W6 ((W6 (E*C.rows))*C.aO))
def Oj:=aJ Bf bS (bu sq) 14 [nM,DM] func173
def Bk(C:Int):ah (Bool):=(ck C 0 15).bind λD=>some D
def WR:=aJ jX bH (bu Bk) 5 [dS] func263
abbrev aeL:=(((aa Int)×Int×Int×af)×(af))
def yH(x:aeL):ah (aeL⊕(((Bool×af)×(af))⊕((((aa Int)×Int×af)×(af))⊕Empty))):=bif x.1.2.2.1<(x.1.1.length:Int)then xI x.1.1 x.1.2.2.1 λC=>(Bk C).bind λD=>bif (!D)then aq ((false,()),())else xG ((x.1.1,x.1.2.1,(W6 (x.1.2.2.1+1)),()),())else aM ((x.1.1,x.1.2.1,()),())
def ary:KY 22 (aN f295):=⟨0,lB 0 Ws [(1,fJ),(2,ad9)] yH,lp [WR]⟩
def sr(D:aa Int)(E:Int):ah (Bool):=br yH ((D,E,0,()),()) (λL=>some L.1.1) λC=>some ((C.1.1.length:Int)==C.1.2.1)
def DS:=bJ yD bH (aY sr) 22 [] [ary] func295
abbrev aeM:=((af×Int×af)×(((aa bC)×(aa Int)×(aa Int)×af)×af))
def HR(x:aeM):ah (aeM⊕(((Bool×af)×(af))⊕(((af×af)×(((aa bC)×(aa Int)×(aa Int)×af)×af))⊕Empty))):=bif x.1.2.1<(x.2.1.1.length:Int)then xI x.2.1.1 x.1.2.1 λC=>(sr C.symbols 11).bind λD=>bif (!D)then aq ((false,()),())else xG (((),(W6 (x.1.2.1+1)),()),(x.2.1,()))else aM (((),()),(x.2.1,()))
def arz:KY 76 (aN f168):=⟨0,lB 0 ⟨[(3,.aG 3 0),(5,tI)],Hq,[]⟩ [(1,fJ),(2,aen)] HR,lp [DS]⟩
abbrev aeN:=((af×Int×af)×(((aa bC)×(aa Int)×(aa Int)×af)×af))
def HS(x:aeN):ah (aeN⊕(((Bool×af)×(af))⊕(((af)×(af))⊕Empty))):=bif x.1.2.1<(x.2.1.2.1.length:Int)then xI x.2.1.2.1 x.1.2.1 λC=>(ck C 0 100000).bind λD=>bif (!D)then aq ((false,()),())else xI x.2.1.2.2.1 x.1.2.1 λE=>(ck E 0 100000).bind λL=>bif (!L)then aq ((false,()),())else xG (((),(W6 (x.1.2.1+1)),()),(x.2.1,()))else aM ((),())
def arB:KY 76 (aN f168):=⟨2,lB 2 ⟨[(3,.aG 3 0),(6,tI)],Hq,[]⟩ [(1,fJ),(4,eC)] HS,lp [dS]⟩
def Ok(D:aP)(C:cF):ah (Bool):=(wu D).bind λE=>bif (!E)then some false else (sq D).bind λL=>bif ((C.cells.length:Int) != L)then some false else (oD D).bind λO=>bif ((C.bh.length:Int) != (W6 (O*D.rows)))then some false else bif ((C.aZ.length:Int) != (C.bh.length:Int))then some false else br HR (((),0,()),((C.cells,C.bh,C.aZ,()),())) (λT=>some T.1.1) λU=>br HS (((),0,()),(U.2.1,())) (λY=>some Y.1.1) λZ=>some true
def arC:=bJ [(true,.en),(true,.Array)] bH (aY Ok) 76 [Oj,nM,DM] [arz,arB] func168
abbrev aeO:=(((aa Int)×Int×Int×af)×(af))
def HT(x:aeO):ah (aeO⊕(((Bool×af)×(af))⊕(((af)×(af))⊕Empty))):=bif x.1.2.2.1<(x.1.1.length:Int)then xI x.1.1 x.1.2.2.1 λC=>bif (C==x.1.2.1)then aq ((true,()),())else xG ((x.1.1,x.1.2.1,(W6 (x.1.2.2.1+1)),()),())else aM ((),())
def arD:KY 18 (aN f296):=⟨0,lB 0 Ws [(1,fJ),(2,eC)] HT,lp []⟩
def Ol(C:aa Int)(D:Int):ah (Bool):=br HT ((C,D,0,()),()) (λE=>some E.1.1) λL=>some false
def arE:=bJ yD bH (aY Ol) 18 [] [arD] func296
abbrev aeP:=((af×af×Int×Int×af)×((Int×Int×Int×Int×af)×(Int×(aa Int)×af)×af))
def HU(x:aeP):ah (aeP⊕(((Bool×af)×(af))⊕(((af)×(af))⊕Empty))):=letI E:=x.2.2.1.2.1;letI D:=x.1.2.2;letI C:=D.2.1;letI O:=xG (((),(),D.1,(W6 (C+1)),()),(x.2.1,x.2.2.1,()));letI L:=W6 ((W6 (C.tdiv D.1))*D.1);bif C<(E.length:Int)then xI E C λT=>if D.1=0 then none else bif (T==(C.tmod D.1))then O else xI E C λU=>(ck U D.1 (W6 (x.2.1.2.2.1-1))).bind λY=>bif (!Y)then aq ((false,()),())else if D.1=0 then none else if 0 <= L/\L <= C/\C <= (E.length:Int)then xI E C λZ=>(Ol ((E.take C.toNat).drop L.toNat) Z).bind λfW=>bif fW then aq ((false,()),())else O else none else aM ((),())
def arF:KY 77 (aN f169):=⟨0,lB 0 Wq [(1,fJ),(2,eC)] HU,lp [dS,arE]⟩
def HV(C:aP)(D:eg):ah (Bool):=letI E:=W6 (C.rows-D.bT);(HI C D.bT).bind λL=>bif (!L.2)then some false else (oD C).bind λO=>bif ((D.map.length:Int) != (W6 (O*E)))then some false else br HU (((),(),E,0,()),((C.cg,C.ay,C.rows,C.aO,()),(D.bT,D.map,()),())) (λT=>some T.1.1) λU=>some true
def aeQ:=bJ NU bH (aY HV) 77 [nM,aeA] [arF] func169
abbrev aeR:=((af×Int×af)×(((aa Int)×Int×Bool×af)×af))
def HW(x:aeR):ah (aeR⊕(((Bool×af)×(af))⊕(((af×af)×(((aa Int)×Int×Bool×af)×af))⊕Empty))):=bif x.1.2.1<(x.2.1.1.length:Int)then xI x.2.1.1 x.1.2.1 λC=>(ck C (-2) 5).bind λD=>bif (!D)then aq ((false,()),())else xG (((),(W6 (x.1.2.1+1)),()),(x.2.1,()))else aM (((),()),(x.2.1,()))
def arG:KY 27 (aN f170):=⟨0,lB 0 ⟨[(1,.aG 1 0),(3,tI)],[(1,.az Bc)],[]⟩ [(1,mH),(2,aef)] HW,lp [dS]⟩
def Bl(C:cK):ah (Bool):=br HW (((),0,()),((C.aE,C.wait,C.dj,()),())) (λE=>some E.1.1) λD=>(ck (D.2.1.1.length:Int) 1 8).bind λL=>bif L then (ck D.2.1.2.1 1 10000).bind λO=>some O else some false
def Om:=bJ Be bH (bu Bl) 27 [dS] [arG] func170
def Bm(C:aP)(D:aF):ah (Bool):=(oD C).bind λE=>(ck D.au 0 (W6 (E-1))).bind λL=>bif L then (ck D.row 0 (W6 (C.rows-1))).bind λO=>bif O then (ck D.bG 0 (W6 (C.aO-1))).bind λT=>some T else some false else some false
def WS:=aJ NV bH (aY Bm) 27 [dS,nM] func262
abbrev aeS:=((af×Int×Int×af)×(((aa Int)×(aa Int)×Int×af)×af))
def DT(x:aeS):ah (aeS⊕(((Bool×af)×(af))⊕(((af×Int×af)×(((aa Int)×(aa Int)×Int×af)×af))⊕Empty))):=letI C:=x.1.2;letI D:=xG (((),C.1,(W6 (C.2.1+1)),()),(x.2.1,()));bif C.2.1<C.1 then xI x.2.1.1 C.1 λE=>bif E >= 0 then xI x.2.1.1 C.2.1 λL=>xI x.2.1.1 C.1 λO=>bif (L==O)then aq ((false,()),())else D else D else aM (((),C.1,()),(x.2.1,()))
def aeT:KY 90 (pK (aN f297) 0):=⟨2,lB 2 ⟨[(1,.aG 1 0),(3,tI),(4,tI)],Wr,[]⟩ [(1,mH),(4,aeg)] DT,lp []⟩
abbrev aeU:=((af×Int×af)×(((aa Int)×(aa Int)×Int×af)×af))
def HX(x:aeU):ah (aeU⊕(((Bool×af)×(af))⊕(((af)×(af))⊕Empty))):=letI C:=x.2.1;letI D:=x.1.2.1;letI E:=aq ((false,()),());letI L:=br DT (((),D,0,()),(C,())) (λT=>aq ((T.1.1,()),())) λO=>xG (((),(W6 (O.1.2.1+1)),()),(O.2.1,()));bif D<(C.1.length:Int)then xI C.1 D λU=>(ck U (-1) 15).bind λY=>bif (!Y)then E else xI C.2.1 D λZ=>(ck Z C.2.2.1 100000).bind λy8=>bif (!y8)then E else xI C.1 D λiU=>bif iU<0 then xI C.2.1 D λlN=>bif (lN != 0)then E else L else L else aM ((),())
def arH:KY 90 (aN f297):=⟨0,lB 0 aeg [(1,mH),(2,eC)] HX,lq [dS] [aeT,aeT]⟩
def Bn(C:bI):ah (Bool):=(ck (C.rows.length:Int) 1 16).bind λD=>bif (!D)then some false else bif ((C.rows.length:Int) != (C.counts.length:Int))then some false else (ck C.cE 0 100000).bind λE=>bif (!E)then some false else br HX (((),0,()),((C.rows,C.counts,C.cE,()),())) (λL=>some L.1.1) λO=>some true
def aeV:=bJ Hy bH (bu Bn) 90 [dS] [arH] func297
abbrev aeW:=(((aa aF)×af×Int×af)×((Int×Int×Int×af)×af))
def HY(x:aeW):ah (aeW⊕(((Int×af)×(af))⊕(((af)×(af))⊕Empty))):=letI C:=x.1.2.2.1;bif C<(x.1.1.length:Int)then xI x.1.1 C λD=>bif ((D.au==x.2.1.1)&&((D.row==x.2.1.2.1)&&((D.bG==x.2.1.2.2.1)&&true)))then aq ((C,()),())else xG ((x.1.1,(),(W6 (C+1)),()),(x.2.1,()))else aM ((),())
def arI:KY 19 (aN f298):=⟨0,lB 0 ⟨[(0,.lf (.aC .Addr 0)),(3,.aG 3 0),(5,tI)],[(3,.az NS)],[]⟩ [(1,jo),(2,eC)] HY,lp []⟩
def Bo(D:aa aF)(C:aF):ah (Int):=br HY ((D,(),0,()),((C.au,C.row,C.bG,()),())) (λE=>some E.1.1) λL=>some (-1)
def WT:=bJ Ww bS (aY Bo) 19 [] [arI] func298
abbrev aeX:=((af×Int×Int×af)×(av×af))
def On(x:aeX):ah (aeX⊕(((Bool×af)×(af))⊕(((af×af)×(av×af))⊕Empty))):=letI C:=x.1.2.2.1;bif C<x.1.2.1 then xI x.2.1.bx C λD=>(Bn D).bind λE=>bif (!E)then aq ((false,()),())else xI x.2.1.guard C λL=>(ck L 3 1000).bind λO=>bif (!O)then aq ((false,()),())else xG (((),x.1.2.1,(W6 (C+1)),()),(x.2.1,()))else aM (((),()),(x.2.1,()))
def arJ:KY 89 (aN f171):=⟨0,lB 0 ⟨[(1,.aG 1 0),(3,tI),(4,tI)],[(1,.st .cx)],[]⟩ [(1,mH),(2,⟨[(1,.aG 1 0)],[(1,.st .cx)],[]⟩)] On,lp [dS,aeV]⟩
abbrev aeY:=((af×Int×af)×(av×af))
def Oo(x:aeY):ah (aeY⊕(((Bool×af)×(af))⊕(((af)×(af))⊕Empty))):=letI C:=aq ((false,()),());bif x.1.2.1<(x.2.1.pending.length:Int)then xI x.2.1.pending x.1.2.1 λD=>(Bm x.2.1.config.aB D).bind λE=>bif (!E)then C else bif (D.bG != 0)then C else (Bo x.2.1.pending D).bind λL=>bif (L != x.1.2.1)then C else xG (((),(W6 (x.1.2.1+1)),()),(x.2.1,()))else aM ((),())
def arK:KY 89 (aN f171):=⟨2,lB 2 ⟨[(1,.aG 1 0),(5,tI)],[(1,.st .cx)],[]⟩ [(1,mH),(4,eC)] Oo,lp [WS,WT]⟩
def Oq(C:av):ah (Bool):=(oD C.config.aB).bind λD=>bif ((C.aL.aE.length:Int) != D)then some false else bif ((C.bx.length:Int) != D)then some false else bif ((C.guard.length:Int) != D)then some false else bif (C.pending.length:Int) > 128 then some false else br On (((),D,0,()),(C,())) (λE=>some E.1.1) λL=>br Oo (((),0,()),(L.2.1,())) (λO=>some O.1.1) λT=>some true
def arL:=bJ pN bH (bu Oq) 89 [nM] [arJ,arK] func171
def HZ(C:Int):ah (Bool):=(ck C 0 4294967295).bind λD=>some D
def aeZ:=aJ jX bH (bu HZ) 5 [dS] func385
def Ot(E:Int)(C:bk):ah (Bool):=letI D:=(ck C.at_ 0 1000000).bind λL=>some L;(ck C.id 1 100000).bind λO=>bif O then (ck C.de 0 3).bind λT=>bif T then bif C.line >= 0 then bif C.line<E then (HZ C.data).bind λU=>bif U then bif C.write then D else bif (C.data==0)then D else some false else some false else some false else some false else some false else some false
def arM:=aJ [(false,.int),(true,.cQ)] bH (aY Ot) 43 [dS,aeZ] func299
def WU(C D:bk):ah (Bool):=bif C.at_<D.at_ then some true else bif (C.at_==D.at_)then some (C.id<D.id)else some false
def arN:=aJ WA bH (aY WU) 24 [] func300
abbrev ae0:=(((aa bk)×Int×Int×af)×(af))
def H6(x:ae0):ah (ae0⊕(((Int×af)×(af))⊕(((af)×(af))⊕Empty))):=letI C:=x.1.2.2.1;bif C<(x.1.1.length:Int)then xI x.1.1 C λD=>bif (D.id==x.1.2.1)then aq ((C,()),())else xG ((x.1.1,x.1.2.1,(W6 (C+1)),()),())else aM ((),())
def arO:KY 20 (aN f301):=⟨0,lB 0 Wt [(1,jo),(2,eC)] H6,lp []⟩
def H7(C:aa bk)(D:Int):ah (Int):=br H6 ((C,D,0,()),()) (λE=>some E.1.1) λL=>some (-1)
def ae1:=bJ DH bS (aY H7) 20 [] [arO] func301
abbrev ae2:=((Int×(aa bk)×Int×af)×(af))
def H8(x:ae2):ah (ae2⊕(((Bool×af)×(af))⊕(((af)×(af))⊕Empty))):=letI E:=aq ((false,()),());letI D:=x.1.2.1;letI C:=x.1.2.2.1;letI L:=xI D C λO=>(H7 D O.id).bind λT=>bif (T != C)then E else xG ((x.1.1,D,(W6 (C+1)),()),());bif C<(D.length:Int)then xI D C λU=>(Ot x.1.1 U).bind λY=>bif (!Y)then E else bif C > 0 then xI D (W6 (C-1)) λZ=>xI D C λe7=>(WU Z e7).bind λy8=>bif (!y8)then E else L else L else aM ((),())
def arP:KY 50 (aN f172):=⟨0,lB 0 ⟨[(0,tI),(1,.lf (.aC .cQ 0)),(5,tI)],[],[]⟩ [(1,fJ),(2,eC)] H8,lp [arM,arN,ae1]⟩
def Ou(D:Int)(C:aa bk):ah (Bool):=bif (C.length:Int) > 12 then some false else br H8 ((D,C,0,()),()) (λE=>some E.1.1) λL=>some true
def arQ:=bJ [(false,.int),(false,(.sl .cQ))] bH (aY Ou) 50 [] [arP] func172
def Ov(C:aP)(D:eg):ah (aP):=(HV C D).bind λE=>bif (!E)then some (⟨0,0,0,0⟩:aP)else some (⟨C.cg,C.ay,(W6 (C.rows-D.bT)),C.aO⟩:aP)
def arR:=aJ NU [(true,.en,0)] (aY Ov) 17 [aeQ] func174
def um(C:dL):ah (Bool):=(ck C.state 0 2).bind λD=>bif D then (ck C.since 0 1000000).bind λE=>bif E then (ck C.idle 0 1000000).bind λL=>some L else some false else some false
def Ow:=aJ [(true,.Power)] bH (bu um) 16 [dS] func177
def DU(C:bK):ah (Bool):=letI D:=(ck C.times 1 999).bind λE=>some E;(ck C.line 0 1023).bind λL=>bif L then bif (C.code==1)then D else bif (C.code==2)then D else some false else some false
def ae3:=aJ [(true,.dG)] bH (bu DU) 21 [dS] func302
abbrev ae4:=(((aa bK)×Int×Int×Int×af)×(af))
def H9(x:ae4):ah (ae4⊕(((Int×af)×(af))⊕(((af)×(af))⊕Empty))):=letI C:=x.1.2.2.2.1;letI D:=xG ((x.1.1,x.1.2.1,x.1.2.2.1,(W6 (C+1)),()),());bif C<(x.1.1.length:Int)then xI x.1.1 C λE=>bif (E.line==x.1.2.1)then xI x.1.1 C λL=>bif (L.code==x.1.2.2.1)then aq ((C,()),())else D else D else aM ((),())
def arS:KY 31 (aN f303):=⟨0,lB 0 ⟨[(0,.lf (.aC .dG 0)),(1,tI),(2,tI),(7,tI)],[],[]⟩ [(1,Hu),(2,eC)] H9,lp []⟩
def Ia(C:aa bK)(D E:Int):ah (Int):=br H9 ((C,D,E,0,()),()) (λL=>some L.1.1) λO=>some (-1)
def ae5:=bJ Wu bS (eZ Ia) 31 [] [arS] func303
abbrev ae6:=(((aa bK)×Int×af)×(af))
def Ib(x:ae6):ah (ae6⊕(((Bool×af)×(af))⊕(((af)×(af))⊕Empty))):=letI C:=x.1.2.1;bif C<(x.1.1.length:Int)then xI x.1.1 C λD=>(DU D).bind λE=>bif (!E)then aq ((false,()),())else xI x.1.1 C λL=>xI x.1.1 C λO=>(Ia x.1.1 L.line O.code).bind λT=>bif (T != C)then aq ((false,()),())else xG ((x.1.1,(W6 (C+1)),()),())else aM ((),())
def arT:KY 35 (aN f178):=⟨0,lB 0 ⟨[(0,.lf (.aC .dG 0)),(3,tI)],[],[]⟩ [(1,mH),(2,eC)] Ib,lp [ae3,ae5]⟩
def Ic(C:aa bK):ah (Bool):=bif (C.length:Int) > 6 then some false else br Ib ((C,0,()),()) (λD=>some D.1.1) λE=>some true
def ae7:=bJ NW bH (bu Ic) 35 [] [arT] func178
def Ox(C:av):ah (Bool):=(DR C.config C.box.bz).bind λD=>bif (!D)then some false else (DR C.config C.box.next).bind λE=>bif (!E)then some false else (ck C.now 0 1000000).bind λL=>bif (!L)then some false else (Oh C.config.aB C.aX).bind λO=>bif (!O)then some false else (HQ C.config.aB C.ready).bind λT=>bif (!T)then some false else (Ok C.config.aB C.array).bind λU=>bif (!U)then some false else (HV C.config.aB C.spare).bind λY=>bif (!Y)then some false else bif (C.spare.bT != C.config.bT)then some false else (Bl C.aL).bind λZ=>bif (!Z)then some false else (Oq C).bind λy9=>bif (!y9)then some false else (Ov C.config.aB C.spare).bind λfW=>(sq fW).bind λdQ=>(Ou dQ C.queue).bind λfK=>bif (!fK)then some false else (DP C.shares).bind λfX=>bif (!fX)then some false else bif ((C.shares.length:Int) != 4)then some false else (Bi C.drain).bind λiB=>bif (!iB)then some false else (um C.aS).bind λgD=>bif (!gD)then some false else bif (C.aS.state != C.aX.aS)then some false else bif C.aS.since > C.now then some false else (ck C.cu.every 1 100000).bind λjq=>bif jq then (ck C.cu.wait 1 C.cu.every).bind λfT=>bif fT then (sq C.config.aB).bind λiV=>(ck C.cu.next 0 (W6 (iV-1))).bind λsu=>bif su then (Ic C.errors).bind λyI=>bif yI then bif (C.trace.length:Int) <= 2000 then some ((C.cA.length:Int) <= 400)else some false else some false else some false else some false else some false
def arU:=aJ pN bH (bu Ox) 161 [dS,ars,aru,aeK,arC,aeQ,Om,arL,arQ,Oj,arR,WQ,Oe,Ow,ae7] func51
def Ie(C:fI)(D:Int):ah (fI):=letI E:=some (⟨false,C.low,C.high⟩:fI);(Bi C).bind λL=>bif (!L)then some C else bif D >= C.high then bif D <= C.low then E else some (⟨true,C.low,C.high⟩:fI)else bif D <= C.low then E else some C
def arV:=aJ [(true,.jy),(false,.int)] [(true,.jy,0)] (aY Ie) 20 [Oe] func181
abbrev ae8:=(((aa bk)×Bool×Int×Int×af)×(af))
def Ig(x:ae8):ah (ae8⊕(((Int×af)×(af))⊕Empty)):=letI C:=x.1.2.2;bif C.2.1<(x.1.1.length:Int)then xI x.1.1 C.2.1 λD=>bif (D.write==x.1.2.1)then xG ((x.1.1,x.1.2.1,(W6 (C.1+1)),(W6 (C.2.1+1)),()),())else xG ((x.1.1,x.1.2.1,C.1,(W6 (C.2.1+1)),()),())else aq ((C.1,()),())
def arW:KY 23 (aN f182):=⟨0,lB 0 ⟨[(0,.lf (.aC .cQ 0)),(1,tB),(5,tI),(6,tI)],[],[]⟩ [(2,uk)] Ig,lp []⟩
def Ih(C:aa bk)(D:Bool):ah (Int):=aW Ig ((C,D,0,0,()),()) λE=>some E.1.1
def arX:=bJ [(false,(.sl .cQ)),(false,.bool)] bS (aY Ih) 23 [] [arW] func182
def Ii(C:dL)(E:Bool):ah (dL):=letI D:=W6 (C.idle+1);(um C).bind λL=>bif (!L)then some C else bif E then some (⟨C.state,C.since,0⟩:dL)else some (⟨C.state,C.since,(if 1000000<D then 1000000 else D)⟩:dL)
def arY:=aJ [(true,.Power),(false,.bool)] [(true,.Power,0)] (aY Ii) 17 [Ow] func183
abbrev ae9:=((af×af×Int×af)×(((aa Int)×Int×Bool×af)×(aa Int)×af))
def Ij(x:ae9):ah (ae9⊕(((af×af)×((aa Int)×af))⊕Empty)):=letI C:=x.2.1;letI E:=aq (((),()),(x.2.2.1,()));letI D:=x.1.2.2.1;letI L:=((),(),(W6 (D+1)),());bif D<(C.1.length:Int)then (Bl (⟨C.1,C.2.1,C.2.2.1⟩:cK)).bind λO=>bif O then xI C.1 D λT=>bif T >= 4 then bif bD (x.2.2.1.length+([D]:aa Int).length)then xG (L,(C,(x.2.2.1++([D]:aa Int)),()))else none else xG (L,(C,x.2.2.1,()))else E else E
def arZ:KY 28 (aN f304):=⟨0,lB 0 ⟨aem,[(1,.az Bc),(5,.sl .int 2)],[]⟩ [(2,Wp)] Ij,lp [Om]⟩
def Ik(C:cK):ah ((aa Int)):=aW Ij (((),(),0,()),((C.aE,C.wait,C.dj,()),([]:aa Int),())) λD=>some D.2.1
def afa:=bJ Be jW (bu Ik) 28 [] [arZ] func304
def Bp(C:av):ah (Bool):=bif (C.queue.length:Int) > 0 then some true else bif (C.pending.length:Int) > 0 then some true else (Ik C.aL).bind λD=>some ((D.length:Int) > 0)
def WV:gI:=fV [(false,.jK)] [(false,.bool,0)] (λx=>Bp x.1)
def afb:enters Tryz.prog 184/\gu Tryz.prog 184 WV:=kp 26 [afa] func184
def Il(C:fP)(E:Bool):ah (fP×Bool):=(N8 C).bind λD=>bif (!E)then some (D,false)else bif (!C.waits)then some (D,false)else (HC C.next).bind λL=>some ((⟨L,D.next,false⟩:fP),true)
def ar0:=aJ [(true,.iK),(false,.bool)] [(true,.iK,2),(false,.bool,0)] (aY Il) 23 [aet,aes] func185
def Bq(C:jJ)(E:Int):ah (jJ×Int):=letI D:=some (C,(-1));(ck C.every 1 100000).bind λL=>bif (!L)then D else (ck C.wait 1 C.every).bind λO=>bif (!O)then D else bif E<1 then D else bif C.next<0 then D else bif C.next >= E then D else bif (W6 (C.wait-1)) > 0 then some ((⟨C.next,C.every,(W6 (C.wait-1))⟩:jJ),(-1))else if E=0 then none else some ((⟨((W6 (C.next+1)).tmod E),C.every,C.every⟩:jJ),C.next)
def ar1:=aJ [(true,.mc),(false,.int)] [(true,.mc,0),(false,.int,0)] (aY Bq) 55 [dS] func187
end Go.Proofs.YtnilicojgkhpnaaGreat
