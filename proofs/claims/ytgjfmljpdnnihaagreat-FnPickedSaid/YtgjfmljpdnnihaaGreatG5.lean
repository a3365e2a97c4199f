/-
  Functions of the program as plain functions of contents, and that the code computes them. Nothing here is a claim.
-/
import Derived.Test.YtgjfmljpdnnihaaGreatVZ
import Derived.Test.YtgjfmljpdnnihaaGreatRows
import Derived.Test.YtgjfmljpdnnihaaGreatG1
import Derived.Test.YtgjfmljpdnnihaaGreatG2
import Derived.Test.YtgjfmljpdnnihaaGreatG3
import Derived.Test.YtgjfmljpdnnihaaGreatG4
namespace Go.Proofs.YtgjfmljpdnnihaaGreat
set_option linter.defProp false
open Go.RowKit Go.Proofs.Tryz
set_option linter.unusedVariables false
set_option maxRecDepth 100000
def JB(C:fA)(E:Bool):aj (fA):=letI D:=W6 (C.idle+1);(vw C).bind λI=>bif (!I)then some C else bif E then some (⟨C.state,C.since,0⟩:fA)else some (⟨C.state,C.since,(if 1000000<D then 1000000 else D)⟩:fA)
def asz:=bx [(true,.Power),(false,.bool)] [(true,.Power,0)] (bY JB) 17 [O2] func315
def JC(C:iE):aj (iE):=(vt C.bT).bind λD=>(vt C.next).bind λE=>some (⟨D,E,C.waits⟩:iE)
def W8:=bx [(true,.pT)] [(true,.pT,2)] (bL JC) 12 [OT] func287
def JD(C:iE)(E:Bool):aj (iE×Bool):=(JC C).bind λD=>bif (!E)then some (D,false)else bif (!C.waits)then some (D,false)else (vt C.next).bind λI=>some ((⟨I,D.next,false⟩:iE),true)
def asA:=bx [(true,.pT),(false,.bool)] Wn (bY JD) 23 [W8,OT] func316
def Cr(C:oL)(E:Int):aj (oL×Int):=letI D:=some (C,(-1));(cy C.every 1 100000).bind λI=>bif (!I)then D else (cy C.wait 1 C.every).bind λL=>bif (!L)then D else bif E<1 then D else bif C.next<0 then D else bif C.next >= E then D else bif (W6 (C.wait-1)) > 0 then some ((⟨C.next,C.every,(W6 (C.wait-1))⟩:oL),(-1))else if E=0 then none else some ((⟨((W6 (C.next+1)).tmod E),C.every,C.every⟩:oL),C.next)
def asC:=bx [(true,.uN),(false,.int)] [(true,.uN,0),(false,.int,0)] (bY Cr) 55 [eG] func317
def xH(C:Int):aj (Bool):=(cy C 0 15).bind λD=>some D
def Pr:=bx lK cv (bL xH) 5 [eG] func282
abbrev afH:=(((aa Int)×Int×Int×af)×(af))
def Ai(x:afH):aj (afH⊕(((Bool×af)×(af))⊕((((aa Int)×Int×af)×(af))⊕Empty))):=bif x.1.2.2.1<(x.1.1.length:Int)then xI x.1.1 x.1.2.2.1 λC=>(xH C).bind λD=>bif (!D)then az ((false,()),())else xG ((x.1.1,x.1.2.1,(W6 (x.1.2.2.1+1)),()),())else bf ((x.1.1,x.1.2.1,()),())
def asD:KY 22 (bh f218):=⟨0,lB 0 adr [(1,jK),(2,adG)] Ai,lp [Pr]⟩
def uf(D:aa Int)(E:Int):aj (Bool):=bP Ai ((D,E,0,()),()) (λI=>some I.1.1) λC=>some ((C.1.1.length:Int)==C.1.2.1)
def EZ:=cg Ej cv (bY uf) 22 [] [asD] func218
abbrev afI:=((Int×Int×Int×Int×af)×(af))
def afJ(x:afI):aj (afI⊕(((Int×af)×(af))⊕Empty)):=letI C:=x.1.2;letI D:=C.2.2.1;letI E:=min (IntKind.u64.wrap D).toNat IntKind.i64.bits;bif D<4 then if (IntKind.u64.wrap D)<0 then none else bif ((bits .and .i64 (C.1.fdiv (2 ^ E)) 1)==1)then if (IntKind.u64.wrap D)<0 then none else xG ((x.1.1,C.1,(bits .xor .i64 C.2.1 (W6 (x.1.1*2 ^ E))),(W6 (D+1)),()),())else xG ((x.1.1,C.1,C.2.1,(W6 (D+1)),()),())else az ((C.2.1,()),())
def asE:KY 49 (bh f358):=⟨0,lB 0 Wa [(2,xq)] afJ,lp []⟩
abbrev afK:=((Int×Int×af)×(af))
def afL(x:afK):aj (afK⊕(((Int×af)×(af))⊕Empty)):=letI C:=x.1.2.1;bif C >= 4 then if (IntKind.u64.wrap C)<0 then none else bif ((bits .and .i64 (x.1.1.fdiv (2 ^ (min (IntKind.u64.wrap C).toNat IntKind.i64.bits))) 1)==1)then if (IntKind.u64.wrap (W6 (C-4)))<0 then none else xG (((bits .xor .i64 x.1.1 (W6 ((19:Int)*2 ^ (min (IntKind.u64.wrap (W6 (C-4))).toNat IntKind.i64.bits)))),(W6 (C-1)),()),())else xG ((x.1.1,(W6 (C-1)),()),())else az ((x.1.1,()),())
def asF:KY 49 (bh f358):=⟨2,lB 2 ⟨[(5,tI),(7,tI)],[],[]⟩ [(4,xq)] afL,lp []⟩
def ug(C D:Int):aj (Int):=(xH C).bind λE=>bif (!E)then some (-1)else (xH D).bind λI=>bif (!I)then some (-1)else br afJ ((C,D,0,0,()),()) λL=>br afL ((L.1.1,6,()),()) λO=>some O.1.1
def JE:=cg BZ dD (bY ug) 49 [Pr] [asE,asF] func358
abbrev afM:=((Int×Int×Int×Int×af)×(af))
def afN(x:afM):aj (afM⊕(((Int×af)×(af))⊕Empty)):=bif x.1.2.2.2.1<x.1.2.1 then (ug x.1.2.2.1 x.1.1).bind λC=>xG ((x.1.1,x.1.2.1,C,(W6 (x.1.2.2.2.1+1)),()),())else az ((x.1.2.2.1,()),())
def asG:KY 24 (bh f357):=⟨0,lB 0 Wa [(2,xq)] afN,lp [JE]⟩
def E0(C D:Int):aj (Int):=(xH C).bind λE=>bif (!E)then some (-1)else (cy D 0 1000).bind λI=>bif (!I)then some (-1)else br afN ((C,D,1,0,()),()) λL=>some L.1.1
def W9:=cg BZ dD (bY E0) 24 [eG,Pr] [asG] func357
abbrev afO:=(((aa Int)×af×Int×Int×Int×Int×af)×((aa Int)×af))
def E1(x:afO):aj (afO⊕((((aa Int)×af×Int×af)×((aa Int)×af))⊕Empty)):=letI C:=x.1.2.2.2;letI D:=C.2.2.1;bif D<3 then xL x.2.1 D λE=>xI x.1.1 x.1.2.2.1 λI=>(ug I C.1).bind λL=>xL x.2.1 D λT=>(ug C.1 C.2.1).bind λO=>xG ((x.1.1,(),x.1.2.2.1,O,C.2.1,(W6 (D+1)),()),((x.2.1.set D.toNat (bits .xor .i64 E L)),()))else az ((x.1.1,(),x.1.2.2.1,()),(x.2.1,()))
def asH:KY 43 (rF (bh f355) 0):=⟨2,lB 2 ⟨[(0,.lf (.aH .int 0)),(3,.lf (.own 12)),(4,tI),(5,tI),(6,tI),(7,tI)],[(12,.sl .int 2)],[]⟩ [(4,ade)] E1,lp [JE]⟩
abbrev afP:=(((aa Int)×af×Int×af)×((aa Int)×af))
def JF(x:afP):aj (afP⊕(((af×af)×((aa Int)×af))⊕Empty)):=bif x.1.2.2.1<(x.1.1.length:Int)then (E0 2 x.1.2.2.1).bind λD=>br E1 ((x.1.1,(),x.1.2.2.1,1,D,0,()),(x.2.1,())) λC=>xG ((C.1.1,(),(W6 (C.1.2.2.1+1)),()),(C.2.1,()))else az (((),()),(x.2.1,()))
def asJ:KY 43 (bh f355):=⟨0,lB 0 ade [(2,⟨[(3,.lf (.own 12))],[(12,.sl .int 2)],[]⟩)] JF,lq [W9] [asH]⟩
def Pu(C:aa Int):aj ((aa Int)):=(uf C 11).bind λD=>bif (!D)then some ([]:aa Int)else if 0 <= (3:Int)/\(3:Int) <= 3/\(3:Int)<1073741824 then br JF ((C,(),0,()),((List.replicate (3:Int).toNat (0:Int)),())) λE=>some E.2.1 else none
def asK:=cg ox mc (bL Pu) 43 [EZ] [asJ] func355
def E2(C:aa Int):aj (Bool):=xI C (0:Int) λD=>bif (D==0)then xI C (1:Int) λE=>bif (E==0)then xI C (2:Int) λI=>some (I==0)else some false else some false
def asM:=bx ox cv (bL E2) 19 [] func356
abbrev afQ:=((af×af×Int×af)×((aa Int)×(aa Int)×af))
def Cs(x:afQ):aj (afQ⊕(((af×Int×Int×af)×((aa Int)×af))⊕(((af×af)×((aa Int)×af))⊕Empty))):=letI C:=x.2.2.1;letI D:=x.1.2.2.1;letI E:=xG (((),(),(W6 (D+1)),()),(x.2.1,C,()));bif D<11 then (E0 2 D).bind λI=>xL C (0:Int) λL=>bif (L != 0)then xL C (0:Int) λO=>xL C (1:Int) λT=>(ug O I).bind λU=>bif (U==T)then xL C (1:Int) λY=>xL C (2:Int) λZ=>(ug Y I).bind λPv=>bif (Pv==Z)then xL x.2.1 D λXa=>xL C (0:Int) λvB=>xL x.2.1 D λAj=>az (((),1,D,()),((x.2.1.set D.toNat (bits .xor .i64 Xa vB)),()))else E else E else E else bf (((),()),(x.2.1,()))
def asN:KY 67 (bh f343):=⟨0,lB 0 ⟨[(5,.lf (.own 13)),(6,.lf (.own 1000000000117000)),(7,tI)],[(13,.sl .int 2),(1000000000117000,.sl .int 2)],[]⟩ [(1,⟨[(2,.lf (.own 13)),(3,tI),(4,tI)],[(13,.sl .int 2)],[]⟩),(2,⟨[(5,.lf (.own 13))],[(13,.sl .int 2)],[]⟩)] Cs,lp [W9,JE]⟩
def Pw(C:aa Int):aj ((aa Int)×Int×Int):=(uf C 11).bind λI=>bif (!I)then some (([]:aa Int),2,(-1))else bif xZ C then (Pu C).bind λE=>(E2 E).bind λL=>bif L then some ((xA C),0,(-1))else bP Cs (((),(),0,()),((xA C),E,())) (λD=>some (D.2.1,D.1.2.1,D.1.2.2.1)) λO=>some (O.2.1,2,(-1))else none
def asO:=cg ox [(false,(.sl .int),2),(false,.int,0),(false,.int,0)] (bL Pw) 67 [EZ,asK,asM] [asN] func343
abbrev afR:=(((aa Int)×Int×Int×af)×(af))
def JG(x:afR):aj (afR⊕(((Int×af)×(af))⊕Empty)):=letI C:=x.1.2.2.1;bif C<(x.1.1.length:Int)then xI x.1.1 C λD=>if (IntKind.u64.wrap (W6 (4*C)))<0 then none else xG ((x.1.1,(bits .or .i64 x.1.2.1 (W6 (D*2 ^ (min (IntKind.u64.wrap (W6 (4*C))).toNat IntKind.i64.bits)))),(W6 (C+1)),()),())else az ((x.1.2.1,()),())
def asP:KY 26 (bh f344):=⟨0,lB 0 ⟨[(0,.lf (.aH .int 0)),(4,tI),(5,tI)],[],[]⟩ [(2,xu)] JG,lp []⟩
def Px(C:aa Int):aj (Int×Bool):=(uf C 8).bind λD=>bif (!D)then some (0,false)else br JG ((C,0,0,()),()) λE=>some (E.1.1,true)
def asQ:=cg ox [(false,.int,0),(false,.bool,0)] (bL Px) 26 [EZ] [asP] func344
def Py(D:aa Int):aj ((aa Int)):=letI C:=(D.length:Int);letI E:=(D.take C.toNat).drop (3:Int).toNat;(uf D 11).bind λI=>bif (!I)then some ([]:aa Int)else if 0 <= (3:Int)/\3 <= C/\C <= C then bif xZ E then some (xA E)else none else none
def asR:=bx ox mc (bL Py) 11 [EZ] func345
def Pz(D:aa Int):aj (Int×Int×Int):=(Pw D).bind λC=>bif (C.2.1==2)then some (0,C.2.1,C.2.2)else (Py C.1).bind λE=>(Px E).bind λI=>some (I.1,C.2.1,C.2.2)
def asT:=bx ox [(false,.int,0),(false,.int,0),(false,.int,0)] (bL Pz) 29 [asO,asQ,asR] func329
abbrev afS:=((af×af×Int×af×Int×af)×((aa Int)×(aa Int)×(aa Int)×af))
def afT(x:afS):aj (afS⊕(((af×Int×af×af)×((aa Int)×(aa Int)×af))⊕Empty)):=letI C:=x.2.2;letI D:=x.1.2.2.2.2.1;letI E:=W6 (D+1);bif D<(C.1.length:Int)then xL C.2.1 E λL=>xL C.1 D λO=>letI I:=C.2.1.set E.toNat (bits .xor .i64 L O);xL C.2.1 E λXb=>xL I D λT=>xL C.1 D λU=>(E0 2 x.1.2.2.1).bind λY=>(ug U Y).bind λZ=>xL I D λe42=>xG (((),(),x.1.2.2.1,(),E,()),(x.2.1,C.1,(I.set D.toNat (bits .xor .i64 T Z)),()))else az (((),x.1.2.2.1,(),()),(x.2.1,C.2.1,()))
def asU:KY 116 (rF (bh f346) 0):=⟨2,lB 2 ⟨[(3,.lf (.own 18)),(4,.lf (.own 99004)),(5,tI),(6,.lf (.own 29)),(7,tI)],[(18,.sl .int 2),(99004,.sl .int 2),(29,.sl .int 2)],[]⟩ [(4,⟨[(3,.lf (.own 18)),(5,tI),(6,.lf (.own 29))],[(18,.sl .int 2),(29,.sl .int 2)],[]⟩)] afT,lp [W9,JE]⟩
abbrev afU:=((af×af×Int×af)×((aa Int)×(aa Int)×af))
def Xc(x:afU):aj (afU⊕(((af×af×af)×((aa Int)×(aa Int)×af))⊕Empty)):=letI C:=W6 ((x.2.2.1.length:Int)+1);bif x.1.2.2.1<3 then if 0 <= C/\C <= C/\C<1073741824 then br afT (((),(),x.1.2.2.1,(),0,()),(x.2.1,x.2.2.1,(List.replicate C.toNat (0:Int)),())) λD=>xG (((),(),(W6 (D.1.2.1+1)),()),(D.2.1,D.2.2.1,()))else none else az (((),(),()),(x.2.1,x.2.2.1,()))
def asW:KY 116 (bh f346):=⟨0,lB 0 ⟨[(3,.lf (.own 18)),(4,.lf (.own 99004)),(5,tI)],[(18,.sl .int 2),(99004,.sl .int 2)],[]⟩ [(2,⟨[(3,.lf (.own 18)),(4,.lf (.own 99004))],[(18,.sl .int 2),(99004,.sl .int 2)],[]⟩)] Xc,lq [] [asU]⟩
abbrev afV:=((af×af×af×Int×Int×Int×af)×((aa Int)×(aa Int)×(aa Int)×af))
def E3(x:afV):aj (afV⊕(((af×af×af×Int×af)×((aa Int)×(aa Int)×(aa Int)×af))⊕Empty)):=letI C:=x.2.2;letI D:=x.1.2.2.2;letI E:=D.2.2.1;letI I:=W6 ((W6 (D.1-3))+E);bif E<(C.1.length:Int)then xL C.2.1 I λL=>xL C.1 E λO=>(ug O D.2.1).bind λT=>xL C.2.1 I λU=>xG (((),(),(),D.1,D.2.1,(W6 (E+1)),()),(x.2.1,C.1,(C.2.1.set I.toNat (bits .xor .i64 L T)),()))else az (((),(),(),D.1,()),(x.2.1,C.1,C.2.1,()))
def asX:KY 116 (rF (bh f346) 4):=⟨6,lB 6 ⟨[(3,.lf (.own 18)),(4,.lf (.own 99004)),(8,.lf (.own 66)),(9,tI),(10,tI),(11,tI)],ac2,[]⟩ [(8,ac3)] E3,lp [JE]⟩
abbrev afW:=((af×af×af×Int×af)×((aa Int)×(aa Int)×(aa Int)×af))
def E4(x:afW):aj (afW⊕(((af×af×af)×((aa Int)×(aa Int)×af))⊕Empty)):=letI D:=x.1.2.2.2.1;bif D >= 3 then xL x.2.2.2.1 D λE=>br E3 (((),(),(),D,E,0,()),(x.2.1,x.2.2.1,x.2.2.2.1,())) λC=>xG (((),(),(),(W6 (C.1.2.2.2.1-1)),()),(C.2.1,C.2.2.1,C.2.2.2.1,()))else az (((),(),()),(x.2.1,x.2.2.2.1,()))
def asY:KY 116 (bh f346):=⟨4,lB 4 ac3 [(6,⟨[(3,.lf (.own 18)),(8,.lf (.own 66))],[(18,.sl .int 2),(66,.sl .int 2)],[]⟩)] E4,lq [] [asX]⟩
abbrev afX:=((af×af×Int×af)×((aa Int)×(aa Int)×af))
def JH(x:afX):aj (afX⊕(((af×af)×((aa Int)×af))⊕Empty)):=letI C:=x.1.2.2.1;bif C<3 then xL x.2.2.1 C λD=>xL x.2.1 C λE=>xG (((),(),(W6 (C+1)),()),((x.2.1.set C.toNat D),x.2.2.1,()))else az (((),()),(x.2.1,()))
def asZ:KY 116 (bh f346):=⟨8,lB 8 ⟨[(3,.lf (.own 18)),(8,.lf (.own 66)),(13,tI)],[(18,.sl .int 2),(66,.sl .int 2)],[]⟩ [(10,⟨[(3,.lf (.own 18))],[(18,.sl .int 2)],[]⟩)] JH,lp []⟩
def Ak(E:aa Int):aj ((aa Int)):=letI C:=(3:Int);(uf E 8).bind λL=>bif (!L)then some ([]:aa Int)else if 0 <= C/\C <= 3/\C<1073741824 then bif bD ((List.replicate C.toNat (0:Int)).length+E.length)then br Xc (((),(),1,()),(((List.replicate C.toNat (0:Int))++E),([1,1]:aa Int),())) λD=>bif xZ D.2.1 then br E4 (((),(),(),(W6 (((xA D.2.1).length:Int)-1)),()),(D.2.1,D.2.2.1,(xA D.2.1),())) λI=>br JH (((),(),0,()),(I.2.1,I.2.2.1,())) λO=>some O.2.1 else none else none else none
def as0:=cg ox mc (bL Ak) 116 [EZ] [asW,asY,asZ] func346
abbrev afY:=((Int×af×Int×af)×((aa Int)×af))
def JI(x:afY):aj (afY⊕(((af×af)×((aa Int)×af))⊕Empty)):=letI C:=x.1.2.2.1;letI D:=az (((),()),(x.2.1,()));letI E:=([(bits .and .i64 (x.1.1.fdiv (2 ^ (min (IntKind.u64.wrap (W6 (4*C))).toNat IntKind.i64.bits))) 15)]:aa Int);bif C<8 then (I3 x.1.1).bind λI=>bif I then if (IntKind.u64.wrap (W6 (4*C)))<0 then none else bif bD (x.2.1.length+E.length)then xG ((x.1.1,(),(W6 (C+1)),()),((x.2.1++E),()))else none else D else D
def as1:KY 24 (bh f347):=⟨0,lB 0 ⟨[(0,tI),(3,.lf (.own 5)),(4,tI)],[(5,.sl .int 2)],[]⟩ [(2,Wc)] JI,lp [ae2]⟩
def PB(C:Int):aj ((aa Int)):=br JI ((C,(),0,()),(([]:aa Int),())) λD=>some D.2.1
def as2:=cg lK mc (bL PB) 24 [] [as1] func347
def E5(C:Int):aj ((aa Int)):=(PB C).bind λD=>(Ak D).bind λE=>some E
def afZ:=bx lK mc (bL E5) 6 [as0,as2] func330
def E6(C:cA):aj (Bool):=letI D:=(cy C.times 1 999).bind λE=>some E;(cy C.line 0 1023).bind λI=>bif I then bif (C.code==1)then D else bif (C.code==2)then D else some false else some false
def af0:=bx [(true,.gH)] cv (bL E6) 21 [eG] func227
abbrev af1:=(((aa cA)×Int×Int×Int×af)×(af))
def JJ(x:af1):aj (af1⊕(((Int×af)×(af))⊕(((af)×(af))⊕Empty))):=letI C:=x.1.2.2.2.1;letI D:=xG ((x.1.1,x.1.2.1,x.1.2.2.1,(W6 (C+1)),()),());bif C<(x.1.1.length:Int)then xI x.1.1 C λE=>bif (E.line==x.1.2.1)then xI x.1.1 C λI=>bif (I.code==x.1.2.2.1)then az ((C,()),())else D else D else bf ((),())
def as3:KY 31 (bh f228):=⟨0,lB 0 ⟨[(0,.lf (.aH .gH 0)),(1,tI),(2,tI),(7,tI)],[],[]⟩ [(1,HZ),(2,gx)] JJ,lp []⟩
def JK(C:aa cA)(D E:Int):aj (Int):=bP JJ ((C,D,E,0,()),()) (λI=>some I.1.1) λL=>some (-1)
def af2:=cg Wg dD (fC JK) 31 [] [as3] func228
abbrev af3:=(((aa cA)×Int×af)×(af))
def JL(x:af3):aj (af3⊕(((Bool×af)×(af))⊕(((af)×(af))⊕Empty))):=letI C:=x.1.2.1;bif C<(x.1.1.length:Int)then xI x.1.1 C λD=>(E6 D).bind λE=>bif (!E)then az ((false,()),())else xI x.1.1 C λI=>xI x.1.1 C λL=>(JK x.1.1 I.line L.code).bind λO=>bif (O != C)then az ((false,()),())else xG ((x.1.1,(W6 (C+1)),()),())else bf ((),())
def as4:KY 35 (bh f157):=⟨0,lB 0 ⟨[(0,.lf (.aH .gH 0)),(3,tI)],[],[]⟩ [(1,nP),(2,gx)] JL,lp [af0,af2]⟩
def JM(C:aa cA):aj (Bool):=bif (C.length:Int) > 6 then some false else bP JL ((C,0,()),()) (λD=>some D.1.1) λE=>some true
def af4:=cg [(false,(.sl .gH))] cv (bL JM) 35 [] [as4] func157
def PC(I:aa cA)(O T:Int):aj ((aa cA)×Bool):=letI C:=xA I;letI E:=(C.length:Int);letI L:=([(⟨O,T,1⟩:cA)]:aa cA);letI U:=(C.take (E.toNat)).drop ((1:Int).toNat);bif xZ I then (JM I).bind λy1=>bif (!y1)then some (C,false)else (E6 (⟨O,T,1⟩:cA)).bind λy2=>bif (!y2)then some (C,false)else (JK I O T).bind λD=>bif D >= 0 then xC C D (if h5:D.toNat<C.length then (let e6:=C[D.toNat]'h5;letI Y:=W6 (e6.times+1);xC C D (if h8:D.toNat<C.length then (let Z:=C[D.toNat]'h8;some ((C.set D.toNat (⟨Z.line,Z.code,(if 999<Y then 999 else Y)⟩:cA)),true))else none))else none)else bif E >= 6 then if 0 <= (1:Int)/\1 <= E/\E <= E then bif xZ U then bif bD ((xA U).length+L.length)then some (((xA U)++L),true)else none else none else none else bif bD (C.length+L.length)then some ((C++L),true)else none else none
def as5:=bx Wg [(false,(.sl .gH),2),(false,.bool,0)] (fC PC) 55 [af4,af0,af2] func331
def Ct(C:av)(E D:Int):aj ((af)×(av×af)):=bif (D != 0)then (PC C.errors E D).bind λI=>some ((),({C with errors:=I.1},()))else some ((),(C,()))
def af5:=jJ adM [] (fC Ct) 21 [as5] func319
def PD(C:Int):aj (Bool×Bool×Bool):=(cy C 1 5).bind λD=>bif (C==2)then some (D,(C==1),true)else some (D,(C==1),(C==3))
def as6:=bx lK [(false,.bool,0),(false,.bool,0),(false,.bool,0)] (bL PD) 15 [eG] func359
def PE(C:aE):aj (Bool):=letI E:=(cy C.kind 1 9).bind λO=>bif O then (cy C.ay 0 7).bind λT=>bif T then (cy C.row 0 15).bind λU=>bif U then (cy C.bO 0 7).bind λY=>some Y else some false else some false else some false;(PD C.kind).bind λD=>letI I:=bif (!D.2.2)then bif (C.bO != 0)then some false else E else E;letI L:=bif (!D.2.1)then bif (C.row != 0)then some false else I else I;bif (!D.1)then bif (C.ay != 0)then some false else L else L
def as7:=bx [(true,.Command)] cv (bL PE) 56 [eG,as6] func348
def JN(D:aI)(C:aE):aj (Bool):=(PE C).bind λE=>bif E then (Ae D (⟨C.ay,C.row,C.bO⟩:aM)).bind λI=>some I else some false
def af6:=bx Wu cv (bY JN) 18 [OX,as7] func332
def Al(C:av)(E:aE)(D:Int):aj (Bool):=letI L:=bif D >= 0 then bif (C.cr.length:Int)<400 then if T:0 <= D/\D.toNat<C.queue.length then (let U:=C.queue[D.toNat]'T.2;if Y:0 <= D/\D.toNat<C.queue.length then (let Z:=C.queue[D.toNat]'Y.2;(xB C U.line).bind λy8=>(Ah C.aY y8 Z.write).bind λI=>some ((I.kind==E.kind)&&((I.ay==E.ay)&&((I.row==E.row)&&((I.bO==E.bO)&&true)))))else none)else none else some false else some false;letI O:=bif (E.kind != 2)then bif (E.kind != 3)then some true else L else L;(JN C.config.ax E).bind λy1=>bif (!y1)then some false else (Cn C E).bind λy2=>bif (!y2)then some false else bif (C.trace.length:Int) >= 2000 then some false else bif (D != (-1))then (cy D 0 (W6 ((C.queue.length:Int)-1))).bind λy3=>bif (!y3)then some false else O else O
def as8:KX:=⟨320,.q (gP [(false,.lT),(true,.Command),(false,.int)] [(false,.bool,0)] λx=>Al x.1 x.2.1 x.2.2.1),kp 89 [eG,O7,W4,⟨301,.p Pb,W3⟩,af6] func320⟩
def PF(D:aI)(C:Int):aj (Bool):=(kP D).bind λE=>some ((decide ((W6 ((C.tmod 9)+1)) <= 5))==(decide ((W6 (C.tdiv 9))<E)))
def as9:=bx HW cv (bY PF) 15 [ko] func217
abbrev af7:=((af×af×Int×af)×((Int×Int×Int×Int×af)×((aa Int)×(aa Int)×af)×af))
def JO(x:af7):aj (af7⊕(((Bool×af)×(af))⊕(((af×af)×(((aa Int)×(aa Int)×af)×af))⊕Empty))):=letI C:=x.2.2.1;letI D:=x.1.2.2.1;letI E:=xG (((),(),(W6 (D+1)),()),(x.2.1,C,()));bif D<(C.1.length:Int)then xI C.1 D λI=>(cy I (-1) 1000000).bind λL=>bif (!L)then az ((false,()),())else (PF (⟨x.2.1.1,x.2.1.2.1,x.2.1.2.2.1,x.2.1.2.2.2.1⟩:aI) D).bind λO=>bif (!O)then xI C.1 D λT=>bif (T != (-1))then az ((false,()),())else E else E else bf (((),()),(C,()))
def ata:KY 86 (bh f146):=⟨0,lB 0 ⟨[(2,.aG 2 0),(3,.aG 3 0),(5,tI)],[(2,.aC eK),(3,.aC B0)],[]⟩ [(1,jK),(2,adD)] JO,lp [eG,as9]⟩
abbrev af8:=((af×Int×af)×(((aa Int)×(aa Int)×af)×af))
def JP(x:af8):aj (af8⊕(((Bool×af)×(af))⊕(((af)×(af))⊕Empty))):=letI D:=x.2.1.2.1;letI C:=x.1.2.1;letI E:=xG (((),(W6 (C+1)),()),(x.2.1,()));bif C<(D.length:Int)then xI D C λI=>(cy I 0 1000000).bind λL=>bif (!L)then az ((false,()),())else bif C > 0 then xI D (W6 (C-1)) λO=>xI D C λT=>bif O >= T then az ((false,()),())else E else E else bf ((),())
def atb:KY 86 (bh f146):=⟨2,lB 2 ⟨[(3,.aG 3 0),(6,tI)],[(3,.aC B0)],[]⟩ [(1,jK),(4,gx)] JP,lp [eG]⟩
def JQ(C:aI)(D:cZ):aj (Bool):=(ue C).bind λE=>bif (!E)then some false else (kP C).bind λI=>bif ((D.last.length:Int) != (W6 (9*(W6 (I+1)))))then some false else bif (D.aU.length:Int) > 4 then some false else bP JO (((),(),0,()),((C.bK,C.aA,C.rows,C.aL,()),(D.last,D.aU,()),())) (λL=>some L.1.1) λO=>bP JP (((),0,()),(O.2.1,())) (λT=>some T.1.1) λU=>some true
def af9:=cg [(true,.fo),(true,.ny)] cv (bY JQ) 86 [ko,Ac] [ata,atb] func146
def uh(C:cZ):aj (cZ):=bif xZ C.last then bif xZ C.aU then some (⟨(xA C.last),(xA C.aU)⟩:cZ)else none else none
def aga:=bx [(true,.ny)] H6 (bL uh) 12 [] func289
def atc:enters Tryz.prog 349/\rm Tryz.prog 349 (cj Tryz.prog f349 1 [(ko.f,ko.c)]):=NQ (HQ 1 [(ko.f,ko.c)] func349 ⟨ko.ok,trivial⟩)
def PG(L:aI)(E:cZ)(C:bW):aj (cZ):=(uh E).bind λD=>letI O:=(xA D.aU)++([C.at_]:aa Int);letI I:=(O.length:Int);(let T:Bool -> aj (cZ):=λj5=>bif j5 then some D else (let U:Bool -> aj (cZ):=λj9=>bif j9 then some D else (kP L).bind λgK=>(let Z:Int -> aj (cZ):=λID=>letI u3:=W6 ((W6 ((W6 (9*ID))+C.cmd.kind))-1);letI Y:=D.last.set u3.toNat C.at_;xL D.last u3 λe15=>bif (C.cmd.kind==1)then bif xZ D.aU then bif bD ((xA D.aU).length+([C.at_]:aa Int).length)then bif I > 4 then if 0 <= (1:Int)/\1 <= I/\I <= I then (uh (⟨Y,((O.take (I.toNat)).drop ((1:Int).toNat))⟩:cZ)).bind λjL=>some jL else none else (uh (⟨Y,O⟩:cZ)).bind λpH=>some pH else none else none else (uh (⟨Y,D.aU⟩:cZ)).bind λxx=>some xx;bif C.cmd.kind <= 5 then (Z C.cmd.ay)else (Z gK));bif (C.cmd.kind==1)then bif (E.aU.length:Int) > 0 then xI E.aU (W6 ((E.aU.length:Int)-1)) λe8=>(U (decide (e8 >= C.at_)))else (U false)else (U false));(JQ L E).bind λy2=>bif (!y2)then (T true)else (JN L C.cmd).bind λy3=>bif (!y3)then (T true)else (cy C.at_ 0 1000000).bind λy4=>(T (!y4)))
def atd:=bx [(true,.fo),(true,.ny),(true,.Event)] H6 (fC PG) 57 [eG,af9,aga,af6,⟨349,.i _,atc⟩] func333
abbrev agb:=(((aa aM)×af×Int×af)×((Int×Int×Int×af)×af))
def JR(x:agb):aj (agb⊕(((Int×af)×(af))⊕(((af)×(af))⊕Empty))):=letI C:=x.1.2.2.1;bif C<(x.1.1.length:Int)then xI x.1.1 C λD=>bif ((D.ay==x.2.1.1)&&((D.row==x.2.1.2.1)&&((D.bO==x.2.1.2.2.1)&&true)))then az ((C,()),())else xG ((x.1.1,(),(W6 (C+1)),()),(x.2.1,()))else bf ((),())
def ate:KY 19 (bh f223):=⟨0,lB 0 ⟨[(0,.lf (.aH .Addr 0)),(3,.aG 3 0),(5,tI)],[(3,.aC HY)],[]⟩ [(1,xu),(2,gx)] JR,lp []⟩
def Cu(D:aa aM)(C:aM):aj (Int):=bP JR ((D,(),0,()),((C.ay,C.row,C.bO,()),())) (λE=>some E.1.1) λI=>some (-1)
def Xd:=cg Wl dD (bY Cu) 19 [] [ate] func223
def JS(O:aI)(C:nu)(D:en)(E:Int):aj (Bool):=xI D.bC E λI=>bif I > C.bC then some true else xI D.bw E λL=>some (L > C.bw)
def atf:=bx [(true,.fo),(true,.td),(true,.Array),(false,.int)] cv (nO JS) 27 [] func360
abbrev agc:=((af×Int×Int×af)×(((aa Int)×(aa Int)×Int×af)×af))
def E7(x:agc):aj (agc⊕(((Bool×af)×(af))⊕(((af×Int×af)×(((aa Int)×(aa Int)×Int×af)×af))⊕Empty))):=letI C:=x.1.2;letI D:=xG (((),C.1,(W6 (C.2.1+1)),()),(x.2.1,()));bif C.2.1<C.1 then xI x.2.1.1 C.1 λE=>bif E >= 0 then xI x.2.1.1 C.2.1 λI=>xI x.2.1.1 C.1 λL=>bif (I==L)then az ((false,()),())else D else D else bf (((),C.1,()),(x.2.1,()))
def agd:KY 90 (rF (bh f221) 0):=⟨2,lB 2 ⟨[(1,.aG 1 0),(3,tI),(4,tI)],Wf,[]⟩ [(1,nP),(4,adH)] E7,lp []⟩
abbrev agf:=((af×Int×af)×(((aa Int)×(aa Int)×Int×af)×af))
def JT(x:agf):aj (agf⊕(((Bool×af)×(af))⊕(((af)×(af))⊕Empty))):=letI C:=x.2.1;letI D:=x.1.2.1;letI E:=az ((false,()),());letI I:=bP E7 (((),D,0,()),(C,())) (λO=>az ((O.1.1,()),())) λL=>xG (((),(W6 (L.1.2.1+1)),()),(L.2.1,()));bif D<(C.1.length:Int)then xI C.1 D λT=>(cy T (-1) 15).bind λU=>bif (!U)then E else xI C.2.1 D λY=>(cy Y C.2.2.1 100000).bind λZ=>bif (!Z)then E else xI C.1 D λqj=>bif qj<0 then xI C.2.1 D λrI=>bif (rI != 0)then E else I else I else bf ((),())
def atg:KY 90 (bh f221):=⟨0,lB 0 adH [(1,nP),(2,gx)] JT,lq [eG] [agd,agd]⟩
def Cv(C:cx):aj (Bool):=(cy (C.rows.length:Int) 1 16).bind λD=>bif (!D)then some false else bif ((C.rows.length:Int) != (C.counts.length:Int))then some false else (cy C.dg 0 100000).bind λE=>bif (!E)then some false else bP JT (((),0,()),((C.rows,C.counts,C.dg,()),())) (λI=>some I.1.1) λL=>some true
def agh:=cg [(true,.iO)] cv (bL Cv) 90 [eG] [atg] func221
def JU(C:cx):aj (cx):=bif xZ C.rows then bif xZ C.counts then some (⟨(xA C.rows),(xA C.counts),C.dg⟩:cx)else none else none
def agi:=bx [(true,.iO)] [(true,.iO,2)] (bL JU) 14 [] func293
abbrev agj:=((af×Int×Int×af)×((af×af×Int×af)×(aa Int)×(aa Int)×af))
def JV(x:agj):aj (agj⊕(((Int×af)×((af×af×Int×af)×(aa Int)×(aa Int)×af))⊕(((af×Int×af)×((af×af×Int×af)×(aa Int)×(aa Int)×af))⊕Empty))):=letI E:=((),(),x.2.1.2.2.1,());letI C:=x.2.2;letI D:=x.1.2.2.1;letI I:=(E,C.1,C.2.1,());bif D<(C.1.length:Int)then xL C.1 D λL=>bif (L==x.1.2.1)then xL C.2.1 D λO=>xL C.2.1 D λT=>az ((D,()),(E,C.1,(C.2.1.set D.toNat (W6 (O+1))),()))else xG (((),x.1.2.1,(W6 (D+1)),()),I)else bf (((),x.1.2.1,()),I)
def ath:KY 88 (bh f361):=⟨0,lB 0 ⟨[(0,.aG 20000 0),(1,tI),(5,tI)],Eh,[]⟩ [(1,⟨[(4,tI)],Eh,[]⟩),(2,⟨[(0,.aG 20000 0),(1,tI)],Eh,[]⟩)] JV,lp []⟩
abbrev agk:=((af×Int×Int×af)×((af×af×Int×af)×(aa Int)×(aa Int)×af))
def JW(x:agk):aj (agk⊕(((Int×af)×((af×af×Int×af)×(aa Int)×(aa Int)×af))⊕(((af×af)×((af×af×Int×af)×(aa Int)×(aa Int)×af))⊕Empty))):=letI C:=x.2.2;letI E:=x.2.1.2.2.1;letI I:=(((),(),E,()),C.1,C.2.1,());letI D:=x.1.2.2.1;bif D<(C.1.length:Int)then xL C.2.1 D λL=>bif (L==E)then xL C.1 D λO=>xL C.2.1 D λT=>az ((D,()),(((),(),E,()),(C.1.set D.toNat x.1.2.1),(C.2.1.set D.toNat (W6 (E+1))),()))else xG (((),x.1.2.1,(W6 (D+1)),()),I)else bf (((),()),I)
def ati:KY 88 (bh f361):=⟨2,lB 2 ⟨[(0,.aG 20000 0),(1,tI),(6,tI)],Eh,[]⟩ [(1,⟨[(4,tI)],Eh,[]⟩),(4,⟨[(0,.aG 20000 0)],Eh,[]⟩)] JW,lp []⟩
def PI(I:cx)(O:Int):aj ((Int)×(cx×af)):=bP JV (((),O,0,()),(((),(),I.dg,()),I.rows,I.counts,())) (λC=>some (C.1.1,((⟨C.2.2.1,C.2.2.2.1,C.2.1.2.2.1⟩:cx),()))) λD=>bP JW (((),D.1.2.1,0,()),(((),(),D.2.1.2.2.1,()),D.2.2.1,D.2.2.2.1,())) (λE=>some (E.1.1,((⟨E.2.2.1,E.2.2.2.1,E.2.1.2.2.1⟩:cx),()))) λL=>some ((-1),((⟨L.2.2.1,L.2.2.2.1,(W6 (L.2.1.2.2.1+1))⟩:cx),()))
def atj:=ow [.p .iO 2 0,.v false .int] dD (bY PI) 88 [] [ath,ati] func361
def JX(D:cx)(L E:Int):aj (cx×Bool):=(JU D).bind λO=>letI I:=some (O,false);(Cv D).bind λT=>bif (!T)then I else (cy L 0 15).bind λU=>bif (!U)then I else (cy E 2 1000).bind λY=>bif (!Y)then I else (PI O L).bind λC=>(Cv C.2.1).bind λZ=>bif (!Z)then (JU D).bind λy7=>some (y7,false)else bif C.1 >= 0 then xL C.2.1.counts C.1 λqj=>if E=0 then none else some (C.2.1,((qj.tmod E)==0))else some (C.2.1,false)
def atk:=bx [(true,.iO),(false,.int),(false,.int)] [(true,.iO,2),(false,.bool,0)] (fC JX) 46 [eG,agh,agi,atj] func351
end Go.Proofs.YtgjfmljpdnnihaaGreat
