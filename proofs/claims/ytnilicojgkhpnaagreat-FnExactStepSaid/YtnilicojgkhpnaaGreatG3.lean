/-
  Functions of the program as plain functions of contents, and that the code computes them. Nothing here is a claim.
-/
import Derived.Test.YtnilicojgkhpnaaGreatVZ
import Derived.Test.YtnilicojgkhpnaaGreatRows
import Derived.Test.YtnilicojgkhpnaaGreatG1
import Derived.Test.YtnilicojgkhpnaaGreatG2
namespace Go.Proofs.YtnilicojgkhpnaaGreat
set_option linter.defProp false
open Go.RowKit Go.Proofs.Tryz
set_option linter.unusedVariables false
set_option maxRecDepth 100000
abbrev afc:=((Int×Int×Int×Int×af)×(af))
def afd(x:afc):ah (afc⊕(((Int×af)×(af))⊕Empty)):=letI C:=x.1.2;letI D:=C.2.2.1;letI E:=min (IntKind.u64.wrap D).toNat IntKind.i64.bits;bif D<4 then if (IntKind.u64.wrap D)<0 then none else bif ((bits .and .i64 (C.1.fdiv (2 ^ E)) 1)==1)then if (IntKind.u64.wrap D)<0 then none else xG ((x.1.1,C.1,(bits .xor .i64 C.2.1 (W6 (x.1.1*2 ^ E))),(W6 (D+1)),()),())else xG ((x.1.1,C.1,C.2.1,(W6 (D+1)),()),())else aq ((C.2.1,()),())
def ar2:KY 49 (aN f445):=⟨0,lB 0 Wo [(2,uk)] afd,lp []⟩
abbrev afe:=((Int×Int×af)×(af))
def aff(x:afe):ah (afe⊕(((Int×af)×(af))⊕Empty)):=letI C:=x.1.2.1;bif C >= 4 then if (IntKind.u64.wrap C)<0 then none else bif ((bits .and .i64 (x.1.1.fdiv (2 ^ (min (IntKind.u64.wrap C).toNat IntKind.i64.bits))) 1)==1)then if (IntKind.u64.wrap (W6 (C-4)))<0 then none else xG (((bits .xor .i64 x.1.1 (W6 ((19:Int)*2 ^ (min (IntKind.u64.wrap (W6 (C-4))).toNat IntKind.i64.bits)))),(W6 (C-1)),()),())else xG ((x.1.1,(W6 (C-1)),()),())else aq ((x.1.1,()),())
def ar3:KY 49 (aN f445):=⟨2,lB 2 ⟨[(5,tI),(7,tI)],[],[]⟩ [(4,uk)] aff,lp []⟩
def sv(C D:Int):ah (Int):=(Bk C).bind λE=>bif (!E)then some (-1)else (Bk D).bind λL=>bif (!L)then some (-1)else aW afd ((C,D,0,0,()),()) λO=>aW aff ((O.1.1,6,()),()) λT=>some T.1.1
def Im:=bJ DI bS (aY sv) 49 [WR] [ar2,ar3] func445
abbrev afg:=((Int×Int×Int×Int×af)×(af))
def afh(x:afg):ah (afg⊕(((Int×af)×(af))⊕Empty)):=bif x.1.2.2.2.1<x.1.2.1 then (sv x.1.2.2.1 x.1.1).bind λC=>xG ((x.1.1,x.1.2.1,C,(W6 (x.1.2.2.2.1+1)),()),())else aq ((x.1.2.2.1,()),())
def ar4:KY 24 (aN f444):=⟨0,lB 0 Wo [(2,uk)] afh,lp [Im]⟩
def DV(C D:Int):ah (Int):=(Bk C).bind λE=>bif (!E)then some (-1)else (ck D 0 1000).bind λL=>bif (!L)then some (-1)else aW afh ((C,D,1,0,()),()) λO=>some O.1.1
def WW:=bJ DI bS (aY DV) 24 [dS,WR] [ar4] func444
abbrev afi:=(((aa Int)×af×Int×Int×Int×Int×af)×((aa Int)×af))
def DW(x:afi):ah (afi⊕((((aa Int)×af×Int×af)×((aa Int)×af))⊕Empty)):=letI C:=x.1.2.2.2;letI D:=C.2.2.1;bif D<3 then xL x.2.1 D λE=>xI x.1.1 x.1.2.2.1 λL=>(sv L C.1).bind λO=>xL x.2.1 D λU=>(sv C.1 C.2.1).bind λT=>xG ((x.1.1,(),x.1.2.2.1,T,C.2.1,(W6 (D+1)),()),((x.2.1.set D.toNat (bits .xor .i64 E O)),()))else aq ((x.1.1,(),x.1.2.2.1,()),(x.2.1,()))
def ar5:KY 43 (pK (aN f442) 0):=⟨2,lB 2 ⟨[(0,.lf (.aC .int 0)),(3,.lf (.own 12)),(4,tI),(5,tI),(6,tI),(7,tI)],[(12,.sl .int 2)],[]⟩ [(4,adO)] DW,lp [Im]⟩
abbrev afj:=(((aa Int)×af×Int×af)×((aa Int)×af))
def Io(x:afj):ah (afj⊕(((af×af)×((aa Int)×af))⊕Empty)):=bif x.1.2.2.1<(x.1.1.length:Int)then (DV 2 x.1.2.2.1).bind λD=>aW DW ((x.1.1,(),x.1.2.2.1,1,D,0,()),(x.2.1,())) λC=>xG ((C.1.1,(),(W6 (C.1.2.2.1+1)),()),(C.2.1,()))else aq (((),()),(x.2.1,()))
def ar6:KY 43 (aN f442):=⟨0,lB 0 adO [(2,⟨[(3,.lf (.own 12))],[(12,.sl .int 2)],[]⟩)] Io,lq [WW] [ar5]⟩
def Oy(C:aa Int):ah ((aa Int)):=(sr C 11).bind λD=>bif (!D)then some ([]:aa Int)else if 0 <= (3:Int)/\(3:Int) <= 3/\(3:Int)<1073741824 then aW Io ((C,(),0,()),((List.replicate (3:Int).toNat (0:Int)),())) λE=>some E.2.1 else none
def ar7:=bJ lK jW (bu Oy) 43 [DS] [ar6] func442
def DX(C:aa Int):ah (Bool):=xI C (0:Int) λD=>bif (D==0)then xI C (1:Int) λE=>bif (E==0)then xI C (2:Int) λL=>some (L==0)else some false else some false
def ar8:=aJ lK bH (bu DX) 19 [] func443
abbrev afk:=((af×af×Int×af)×((aa Int)×(aa Int)×af))
def Br(x:afk):ah (afk⊕(((af×Int×Int×af)×((aa Int)×af))⊕(((af×af)×((aa Int)×af))⊕Empty))):=letI C:=x.2.2.1;letI D:=x.1.2.2.1;letI E:=xG (((),(),(W6 (D+1)),()),(x.2.1,C,()));bif D<11 then (DV 2 D).bind λL=>xL C (0:Int) λO=>bif (O != 0)then xL C (0:Int) λT=>xL C (1:Int) λU=>(sv T L).bind λY=>bif (Y==U)then xL C (1:Int) λZ=>xL C (2:Int) λBt=>(sv Z L).bind λDY=>bif (DY==Bt)then xL x.2.1 D λWX=>xL C (0:Int) λuq=>xL x.2.1 D λur=>aq (((),1,D,()),((x.2.1.set D.toNat (bits .xor .i64 WX uq)),()))else E else E else E else aM (((),()),(x.2.1,()))
def ar9:KY 67 (aN f386):=⟨0,lB 0 ⟨[(5,.lf (.own 13)),(6,.lf (.own 1000000000117000)),(7,tI)],[(13,.sl .int 2),(1000000000117000,.sl .int 2)],[]⟩ [(1,⟨[(2,.lf (.own 13)),(3,tI),(4,tI)],[(13,.sl .int 2)],[]⟩),(2,⟨[(5,.lf (.own 13))],[(13,.sl .int 2)],[]⟩)] Br,lp [WW,Im]⟩
def Oz(C:aa Int):ah ((aa Int)×Int×Int):=(sr C 11).bind λL=>bif (!L)then some (([]:aa Int),2,(-1))else bif xZ C then (Oy C).bind λE=>(DX E).bind λO=>bif O then some ((xA C),0,(-1))else br Br (((),(),0,()),((xA C),E,())) (λD=>some (D.2.1,D.1.2.1,D.1.2.2.1)) λT=>some (T.2.1,2,(-1))else none
def asa:=bJ lK [(false,(.sl .int),2),(false,.int,0),(false,.int,0)] (bu Oz) 67 [DS,ar7,ar8] [ar9] func386
abbrev afl:=(((aa Int)×Int×Int×af)×(af))
def Ip(x:afl):ah (afl⊕(((Int×af)×(af))⊕Empty)):=letI C:=x.1.2.2.1;bif C<(x.1.1.length:Int)then xI x.1.1 C λD=>if (IntKind.u64.wrap (W6 (4*C)))<0 then none else xG ((x.1.1,(bits .or .i64 x.1.2.1 (W6 (D*2 ^ (min (IntKind.u64.wrap (W6 (4*C))).toNat IntKind.i64.bits)))),(W6 (C+1)),()),())else aq ((x.1.2.1,()),())
def asb:KY 26 (aN f387):=⟨0,lB 0 ⟨[(0,.lf (.aC .int 0)),(4,tI),(5,tI)],[],[]⟩ [(2,jo)] Ip,lp []⟩
def OA(C:aa Int):ah (Int×Bool):=(sr C 8).bind λD=>bif (!D)then some (0,false)else aW Ip ((C,0,0,()),()) λE=>some (E.1.1,true)
def asc:=bJ lK [(false,.int,0),(false,.bool,0)] (bu OA) 26 [DS] [asb] func387
def OB(D:aa Int):ah ((aa Int)):=letI C:=(D.length:Int);letI E:=(D.take C.toNat).drop (3:Int).toNat;(sr D 11).bind λL=>bif (!L)then some ([]:aa Int)else if 0 <= (3:Int)/\3 <= C/\C <= C then bif xZ E then some (xA E)else none else none
def asd:=aJ lK jW (bu OB) 11 [DS] func388
def OC(D:aa Int):ah (Int×Int×Int):=(Oz D).bind λC=>bif (C.2.1==2)then some (0,C.2.1,C.2.2)else (OB C.1).bind λE=>(OA E).bind λL=>some (L.1,C.2.1,C.2.2)
def ase:=aJ lK [(false,.int,0),(false,.int,0),(false,.int,0)] (bu OC) 29 [asa,asc,asd] func305
abbrev afm:=((af×af×Int×af×Int×af)×((aa Int)×(aa Int)×(aa Int)×af))
def afn(x:afm):ah (afm⊕(((af×Int×af×af)×((aa Int)×(aa Int)×af))⊕Empty)):=letI C:=x.2.2;letI D:=x.1.2.2.2.2.1;letI E:=W6 (D+1);bif D<(C.1.length:Int)then xL C.2.1 E λO=>xL C.1 D λT=>letI L:=C.2.1.set E.toNat (bits .xor .i64 O T);xL C.2.1 E λWY=>xL L D λU=>xL C.1 D λY=>(DV 2 x.1.2.2.1).bind λZ=>(sv Y Z).bind λyJ=>xL L D λe42=>xG (((),(),x.1.2.2.1,(),E,()),(x.2.1,C.1,(L.set D.toNat (bits .xor .i64 U yJ)),()))else aq (((),x.1.2.2.1,(),()),(x.2.1,C.2.1,()))
def asf:KY 116 (pK (aN f389) 0):=⟨2,lB 2 ⟨[(3,.lf (.own 18)),(4,.lf (.own 99004)),(5,tI),(6,.lf (.own 29)),(7,tI)],[(18,.sl .int 2),(99004,.sl .int 2),(29,.sl .int 2)],[]⟩ [(4,⟨[(3,.lf (.own 18)),(5,tI),(6,.lf (.own 29))],[(18,.sl .int 2),(29,.sl .int 2)],[]⟩)] afn,lp [WW,Im]⟩
abbrev afo:=((af×af×Int×af)×((aa Int)×(aa Int)×af))
def WZ(x:afo):ah (afo⊕(((af×af×af)×((aa Int)×(aa Int)×af))⊕Empty)):=letI C:=W6 ((x.2.2.1.length:Int)+1);bif x.1.2.2.1<3 then if 0 <= C/\C <= C/\C<1073741824 then aW afn (((),(),x.1.2.2.1,(),0,()),(x.2.1,x.2.2.1,(List.replicate C.toNat (0:Int)),())) λD=>xG (((),(),(W6 (D.1.2.1+1)),()),(D.2.1,D.2.2.1,()))else none else aq (((),(),()),(x.2.1,x.2.2.1,()))
def asg:KY 116 (aN f389):=⟨0,lB 0 ⟨[(3,.lf (.own 18)),(4,.lf (.own 99004)),(5,tI)],[(18,.sl .int 2),(99004,.sl .int 2)],[]⟩ [(2,⟨[(3,.lf (.own 18)),(4,.lf (.own 99004))],[(18,.sl .int 2),(99004,.sl .int 2)],[]⟩)] WZ,lq [] [asf]⟩
abbrev afp:=((af×af×af×Int×Int×Int×af)×((aa Int)×(aa Int)×(aa Int)×af))
def DZ(x:afp):ah (afp⊕(((af×af×af×Int×af)×((aa Int)×(aa Int)×(aa Int)×af))⊕Empty)):=letI C:=x.2.2;letI D:=x.1.2.2.2;letI E:=D.2.2.1;letI L:=W6 ((W6 (D.1-3))+E);bif E<(C.1.length:Int)then xL C.2.1 L λO=>xL C.1 E λT=>(sv T D.2.1).bind λU=>xL C.2.1 L λY=>xG (((),(),(),D.1,D.2.1,(W6 (E+1)),()),(x.2.1,C.1,(C.2.1.set L.toNat (bits .xor .i64 O U)),()))else aq (((),(),(),D.1,()),(x.2.1,C.1,C.2.1,()))
def ash:KY 116 (pK (aN f389) 4):=⟨6,lB 6 ⟨[(3,.lf (.own 18)),(4,.lf (.own 99004)),(8,.lf (.own 66)),(9,tI),(10,tI),(11,tI)],adF,[]⟩ [(8,adG)] DZ,lp [Im]⟩
abbrev afq:=((af×af×af×Int×af)×((aa Int)×(aa Int)×(aa Int)×af))
def D0(x:afq):ah (afq⊕(((af×af×af)×((aa Int)×(aa Int)×af))⊕Empty)):=letI D:=x.1.2.2.2.1;bif D >= 3 then xL x.2.2.2.1 D λE=>aW DZ (((),(),(),D,E,0,()),(x.2.1,x.2.2.1,x.2.2.2.1,())) λC=>xG (((),(),(),(W6 (C.1.2.2.2.1-1)),()),(C.2.1,C.2.2.1,C.2.2.2.1,()))else aq (((),(),()),(x.2.1,x.2.2.2.1,()))
def asi:KY 116 (aN f389):=⟨4,lB 4 adG [(6,⟨[(3,.lf (.own 18)),(8,.lf (.own 66))],[(18,.sl .int 2),(66,.sl .int 2)],[]⟩)] D0,lq [] [ash]⟩
abbrev afr:=((af×af×Int×af)×((aa Int)×(aa Int)×af))
def Iq(x:afr):ah (afr⊕(((af×af)×((aa Int)×af))⊕Empty)):=letI C:=x.1.2.2.1;bif C<3 then xL x.2.2.1 C λD=>xL x.2.1 C λE=>xG (((),(),(W6 (C+1)),()),((x.2.1.set C.toNat D),x.2.2.1,()))else aq (((),()),(x.2.1,()))
def asj:KY 116 (aN f389):=⟨8,lB 8 ⟨[(3,.lf (.own 18)),(8,.lf (.own 66)),(13,tI)],[(18,.sl .int 2),(66,.sl .int 2)],[]⟩ [(10,⟨[(3,.lf (.own 18))],[(18,.sl .int 2)],[]⟩)] Iq,lp []⟩
def yK(E:aa Int):ah ((aa Int)):=letI C:=(3:Int);(sr E 8).bind λO=>bif (!O)then some ([]:aa Int)else if 0 <= C/\C <= 3/\C<1073741824 then bif bD ((List.replicate C.toNat (0:Int)).length+E.length)then aW WZ (((),(),1,()),(((List.replicate C.toNat (0:Int))++E),([1,1]:aa Int),())) λD=>bif xZ D.2.1 then aW D0 (((),(),(),(W6 (((xA D.2.1).length:Int)-1)),()),(D.2.1,D.2.2.1,(xA D.2.1),())) λL=>aW Iq (((),(),0,()),(L.2.1,L.2.2.1,())) λT=>some T.2.1 else none else none else none
def asl:=bJ lK jW (bu yK) 116 [DS] [asg,asi,asj] func389
abbrev afs:=((Int×af×Int×af)×((aa Int)×af))
def Ir(x:afs):ah (afs⊕(((af×af)×((aa Int)×af))⊕Empty)):=letI C:=x.1.2.2.1;letI D:=aq (((),()),(x.2.1,()));letI E:=([(bits .and .i64 (x.1.1.fdiv (2 ^ (min (IntKind.u64.wrap (W6 (4*C))).toNat IntKind.i64.bits))) 15)]:aa Int);bif C<8 then (HZ x.1.1).bind λL=>bif L then if (IntKind.u64.wrap (W6 (4*C)))<0 then none else bif bD (x.2.1.length+E.length)then xG ((x.1.1,(),(W6 (C+1)),()),((x.2.1++E),()))else none else D else D
def asm:KY 24 (aN f390):=⟨0,lB 0 ⟨[(0,tI),(3,.lf (.own 5)),(4,tI)],[(5,.sl .int 2)],[]⟩ [(2,Wp)] Ir,lp [aeZ]⟩
def OD(C:Int):ah ((aa Int)):=aW Ir ((C,(),0,()),(([]:aa Int),())) λD=>some D.2.1
def asn:=bJ jX jW (bu OD) 24 [] [asm] func390
def D1(C:Int):ah ((aa Int)):=(OD C).bind λD=>(yK D).bind λE=>some E
def aft:=aJ jX jW (bu D1) 6 [asl,asn] func306
def OE(L:aa bK)(T U:Int):ah ((aa bK)×Bool):=letI C:=xA L;letI E:=(C.length:Int);letI O:=([(⟨T,U,1⟩:bK)]:aa bK);letI Y:=(C.take (E.toNat)).drop ((1:Int).toNat);bif xZ L then (Ic L).bind λy1=>bif (!y1)then some (C,false)else (DU (⟨T,U,1⟩:bK)).bind λy2=>bif (!y2)then some (C,false)else (Ia L T U).bind λD=>bif D >= 0 then xC C D (if h5:D.toNat<C.length then (let e6:=C[D.toNat]'h5;letI Z:=W6 (e6.times+1);xC C D (if h8:D.toNat<C.length then (let e9:=C[D.toNat]'h8;some ((C.set D.toNat (⟨e9.line,e9.code,(if 999<Z then 999 else Z)⟩:bK)),true))else none))else none)else bif E >= 6 then if 0 <= (1:Int)/\1 <= E/\E <= E then bif xZ Y then bif bD ((xA Y).length+O.length)then some (((xA Y)++O),true)else none else none else none else bif bD (C.length+O.length)then some ((C++O),true)else none else none
def aso:=aJ Wu [(false,(.sl .dG),2),(false,.bool,0)] (eZ OE) 55 [ae7,ae3,ae5] func307
def Bu(C:av)(E D:Int):ah ((af)×(av×af)):=bif (D != 0)then (OE C.errors E D).bind λL=>some ((),({C with errors:=L.1},()))else some ((),(C,()))
def afu:=wm aej [] (eZ Bu) 21 [aso] func189
def OF(L:jw)(C:dL)(D:Bool):ah (Int):=letI U:=decide (C.idle >= L.sleep);(let Y:Bool -> ah (Int):=λj3=>bif j3 then some 0 else (let E:Bool -> ah (Int):=λj7=>bif j7 then some 7 else (let Z:Bool -> ah (Int):=λj8=>bif j8 then some 9 else (let O:Bool -> ah (Int):=λj9=>bif j9 then some 8 else (let T:Bool -> ah (Int):=λBv=>bif Bv then some 6 else some 0;letI u0:=T (decide (C.idle >= L.down));bif (!D)then bif (C.state==0)then u0 else (T false)else (T false));letI u1:=O U;bif (!D)then bif (C.state==0)then u1 else (O false)else (O false));bif D then (Z (C.state==2))else (Z false));letI u2:=E U;(let k6:Bool -> ah (Int):=λj5=>bif j5 then (E j5)else bif (!D)then bif (C.state==1)then u2 else (E false)else (E false);bif D then (k6 (C.state==1))else (k6 false)));(HM L).bind λy1=>bif (!y1)then (Y true)else (um C).bind λy2=>(Y (!y2)))
def asp:=aJ [(true,.mb),(true,.Power),(false,.bool)] bS (eZ OF) 73 [Ow,aeG] func308
abbrev afv:=((af×af×Int×af)×(((aa cC)×Int×af)×(aa Int)×af))
def D2(x:afv):ah (afv⊕(((af×af)×((aa Int)×af))⊕Empty)):=letI C:=x.1.2.2.1;letI D:=((),(),(W6 (C+1)),());bif C<(x.2.1.1.length:Int)then xI x.2.1.1 C λE=>bif E.open_ then bif bD (x.2.2.1.length+([C]:aa Int).length)then xG (D,(x.2.1,(x.2.2.1++([C]:aa Int)),()))else none else xG (D,(x.2.1,x.2.2.1,()))else aq (((),()),(x.2.2.1,()))
def asq:KY 24 (aN f404):=⟨0,lB 0 ⟨aem,[(1,.az yE),(5,.sl .int 2)],[]⟩ [(2,Wp)] D2,lp []⟩
def Is(C:bV):ah ((aa Int)):=aW D2 (((),(),0,()),((C.ay,C.aS,()),([]:aa Int),())) λD=>some D.2.1
def afw:=bJ Hx jW (bu Is) 24 [] [asq] func404
def OG(D:bV)(C:aD):ah (Bool):=letI E:=D.aS==0;letI T:=bif E then xI D.ay C.au λY=>some (!Y.open_)else some false;letI L:=bif E then xI D.ay C.au λZ=>some Z.open_ else some false;letI O:=bif (C.kind==6)then some E else bif (C.kind==8)then bif E then (Is D).bind λy5=>some ((y5.length:Int)==0)else some false else bif (C.kind==7)then some (D.aS==1)else some (D.aS==2);letI U:=bif (C.kind==2)then bif (C.kind==2)then L else O else bif (C.kind==3)then bif (C.kind==3)then L else O else bif (C.kind==4)then L else O;bif (C.kind==1)then bif (C.kind==1)then T else U else bif (C.kind==5)then T else U
def asr:=aJ [(true,.gG),(true,.Command)] bH (aY OG) 63 [afw] func391
def It(C:cI)(D E:Int):ah (Int):=letI T:=some (W6 (C.wr+C.rp));letI U:=some (W6 (C.hD+C.rp));letI Y:=some (W6 (C.fO+C.rp));letI O:=E==5;letI L:=E==4;(Bh C).bind λZ=>bif (!Z)then some 0 else bif (E==1)then bif (D==1)then bif (E==2)then some C.iG else bif (E==3)then some C.iG else bif L then some C.fO else Y else bif (D==2)then bif L then some C.hD else U else bif (D==3)then bif L then some C.wr else T else bif (D==4)then some C.rp else bif (D==5)then some C.kX else some 0 else bif (D==1)then bif (E==2)then some C.iG else bif (E==3)then some C.iG else bif L then some C.fO else bif O then Y else some 0 else bif (D==2)then bif L then some C.hD else bif O then U else some 0 else bif (D==3)then bif L then some C.wr else bif O then T else some 0 else bif (D==4)then bif O then some C.rp else some 0 else bif (D==5)then bif O then some C.kX else some 0 else some 0
def afx:=aJ [(true,.iJ),(false,.int),(false,.int)] bS (eZ It) 57 [Oc] func464
def OH(C:Bool)(D E:Int):ah (Int):=bif C then some D else some E
def ass:=aJ [(false,.bool),(false,.int),(false,.int)] bS (eZ OH) 10 [] func469
def Iu(C:cI)(D E:Int)(L:Bool):ah (Int):=(let O:Bool -> ah (Int):=λj4=>bif j4 then some 0 else bif (D==7)then some C.xp else bif (D==9)then some C.xs else (let T:Bool -> ah (Int):=λj6=>bif j6 then some C.lY else (let Y:Bool -> ah (Int):=λj7=>bif j7 then (OH L C.iH C.kS).bind λy8=>some y8 else (let U:Bool -> ah (Int):=λj9=>bif j9 then (OH L C.kU C.kT).bind λfW=>some fW else (let Z:Bool -> ah (Int):=λW0=>bif W0 then (OH L C.kW C.kV).bind λfK=>some fK else (let sx:Bool -> ah (Int):=λBw=>bif Bw then some C.n6 else (let yL:Bool -> ah (Int):=λBy=>bif By then some C.iH else (let sy:Bool -> ah (Int):=λD3=>bif D3 then some C.hD else (let yM:Bool -> ah (Int):=λIv=>bif Iv then some C.wr else bif (E==8)then (It C D 1).bind λfT=>some fT else some 0;bif (E==6)then (yM (D==3))else (yM false));bif (E==6)then (sy (D==2))else (sy false));bif (D==5)then (yL (E==5))else (yL false));bif (D==2)then (sx (E==3))else (sx false));bif (D==3)then (Z (E==2))else (Z false));bif (D==E)then bif (D==2)then (U true)else (U (D==3))else (U false));bif (D==1)then (Y (E==1))else (Y false));letI u0:=bif (D==8)then (T (E==9))else (T false);bif (D==6)then bif (E==7)then (T true)else u0 else u0);(Bh C).bind λy1=>bif (!y1)then (O true)else (ck D 1 9).bind λy2=>bif (!y2)then (O true)else (ck E 1 9).bind λy3=>(O (!y3)))
def ast:=aJ aea bS (qM Iu) 135 [dS,Oc,afx,ass] func463
def yN(O:aP)(Y:cI)(D C:aD):ah (Int):=letI Z:=It Y D.kind C.kind;letI u0:=Iu Y D.kind C.kind false;bif D.kind <= 5 then bif C.kind <= 5 then if O.ay=0 then none else if O.ay=0 then none else (Iu Y D.kind C.kind ((W6 (D.au.tdiv O.ay))==(W6 (C.au.tdiv O.ay)))).bind λE=>letI u1:=some (if 1 > E then 1 else E);bif C.kind <= 5 then bif (D.au==C.au)then Z.bind λT=>some (if 1 > (if T > E then T else E)then 1 else (if T > E then T else E))else u1 else u1 else u0.bind λL=>letI u2:=some (if 1 > L then 1 else L);bif C.kind <= 5 then bif (D.au==C.au)then Z.bind λU=>some (if 1 > (if U > L then U else L)then 1 else (if U > L then U else L))else u2 else u2 else u0.bind λy5=>some (if 1 > y5 then 1 else y5)
def asu:=aJ aeb bS (qM yN) 57 [ast,afx] func446
abbrev afy:=((af×af×af×af×Int×Int×af)×((Int×Int×Int×Int×af)×cI×((aa Int)×(aa Int)×af)×(Int×Int×Int×Int×af)×af))
def Iw(x:afy):ah (afy⊕(((af×af×af×Int×af)×(cI×((aa Int)×(aa Int)×af)×(Int×Int×Int×Int×af)×af))⊕Empty)):=letI E:=x.2.2.2.1;letI Y:=(⟨x.2.1.1,x.2.1.2.1,x.2.1.2.2.1,x.2.1.2.2.2.1⟩:aP);letI L:=x.2.2.2.2.1;letI Z:=(⟨L.1,L.2.1,L.2.2.1,L.2.2.2.1⟩:aD);letI O:=(x.2.1,x.2.2.1,E,L,());letI C:=x.1.2.2.2.2;letI D:=C.2.1;letI T:=W6 (D+1);letI U:=W6 ((D.tmod 9)+1);bif D<(E.1.length:Int)then xI E.1 D λe2=>bif e2<0 then xG (((),(),(),(),C.1,T,()),O)else bif U <= 5 then xI E.1 D λe4=>(yN Y x.2.2.1 (⟨U,(W6 (D.tdiv 9)),0,0⟩:aD) Z).bind λy5=>letI u8:=W6 (e4+y5);xG (((),(),(),(),(if u8 > C.1 then u8 else C.1),T,()),O)else xI E.1 D λe7=>(yN Y x.2.2.1 (⟨U,0,0,0⟩:aD) Z).bind λy8=>letI u9:=W6 (e7+y8);xG (((),(),(),(),(if u9 > C.1 then u9 else C.1),T,()),O)else aq (((),(),(),C.1,()),(x.2.2.1,E,L,()))
def asv:KY 67 (aN f392):=⟨0,lB 0 ⟨[(4,.aG 4 0),(5,.aG 5 0),(6,.aG 6 0),(7,.aG 7 0),(9,tI),(10,tI)],ad7,[]⟩ [(2,adJ)] Iw,lp [asu]⟩
def OI(D:aP)(U:cI)(O:cP)(E:aD):ah (Int):=aW Iw (((),(),(),(),0,0,()),((D.cg,D.ay,D.rows,D.aO,()),U,(O.last,O.bg,()),(E.kind,E.au,E.row,E.bG,()),())) λC=>letI L:=C.1.2.2.2.1;bif (C.2.2.2.1.1==1)then bif ((C.2.2.1.2.1.length:Int)==4)then xI C.2.2.1.2.1 (0:Int) λY=>letI T:=W6 (Y+C.2.1.iI);some (if T > C.1.2.2.2.1 then T else L)else some L else some L
def asw:=bJ aec bS (qM OI) 67 [] [asv] func392
def Bz(C:av)(D:aD):ah (Bool):=(OG C.aX D).bind λL=>bif (!L)then some false else (OI C.config.aB C.config.bQ C.ready D).bind λE=>bif E <= 1000000 then some (E <= C.now)else some false
def OJ:=aJ [(false,.jK),(true,.Command)] bH (aY Bz) 39 [asr,asw] func309
abbrev afz:=((av×(aa aD)×af×Int×af)×((Int×Int×Int×Int×af)×af))
def BA(x:afz):ah (afz⊕(((af×Bool×af)×((Int×Int×Int×Int×af)×af))⊕(((af×af)×((Int×Int×Int×Int×af)×af))⊕Empty))):=letI C:=x.1.2.2.2.1;bif C<(x.1.2.1.length:Int)then xI x.1.2.1 C λE=>(Bz x.1.1 E).bind λL=>bif L then xI x.1.2.1 C λD=>aq (((),true,()),((D.kind,D.au,D.row,D.bG,()),()))else xG ((x.1.1,x.1.2.1,(),(W6 (C+1)),()),(x.2.1,()))else aM (((),()),(x.2.1,()))
def asx:KY 24 (aN f310):=⟨0,lB 0 ⟨[(0,.fp .cx 0),(1,.lf (.aC .Command 0)),(4,.aG 4 0),(6,tI)],[(4,.az fl)],[]⟩ [(1,⟨[(4,.aG 4 0),(5,tB)],[(4,.az fl)],[]⟩),(2,⟨[(4,.aG 4 0)],[(4,.az fl)],[]⟩)] BA,lp [OJ]⟩
def Ix(D:av)(E:aa aD):ah (aD×Bool):=br BA ((D,E,(),0,()),((0,0,0,0,()),())) (λC=>some ((⟨C.2.1.1,C.2.1.2.1,C.2.1.2.2.1,C.2.1.2.2.2.1⟩:aD),C.1.2.1)) λL=>some ((⟨0,0,0,0⟩:aD),false)
def asy:=bJ [(false,.jK),(false,(.sl .Command))] [(true,.Command,0),(false,.bool,0)] (aY Ix) 24 [] [asx] func310
def BB(C:av)(D:Int):ah (Bool):=xI C.aL.aE D λE=>some (E >= 4)
def OL:=aJ [(false,.jK),(false,.int)] bH (aY BB) 14 [] func393
def D4(D:av)(C:aD):ah (aD):=xI D.aX.ay C.au λE=>bif E.open_ then some (⟨4,C.au,0,0⟩:aD)else some C
def W2:=aJ [(false,.jK),(true,.Command)] DJ (aY D4) 19 [] func394
abbrev afA:=(((aa aF)×Int×Int×af)×(af))
def D5(x:afA):ah (afA⊕(((Bool×af)×(af))⊕(((af)×(af))⊕Empty))):=bif x.1.2.2.1<(x.1.1.length:Int)then xI x.1.1 x.1.2.2.1 λC=>bif (C.au==x.1.2.1)then aq ((true,()),())else xG ((x.1.1,x.1.2.1,(W6 (x.1.2.2.1+1)),()),())else aM ((),())
def asz:KY 19 (aN f395):=⟨0,lB 0 ad2 [(1,fJ),(2,eC)] D5,lp []⟩
def D6(C:aa aF)(D:Int):ah (Bool):=br D5 ((C,D,0,()),()) (λE=>some E.1.1) λL=>some false
def W3:=bJ NR bH (aY D6) 19 [] [asz] func395
abbrev afB:=((av×af×Int×af)×((aa aD)×af))
def Iy(x:afB):ah (afB⊕(((av×af×af)×((aa aD)×af))⊕Empty)):=letI C:=x.1.2.2.1;letI D:=(x.1.1,(),(W6 (C+1)),());bif C<(x.1.1.aL.aE.length:Int)then (BB x.1.1 C).bind λL=>bif L then (D4 x.1.1 (⟨5,C,0,0⟩:aD)).bind λE=>bif bD (x.2.1.length+([E]:aa aD).length)then xG (D,((x.2.1++([E]:aa aD)),()))else none else xG (D,(x.2.1,()))else aq ((x.1.1,(),()),(x.2.1,()))
def asA:KY 72 (aN f311):=⟨0,lB 0 ⟨[(0,.fp .cx 0),(3,.lf (.own 7)),(4,tI)],NX,[]⟩ [(2,⟨[(0,.fp .cx 0),(3,.lf (.own 7))],NX,[]⟩)] Iy,lp [OL,W2]⟩
abbrev afC:=((av×af×Int×af)×((aa aD)×af))
def Iz(x:afC):ah (afC⊕(((af×af)×((aa aD)×af))⊕Empty)):=letI C:=x.1.1;letI D:=x.1.2.2.1;letI L:=(C,(),(W6 (D+1)),());bif D<(C.pending.length:Int)then xI C.pending D λE=>(BB C E.au).bind λT=>bif (!T)then if 0 <= (0:Int)/\0 <= D/\D <= (C.pending.length:Int)then (D6 ((C.pending.take D.toNat).drop (0:Int).toNat) E.au).bind λU=>bif (!U)then (D4 C (⟨1,E.au,E.row,0⟩:aD)).bind λO=>bif bD (x.2.1.length+([O]:aa aD).length)then xG (L,((x.2.1++([O]:aa aD)),()))else none else xG (L,(x.2.1,()))else none else xG (L,(x.2.1,()))else aq (((),()),(x.2.1,()))
def asC:KY 72 (aN f311):=⟨2,lB 2 ⟨[(0,.fp .cx 0),(3,.lf (.own 7)),(5,tI)],NX,[]⟩ [(4,⟨sk,NX,[]⟩)] Iz,lp [OL,W2,W3]⟩
def OM(D:av):ah ((aa aD)):=aW Iy ((D,(),0,()),(([]:aa aD),())) λC=>aW Iz ((C.1.1,(),0,()),(C.2.1,())) λE=>some E.2.1
def asD:=bJ [(false,.jK)] [(false,(.sl .Command),2)] (bu OM) 72 [] [asA,asC] func311
def yO(D:bV)(C:aF)(L:Bool):ah (aD):=letI E:=some (⟨1,C.au,C.row,0⟩:aD);(ck C.au 0 (W6 ((D.ay.length:Int)-1))).bind λO=>bif (!O)then E else xI D.ay C.au λT=>bif (!T.open_)then E else xI D.ay C.au λU=>bif (U.row != C.row)then some (⟨4,C.au,0,0⟩:aD)else bif L then some (⟨3,C.au,0,C.bG⟩:aD)else some (⟨2,C.au,0,C.bG⟩:aD)
def W4:=aJ [(true,.gG),(true,.Addr),(false,.bool)] DJ (eZ yO) 54 [dS] func315
def ON(C:aP)(E:iF)(L:Int):ah (aF×Bool):=letI u6:=some ((⟨0,0,0⟩:aF),false);letI T:=L.tmod C.aO;letI O:=W6 (L.tdiv C.aO);letI U:=O.tmod C.rows;(DO E).bind λy1=>bif (!y1)then u6 else (sq C).bind λy2=>(ck L 0 (W6 (y2-1))).bind λy3=>bif (!y3)then u6 else (oD C).bind λD=>letI Y:=W6 (O.tdiv D);letI Z:=W6 (L.tdiv D);letI u1:=W6 (Z.tdiv C.aO);bif (E.order==0)then if C.aO=0 then none else if C.aO=0 then none else if D=0 then none else if C.aO=0 then none else if D=0 then none else bif E.hash then if D=0 then none else some ((⟨((W6 ((O.tmod D)+Y)).tmod D),Y,T⟩:aF),true)else some ((⟨(O.tmod D),Y,T⟩:aF),true)else bif (E.order==1)then if D=0 then none else if D=0 then none else if C.aO=0 then none else if D=0 then none else if C.aO=0 then none else bif E.hash then if D=0 then none else some ((⟨((W6 ((L.tmod D)+u1)).tmod D),u1,(Z.tmod C.aO)⟩:aF),true)else some ((⟨(L.tmod D),u1,(Z.tmod C.aO)⟩:aF),true)else if C.aO=0 then none else if C.aO=0 then none else if C.rows=0 then none else if C.aO=0 then none else if C.rows=0 then none else bif E.hash then if D=0 then none else some ((⟨((W6 ((W6 (O.tdiv C.rows))+U)).tmod D),U,T⟩:aF),true)else some ((⟨(W6 (O.tdiv C.rows)),U,T⟩:aF),true)
def asE:=aJ [(true,.en),(true,.lZ),(false,.int)] Wz (eZ ON) 94 [dS,Oj,nM,aeC] func406
def wz(C:av)(L:Int):ah (aF):=letI E:=W6 (C.config.aB.rows-C.config.bT);(ON (⟨C.config.aB.cg,C.config.aB.ay,E,C.config.aB.aO⟩:aP) C.config.mapping L).bind λD=>xI C.spare.map (W6 ((W6 (D.1.au*E))+D.1.row)) λO=>some (⟨D.1.au,O,D.1.bG⟩:aF)
def OO:gI:=fV [(false,.jK),(false,.int)] [(true,.Addr,0)] (λx=>wz x.1 x.2.1)
def W5:enters Tryz.prog 316/\gu Tryz.prog 316 OO:=kp 50 [asE] func316
abbrev afD:=((av×af×Int×af)×((aa aF)×af))
def IA(x:afD):ah (afD⊕(((af×af)×((aa aF)×af))⊕Empty)):=bif x.1.2.2.1<(x.1.1.queue.length:Int)then xI x.1.1.queue x.1.2.2.1 λD=>(wz x.1.1 D.line).bind λC=>bif bD (x.2.1.length+([C]:aa aF).length)then xG ((x.1.1,(),(W6 (x.1.2.2.1+1)),()),((x.2.1++([C]:aa aF)),()))else none else aq (((),()),(x.2.1,()))
def asF:KY 29 (aN f396):=⟨0,lB 0 ⟨[(0,.fp .cx 0),(3,.lf (.own 5)),(4,tI)],[(5,.sl .Addr 2)],[]⟩ [(2,⟨[(3,.lf (.own 5))],[(5,.sl .Addr 2)],[]⟩)] IA,lp [⟨316,.p OO,W5⟩]⟩
def IB(C:av):ah ((aa aF)):=aW IA ((C,(),0,()),(([]:aa aF),())) λD=>some D.2.1
def afE:=bJ [(false,.jK)] [(false,(.sl .Addr),2)] (bu IB) 29 [] [asF] func396
abbrev afF:=(((aa bk)×Int×Int×af)×(af))
def D7(x:afF):ah (afF⊕(((Bool×af)×(af))⊕(((af)×(af))⊕Empty))):=letI C:=x.1.2;bif C.2.1<C.1 then bif C.1<(x.1.1.length:Int)then xI x.1.1 C.2.1 λD=>xI x.1.1 C.1 λE=>bif (D.line==E.line)then aq ((true,()),())else xG ((x.1.1,C.1,(W6 (C.2.1+1)),()),())else aM ((),())else aM ((),())
def asG:KY 28 (aN f447):=⟨0,lB 0 Wt [(1,fJ),(2,eC)] D7,lp []⟩
def IC(C:aa bk)(D:Int):ah (Bool):=br D7 ((C,D,0,()),()) (λE=>some E.1.1) λL=>some false
def afG:=bJ DH bH (aY IC) 28 [] [asG] func447
def OP(C:fI)(D:Int)(E:Bool):ah (Bool):=(Bi C).bind λL=>bif (!L)then some false else bif E then bif C.on then some true else some (D<1)else some (!C.on)
def asH:=aJ [(true,.jy),(false,.int),(false,.bool)] bH (eZ OP) 20 [Oe] func448
abbrev afH:=((av×Int×Int×Int×af)×(af))
def ID(x:afH):ah (afH⊕(((av×Int×Int×af)×(af))⊕Empty)):=letI D:=x.1.1;letI C:=x.1.2.2;letI E:=W6 (C.2.1+1);bif C.2.1<(D.queue.length:Int)then (IC D.queue C.2.1).bind λL=>bif L then xG ((D,x.1.2.1,C.1,E,()),())else xI D.queue C.2.1 λO=>bif O.write then xG ((D,x.1.2.1,(W6 (C.1+1)),E,()),())else xG ((D,(W6 (x.1.2.1+1)),C.1,E,()),())else aq ((D,x.1.2.1,C.1,()),())
def asJ:KY 82 (aN f397):=⟨0,lB 0 ⟨[(0,.fp .cx 0),(3,tI),(4,tI),(5,tI)],[],[]⟩ [(2,⟨[(0,.fp .cx 0),(3,tI),(4,tI)],[],[]⟩)] ID,lp [afG]⟩
abbrev afI:=((av×Int×Int×af×Int×af)×((aa Bool)×af))
def IE(x:afI):ah (afI⊕(((af×af)×((aa Bool)×af))⊕Empty)):=letI C:=x.2.1;letI L:=([(x.1.2.2.1==0)]:aa Bool);letI D:=x.1.2.2.2.2.1;letI E:=(x.1.1,x.1.2.1,x.1.2.2.1,(),(W6 (D+1)),());letI O:=bif bD (C.length+([false]:aa Bool).length)then xG (E,((C++([false]:aa Bool)),()))else none;bif D<(x.1.1.queue.length:Int)then xI x.1.1.queue D λT=>(IC x.1.1.queue D).bind λU=>bif (!U)then (OP x.1.1.drain x.1.2.1 T.write).bind λY=>bif Y then bif bD (C.length+([true]:aa Bool).length)then xG (E,((C++([true]:aa Bool)),()))else none else bif (!T.write)then bif bD (C.length+L.length)then xG (E,((C++L),()))else none else O else O else aq (((),()),(C,()))
def asK:KY 82 (aN f397):=⟨2,lB 2 ⟨[(0,.fp .cx 0),(3,tI),(4,tI),(6,.lf (.own 36)),(7,tI)],[(36,.sl .bool 2)],[]⟩ [(4,⟨[(6,.lf (.own 36))],[(36,.sl .bool 2)],[]⟩)] IE,lp [afG,asH]⟩
def OQ(D:av):ah ((aa Bool)):=aW ID ((D,0,0,0,()),()) λC=>aW IE ((C.1.1,C.1.2.1,C.1.2.2.1,(),0,()),(([]:aa Bool),())) λE=>some E.2.1
def asM:=bJ [(false,.jK)] [(false,(.sl .bool),2)] (bu OQ) 82 [] [asJ,asK] func397
def OR(C:bV)(D:Int):ah (Int):=(ck D 0 (W6 ((C.ay.length:Int)-1))).bind λE=>bif (!E)then some (-1)else xI C.ay D λL=>bif (!L.open_)then some (-1)else xI C.ay D λO=>some O.row
def asN:=aJ NT bS (aY OR) 27 [dS] func449
def IF(D:bV)(C:aF):ah (Bool):=(OR D C.au).bind λE=>bif (E==C.row)then (OR D C.au).bind λL=>some (L != (-1))else some false
def afJ:=aJ [(true,.gG),(true,.Addr)] bH (aY IF) 19 [asN] func399
abbrev afK:=((av×(aa aF)×(aa Bool)×af×Int×af)×((Int×Int×Int×af)×af))
def D8(x:afK):ah (afK⊕(((Bool×af)×(af))⊕(((af)×(af))⊕Empty))):=letI C:=x.1.2;letI D:=C.2.2.2.1;letI E:=xG ((x.1.1,C.1,C.2.1,(),(W6 (D+1)),()),(x.2.1,()));bif D<(C.1.length:Int)then xI C.2.1 D λL=>bif L then xI C.1 D λO=>bif (O.au==x.2.1.1)then xI C.1 D λT=>(IF x.1.1.aX T).bind λU=>bif U then aq ((false,()),())else E else E else E else aM ((),())
def asO:KY 120 (aN f398):=⟨0,lB 0 ⟨[(0,.fp .cx 0),(1,.lf (.aC .Addr 0)),(2,.lf (.aC .bool 0)),(9,.aG 9 0),(12,tI)],[(9,.az NS)],[]⟩ [(1,⟨[(8,tB)],[],[]⟩),(2,eC)] D8,lp [afJ]⟩
def OS(C:av)(O:aa aF)(T:aa Bool)(E:Int):ah (Bool):=xI O E λD=>(let U:Bool -> ah (Bool):=λj6=>bif j6 then some false else xI C.queue E λe9=>(yO C.aX D e9.write).bind λL=>(Bz C L).bind λdQ=>bif (!dQ)then some false else (let Y:Bool -> ah (Bool):=λIG=>(let Z:Bool -> ah (Bool):=λBy=>bif By then some false else (let sy:Bool -> ah (Bool):=λII=>bif II then some true else br D8 ((C,O,T,(),0,()),((D.au,D.row,D.bG,()),())) (λW7=>some W7.1.1) (λz28=>some true);bif (L.kind != 4)then (sy true)else xI C.queue E λIJ=>(sy (decide ((W6 (C.now-IJ.at_)) >= C.box.bz.cap))));bif IG then (D6 C.pending D.au).bind λfX=>(Z fX)else (Z false));bif (L.kind==1)then (Y true)else (Y (L.kind==4)));xI T E λe4=>bif (!e4)then (U true)else (BB C D.au).bind λy5=>(U y5))
def asP:=bJ [(false,.jK),(false,(.sl .Addr)),(false,(.sl .bool)),(false,.int)] bH (qM OS) 120 [OJ,W4,OL,W3] [asO] func398
abbrev afL:=(((aa bM)×(aa Bool)×Int×Int×af)×(af))
def afM(x:afL):ah (afL⊕(((Int×af)×(af))⊕Empty)):=letI D:=x.1.2.2.1;letI C:=x.1.2.2.2.1;letI E:=xG ((x.1.1,x.1.2.1,C,(W6 (C+1)),()),());letI L:=xG ((x.1.1,x.1.2.1,D,(W6 (C+1)),()),());bif C<(x.1.1.length:Int)then bif C<(x.1.2.1.length:Int)then xI x.1.2.1 C λO=>bif O then bif D<0 then E else xI x.1.1 C λT=>xI x.1.1 D λU=>bif T.dU > U.dU then E else L else L else aq ((D,()),())else aq ((D,()),())
def asQ:KY 42 (aN f450):=⟨0,lB 0 adP [(2,uk)] afM,lp []⟩
def OT(C:aa bM)(D:aa Bool):ah (Int):=aW afM ((C,D,(-1),0,()),()) λE=>some E.1.1
def asR:=bJ NQ bS (aY OT) 42 [] [asQ] func450
abbrev afN:=(((aa Bool)×af×Int×af)×((aa bM)×af))
def D9(x:afN):ah (afN⊕((((aa Bool)×af×af)×((aa bM)×af))⊕Empty)):=letI C:=x.1.2.2.1;bif C<(x.2.1.length:Int)then xL x.2.1 C λD=>xL x.2.1 C λE=>xG ((x.1.1,(),(W6 (C+1)),()),((x.2.1.set C.toNat (⟨E.weight,D.weight⟩:bM)),()))else aq ((x.1.1,(),()),(x.2.1,()))
def asT:KY 58 (aN f400):=⟨0,lB 0 ⟨[(1,.lf (.aC .bool 0)),(6,.lf (.own 9)),(8,tI)],[(9,.sl .dz 2)],[]⟩ [(2,adW)] D9,lp []⟩
def IK(O:aa bM)(T:aa Bool):ah ((aa bM)×Int):=letI C:=xA O;bif xZ O then (DP O).bind λU=>bif (!U)then some (C,(-1))else (OT C T).bind λD=>bif D<0 then some (C,(-1))else xC C D (if Y:D.toNat<C.length then (let Z:=C[D.toNat]'Y;bif (Z.dU==0)then aW D9 ((T,(),0,()),(C,())) λE=>(OT E.2.1 E.1.1).bind λL=>xL E.2.1 L λpP=>xL E.2.1 L λIL=>some ((E.2.1.set L.toNat (⟨IL.weight,(W6 (pP.dU-1))⟩:bM)),L)else xC C D (if wA:D.toNat<C.length then (let W8:=C[D.toNat]'wA;xC C D (if OU:D.toNat<C.length then (let uv:=C[D.toNat]'OU;some ((C.set D.toNat (⟨uv.weight,(W6 (W8.dU-1))⟩:bM)),D))else none))else none))else none)else none
def afO:=bJ NQ [(false,(.sl .dz),2),(false,.int,0)] (aY IK) 58 [WQ,asR] [asT] func400
end Go.Proofs.YtnilicojgkhpnaaGreat
