/-
  Functions of the program as plain functions of contents, and that the code computes them. Nothing here is a claim.
-/
import Derived.Test.YtglnbhiaknohlaaGreatVZ
import Derived.Test.YtglnbhiaknohlaaGreatRows
import Derived.Test.YtglnbhiaknohlaaGreatG1
import Derived.Test.YtglnbhiaknohlaaGreatG2
namespace Go.Proofs.YtglnbhiaknohlaaGreat
set_option linter.defProp false
open Go.RowKit Go.Proofs.Tryz
set_option linter.unusedVariables false
set_option maxRecDepth 100000
def ark:bJ:=⟨[(2,.aG 20000 50),(4,tI),(5,.aG 5 0),(10,tI),(11,tI)],[(5,.aB fE)],lO⟩
def arl:aa (Nat×bJ):=[(2,⟨[(2,.aG 20000 50),(4,tI),(5,.aG 5 0),(10,tI)],[(5,.aB fE)],lO⟩)]
abbrev aeX:=((af×Int×af×Int×Int×af)×(av×(Int×Int×Int×Int×af)×af))
def Ag(x:aeX):aj (aeX⊕(((af×Int×af×Int×af)×(av×(Int×Int×Int×Int×af)×af))⊕Empty)):=letI J:=(1:Int);letI L:=(0:Int);letI E:=x.1.2.2.2;letI D:=x.2.1;letI C:=W6 ((W6 (E.1*x.2.2.1.2.2.2.1))+E.2.1);bif E.2.1<x.2.2.1.2.2.2.1 then xL D.array.cells C λe4=>xM D.array.cells C λT=>xC T.symbols L (xM D.array.cells C λU=>xM U.symbols L λY=>xM D.array.cells C λZ=>xC Z.symbols L (xM D.array.cells C λO=>xM O.symbols L λJw=>xM D.array.cells C λXA=>letI I:=D.array.cells.set C.toNat (⟨(O.symbols.set L.toNat (bits .xor .i64 Y 5)),XA.iX⟩:bZ);xM I C λXB=>xC XB.symbols J (xM I C λxB=>xM xB.symbols J λvE=>xM I C λAh=>xC Ah.symbols J (xM I C λQ=>xM Q.symbols J λe34=>xM I C λPo=>xG (((),x.1.2.1,(),E.1,(W6 (E.2.1+1)),()),({D with array:=⟨(I.set C.toNat (⟨(Q.symbols.set J.toNat (bits .xor .i64 vE 10)),Po.iX⟩:bZ)),D.array.bC,D.array.bz⟩},x.2.2.1,()))))))else aA (((),x.1.2.1,(),E.1,()),(D,x.2.2.1,()))
def arn:KY 110 (bk f260):=⟨0,lB 0 ark arl Ag,lp []⟩
def Jx(C:aO)(x1:lz)(Q:av)(x3 T:Int):aj ((af)×(av×af)):=letI U:=W6 ((W6 (x3*C.rows))+T);(let k65:av -> Int -> Int -> Int -> Int -> Int -> Int -> aj ((af)×(av×af)):=λD j39 E j41 j42 j43 j44=>letI Y:=W6 (E-1);letI Z:=W6 (E+1);letI u3:=D.array.bC.set E.toNat (0:Int);letI I:=D.array.bz.set E.toNat (0:Int);xL D.array.bC E λe47=>xL D.array.bz E λe50=>(let k64:(aa Int) -> aj ((af)×(av×af)):=λJ=>bif j39<(W6 (j43-1))then xL J Z λe60=>letI u6:=W6 (e60+1);xL J Z λe63=>some ((),({D with array:=⟨D.array.cells,u3,(J.set Z.toNat (if 100000<u6 then 100000 else u6))⟩},()))else some ((),({D with array:=⟨D.array.cells,u3,J⟩},()));bif j39 > 0 then xL I Y λe53=>letI u8:=W6 (e53+1);xL I Y λXC=>(k64 (I.set Y.toNat (if 100000<u8 then 100000 else u8)))else (k64 I));letI u1:=k65 Q T U C.cq C.aC C.rows C.aN;(Jq C x1 Q.array U).bind λy1=>bif y1 then bw Ag (((),T,(),U,0,()),(Q,(C.cq,C.aC,C.rows,C.aN,()),())) λL=>letI O:=L.2.2.1;(k65 L.2.1 L.1.2.1 L.1.2.2.2.1 O.1 O.2.1 O.2.2.1 O.2.2.2.1)else u1)
def aeY:=oH adP [] (IE Jx) 110 [ara] [arn] func260
def aro:bJ:=⟨[(0,.aG 20000 0),(3,.aG 3 0),(7,tB),(8,.lf (.own 1000000000195000)),(9,tI)],[(3,.aB fE),(1000000000195000,.sl .int 2)],OF⟩
def arp:aa (Nat×bJ):=[(2,Xh)]
abbrev aeZ:=((af×af×Bool×af×Int×af)×(av×(Int×Int×Int×Int×af)×(aa Int)×af))
def uq(x:aeZ):aj (aeZ⊕(((af)×(av×af))⊕Empty)):=letI D:=x.2.2.2.1;letI E:=x.1.2.2.2.2.1;letI J:=((),(),x.1.2.2.1,(),(W6 (E+1)),());letI C:=x.2.1;bif E<(D.length:Int)then bif x.1.2.2.1 then xL D E λL=>letI I:=(⟨x.2.2.1.2.1,L,0⟩:aL);(Jp C.pending I).bind λO=>bif O<0 then bif bD (C.pending.length+([I]:aa aL).length)then xG (J,({C with pending:=(C.pending++([I]:aa aL))},x.2.2.1,D,()))else none else xG (J,(C,x.2.2.1,D,()))else aA ((),(C,()))else aA ((),(C,()))
def ae0:KY 129 (bk f176):=⟨0,lB 0 aro arp uq,lp [aeR]⟩
def Pp(J:av)(C:aH):aj ((af)×(av×af)):=letI Q:=Xz J.config.ay.rows C.row;letI T:=(C.kind,C.ax,C.row,C.bR,());(Jx J.config.ay J.config.dH J C.ax C.row).bind λy1=>letI D:=y1.2.1;letI E:=(D.pending.length:Int);(Jp D.pending (⟨C.ax,C.row,0⟩:aL)).bind λI=>letI L:=W6 (I+1);letI U:=(D.pending.take (E.toNat)).drop (L.toNat);letI O:=(D.pending.take I.toNat).drop ((0:Int).toNat);bif I >= 0 then if 0 <= (0:Int)/\0 <= I/\I <= E then if 0 <= L/\L <= E/\E <= E then bif xZ O then bif bD ((xA O).length+U.length)then xL D.bK C.ax λe5=>xL D.guard C.ax λe8=>xM D.bK C.ax λXD=>xM D.bK C.ax λPr=>(Jv (⟨XD.rows,Pr.counts,e5.c7⟩:cx) C.row e8).bind λY=>xL D.bK C.ax λCn=>Q.bind λkT=>bw uq (((),(),Y.2,(),0,()),({D with bK:=(D.bK.set C.ax.toNat Y.1),pending:=((xA O)++U)},T,kT,())) λJy=>some ((),(Jy.2.1,()))else none else none else none else none else xL D.bK C.ax λxB=>xL D.guard C.ax λXE=>xM D.bK C.ax λAh=>xM D.bK C.ax λe32=>(Jv (⟨Ah.rows,e32.counts,xB.c7⟩:cx) C.row XE).bind λZ=>xL D.bK C.ax λPo=>Q.bind λJz=>bw uq (((),(),Z.2,(),0,()),({D with bK:=(D.bK.set C.ax.toNat Z.1)},T,Jz,())) λz42=>some ((),(z42.2.1,()))
def arq:=oH [.p .cV 4 0,.v true .Command] [] (bY Pp) 129 [aeR,aeY,ari,arj] [ae0,ae0] func176
def ars:bJ:=⟨[(2,.aG 20000 50),(3,tI),(4,.aG 4 0),(5,.aG 5 0),(8,tI)],[(4,.aB fE),(5,.aB [.int .i64,.int .i64])],lO⟩
def art:aa (Nat×bJ):=[(2,EG)]
abbrev ae1:=((af×Int×af×af×Int×af)×(av×(Int×Int×Int×Int×af)×(Int×Int×af)×af))
def JA(x:ae1):aj (ae1⊕(((af)×(av×af))⊕Empty)):=letI D:=x.1.2.2.2.2.1;letI C:=x.2.2.1;bif D<C.2.2.1 then (Jx (⟨C.1,C.2.1,C.2.2.1,C.2.2.2.1⟩:aO) (⟨x.2.2.2.1.1,x.2.2.2.1.2.1⟩:lz) x.2.1 x.1.2.1 D).bind λE=>xG (((),x.1.2.1,(),(),(W6 (D+1)),()),(E.2.1,C,x.2.2.2.1,()))else aA ((),(x.2.1,()))
def aru:KY 21 (bk f263):=⟨0,lB 0 ars art JA,lp [aeY]⟩
def Pu(C:aO)(D:lz)(E:av)(I:Int):aj ((af)×(av×af)):=bw JA (((),I,(),(),0,()),(E,(C.cq,C.aC,C.rows,C.aN,()),(D.bC,D.bz,()),())) λJ=>some ((),(J.2.1,()))
def arv:=oH [.v true .fR,.v true .sy,.p .cV 4 50,.v false .int] [] (oI Pu) 21 [] [aru] func263
abbrev ae2:=((af×Int×af×Int×af)×(av×(aa aL)×af))
def EV(x:ae2):aj (ae2⊕(((af×af×af)×(av×(aa aL)×af))⊕Empty)):=letI C:=x.1.2.2.2.1;letI D:=((),x.1.2.1,(),(W6 (C+1)),());bif C<(x.2.1.pending.length:Int)then xL x.2.1.pending C λI=>bif (I.ax != x.1.2.1)then xL x.2.1.pending C λE=>bif bD (x.2.2.1.length+([E]:aa aL).length)then xG (D,(x.2.1,(x.2.2.1++([E]:aa aL)),()))else none else xG (D,(x.2.1,x.2.2.1,()))else aA (((),(),()),(x.2.1,x.2.2.1,()))
def arw:KY 82 (bk f177):=⟨0,lB 0 ⟨[(0,.aG 20000 0),(1,tI),(4,.lf (.own 48)),(5,tI)],[(48,.sl .Addr 2)],lO⟩ [(2,⟨[(0,.aG 20000 0),(4,.lf (.own 48))],[(48,.sl .Addr 2)],lO⟩)] EV,lp []⟩
def JB(C:av)(E:Int):aj ((af)×(av×af)):=(Pu C.config.ay C.config.dH (⟨C.config,C.box,C.now,C.aY,C.ready,C.array,C.spare,C.aQ,C.bK,C.guard,C.pending,C.queue,C.shares,C.drain,C.bh,C.cU,C.errors,C.trace,C.cy⟩:av) E).bind λJ=>letI D:=J.2.1;(EP D.config.hD).bind λL=>xL D.bK E λQ=>xL D.guard E λT=>bw EV (((),E,(),0,()),({D with bK:=(D.bK.set E.toNat L.1),guard:=(D.guard.set E.toNat D.box.bU.eK)},([]:aa aL),())) λI=>letI O:=I.2.1;some ((),({O with pending:=I.2.2.1},()))
def ae3:=oH IL [] (bY JB) 82 [arv,aez] [arw] func177
abbrev ae4:=((af×Int×af)×(((aa Int)×Int×Bool×af)×af))
def JC(x:ae4):aj (ae4⊕(((Bool×af)×(af))⊕(((af×af)×(((aa Int)×Int×Bool×af)×af))⊕Empty))):=bif x.1.2.1<(x.2.1.1.length:Int)then xI x.2.1.1 x.1.2.1 λC=>(cN C (-2) 5).bind λD=>bif (!D)then aA ((false,()),())else xG (((),(W6 (x.1.2.1+1)),()),(x.2.1,()))else bq (((),()),(x.2.1,()))
def arx:KY 27 (bk f163):=⟨0,lB 0 ⟨[(1,.aG 1 0),(3,tI)],[(1,.aB B9)],[]⟩ [(1,qP),(2,ad5)] JC,lp [fj]⟩
def Co(C:cZ):aj (Bool):=cc JC (((),0,()),((C.aJ,C.wait,C.dN,()),())) (λE=>some E.1.1) λD=>(cN (D.2.1.1.length:Int) 1 8).bind λI=>bif I then (cN D.2.1.2.1 1 10000).bind λJ=>some J else some false
def Pv:=cw EH cB (bS Co) 27 [fj] [arx] func163
def Pw(C:cZ)(D:Int):aj (cZ×Bool):=(Ce C).bind λE=>letI I:=some (E,false);(Co C).bind λJ=>bif (!J)then I else (cN D 0 (W6 ((C.aJ.length:Int)-1))).bind λL=>bif (!L)then I else xI C.aJ D λO=>bif O <= (-2)then I else xI C.aJ D λQ=>xL E.aJ D λT=>some ((⟨(E.aJ.set D.toNat (W6 (Q-1))),E.wait,E.dN⟩:cZ),true)
def ary:=bA Xf [(true,.lE,2),(false,.bool,0)] (bY Pw) 41 [fj,Xl,Pv] func178
def Px(C:aa aX)(O:Int):aj ((aa aX)×Bool):=letI D:=(C.length:Int);(Ja C O).bind λE=>letI I:=W6 (E+1);letI L:=(C.take D.toNat).drop I.toNat;letI J:=(C.take E.toNat).drop (0:Int).toNat;bif E<0 then bif xZ C then some ((xA C),false)else none else if 0 <= (0:Int)/\0 <= E/\E <= D then bif xZ J then if 0 <= I/\I <= D/\D <= D then bif bD ((xA J).length+L.length)then some (((xA J)++L),true)else none else none else none else none
def arz:=bA OI [(false,(.sl .dD),2),(false,.bool,0)] (bY Px) 27 [aeF] func266
abbrev ae5:=(((aa cz)×(aa Bool)×Int×Int×af)×(af))
def ae6(x:ae5):aj (ae5⊕(((Int×af)×(af))⊕Empty)):=letI D:=x.1.2.2.1;letI C:=x.1.2.2.2.1;letI E:=xG ((x.1.1,x.1.2.1,C,(W6 (C+1)),()),());letI I:=xG ((x.1.1,x.1.2.1,D,(W6 (C+1)),()),());bif C<(x.1.1.length:Int)then bif C<(x.1.2.1.length:Int)then xI x.1.2.1 C λJ=>bif J then bif D<0 then E else xI x.1.1 C λL=>xI x.1.1 D λO=>bif L.fL > O.fL then E else I else I else aA ((D,()),())else aA ((D,()),())
def arB:KY 42 (bk f325):=⟨0,lB 0 adF [(2,vC)] ae6,lp []⟩
def Py(C:aa cz)(D:aa Bool):aj (Int):=bw ae6 ((C,D,(-1),0,()),()) λE=>some E.1.1
def arC:=cw OH dO (bY Py) 42 [] [arB] func325
abbrev ae7:=(((aa Bool)×af×Int×af)×((aa cz)×af))
def EW(x:ae7):aj (ae7⊕((((aa Bool)×af×af)×((aa cz)×af))⊕Empty)):=letI C:=x.1.2.2.1;bif C<(x.2.1.length:Int)then xL x.2.1 C λD=>xL x.2.1 C λE=>xG ((x.1.1,(),(W6 (C+1)),()),((x.2.1.set C.toNat (⟨E.weight,D.weight⟩:cz)),()))else aA ((x.1.1,(),()),(x.2.1,()))
def arD:KY 58 (bk f267):=⟨0,lB 0 ⟨[(1,.lf (.aF .bool 0)),(6,.lf (.own 9)),(8,tI)],[(9,.sl .gj 2)],[]⟩ [(2,adN)] EW,lp []⟩
def JD(J:aa cz)(L:aa Bool):aj ((aa cz)×Int):=letI C:=xA J;bif xZ J then (I1 J).bind λO=>bif (!O)then some (C,(-1))else (Py C L).bind λD=>bif D<0 then some (C,(-1))else xC C D (if Q:D.toNat<C.length then (let T:=C[D.toNat]'Q;bif (T.fL==0)then bw EW ((L,(),0,()),(C,())) λE=>(Py E.2.1 E.1.1).bind λI=>xL E.2.1 I λU=>xL E.2.1 I λY=>some ((E.2.1.set I.toNat (⟨Y.weight,(W6 (U.fL-1))⟩:cz)),I)else xC C D (if Z:D.toNat<C.length then (let XF:=C[D.toNat]'Z;xC C D (if yP:D.toNat<C.length then (let xB:=C[D.toNat]'yP;some ((C.set D.toNat (⟨xB.weight,(W6 (XF.fL-1))⟩:cz)),D))else none))else none))else none)else none
def ae8:=cw OH [(false,(.sl .gj),2),(false,.int,0)] (bY JD) 58 [aet,arC] [arD] func267
def xD(C:Int):aj (Bool):=(cN C 0 15).bind λD=>some D
def Pz:=bA lP cB (bS xD) 5 [fj] func283
abbrev ae9:=(((aa Int)×Int×Int×af)×(af))
def xE(x:ae9):aj (ae9⊕(((Bool×af)×(af))⊕((((aa Int)×Int×af)×(af))⊕Empty))):=bif x.1.2.2.1<(x.1.1.length:Int)then xI x.1.1 x.1.2.2.1 λC=>(xD C).bind λD=>bif (!D)then aA ((false,()),())else xG ((x.1.1,x.1.2.1,(W6 (x.1.2.2.1+1)),()),())else bq ((x.1.1,x.1.2.1,()),())
def arE:KY 22 (bk f246):=⟨0,lB 0 adS [(1,mI),(2,adZ)] xE,lp [Pz]⟩
def vF(D:aa Int)(E:Int):aj (Bool):=cc xE ((D,E,0,()),()) (λI=>some I.1.1) λC=>some ((C.1.1.length:Int)==C.1.2.1)
def JE:=cw EF cB (bY vF) 22 [] [arE] func246
abbrev afa:=((Int×Int×Int×Int×af)×(af))
def afb(x:afa):aj (afa⊕(((Int×af)×(af))⊕Empty)):=letI C:=x.1.2;letI D:=C.2.2.1;letI E:=min (IntKind.u64.wrap D).toNat IntKind.i64.bits;bif D<4 then if (IntKind.u64.wrap D)<0 then none else bif ((bits .and .i64 (C.1.fdiv (2 ^ E)) 1)==1)then if (IntKind.u64.wrap D)<0 then none else xG ((x.1.1,C.1,(bits .xor .i64 C.2.1 (W6 (x.1.1*2 ^ E))),(W6 (D+1)),()),())else xG ((x.1.1,C.1,C.2.1,(W6 (D+1)),()),())else aA ((C.2.1,()),())
def arF:KY 49 (bk f348):=⟨0,lB 0 W0 [(2,vC)] afb,lp []⟩
abbrev afc:=((Int×Int×af)×(af))
def afd(x:afc):aj (afc⊕(((Int×af)×(af))⊕Empty)):=letI C:=x.1.2.1;bif C >= 4 then if (IntKind.u64.wrap C)<0 then none else bif ((bits .and .i64 (x.1.1.fdiv (2 ^ (min (IntKind.u64.wrap C).toNat IntKind.i64.bits))) 1)==1)then if (IntKind.u64.wrap (W6 (C-4)))<0 then none else xG (((bits .xor .i64 x.1.1 (W6 ((19:Int)*2 ^ (min (IntKind.u64.wrap (W6 (C-4))).toNat IntKind.i64.bits)))),(W6 (C-1)),()),())else xG ((x.1.1,(W6 (C-1)),()),())else aA ((x.1.1,()),())
def arG:KY 49 (bk f348):=⟨2,lB 2 ⟨[(5,tI),(7,tI)],[],[]⟩ [(4,vC)] afd,lp []⟩
def ur(C D:Int):aj (Int):=(xD C).bind λE=>bif (!E)then some (-1)else (xD D).bind λI=>bif (!I)then some (-1)else bw afb ((C,D,0,0,()),()) λJ=>bw afd ((J.1.1,6,()),()) λL=>some L.1.1
def JF:=cw Ca dO (bY ur) 49 [Pz] [arF,arG] func348
abbrev afe:=((Int×Int×Int×Int×af)×(af))
def aff(x:afe):aj (afe⊕(((Int×af)×(af))⊕Empty)):=bif x.1.2.2.2.1<x.1.2.1 then (ur x.1.2.2.1 x.1.1).bind λC=>xG ((x.1.1,x.1.2.1,C,(W6 (x.1.2.2.2.1+1)),()),())else aA ((x.1.2.2.1,()),())
def arH:KY 24 (bk f349):=⟨0,lB 0 W0 [(2,vC)] aff,lp [JF]⟩
def EX(C D:Int):aj (Int):=(xD C).bind λE=>bif (!E)then some (-1)else (cN D 0 1000).bind λI=>bif (!I)then some (-1)else bw aff ((C,D,1,0,()),()) λJ=>some J.1.1
def XG:=cw Ca dO (bY EX) 24 [fj,Pz] [arH] func349
abbrev afg:=((af×af×Int×af×Int×af)×((aa Int)×(aa Int)×(aa Int)×af))
def afh(x:afg):aj (afg⊕(((af×Int×af×af)×((aa Int)×(aa Int)×af))⊕Empty)):=letI C:=x.2.2;letI D:=x.1.2.2.2.2.1;letI E:=W6 (D+1);bif D<(C.1.length:Int)then xL C.2.1 E λJ=>xL C.1 D λL=>letI I:=C.2.1.set E.toNat (bits .xor .i64 J L);xL C.2.1 E λY=>xL I D λO=>xL C.1 D λQ=>(EX 2 x.1.2.2.1).bind λT=>(ur Q T).bind λU=>xL I D λZ=>xG (((),(),x.1.2.2.1,(),E,()),(x.2.1,C.1,(I.set D.toNat (bits .xor .i64 O U)),()))else aA (((),x.1.2.2.1,(),()),(x.2.1,C.2.1,()))
def arI:KY 116 (rZ (bk f326) 0):=⟨2,lB 2 ⟨[(3,.lf (.own 18)),(4,.lf (.own 99004)),(5,tI),(6,.lf (.own 29)),(7,tI)],[(18,.sl .int 2),(99004,.sl .int 2),(29,.sl .int 2)],[]⟩ [(4,⟨[(3,.lf (.own 18)),(5,tI),(6,.lf (.own 29))],[(18,.sl .int 2),(29,.sl .int 2)],[]⟩)] afh,lp [JF,XG]⟩
abbrev afi:=((af×af×Int×af)×((aa Int)×(aa Int)×af))
def XH(x:afi):aj (afi⊕(((af×af×af)×((aa Int)×(aa Int)×af))⊕Empty)):=letI C:=W6 ((x.2.2.1.length:Int)+1);bif x.1.2.2.1<3 then if 0 <= C/\C <= C/\C<1073741824 then bw afh (((),(),x.1.2.2.1,(),0,()),(x.2.1,x.2.2.1,(List.replicate C.toNat (0:Int)),())) λD=>xG (((),(),(W6 (D.1.2.1+1)),()),(D.2.1,D.2.2.1,()))else none else aA (((),(),()),(x.2.1,x.2.2.1,()))
def arJ:KY 116 (bk f326):=⟨0,lB 0 ⟨[(3,.lf (.own 18)),(4,.lf (.own 99004)),(5,tI)],[(18,.sl .int 2),(99004,.sl .int 2)],[]⟩ [(2,⟨[(3,.lf (.own 18)),(4,.lf (.own 99004))],[(18,.sl .int 2),(99004,.sl .int 2)],[]⟩)] XH,lq [] [arI]⟩
abbrev afj:=((af×af×af×Int×Int×Int×af)×((aa Int)×(aa Int)×(aa Int)×af))
def EY(x:afj):aj (afj⊕(((af×af×af×Int×af)×((aa Int)×(aa Int)×(aa Int)×af))⊕Empty)):=letI C:=x.2.2;letI D:=x.1.2.2.2;letI E:=D.2.2.1;letI I:=W6 ((W6 (D.1-3))+E);bif E<(C.1.length:Int)then xL C.2.1 I λJ=>xL C.1 E λL=>(ur L D.2.1).bind λO=>xL C.2.1 I λQ=>xG (((),(),(),D.1,D.2.1,(W6 (E+1)),()),(x.2.1,C.1,(C.2.1.set I.toNat (bits .xor .i64 J O)),()))else aA (((),(),(),D.1,()),(x.2.1,C.1,C.2.1,()))
def arK:KY 116 (rZ (bk f326) 4):=⟨6,lB 6 ⟨[(3,.lf (.own 18)),(4,.lf (.own 99004)),(8,.lf (.own 66)),(9,tI),(10,tI),(11,tI)],adv,[]⟩ [(8,adw)] EY,lp [JF]⟩
abbrev afk:=((af×af×af×Int×af)×((aa Int)×(aa Int)×(aa Int)×af))
def EZ(x:afk):aj (afk⊕(((af×af×af)×((aa Int)×(aa Int)×af))⊕Empty)):=letI D:=x.1.2.2.2.1;bif D >= 3 then xL x.2.2.2.1 D λE=>bw EY (((),(),(),D,E,0,()),(x.2.1,x.2.2.1,x.2.2.2.1,())) λC=>xG (((),(),(),(W6 (C.1.2.2.2.1-1)),()),(C.2.1,C.2.2.1,C.2.2.2.1,()))else aA (((),(),()),(x.2.1,x.2.2.2.1,()))
def arL:KY 116 (bk f326):=⟨4,lB 4 adw [(6,⟨[(3,.lf (.own 18)),(8,.lf (.own 66))],[(18,.sl .int 2),(66,.sl .int 2)],[]⟩)] EZ,lq [] [arK]⟩
abbrev afl:=((af×af×Int×af)×((aa Int)×(aa Int)×af))
def E0(x:afl):aj (afl⊕(((af×af)×((aa Int)×af))⊕Empty)):=letI C:=x.1.2.2.1;bif C<3 then xL x.2.2.1 C λD=>xL x.2.1 C λE=>xG (((),(),(W6 (C+1)),()),((x.2.1.set C.toNat D),x.2.2.1,()))else aA (((),()),(x.2.1,()))
def arM:KY 116 (bk f326):=⟨8,lB 8 ⟨[(3,.lf (.own 18)),(8,.lf (.own 66)),(13,tI)],[(18,.sl .int 2),(66,.sl .int 2)],[]⟩ [(10,⟨[(3,.lf (.own 18))],[(18,.sl .int 2)],[]⟩)] E0,lp []⟩
def Ai(E:aa Int):aj ((aa Int)):=letI C:=(3:Int);(vF E 8).bind λJ=>bif (!J)then some ([]:aa Int)else if 0 <= C/\C <= 3/\C<1073741824 then bif bD ((List.replicate C.toNat (0:Int)).length+E.length)then bw XH (((),(),1,()),(((List.replicate C.toNat (0:Int))++E),([1,1]:aa Int),())) λD=>bif xZ D.2.1 then bw EZ (((),(),(),(W6 (((xA D.2.1).length:Int)-1)),()),(D.2.1,D.2.2.1,(xA D.2.1),())) λI=>bw E0 (((),(),0,()),(I.2.1,I.2.2.1,())) λL=>some L.2.1 else none else none else none
def arN:=cw oJ nc (bS Ai) 116 [JE] [arJ,arL,arM] func326
abbrev afm:=((Int×af×Int×af)×((aa Int)×af))
def JG(x:afm):aj (afm⊕(((af×af)×((aa Int)×af))⊕Empty)):=letI C:=x.1.2.2.1;letI D:=aA (((),()),(x.2.1,()));letI E:=([(bits .and .i64 (x.1.1.fdiv (2 ^ (min (IntKind.u64.wrap (W6 (4*C))).toNat IntKind.i64.bits))) 15)]:aa Int);bif C<8 then (I8 x.1.1).bind λI=>bif I then if (IntKind.u64.wrap (W6 (4*C)))<0 then none else bif bD (x.2.1.length+E.length)then xG ((x.1.1,(),(W6 (C+1)),()),((x.2.1++E),()))else none else D else D
def arO:KY 24 (bk f327):=⟨0,lB 0 ⟨[(0,tI),(3,.lf (.own 5)),(4,tI)],[(5,.sl .int 2)],[]⟩ [(2,W2)] JG,lp [aeC]⟩
def PB(C:Int):aj ((aa Int)):=bw JG ((C,(),0,()),(([]:aa Int),())) λD=>some D.2.1
def arP:=cw lP nc (bS PB) 24 [] [arO] func327
def E1(C:Int):aj ((aa Int)):=(PB C).bind λD=>(Ai D).bind λE=>some E
def afn:=bA lP nc (bS E1) 6 [arN,arP] func268
abbrev afo:=(((aa Int)×af×Int×Int×Int×Int×af)×((aa Int)×af))
def E2(x:afo):aj (afo⊕((((aa Int)×af×Int×af)×((aa Int)×af))⊕Empty)):=letI C:=x.1.2.2.2;letI D:=C.2.2.1;bif D<3 then xL x.2.1 D λE=>xI x.1.1 x.1.2.2.1 λI=>(ur I C.1).bind λJ=>xL x.2.1 D λO=>(ur C.1 C.2.1).bind λL=>xG ((x.1.1,(),x.1.2.2.1,L,C.2.1,(W6 (D+1)),()),((x.2.1.set D.toNat (bits .xor .i64 E J)),()))else aA ((x.1.1,(),x.1.2.2.1,()),(x.2.1,()))
def arQ:KY 43 (rZ (bk f358) 0):=⟨2,lB 2 ⟨[(0,.lf (.aF .int 0)),(3,.lf (.own 12)),(4,tI),(5,tI),(6,tI),(7,tI)],[(12,.sl .int 2)],[]⟩ [(4,adE)] E2,lp [JF]⟩
abbrev afp:=(((aa Int)×af×Int×af)×((aa Int)×af))
def JH(x:afp):aj (afp⊕(((af×af)×((aa Int)×af))⊕Empty)):=bif x.1.2.2.1<(x.1.1.length:Int)then (EX 2 x.1.2.2.1).bind λD=>bw E2 ((x.1.1,(),x.1.2.2.1,1,D,0,()),(x.2.1,())) λC=>xG ((C.1.1,(),(W6 (C.1.2.2.1+1)),()),(C.2.1,()))else aA (((),()),(x.2.1,()))
def arR:KY 43 (bk f358):=⟨0,lB 0 adE [(2,⟨[(3,.lf (.own 12))],[(12,.sl .int 2)],[]⟩)] JH,lq [XG] [arQ]⟩
def PC(C:aa Int):aj ((aa Int)):=(vF C 11).bind λD=>bif (!D)then some ([]:aa Int)else if 0 <= (3:Int)/\(3:Int) <= 3/\(3:Int)<1073741824 then bw JH ((C,(),0,()),((List.replicate (3:Int).toNat (0:Int)),())) λE=>some E.2.1 else none
def arS:=cw oJ nc (bS PC) 43 [JE] [arR] func358
def E3(C:aa Int):aj (Bool):=xI C (0:Int) λD=>bif (D==0)then xI C (1:Int) λE=>bif (E==0)then xI C (2:Int) λI=>some (I==0)else some false else some false
def arT:=bA oJ cB (bS E3) 19 [] func359
abbrev afq:=((af×af×Int×af)×((aa Int)×(aa Int)×af))
def Cp(x:afq):aj (afq⊕(((af×Int×Int×af)×((aa Int)×af))⊕(((af×af)×((aa Int)×af))⊕Empty))):=letI C:=x.2.2.1;letI D:=x.1.2.2.1;letI E:=xG (((),(),(W6 (D+1)),()),(x.2.1,C,()));bif D<11 then (EX 2 D).bind λI=>xL C (0:Int) λJ=>bif (J != 0)then xL C (0:Int) λL=>xL C (1:Int) λO=>(ur L I).bind λQ=>bif (Q==O)then xL C (1:Int) λT=>xL C (2:Int) λU=>(ur T I).bind λY=>bif (Y==U)then xL x.2.1 D λZ=>xL C (0:Int) λvE=>xL x.2.1 D λAh=>aA (((),1,D,()),((x.2.1.set D.toNat (bits .xor .i64 Z vE)),()))else E else E else E else bq (((),()),(x.2.1,()))
def arU:KY 67 (bk f350):=⟨0,lB 0 ⟨[(5,.lf (.own 13)),(6,.lf (.own 1000000000117000)),(7,tI)],[(13,.sl .int 2),(1000000000117000,.sl .int 2)],[]⟩ [(1,⟨[(2,.lf (.own 13)),(3,tI),(4,tI)],[(13,.sl .int 2)],[]⟩),(2,⟨[(5,.lf (.own 13))],[(13,.sl .int 2)],[]⟩)] Cp,lp [JF,XG]⟩
def PD(C:aa Int):aj ((aa Int)×Int×Int):=(vF C 11).bind λI=>bif (!I)then some (([]:aa Int),2,(-1))else bif xZ C then (PC C).bind λE=>(E3 E).bind λJ=>bif J then some ((xA C),0,(-1))else cc Cp (((),(),0,()),((xA C),E,())) (λD=>some (D.2.1,D.1.2.1,D.1.2.2.1)) λL=>some (L.2.1,2,(-1))else none
def arV:=cw oJ [(false,(.sl .int),2),(false,.int,0),(false,.int,0)] (bS PD) 67 [JE,arS,arT] [arU] func350
abbrev afr:=(((aa Int)×Int×Int×af)×(af))
def JI(x:afr):aj (afr⊕(((Int×af)×(af))⊕Empty)):=letI C:=x.1.2.2.1;bif C<(x.1.1.length:Int)then xI x.1.1 C λD=>if (IntKind.u64.wrap (W6 (4*C)))<0 then none else xG ((x.1.1,(bits .or .i64 x.1.2.1 (W6 (D*2 ^ (min (IntKind.u64.wrap (W6 (4*C))).toNat IntKind.i64.bits)))),(W6 (C+1)),()),())else aA ((x.1.2.1,()),())
def arW:KY 26 (bk f351):=⟨0,lB 0 ⟨[(0,.lf (.aF .int 0)),(4,tI),(5,tI)],[],[]⟩ [(2,xl)] JI,lp []⟩
def PE(C:aa Int):aj (Int×Bool):=(vF C 8).bind λD=>bif (!D)then some (0,false)else bw JI ((C,0,0,()),()) λE=>some (E.1.1,true)
def arX:=cw oJ [(false,.int,0),(false,.bool,0)] (bS PE) 26 [JE] [arW] func351
def PF(D:aa Int):aj ((aa Int)):=letI C:=(D.length:Int);letI E:=(D.take C.toNat).drop (3:Int).toNat;(vF D 11).bind λI=>bif (!I)then some ([]:aa Int)else if 0 <= (3:Int)/\3 <= C/\C <= C then bif xZ E then some (xA E)else none else none
def arY:=bA oJ nc (bS PF) 11 [JE] func352
def PG(D:aa Int):aj (Int×Int×Int):=(PD D).bind λC=>bif (C.2.1==2)then some (0,C.2.1,C.2.2)else (PF C.1).bind λE=>(PE E).bind λI=>some (I.1,C.2.1,C.2.2)
def arZ:=bA oJ [(false,.int,0),(false,.int,0),(false,.int,0)] (bS PG) 29 [arV,arX,arY] func328
def E4(C:cv):aj (Bool):=letI D:=(cN C.times 1 999).bind λE=>some E;(cN C.line 0 1023).bind λI=>bif I then bif (C.code==1)then D else bif (C.code==2)then D else some false else some false
def afs:=bA [(true,.gK)] cB (bS E4) 21 [fj] func253
abbrev aft:=(((aa cv)×Int×Int×Int×af)×(af))
def JJ(x:aft):aj (aft⊕(((Int×af)×(af))⊕(((af)×(af))⊕Empty))):=letI C:=x.1.2.2.2.1;letI D:=xG ((x.1.1,x.1.2.1,x.1.2.2.1,(W6 (C+1)),()),());bif C<(x.1.1.length:Int)then xI x.1.1 C λE=>bif (E.line==x.1.2.1)then xI x.1.1 C λI=>bif (I.code==x.1.2.2.1)then aA ((C,()),())else D else D else bq ((),())
def ar0:KY 31 (bk f254):=⟨0,lB 0 ⟨[(0,.lf (.aF .gK 0)),(1,tI),(2,tI),(7,tI)],[],[]⟩ [(1,IN),(2,iG)] JJ,lp []⟩
def JK(C:aa cv)(D E:Int):aj (Int):=cc JJ ((C,D,E,0,()),()) (λI=>some I.1.1) λJ=>some (-1)
def afu:=cw W4 dO (fD JK) 31 [] [ar0] func254
abbrev afv:=(((aa cv)×Int×af)×(af))
def JL(x:afv):aj (afv⊕(((Bool×af)×(af))⊕(((af)×(af))⊕Empty))):=letI C:=x.1.2.1;bif C<(x.1.1.length:Int)then xI x.1.1 C λD=>(E4 D).bind λE=>bif (!E)then aA ((false,()),())else xI x.1.1 C λI=>xI x.1.1 C λJ=>(JK x.1.1 I.line J.code).bind λL=>bif (L != C)then aA ((false,()),())else xG ((x.1.1,(W6 (C+1)),()),())else bq ((),())
def ar1:KY 35 (bk f169):=⟨0,lB 0 ⟨[(0,.lf (.aF .gK 0)),(3,tI)],[],[]⟩ [(1,qP),(2,iG)] JL,lp [afs,afu]⟩
def PI(C:aa cv):aj (Bool):=bif (C.length:Int) > 6 then some false else cc JL ((C,0,()),()) (λD=>some D.1.1) λE=>some true
def ar2:=cw [(false,(.sl .gK))] cB (bS PI) 35 [] [ar1] func169
def PJ(I:aa cv)(L O:Int):aj ((aa cv)×Bool):=letI C:=xA I;letI E:=(C.length:Int);letI J:=([(⟨L,O,1⟩:cv)]:aa cv);letI Q:=(C.take (E.toNat)).drop ((1:Int).toNat);bif xZ I then (PI I).bind λY=>bif (!Y)then some (C,false)else (E4 (⟨L,O,1⟩:cv)).bind λZ=>bif (!Z)then some (C,false)else (JK I L O).bind λD=>bif D >= 0 then xC C D (if h5:D.toNat<C.length then (let e6:=C[D.toNat]'h5;letI T:=W6 (e6.times+1);xC C D (if h8:D.toNat<C.length then (let U:=C[D.toNat]'h8;some ((C.set D.toNat (⟨U.line,U.code,(if 999<T then 999 else T)⟩:cv)),true))else none))else none)else bif E >= 6 then if 0 <= (1:Int)/\1 <= E/\E <= E then bif xZ Q then bif bD ((xA Q).length+J.length)then some (((xA Q)++J),true)else none else none else none else bif bD (C.length+J.length)then some ((C++J),true)else none else none
def ar3:=bA W4 [(false,(.sl .gK),2),(false,.bool,0)] (fD PJ) 55 [ar2,afs,afu] func329
def Cq(C:av)(E D:Int):aj ((af)×(av×af)):=bif (D != 0)then (PJ C.errors E D).bind λI=>some ((),({C with errors:=I.1},()))else some ((),(C,()))
def afw:=jQ aea [] (fD Cq) 21 [ar3] func270
def Cr(C:av)(D:Int):aj ((Int×Int)×(av×af)):=xL C.array.cells D λL=>bif L.iX then some ((0,2),(C,()))else xM C.array.cells D λO=>(PG O.symbols).bind λE=>letI I:=(E.1,E.2.1);bif (E.2.1==1)then (E1 E.1).bind λQ=>xL C.array.cells D λT=>letI J:=C.array.cells.set D.toNat (⟨Q,T.iX⟩:bZ);bif (E.2.1==2)then xL J D λU=>some (I,({C with array:=⟨(J.set D.toNat (⟨U.symbols,true⟩:bZ)),C.array.bC,C.array.bz⟩},()))else some (I,({C with array:=⟨J,C.array.bC,C.array.bz⟩},()))else bif (E.2.1==2)then xL C.array.cells D λY=>some (I,({C with array:=⟨(C.array.cells.set D.toNat (⟨Y.symbols,true⟩:bZ)),C.array.bC,C.array.bz⟩},()))else some (I,(C,()))
def afx:=jQ W9 [(false,.int,0),(false,.int,0)] (bY Cr) 48 [afn,arZ] func269
def PL(C:av)(Y:Int):aj ((af)×(av×af)):=letI E:=(4:Int);xL C.queue Y λD=>letI O:=([(⟨D.id,C.now,0,0⟩:fe)]:aa fe);(xz C D.line).bind λZ=>(Ch C.config.ay Z).bind λI=>(Px C.queue D.id).bind λQ=>if 0 <= E/\E <= 4/\E<1073741824 then xL (List.replicate E.toNat false) D.dB λe9=>(JD C.shares ((List.replicate E.toNat false).set D.dB.toNat true)).bind λT=>bif D.write then (E1 D.data).bind λjR=>xL C.array.cells I λCs=>bif bD (C.cy.length+O.length)then some ((),({C with array:=⟨(C.array.cells.set I.toNat (⟨jR,false⟩:bZ)),C.array.bC,C.array.bz⟩,queue:=Q.1,shares:=T.1,cy:=(C.cy++O)},()))else none else (Cr {C with queue:=Q.1,shares:=T.1} I).bind λJ=>letI U:=([(⟨D.id,C.now,J.1.1,J.1.2⟩:fe)]:aa fe);(Cq J.2.1 I J.1.2).bind λoL=>letI L:=oL.2.1;bif bD (L.cy.length+U.length)then some ((),({L with cy:=(L.cy++U)},()))else none else none
def ar4:=jQ IL [] (bY PL) 100 [⟨173,.q Pg,Xy⟩,Xt,arz,ae8,afn,afx,afw] func179
def xF(C:eT):aj (Bool):=(cN C.state 0 2).bind λD=>bif D then (cN C.since 0 1000000).bind λE=>bif E then (cN C.idle 0 1000000).bind λI=>some I else some false else some false
def XI:=bA [(true,.Power)] cB (bS xF) 16 [fj] func168
def PN(C:eT)(E I:Int):aj (eT×Bool):=letI J:=cN I C.since 1000000;letI D:=some (C,false);letI L:=J.bind λO=>bif (!O)then D else some ((⟨0,I,C.idle⟩:eT),true);bif (E==6)then (xF C).bind λQ=>bif (!Q)then D else bif (C.state != 0)then D else J.bind λT=>bif (!T)then D else some ((⟨1,I,C.idle⟩:eT),true)else bif (E==8)then (xF C).bind λU=>bif (!U)then D else bif (C.state != 0)then D else J.bind λY=>bif (!Y)then D else some ((⟨2,I,C.idle⟩:eT),true)else bif (E==7)then (xF C).bind λZ=>bif (!Z)then D else bif (C.state != 1)then D else L else bif (E==9)then (xF C).bind λy7=>bif (!y7)then D else bif (C.state != 2)then D else L else D
def ar5:=bA [(true,.Power),(false,.int),(false,.int)] [(true,.Power,0),(false,.bool,0)] (fD PN) 42 [fj,XI] func180
def PO(C:av)(D:aH):aj ((af)×(av×af)):=letI E:=some ((),({C with aY:=⟨C.aY.aC,0⟩},()));bif (D.kind==1)then xL C.aY.aC D.ax λI=>some ((),({C with aY:=⟨(C.aY.aC.set D.ax.toNat (⟨true,D.row⟩:fC)),C.aY.bh⟩},()))else bif (D.kind==4)then xL C.aY.aC D.ax λJ=>some ((),({C with aY:=⟨(C.aY.aC.set D.ax.toNat (⟨false,0⟩:fC)),C.aY.bh⟩},()))else bif (D.kind==6)then some ((),({C with aY:=⟨C.aY.aC,1⟩},()))else bif (D.kind==8)then some ((),({C with aY:=⟨C.aY.aC,2⟩},()))else bif (D.kind==7)then bif (D.kind==7)then E else some ((),(C,()))else bif (D.kind==9)then E else some ((),(C,()))
def ar6:=jQ [.p .cV 4 46,.v true .Command] [] (bY PO) 44 [] func175
abbrev afy:=((af×Int×af)×(av×af))
def Ct(x:afy):aj (afy⊕(((af)×(av×af))⊕Empty)):=letI C:=x.1.2.1;bif C<(x.2.1.aY.aC.length:Int)then (JB x.2.1 C).bind λE=>letI D:=E.2.1;xL D.aQ.aJ C λI=>xG (((),(W6 (C+1)),()),({D with aQ:=⟨(D.aQ.aJ.set C.toNat (0:Int)),D.aQ.wait,D.aQ.dN⟩},()))else aA ((),(x.2.1,()))
def afz:KY 120 (bk f73):=⟨1,lB 1 ⟨[(0,.aG 20000 0),(7,tI)],[],OF⟩ [(3,Xh)] Ct,lp [ae3]⟩
def Aj(E:av)(C:aH)(Z:Int):aj ((af)×(av×af)):=letI L:=C.kind==9;letI O:=(⟨E.now,C⟩:fG);bif bD (E.trace.length+([O]:aa fG).length)then (Pm E.config.ay E.ready O).bind λy1=>(PO {E with ready:=y1,trace:=(E.trace++([O]:aa fG))} C).bind λy2=>letI D:=y2.2.1;(let I:av -> aj ((af)×(av×af)):=λQ=>bif L then bw Ct (((),0,()),(Q,())) λz17=>some ((),(z17.2.1,()))else some ((),(Q,()));bif (C.kind==1)then (Pp D C).bind λy3=>(I y3.2.1)else bif (C.kind==5)then (JB D C.ax).bind λy4=>letI T:=y4.2.1;(Pw T.aQ C.ax).bind λy5=>letI U:=({T with aQ:=y5.1},());bif L then bw Ct (((),0,()),U) λz23=>some ((),(z23.2.1,()))else some ((),U)else (let Y:Bool -> aj ((af)×(av×af)):=λj6=>bif j6 then (PL D Z).bind λy7=>(I y7.2.1)else (let J:Bool -> aj ((af)×(av×af)):=λj8=>bif j8 then (PN D.bh C.kind D.now).bind λy9=>(I {D with bh:=y9.1})else (I D);bif (C.kind==6)then (J (C.kind==6))else bif (C.kind==7)then (J (C.kind==7))else bif (C.kind==8)then (J (C.kind==8))else (J L));bif (C.kind==2)then (Y (C.kind==2))else (Y (C.kind==3))))else none
def ar7:=oH aeb [] (fD Aj) 120 [aq8,ar6,arq,ae3,ary,ar4,ar5] [afz,afz] func73
def PR(I:og)(C:eT)(D:Bool):aj (Int):=letI O:=decide (C.idle >= I.sleep);(let Q:Bool -> aj (Int):=λZ=>bif Z then some 0 else (let E:Bool -> aj (Int):=λj7=>bif j7 then some 7 else (let T:Bool -> aj (Int):=λj8=>bif j8 then some 9 else (let J:Bool -> aj (Int):=λj9=>bif j9 then some 8 else (let L:Bool -> aj (Int):=λCu=>bif Cu then some 6 else some 0;letI u0:=L (decide (C.idle >= I.down));bif (!D)then bif (C.state==0)then u0 else (L false)else (L false));letI u1:=J O;bif (!D)then bif (C.state==0)then u1 else (J false)else (J false));bif D then (T (C.state==2))else (T false));letI u2:=E O;(let U:Bool -> aj (Int):=λY=>bif Y then (E Y)else bif (!D)then bif (C.state==1)then u2 else (E false)else (E false);bif D then (U (C.state==1))else (U false)));(I3 I).bind λy1=>bif (!y1)then (Q true)else (xF C).bind λy2=>(Q (!y2)))
def ar8:=bA [(true,.sA),(true,.Power),(false,.bool)] dO (fD PR) 73 [XI,aev] func219
abbrev afA:=((af×af×Int×af)×(((aa Int)×Int×Bool×af)×(aa Int)×af))
def JM(x:afA):aj (afA⊕(((af×af)×((aa Int)×af))⊕Empty)):=letI C:=x.2.1;letI E:=aA (((),()),(x.2.2.1,()));letI D:=x.1.2.2.1;letI I:=((),(),(W6 (D+1)),());bif D<(C.1.length:Int)then (Co (⟨C.1,C.2.1,C.2.2.1⟩:cZ)).bind λJ=>bif J then xI C.1 D λL=>bif L >= 4 then bif bD (x.2.2.1.length+([D]:aa Int).length)then xG (I,(C,(x.2.2.1++([D]:aa Int)),()))else none else xG (I,(C,x.2.2.1,()))else E else E
def ar9:KY 28 (bk f300):=⟨0,lB 0 ⟨aeh,[(1,.aB B9),(5,.sl .int 2)],[]⟩ [(2,W2)] JM,lp [Pv]⟩
def JN(C:cZ):aj ((aa Int)):=bw JM (((),(),0,()),((C.aJ,C.wait,C.dN,()),([]:aa Int),())) λD=>some D.2.1
def afB:=cw EH nc (bS JN) 28 [] [ar9] func300
def Cv(C:av):aj (Bool):=bif (C.queue.length:Int) > 0 then some true else bif (C.pending.length:Int) > 0 then some true else (JN C.aQ).bind λD=>some ((D.length:Int) > 0)
def XJ:jx:=gD [(false,.lF)] [(false,.bool,0)] (λx=>Cv x.1)
def afC:enters Tryz.prog 220/\iZ Tryz.prog 220 XJ:=kp 26 [afB] func220
abbrev afD:=((av×(aa aH)×af×Int×af)×((Int×Int×Int×Int×af)×af))
def Cw(x:afD):aj (afD⊕(((af×Bool×af)×((Int×Int×Int×Int×af)×af))⊕(((af×af)×((Int×Int×Int×Int×af)×af))⊕Empty))):=letI C:=x.1.2.2.2.1;bif C<(x.1.2.1.length:Int)then xI x.1.2.1 C λE=>(Cj x.1.1 E).bind λI=>bif I then xI x.1.2.1 C λD=>aA (((),true,()),((D.kind,D.ax,D.row,D.bR,()),()))else xG ((x.1.1,x.1.2.1,(),(W6 (C+1)),()),(x.2.1,()))else bq (((),()),(x.2.1,()))
def asa:KY 24 (bk f221):=⟨0,lB 0 ⟨[(0,.fp .cV 0),(1,.lf (.aF .Command 0)),(4,.aG 4 0),(6,tI)],[(4,.aB fE)],[]⟩ [(1,⟨[(4,.aG 4 0),(5,tB)],[(4,.aB fE)],[]⟩),(2,⟨[(4,.aG 4 0)],[(4,.aB fE)],[]⟩)] Cw,lp [Pe]⟩
def JO(D:av)(E:aa aH):aj (aH×Bool):=cc Cw ((D,E,(),0,()),((0,0,0,0,()),())) (λC=>some ((⟨C.2.1.1,C.2.1.2.1,C.2.1.2.2.1,C.2.1.2.2.2.1⟩:aH),C.1.2.1)) λI=>some ((⟨0,0,0,0⟩:aH),false)
def asb:=cw [(false,.lF),(false,(.sl .Command))] [(true,.Command,0),(false,.bool,0)] (bY JO) 24 [] [asa] func221
def Cx(C:av)(D:Int):aj (Bool):=xI C.aQ.aJ D λE=>some (E >= 4)
def PS:=bA [(false,.lF),(false,.int)] cB (bY Cx) 14 [] func301
def E5(D:av)(C:aH):aj (aH):=xI D.aY.aC C.ax λE=>bif E.open_ then some (⟨4,C.ax,0,0⟩:aH)else some C
def XK:=bA [(false,.lF),(true,.Command)] IP (bY E5) 19 [] func302
abbrev afE:=(((aa aL)×Int×Int×af)×(af))
def E6(x:afE):aj (afE⊕(((Bool×af)×(af))⊕(((af)×(af))⊕Empty))):=bif x.1.2.2.1<(x.1.1.length:Int)then xI x.1.1 x.1.2.2.1 λC=>bif (C.ax==x.1.2.1)then aA ((true,()),())else xG ((x.1.1,x.1.2.1,(W6 (x.1.2.2.1+1)),()),())else bq ((),())
def asc:KY 19 (bk f303):=⟨0,lB 0 ⟨[(0,.lf (.aF .Addr 0)),(1,tI),(5,tI)],[],[]⟩ [(1,mI),(2,iG)] E6,lp []⟩
def E7(C:aa aL)(D:Int):aj (Bool):=cc E6 ((C,D,0,()),()) (λE=>some E.1.1) λI=>some false
def XL:=cw [(false,(.sl .Addr)),(false,.int)] cB (bY E7) 19 [] [asc] func303
abbrev afF:=((av×af×Int×af)×((aa aH)×af))
def JP(x:afF):aj (afF⊕(((av×af×af)×((aa aH)×af))⊕Empty)):=letI C:=x.1.2.2.1;letI D:=(x.1.1,(),(W6 (C+1)),());bif C<(x.1.1.aQ.aJ.length:Int)then (Cx x.1.1 C).bind λI=>bif I then (E5 x.1.1 (⟨5,C,0,0⟩:aH)).bind λE=>bif bD (x.2.1.length+([E]:aa aH).length)then xG (D,((x.2.1++([E]:aa aH)),()))else none else xG (D,(x.2.1,()))else aA ((x.1.1,(),()),(x.2.1,()))
def asd:KY 72 (bk f222):=⟨0,lB 0 ⟨[(0,.fp .cV 0),(3,.lf (.own 7)),(4,tI)],OO,[]⟩ [(2,⟨[(0,.fp .cV 0),(3,.lf (.own 7))],OO,[]⟩)] JP,lp [PS,XK]⟩
abbrev afG:=((av×af×Int×af)×((aa aH)×af))
def JQ(x:afG):aj (afG⊕(((af×af)×((aa aH)×af))⊕Empty)):=letI C:=x.1.1;letI D:=x.1.2.2.1;letI I:=(C,(),(W6 (D+1)),());bif D<(C.pending.length:Int)then xI C.pending D λE=>(Cx C E.ax).bind λL=>bif (!L)then if 0 <= (0:Int)/\0 <= D/\D <= (C.pending.length:Int)then (E7 ((C.pending.take D.toNat).drop (0:Int).toNat) E.ax).bind λO=>bif (!O)then (E5 C (⟨1,E.ax,E.row,0⟩:aH)).bind λJ=>bif bD (x.2.1.length+([J]:aa aH).length)then xG (I,((x.2.1++([J]:aa aH)),()))else none else xG (I,(x.2.1,()))else none else xG (I,(x.2.1,()))else aA (((),()),(x.2.1,()))
def ase:KY 72 (bk f222):=⟨2,lB 2 ⟨[(0,.fp .cV 0),(3,.lf (.own 7)),(5,tI)],OO,[]⟩ [(4,⟨[(3,.lf (.own 7))],OO,[]⟩)] JQ,lp [PS,XK,XL]⟩
def PT(D:av):aj ((aa aH)):=bw JP ((D,(),0,()),(([]:aa aH),())) λC=>bw JQ ((C.1.1,(),0,()),(C.2.1,())) λE=>some E.2.1
def asf:=cw [(false,.lF)] [(false,(.sl .Command),2)] (bS PT) 72 [] [asd,ase] func222
abbrev afH:=((av×af×Int×af)×((aa aL)×af))
def JR(x:afH):aj (afH⊕(((af×af)×((aa aL)×af))⊕Empty)):=bif x.1.2.2.1<(x.1.1.queue.length:Int)then xI x.1.1.queue x.1.2.2.1 λD=>(xz x.1.1 D.line).bind λC=>bif bD (x.2.1.length+([C]:aa aL).length)then xG ((x.1.1,(),(W6 (x.1.2.2.1+1)),()),((x.2.1++([C]:aa aL)),()))else none else aA (((),()),(x.2.1,()))
def asg:KY 29 (bk f304):=⟨0,lB 0 ⟨[(0,.fp .cV 0),(3,.lf (.own 5)),(4,tI)],[(5,.sl .Addr 2)],[]⟩ [(2,⟨[(3,.lf (.own 5))],[(5,.sl .Addr 2)],[]⟩)] JR,lp [⟨173,.p Pg,Xy⟩]⟩
def JS(C:av):aj ((aa aL)):=bw JR ((C,(),0,()),(([]:aa aL),())) λD=>some D.2.1
def afI:=cw [(false,.lF)] [(false,(.sl .Addr),2)] (bS JS) 29 [] [asg] func304
end Go.Proofs.YtglnbhiaknohlaaGreat
