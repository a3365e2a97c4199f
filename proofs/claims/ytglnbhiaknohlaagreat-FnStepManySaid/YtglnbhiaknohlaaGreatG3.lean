/-
  Functions of the program as plain functions of contents, and that the code computes them. Nothing here is a claim.
-/
import Derived.Test.YtglnbhiaknohlaaGreatVZ
import Derived.Test.YtglnbhiaknohlaaGreatRows
import Derived.Test.YtglnbhiaknohlaaGreatG1
import Derived.Test.YtglnbhiaknohlaaGreatG2
namespace Go.Proofs.YtglnbhiaknohlaaGreat
set_option linter.defProp false
open Go.RowKit Go.Proofs.Tryz
set_option linter.unusedVariables false
set_option maxRecDepth 100000
def arY:bJ:=⟨[(2,.aG 20000 50),(4,tI),(5,.aG 5 0),(10,tI),(11,tI)],[(5,.aB fA)],lC⟩
def arZ:aa (Nat×bJ):=[(2,⟨[(2,.aG 20000 50),(4,tI),(5,.aG 5 0),(10,tI)],[(5,.aB fA)],lC⟩)]
abbrev aff:=((af×Int×af×Int×Int×af)×(av×(Int×Int×Int×Int×af)×af))
def zW(x:aff):ah (aff⊕(((af×Int×af×Int×af)×(av×(Int×Int×Int×Int×af)×af))⊕Empty)):=letI J:=(1:Int);letI L:=(0:Int);letI E:=x.1.2.2.2;letI D:=x.2.1;letI C:=W6 ((W6 (E.1*x.2.2.1.2.2.2.1))+E.2.1);bif E.2.1<x.2.2.1.2.2.2.1 then xL D.array.cells C λe4=>xM D.array.cells C λT=>xC T.symbols L (xM D.array.cells C λU=>xM U.symbols L λY=>xM D.array.cells C λZ=>xC Z.symbols L (xM D.array.cells C λO=>xM O.symbols L λJn=>xM D.array.cells C λXR=>letI I:=D.array.cells.set C.toNat (⟨(O.symbols.set L.toNat (bits .xor .i64 Y 5)),XR.ir⟩:bY);xM I C λXS=>xC XS.symbols J (xM I C λxh=>xM xh.symbols J λvk=>xM I C λzX=>xC zX.symbols J (xM I C λQ=>xM Q.symbols J λe34=>xM I C λPr=>xG (((),x.1.2.1,(),E.1,(W6 (E.2.1+1)),()),({D with array:=⟨(I.set C.toNat (⟨(Q.symbols.set J.toNat (bits .xor .i64 vk 10)),Pr.ir⟩:bY)),D.array.bz,D.array.br⟩},x.2.2.1,()))))))else ay (((),x.1.2.1,(),E.1,()),(D,x.2.2.1,()))
def ar0:KY 110 (aZ f260):=⟨0,lB 0 arY arZ zW,lp []⟩
def Jo(C:aM)(x1:kR)(Q:av)(x3 T:Int):ah ((af)×(av×af)):=letI U:=W6 ((W6 (x3*C.rows))+T);(let k65:av -> Int -> Int -> Int -> Int -> Int -> Int -> ah ((af)×(av×af)):=λD j39 E j41 j42 j43 j44=>letI Y:=W6 (E-1);letI Z:=W6 (E+1);letI u3:=D.array.bz.set E.toNat (0:Int);letI I:=D.array.br.set E.toNat (0:Int);xL D.array.bz E λe47=>xL D.array.br E λe50=>(let k64:(aa Int) -> ah ((af)×(av×af)):=λJ=>bif j39<(W6 (j43-1))then xL J Z λe60=>letI u6:=W6 (e60+1);xL J Z λe63=>some ((),({D with array:=⟨D.array.cells,u3,(J.set Z.toNat (if 100000<u6 then 100000 else u6))⟩},()))else some ((),({D with array:=⟨D.array.cells,u3,J⟩},()));bif j39 > 0 then xL I Y λe53=>letI u8:=W6 (e53+1);xL I Y λXT=>(k64 (I.set Y.toNat (if 100000<u8 then 100000 else u8)))else (k64 I));letI u1:=k65 Q T U C.cu C.aC C.rows C.aN;(Jh C x1 Q.array U).bind λy1=>bif y1 then bu zW (((),T,(),U,0,()),(Q,(C.cu,C.aC,C.rows,C.aN,()),())) λL=>letI O:=L.2.2.1;(k65 L.2.1 L.1.2.1 L.1.2.2.2.1 O.1 O.2.1 O.2.2.1 O.2.2.2.1)else u1)
def afg:=oC ad7 [] (Iw Jo) 110 [arQ] [ar0] func260
def ar1:bJ:=⟨[(0,.aG 20000 0),(3,.aG 3 0),(7,tB),(8,.lf (.own 1000000000195000)),(9,tI)],[(3,.aB fA),(1000000000195000,.sl .int 2)],OG⟩
def ar2:aa (Nat×bJ):=[(2,Xy)]
abbrev afh:=((af×af×Bool×af×Int×af)×(av×(Int×Int×Int×Int×af)×(aa Int)×af))
def tW(x:afh):ah (afh⊕(((af)×(av×af))⊕Empty)):=letI D:=x.2.2.2.1;letI E:=x.1.2.2.2.2.1;letI J:=((),(),x.1.2.2.1,(),(W6 (E+1)),());letI C:=x.2.1;bif E<(D.length:Int)then bif x.1.2.2.1 then xL D E λL=>letI I:=(⟨x.2.2.1.2.1,L,0⟩:aK);(Jg C.pending I).bind λO=>bif O<0 then bif bC (C.pending.length+([I]:aa aK).length)then xG (J,({C with pending:=(C.pending++([I]:aa aK))},x.2.2.1,D,()))else none else xG (J,(C,x.2.2.1,D,()))else ay ((),(C,()))else ay ((),(C,()))
def afi:KY 129 (aZ f176):=⟨0,lB 0 ar1 ar2 tW,lp [ae9]⟩
def Pu(J:av)(C:aH):ah ((af)×(av×af)):=letI Q:=XQ J.config.az.rows C.row;letI T:=(C.kind,C.ax,C.row,C.bT,());(Jo J.config.az J.config.dU J C.ax C.row).bind λy1=>letI D:=y1.2.1;letI E:=(D.pending.length:Int);(Jg D.pending (⟨C.ax,C.row,0⟩:aK)).bind λI=>letI L:=W6 (I+1);letI U:=(D.pending.take (E.toNat)).drop (L.toNat);letI O:=(D.pending.take I.toNat).drop ((0:Int).toNat);bif I >= 0 then if 0 <= (0:Int)/\0 <= I/\I <= E then if 0 <= L/\L <= E/\E <= E then bif xZ O then bif bC ((xA O).length+U.length)then xL D.bO C.ax λe5=>xL D.guard C.ax λe8=>xM D.bO C.ax λXU=>xM D.bO C.ax λPv=>(Jm (⟨XU.rows,Pv.counts,e5.dc⟩:cr) C.row e8).bind λY=>xL D.bO C.ax λCa=>Q.bind λkF=>bu tW (((),(),Y.2,(),0,()),({D with bO:=(D.bO.set C.ax.toNat Y.1),pending:=((xA O)++U)},T,kF,())) λJp=>some ((),(Jp.2.1,()))else none else none else none else none else xL D.bO C.ax λxh=>xL D.guard C.ax λXV=>xM D.bO C.ax λzX=>xM D.bO C.ax λe32=>(Jm (⟨zX.rows,e32.counts,xh.dc⟩:cr) C.row XV).bind λZ=>xL D.bO C.ax λPr=>Q.bind λJq=>bu tW (((),(),Z.2,(),0,()),({D with bO:=(D.bO.set C.ax.toNat Z.1)},T,Jq,())) λz42=>some ((),(z42.2.1,()))
def ar3:=oC [.p .cO 4 0,.v true .Command] [] (bS Pu) 129 [ae9,afg,arW,arX] [afi,afi] func176
def ar4:bJ:=⟨[(2,.aG 20000 50),(3,tI),(4,.aG 4 0),(5,.aG 5 0),(8,tI)],[(4,.aB fA),(5,.aB [.int .i64,.int .i64])],lC⟩
def ar5:aa (Nat×bJ):=[(2,Et)]
abbrev afj:=((af×Int×af×af×Int×af)×(av×(Int×Int×Int×Int×af)×(Int×Int×af)×af))
def Jr(x:afj):ah (afj⊕(((af)×(av×af))⊕Empty)):=letI D:=x.1.2.2.2.2.1;letI C:=x.2.2.1;bif D<C.2.2.1 then (Jo (⟨C.1,C.2.1,C.2.2.1,C.2.2.2.1⟩:aM) (⟨x.2.2.2.1.1,x.2.2.2.1.2.1⟩:kR) x.2.1 x.1.2.1 D).bind λE=>xG (((),x.1.2.1,(),(),(W6 (D+1)),()),(E.2.1,C,x.2.2.2.1,()))else ay ((),(x.2.1,()))
def ar6:KY 21 (aZ f263):=⟨0,lB 0 ar4 ar5 Jr,lp [afg]⟩
def XW(C:aM)(D:kR)(E:av)(I:Int):ah ((af)×(av×af)):=bu Jr (((),I,(),(),0,()),(E,(C.cu,C.aC,C.rows,C.aN,()),(D.bz,D.br,()),())) λJ=>some ((),(J.2.1,()))
def ar7:=oC [.v true .fM,.v true .r4,.p .cO 4 50,.v false .int] [] (oD XW) 21 [] [ar6] func263
abbrev afk:=((af×Int×af×Int×af)×(av×(aa aK)×af))
def EH(x:afk):ah (afk⊕(((af×af×af)×(av×(aa aK)×af))⊕Empty)):=letI C:=x.1.2.2.2.1;letI D:=((),x.1.2.1,(),(W6 (C+1)),());bif C<(x.2.1.pending.length:Int)then xL x.2.1.pending C λI=>bif (I.ax != x.1.2.1)then xL x.2.1.pending C λE=>bif bC (x.2.2.1.length+([E]:aa aK).length)then xG (D,(x.2.1,(x.2.2.1++([E]:aa aK)),()))else none else xG (D,(x.2.1,x.2.2.1,()))else ay (((),(),()),(x.2.1,x.2.2.1,()))
def ar8:KY 82 (aZ f177):=⟨0,lB 0 ⟨[(0,.aG 20000 0),(1,tI),(4,.lf (.own 48)),(5,tI)],[(48,.sl .Addr 2)],lC⟩ [(2,⟨[(0,.aG 20000 0),(4,.lf (.own 48))],[(48,.sl .Addr 2)],lC⟩)] EH,lp []⟩
def Js(C:av)(E:Int):ah ((af)×(av×af)):=(XW C.config.az C.config.dU (⟨C.config,C.box,C.now,C.bq,C.ready,C.array,C.spare,C.aQ,C.bO,C.guard,C.pending,C.queue,C.shares,C.drain,C.bg,C.cM,C.errors,C.trace,C.cz⟩:av) E).bind λJ=>letI D:=J.2.1;(EC D.config.gU).bind λL=>xL D.bO E λQ=>xL D.guard E λT=>bu EH (((),E,(),0,()),({D with bO:=(D.bO.set E.toNat L.1),guard:=(D.guard.set E.toNat D.box.bV.eZ)},([]:aa aK),())) λI=>letI O:=I.2.1;some ((),({O with pending:=I.2.2.1},()))
def afl:=oC IC [] (bS Js) 82 [ar7,aeR] [ar8] func177
abbrev afm:=((af×Int×af)×(((aa Int)×Int×Bool×af)×af))
def Jt(x:afm):ah (afm⊕(((Bool×af)×(af))⊕(((af×af)×(((aa Int)×Int×Bool×af)×af))⊕Empty))):=bif x.1.2.1<(x.2.1.1.length:Int)then xI x.2.1.1 x.1.2.1 λC=>(cP C (-2) 5).bind λD=>bif (!D)then ay ((false,()),())else xG (((),(W6 (x.1.2.1+1)),()),(x.2.1,()))else aV (((),()),(x.2.1,()))
def ar9:KY 27 (aZ f163):=⟨0,lB 0 ⟨[(1,.aG 1 0),(3,tI)],[(1,.aB BX)],[]⟩ [(1,qy),(2,aen)] Jt,lp [ff]⟩
def Cb(C:cY):ah (Bool):=bQ Jt (((),0,()),((C.aJ,C.wait,C.dD,()),())) (λE=>some E.1.1) λD=>(cP (D.2.1.1.length:Int) 1 8).bind λI=>bif I then (cP D.2.1.2.1 1 10000).bind λJ=>some J else some false
def Pw:=cg Eu cm (bR Cb) 27 [ff] [ar9] func163
def Px(C:cY)(D:Int):ah (cY×Bool):=(B2 C).bind λE=>letI I:=some (E,false);(Cb C).bind λJ=>bif (!J)then I else (cP D 0 (W6 ((C.aJ.length:Int)-1))).bind λL=>bif (!L)then I else xI C.aJ D λO=>bif O <= (-2)then I else xI C.aJ D λQ=>xL E.aJ D λT=>some ((⟨(E.aJ.set D.toNat (W6 (Q-1))),E.wait,E.dD⟩:cY),true)
def asa:=bw Xv [(true,.kV,2),(false,.bool,0)] (bS Px) 41 [ff,XC,Pw] func178
def Py(C:aa aX)(O:Int):ah ((aa aX)×Bool):=letI D:=(C.length:Int);(I2 C O).bind λE=>letI I:=W6 (E+1);letI L:=(C.take D.toNat).drop I.toNat;letI J:=(C.take E.toNat).drop (0:Int).toNat;bif E<0 then bif xZ C then some ((xA C),false)else none else if 0 <= (0:Int)/\0 <= E/\E <= D then bif xZ J then if 0 <= I/\I <= D/\D <= D then bif bC ((xA J).length+L.length)then some (((xA J)++L),true)else none else none else none else none
def asb:=bw OK [(false,(.sl .di),2),(false,.bool,0)] (bS Py) 27 [aeX] func266
abbrev afn:=(((aa cw)×(aa Bool)×Int×Int×af)×(af))
def afo(x:afn):ah (afn⊕(((Int×af)×(af))⊕Empty)):=letI D:=x.1.2.2.1;letI C:=x.1.2.2.2.1;letI E:=xG ((x.1.1,x.1.2.1,C,(W6 (C+1)),()),());letI I:=xG ((x.1.1,x.1.2.1,D,(W6 (C+1)),()),());bif C<(x.1.1.length:Int)then bif C<(x.1.2.1.length:Int)then xI x.1.2.1 C λJ=>bif J then bif D<0 then E else xI x.1.1 C λL=>xI x.1.1 D λO=>bif L.fy > O.fy then E else I else I else ay ((D,()),())else ay ((D,()),())
def asc:KY 42 (aZ f325):=⟨0,lB 0 adY [(2,vi)] afo,lp []⟩
def Pz(C:aa cw)(D:aa Bool):ah (Int):=bu afo ((C,D,(-1),0,()),()) λE=>some E.1.1
def asd:=cg OJ dN (bS Pz) 42 [] [asc] func325
abbrev afp:=(((aa Bool)×af×Int×af)×((aa cw)×af))
def EI(x:afp):ah (afp⊕((((aa Bool)×af×af)×((aa cw)×af))⊕Empty)):=letI C:=x.1.2.2.1;bif C<(x.2.1.length:Int)then xL x.2.1 C λD=>xL x.2.1 C λE=>xG ((x.1.1,(),(W6 (C+1)),()),((x.2.1.set C.toNat (⟨E.weight,D.weight⟩:cw)),()))else ay ((x.1.1,(),()),(x.2.1,()))
def ase:KY 58 (aZ f267):=⟨0,lB 0 ⟨[(1,.lf (.aD .bool 0)),(6,.lf (.own 9)),(8,tI)],[(9,.sl .fF 2)],[]⟩ [(2,ad5)] EI,lp []⟩
def Ju(J:aa cw)(L:aa Bool):ah ((aa cw)×Int):=letI C:=xA J;bif xZ J then (IT J).bind λO=>bif (!O)then some (C,(-1))else (Pz C L).bind λD=>bif D<0 then some (C,(-1))else xC C D (if Q:D.toNat<C.length then (let T:=C[D.toNat]'Q;bif (T.fy==0)then bu EI ((L,(),0,()),(C,())) λE=>(Pz E.2.1 E.1.1).bind λI=>xL E.2.1 I λU=>xL E.2.1 I λY=>some ((E.2.1.set I.toNat (⟨Y.weight,(W6 (U.fy-1))⟩:cw)),I)else xC C D (if Z:D.toNat<C.length then (let XX:=C[D.toNat]'Z;xC C D (if yF:D.toNat<C.length then (let xh:=C[D.toNat]'yF;some ((C.set D.toNat (⟨xh.weight,(W6 (XX.fy-1))⟩:cw)),D))else none))else none))else none)else none
def afq:=cg OJ [(false,(.sl .fF),2),(false,.int,0)] (bS Ju) 58 [aeL,asd] [ase] func267
def xj(C:Int):ah (Bool):=(cP C 0 15).bind λD=>some D
def PB:=bw lD cm (bR xj) 5 [ff] func283
abbrev afr:=(((aa Int)×Int×Int×af)×(af))
def zY(x:afr):ah (afr⊕(((Bool×af)×(af))⊕((((aa Int)×Int×af)×(af))⊕Empty))):=bif x.1.2.2.1<(x.1.1.length:Int)then xI x.1.1 x.1.2.2.1 λC=>(xj C).bind λD=>bif (!D)then ay ((false,()),())else xG ((x.1.1,x.1.2.1,(W6 (x.1.2.2.1+1)),()),())else aV ((x.1.1,x.1.2.1,()),())
def asf:KY 22 (aZ f246):=⟨0,lB 0 aea [(1,ia),(2,aeh)] zY,lp [PB]⟩
def vl(D:aa Int)(E:Int):ah (Bool):=bQ zY ((D,E,0,()),()) (λI=>some I.1.1) λC=>some ((C.1.1.length:Int)==C.1.2.1)
def Jv:=cg Es cm (bS vl) 22 [] [asf] func246
abbrev afs:=((Int×Int×Int×Int×af)×(af))
def aft(x:afs):ah (afs⊕(((Int×af)×(af))⊕Empty)):=letI C:=x.1.2;letI D:=C.2.2.1;letI E:=min (IntKind.u64.wrap D).toNat IntKind.i64.bits;bif D<4 then if (IntKind.u64.wrap D)<0 then none else bif ((bits .and .i64 (C.1.fdiv (2 ^ E)) 1)==1)then if (IntKind.u64.wrap D)<0 then none else xG ((x.1.1,C.1,(bits .xor .i64 C.2.1 (W6 (x.1.1*2 ^ E))),(W6 (D+1)),()),())else xG ((x.1.1,C.1,C.2.1,(W6 (D+1)),()),())else ay ((C.2.1,()),())
def asg:KY 49 (aZ f348):=⟨0,lB 0 Xi [(2,vi)] aft,lp []⟩
abbrev afu:=((Int×Int×af)×(af))
def afv(x:afu):ah (afu⊕(((Int×af)×(af))⊕Empty)):=letI C:=x.1.2.1;bif C >= 4 then if (IntKind.u64.wrap C)<0 then none else bif ((bits .and .i64 (x.1.1.fdiv (2 ^ (min (IntKind.u64.wrap C).toNat IntKind.i64.bits))) 1)==1)then if (IntKind.u64.wrap (W6 (C-4)))<0 then none else xG (((bits .xor .i64 x.1.1 (W6 ((19:Int)*2 ^ (min (IntKind.u64.wrap (W6 (C-4))).toNat IntKind.i64.bits)))),(W6 (C-1)),()),())else xG ((x.1.1,(W6 (C-1)),()),())else ay ((x.1.1,()),())
def ash:KY 49 (aZ f348):=⟨2,lB 2 ⟨[(5,tI),(7,tI)],[],[]⟩ [(4,vi)] afv,lp []⟩
def tX(C D:Int):ah (Int):=(xj C).bind λE=>bif (!E)then some (-1)else (xj D).bind λI=>bif (!I)then some (-1)else bu aft ((C,D,0,0,()),()) λJ=>bu afv ((J.1.1,6,()),()) λL=>some L.1.1
def Jw:=cg BY dN (bS tX) 49 [PB] [asg,ash] func348
abbrev afw:=((Int×Int×Int×Int×af)×(af))
def afx(x:afw):ah (afw⊕(((Int×af)×(af))⊕Empty)):=bif x.1.2.2.2.1<x.1.2.1 then (tX x.1.2.2.1 x.1.1).bind λC=>xG ((x.1.1,x.1.2.1,C,(W6 (x.1.2.2.2.1+1)),()),())else ay ((x.1.2.2.1,()),())
def asi:KY 24 (aZ f349):=⟨0,lB 0 Xi [(2,vi)] afx,lp [Jw]⟩
def EJ(C D:Int):ah (Int):=(xj C).bind λE=>bif (!E)then some (-1)else (cP D 0 1000).bind λI=>bif (!I)then some (-1)else bu afx ((C,D,1,0,()),()) λJ=>some J.1.1
def XY:=cg BY dN (bS EJ) 24 [ff,PB] [asi] func349
abbrev afy:=((af×af×Int×af×Int×af)×((aa Int)×(aa Int)×(aa Int)×af))
def afz(x:afy):ah (afy⊕(((af×Int×af×af)×((aa Int)×(aa Int)×af))⊕Empty)):=letI C:=x.2.2;letI D:=x.1.2.2.2.2.1;letI E:=W6 (D+1);bif D<(C.1.length:Int)then xL C.2.1 E λJ=>xL C.1 D λL=>letI I:=C.2.1.set E.toNat (bits .xor .i64 J L);xL C.2.1 E λY=>xL I D λO=>xL C.1 D λQ=>(EJ 2 x.1.2.2.1).bind λT=>(tX Q T).bind λU=>xL I D λZ=>xG (((),(),x.1.2.2.1,(),E,()),(x.2.1,C.1,(I.set D.toNat (bits .xor .i64 O U)),()))else ay (((),x.1.2.2.1,(),()),(x.2.1,C.2.1,()))
def asj:KY 116 (rK (aZ f326) 0):=⟨2,lB 2 ⟨[(3,.lf (.own 18)),(4,.lf (.own 99004)),(5,tI),(6,.lf (.own 29)),(7,tI)],[(18,.sl .int 2),(99004,.sl .int 2),(29,.sl .int 2)],[]⟩ [(4,⟨[(3,.lf (.own 18)),(5,tI),(6,.lf (.own 29))],[(18,.sl .int 2),(29,.sl .int 2)],[]⟩)] afz,lp [Jw,XY]⟩
abbrev afA:=((af×af×Int×af)×((aa Int)×(aa Int)×af))
def XZ(x:afA):ah (afA⊕(((af×af×af)×((aa Int)×(aa Int)×af))⊕Empty)):=letI C:=W6 ((x.2.2.1.length:Int)+1);bif x.1.2.2.1<3 then if 0 <= C/\C <= C/\C<1073741824 then bu afz (((),(),x.1.2.2.1,(),0,()),(x.2.1,x.2.2.1,(List.replicate C.toNat (0:Int)),())) λD=>xG (((),(),(W6 (D.1.2.1+1)),()),(D.2.1,D.2.2.1,()))else none else ay (((),(),()),(x.2.1,x.2.2.1,()))
def asl:KY 116 (aZ f326):=⟨0,lB 0 ⟨[(3,.lf (.own 18)),(4,.lf (.own 99004)),(5,tI)],[(18,.sl .int 2),(99004,.sl .int 2)],[]⟩ [(2,⟨[(3,.lf (.own 18)),(4,.lf (.own 99004))],[(18,.sl .int 2),(99004,.sl .int 2)],[]⟩)] XZ,lq [] [asj]⟩
abbrev afB:=((af×af×af×Int×Int×Int×af)×((aa Int)×(aa Int)×(aa Int)×af))
def EK(x:afB):ah (afB⊕(((af×af×af×Int×af)×((aa Int)×(aa Int)×(aa Int)×af))⊕Empty)):=letI C:=x.2.2;letI D:=x.1.2.2.2;letI E:=D.2.2.1;letI I:=W6 ((W6 (D.1-3))+E);bif E<(C.1.length:Int)then xL C.2.1 I λJ=>xL C.1 E λL=>(tX L D.2.1).bind λO=>xL C.2.1 I λQ=>xG (((),(),(),D.1,D.2.1,(W6 (E+1)),()),(x.2.1,C.1,(C.2.1.set I.toNat (bits .xor .i64 J O)),()))else ay (((),(),(),D.1,()),(x.2.1,C.1,C.2.1,()))
def asm:KY 116 (rK (aZ f326) 4):=⟨6,lB 6 ⟨[(3,.lf (.own 18)),(4,.lf (.own 99004)),(8,.lf (.own 66)),(9,tI),(10,tI),(11,tI)],adO,[]⟩ [(8,adP)] EK,lp [Jw]⟩
abbrev afC:=((af×af×af×Int×af)×((aa Int)×(aa Int)×(aa Int)×af))
def EL(x:afC):ah (afC⊕(((af×af×af)×((aa Int)×(aa Int)×af))⊕Empty)):=letI D:=x.1.2.2.2.1;bif D >= 3 then xL x.2.2.2.1 D λE=>bu EK (((),(),(),D,E,0,()),(x.2.1,x.2.2.1,x.2.2.2.1,())) λC=>xG (((),(),(),(W6 (C.1.2.2.2.1-1)),()),(C.2.1,C.2.2.1,C.2.2.2.1,()))else ay (((),(),()),(x.2.1,x.2.2.2.1,()))
def asn:KY 116 (aZ f326):=⟨4,lB 4 adP [(6,⟨[(3,.lf (.own 18)),(8,.lf (.own 66))],[(18,.sl .int 2),(66,.sl .int 2)],[]⟩)] EL,lq [] [asm]⟩
abbrev afD:=((af×af×Int×af)×((aa Int)×(aa Int)×af))
def Jx(x:afD):ah (afD⊕(((af×af)×((aa Int)×af))⊕Empty)):=letI C:=x.1.2.2.1;bif C<3 then xL x.2.2.1 C λD=>xL x.2.1 C λE=>xG (((),(),(W6 (C+1)),()),((x.2.1.set C.toNat D),x.2.2.1,()))else ay (((),()),(x.2.1,()))
def aso:KY 116 (aZ f326):=⟨8,lB 8 ⟨[(3,.lf (.own 18)),(8,.lf (.own 66)),(13,tI)],[(18,.sl .int 2),(66,.sl .int 2)],[]⟩ [(10,⟨[(3,.lf (.own 18))],[(18,.sl .int 2)],[]⟩)] Jx,lp []⟩
def zZ(E:aa Int):ah ((aa Int)):=letI C:=(3:Int);(vl E 8).bind λJ=>bif (!J)then some ([]:aa Int)else if 0 <= C/\C <= 3/\C<1073741824 then bif bC ((List.replicate C.toNat (0:Int)).length+E.length)then bu XZ (((),(),1,()),(((List.replicate C.toNat (0:Int))++E),([1,1]:aa Int),())) λD=>bif xZ D.2.1 then bu EL (((),(),(),(W6 (((xA D.2.1).length:Int)-1)),()),(D.2.1,D.2.2.1,(xA D.2.1),())) λI=>bu Jx (((),(),0,()),(I.2.1,I.2.2.1,())) λL=>some L.2.1 else none else none else none
def asp:=cg oE mm (bR zZ) 116 [Jv] [asl,asn,aso] func326
abbrev afE:=((Int×af×Int×af)×((aa Int)×af))
def Jy(x:afE):ah (afE⊕(((af×af)×((aa Int)×af))⊕Empty)):=letI C:=x.1.2.2.1;letI D:=ay (((),()),(x.2.1,()));letI E:=([(bits .and .i64 (x.1.1.fdiv (2 ^ (min (IntKind.u64.wrap (W6 (4*C))).toNat IntKind.i64.bits))) 15)]:aa Int);bif C<8 then (I0 x.1.1).bind λI=>bif I then if (IntKind.u64.wrap (W6 (4*C)))<0 then none else bif bC (x.2.1.length+E.length)then xG ((x.1.1,(),(W6 (C+1)),()),((x.2.1++E),()))else none else D else D
def asq:KY 24 (aZ f327):=⟨0,lB 0 ⟨[(0,tI),(3,.lf (.own 5)),(4,tI)],[(5,.sl .int 2)],[]⟩ [(2,Xj)] Jy,lp [aeU]⟩
def PC(C:Int):ah ((aa Int)):=bu Jy ((C,(),0,()),(([]:aa Int),())) λD=>some D.2.1
def asr:=cg lD mm (bR PC) 24 [] [asq] func327
def EM(C:Int):ah ((aa Int)):=(PC C).bind λD=>(zZ D).bind λE=>some E
def afF:=bw lD mm (bR EM) 6 [asp,asr] func268
abbrev afG:=(((aa Int)×af×Int×Int×Int×Int×af)×((aa Int)×af))
def EN(x:afG):ah (afG⊕((((aa Int)×af×Int×af)×((aa Int)×af))⊕Empty)):=letI C:=x.1.2.2.2;letI D:=C.2.2.1;bif D<3 then xL x.2.1 D λE=>xI x.1.1 x.1.2.2.1 λI=>(tX I C.1).bind λJ=>xL x.2.1 D λO=>(tX C.1 C.2.1).bind λL=>xG ((x.1.1,(),x.1.2.2.1,L,C.2.1,(W6 (D+1)),()),((x.2.1.set D.toNat (bits .xor .i64 E J)),()))else ay ((x.1.1,(),x.1.2.2.1,()),(x.2.1,()))
def ass:KY 43 (rK (aZ f358) 0):=⟨2,lB 2 ⟨[(0,.lf (.aD .int 0)),(3,.lf (.own 12)),(4,tI),(5,tI),(6,tI),(7,tI)],[(12,.sl .int 2)],[]⟩ [(4,adX)] EN,lp [Jw]⟩
abbrev afH:=(((aa Int)×af×Int×af)×((aa Int)×af))
def Jz(x:afH):ah (afH⊕(((af×af)×((aa Int)×af))⊕Empty)):=bif x.1.2.2.1<(x.1.1.length:Int)then (EJ 2 x.1.2.2.1).bind λD=>bu EN ((x.1.1,(),x.1.2.2.1,1,D,0,()),(x.2.1,())) λC=>xG ((C.1.1,(),(W6 (C.1.2.2.1+1)),()),(C.2.1,()))else ay (((),()),(x.2.1,()))
def ast:KY 43 (aZ f358):=⟨0,lB 0 adX [(2,⟨[(3,.lf (.own 12))],[(12,.sl .int 2)],[]⟩)] Jz,lq [XY] [ass]⟩
def PD(C:aa Int):ah ((aa Int)):=(vl C 11).bind λD=>bif (!D)then some ([]:aa Int)else if 0 <= (3:Int)/\(3:Int) <= 3/\(3:Int)<1073741824 then bu Jz ((C,(),0,()),((List.replicate (3:Int).toNat (0:Int)),())) λE=>some E.2.1 else none
def asu:=cg oE mm (bR PD) 43 [Jv] [ast] func358
def EO(C:aa Int):ah (Bool):=xI C (0:Int) λD=>bif (D==0)then xI C (1:Int) λE=>bif (E==0)then xI C (2:Int) λI=>some (I==0)else some false else some false
def asv:=bw oE cm (bR EO) 19 [] func359
abbrev afI:=((af×af×Int×af)×((aa Int)×(aa Int)×af))
def Cc(x:afI):ah (afI⊕(((af×Int×Int×af)×((aa Int)×af))⊕(((af×af)×((aa Int)×af))⊕Empty))):=letI C:=x.2.2.1;letI D:=x.1.2.2.1;letI E:=xG (((),(),(W6 (D+1)),()),(x.2.1,C,()));bif D<11 then (EJ 2 D).bind λI=>xL C (0:Int) λJ=>bif (J != 0)then xL C (0:Int) λL=>xL C (1:Int) λO=>(tX L I).bind λQ=>bif (Q==O)then xL C (1:Int) λT=>xL C (2:Int) λU=>(tX T I).bind λY=>bif (Y==U)then xL x.2.1 D λZ=>xL C (0:Int) λvk=>xL x.2.1 D λzX=>ay (((),1,D,()),((x.2.1.set D.toNat (bits .xor .i64 Z vk)),()))else E else E else E else aV (((),()),(x.2.1,()))
def asw:KY 67 (aZ f350):=⟨0,lB 0 ⟨[(5,.lf (.own 13)),(6,.lf (.own 1000000000117000)),(7,tI)],[(13,.sl .int 2),(1000000000117000,.sl .int 2)],[]⟩ [(1,⟨[(2,.lf (.own 13)),(3,tI),(4,tI)],[(13,.sl .int 2)],[]⟩),(2,⟨[(5,.lf (.own 13))],[(13,.sl .int 2)],[]⟩)] Cc,lp [Jw,XY]⟩
def PE(C:aa Int):ah ((aa Int)×Int×Int):=(vl C 11).bind λI=>bif (!I)then some (([]:aa Int),2,(-1))else bif xZ C then (PD C).bind λE=>(EO E).bind λJ=>bif J then some ((xA C),0,(-1))else bQ Cc (((),(),0,()),((xA C),E,())) (λD=>some (D.2.1,D.1.2.1,D.1.2.2.1)) λL=>some (L.2.1,2,(-1))else none
def asx:=cg oE [(false,(.sl .int),2),(false,.int,0),(false,.int,0)] (bR PE) 67 [Jv,asu,asv] [asw] func350
abbrev afJ:=(((aa Int)×Int×Int×af)×(af))
def JA(x:afJ):ah (afJ⊕(((Int×af)×(af))⊕Empty)):=letI C:=x.1.2.2.1;bif C<(x.1.1.length:Int)then xI x.1.1 C λD=>if (IntKind.u64.wrap (W6 (4*C)))<0 then none else xG ((x.1.1,(bits .or .i64 x.1.2.1 (W6 (D*2 ^ (min (IntKind.u64.wrap (W6 (4*C))).toNat IntKind.i64.bits)))),(W6 (C+1)),()),())else ay ((x.1.2.1,()),())
def asy:KY 26 (aZ f351):=⟨0,lB 0 ⟨[(0,.lf (.aD .int 0)),(4,tI),(5,tI)],[],[]⟩ [(2,wZ)] JA,lp []⟩
def PF(C:aa Int):ah (Int×Bool):=(vl C 8).bind λD=>bif (!D)then some (0,false)else bu JA ((C,0,0,()),()) λE=>some (E.1.1,true)
def asz:=cg oE [(false,.int,0),(false,.bool,0)] (bR PF) 26 [Jv] [asy] func351
def PG(D:aa Int):ah ((aa Int)):=letI C:=(D.length:Int);letI E:=(D.take C.toNat).drop (3:Int).toNat;(vl D 11).bind λI=>bif (!I)then some ([]:aa Int)else if 0 <= (3:Int)/\3 <= C/\C <= C then bif xZ E then some (xA E)else none else none
def asA:=bw oE mm (bR PG) 11 [Jv] func352
def PI(D:aa Int):ah (Int×Int×Int):=(PE D).bind λC=>bif (C.2.1==2)then some (0,C.2.1,C.2.2)else (PG C.1).bind λE=>(PF E).bind λI=>some (I.1,C.2.1,C.2.2)
def asC:=bw oE [(false,.int,0),(false,.int,0),(false,.int,0)] (bR PI) 29 [asx,asz,asA] func328
def EP(C:cv):ah (Bool):=letI D:=(cP C.times 1 999).bind λE=>some E;(cP C.line 0 1023).bind λI=>bif I then bif (C.code==1)then D else bif (C.code==2)then D else some false else some false
def afK:=bw [(true,.fN)] cm (bR EP) 21 [ff] func253
abbrev afL:=(((aa cv)×Int×Int×Int×af)×(af))
def JB(x:afL):ah (afL⊕(((Int×af)×(af))⊕(((af)×(af))⊕Empty))):=letI C:=x.1.2.2.2.1;letI D:=xG ((x.1.1,x.1.2.1,x.1.2.2.1,(W6 (C+1)),()),());bif C<(x.1.1.length:Int)then xI x.1.1 C λE=>bif (E.line==x.1.2.1)then xI x.1.1 C λI=>bif (I.code==x.1.2.2.1)then ay ((C,()),())else D else D else aV ((),())
def asD:KY 31 (aZ f254):=⟨0,lB 0 ⟨[(0,.lf (.aD .fN 0)),(1,tI),(2,tI),(7,tI)],[],[]⟩ [(1,IE),(2,fG)] JB,lp []⟩
def JC(C:aa cv)(D E:Int):ah (Int):=bQ JB ((C,D,E,0,()),()) (λI=>some I.1.1) λJ=>some (-1)
def afM:=cg Xk dN (fz JC) 31 [] [asD] func254
abbrev afN:=(((aa cv)×Int×af)×(af))
def JD(x:afN):ah (afN⊕(((Bool×af)×(af))⊕(((af)×(af))⊕Empty))):=letI C:=x.1.2.1;bif C<(x.1.1.length:Int)then xI x.1.1 C λD=>(EP D).bind λE=>bif (!E)then ay ((false,()),())else xI x.1.1 C λI=>xI x.1.1 C λJ=>(JC x.1.1 I.line J.code).bind λL=>bif (L != C)then ay ((false,()),())else xG ((x.1.1,(W6 (C+1)),()),())else aV ((),())
def asE:KY 35 (aZ f169):=⟨0,lB 0 ⟨[(0,.lf (.aD .fN 0)),(3,tI)],[],[]⟩ [(1,qy),(2,fG)] JD,lp [afK,afM]⟩
def PJ(C:aa cv):ah (Bool):=bif (C.length:Int) > 6 then some false else bQ JD ((C,0,()),()) (λD=>some D.1.1) λE=>some true
def asF:=cg [(false,(.sl .fN))] cm (bR PJ) 35 [] [asE] func169
def PL(I:aa cv)(L O:Int):ah ((aa cv)×Bool):=letI C:=xA I;letI E:=(C.length:Int);letI J:=([(⟨L,O,1⟩:cv)]:aa cv);letI Q:=(C.take (E.toNat)).drop ((1:Int).toNat);bif xZ I then (PJ I).bind λY=>bif (!Y)then some (C,false)else (EP (⟨L,O,1⟩:cv)).bind λZ=>bif (!Z)then some (C,false)else (JC I L O).bind λD=>bif D >= 0 then xC C D (if h5:D.toNat<C.length then (let e6:=C[D.toNat]'h5;letI T:=W6 (e6.times+1);xC C D (if h8:D.toNat<C.length then (let U:=C[D.toNat]'h8;some ((C.set D.toNat (⟨U.line,U.code,(if 999<T then 999 else T)⟩:cv)),true))else none))else none)else bif E >= 6 then if 0 <= (1:Int)/\1 <= E/\E <= E then bif xZ Q then bif bC ((xA Q).length+J.length)then some (((xA Q)++J),true)else none else none else none else bif bC (C.length+J.length)then some ((C++J),true)else none else none
def asG:=bw Xk [(false,(.sl .fN),2),(false,.bool,0)] (fz PL) 55 [asF,afK,afM] func329
def Cd(C:av)(E D:Int):ah ((af)×(av×af)):=bif (D != 0)then (PL C.errors E D).bind λI=>some ((),({C with errors:=I.1},()))else some ((),(C,()))
def afO:=jE aes [] (fz Cd) 21 [asG] func270
def Ce(C:av)(D:Int):ah ((Int×Int)×(av×af)):=xL C.array.cells D λL=>bif L.ir then some ((0,2),(C,()))else xM C.array.cells D λO=>(PI O.symbols).bind λE=>letI I:=(E.1,E.2.1);bif (E.2.1==1)then (EM E.1).bind λQ=>xL C.array.cells D λT=>letI J:=C.array.cells.set D.toNat (⟨Q,T.ir⟩:bY);bif (E.2.1==2)then xL J D λU=>some (I,({C with array:=⟨(J.set D.toNat (⟨U.symbols,true⟩:bY)),C.array.bz,C.array.br⟩},()))else some (I,({C with array:=⟨J,C.array.bz,C.array.br⟩},()))else bif (E.2.1==2)then xL C.array.cells D λY=>some (I,({C with array:=⟨(C.array.cells.set D.toNat (⟨Y.symbols,true⟩:bY)),C.array.bz,C.array.br⟩},()))else some (I,(C,()))
def afP:=jE Xp [(false,.int,0),(false,.int,0)] (bS Ce) 48 [afF,asC] func269
def PN(C:av)(Y:Int):ah ((af)×(av×af)):=letI E:=(4:Int);xL C.queue Y λD=>letI O:=([(⟨D.id,C.now,0,0⟩:eM)]:aa eM);(xg C D.line).bind λZ=>(B5 C.config.az Z).bind λI=>(Py C.queue D.id).bind λQ=>if 0 <= E/\E <= 4/\E<1073741824 then xL (List.replicate E.toNat false) D.dI λe9=>(Ju C.shares ((List.replicate E.toNat false).set D.dI.toNat true)).bind λT=>bif D.write then (EM D.data).bind λje=>xL C.array.cells I λCf=>bif bC (C.cz.length+O.length)then some ((),({C with array:=⟨(C.array.cells.set I.toNat (⟨je,false⟩:bY)),C.array.bz,C.array.br⟩,queue:=Q.1,shares:=T.1,cz:=(C.cz++O)},()))else none else (Ce {C with queue:=Q.1,shares:=T.1} I).bind λJ=>letI U:=([(⟨D.id,C.now,J.1.1,J.1.2⟩:eM)]:aa eM);(Cd J.2.1 I J.1.2).bind λlF=>letI L:=lF.2.1;bif bC (L.cz.length+U.length)then some ((),({L with cz:=(L.cz++U)},()))else none else none
def asH:=jE IC [] (bS PN) 100 [⟨173,.q Pj,XP⟩,XK,asb,afq,afF,afP,afO] func179
def xk(C:eR):ah (Bool):=(cP C.state 0 2).bind λD=>bif D then (cP C.since 0 1000000).bind λE=>bif E then (cP C.idle 0 1000000).bind λI=>some I else some false else some false
def X0:=bw [(true,.Power)] cm (bR xk) 16 [ff] func168
def PO(C:eR)(E I:Int):ah (eR×Bool):=letI J:=cP I C.since 1000000;letI D:=some (C,false);letI L:=J.bind λO=>bif (!O)then D else some ((⟨0,I,C.idle⟩:eR),true);bif (E==6)then (xk C).bind λQ=>bif (!Q)then D else bif (C.state != 0)then D else J.bind λT=>bif (!T)then D else some ((⟨1,I,C.idle⟩:eR),true)else bif (E==8)then (xk C).bind λU=>bif (!U)then D else bif (C.state != 0)then D else J.bind λY=>bif (!Y)then D else some ((⟨2,I,C.idle⟩:eR),true)else bif (E==7)then (xk C).bind λZ=>bif (!Z)then D else bif (C.state != 1)then D else L else bif (E==9)then (xk C).bind λy7=>bif (!y7)then D else bif (C.state != 2)then D else L else D
def asJ:=bw [(true,.Power),(false,.int),(false,.int)] [(true,.Power,0),(false,.bool,0)] (fz PO) 42 [ff,X0] func180
def PR(C:av)(D:aH):ah ((af)×(av×af)):=letI E:=some ((),({C with bq:=⟨C.bq.aC,0⟩},()));bif (D.kind==1)then xL C.bq.aC D.ax λI=>some ((),({C with bq:=⟨(C.bq.aC.set D.ax.toNat (⟨true,D.row⟩:eP)),C.bq.bg⟩},()))else bif (D.kind==4)then xL C.bq.aC D.ax λJ=>some ((),({C with bq:=⟨(C.bq.aC.set D.ax.toNat (⟨false,0⟩:eP)),C.bq.bg⟩},()))else bif (D.kind==6)then some ((),({C with bq:=⟨C.bq.aC,1⟩},()))else bif (D.kind==8)then some ((),({C with bq:=⟨C.bq.aC,2⟩},()))else bif (D.kind==7)then bif (D.kind==7)then E else some ((),(C,()))else bif (D.kind==9)then E else some ((),(C,()))
def asK:=jE [.p .cO 4 46,.v true .Command] [] (bS PR) 44 [] func175
abbrev afQ:=((af×Int×af)×(av×af))
def Cg(x:afQ):ah (afQ⊕(((af)×(av×af))⊕Empty)):=letI C:=x.1.2.1;bif C<(x.2.1.bq.aC.length:Int)then (Js x.2.1 C).bind λE=>letI D:=E.2.1;xL D.aQ.aJ C λI=>xG (((),(W6 (C+1)),()),({D with aQ:=⟨(D.aQ.aJ.set C.toNat (0:Int)),D.aQ.wait,D.aQ.dD⟩},()))else ay ((),(x.2.1,()))
def afR:KY 120 (aZ f73):=⟨1,lB 1 ⟨[(0,.aG 20000 0),(7,tI)],[],OG⟩ [(3,Xy)] Cg,lp [afl]⟩
def z0(E:av)(C:aH)(Z:Int):ah ((af)×(av×af)):=letI L:=C.kind==9;letI O:=(⟨E.now,C⟩:eY);bif bC (E.trace.length+([O]:aa eY).length)then (Po E.config.az E.ready O).bind λy1=>(PR {E with ready:=y1,trace:=(E.trace++([O]:aa eY))} C).bind λy2=>letI D:=y2.2.1;(let I:av -> ah ((af)×(av×af)):=λQ=>bif L then bu Cg (((),0,()),(Q,())) λz17=>some ((),(z17.2.1,()))else some ((),(Q,()));bif (C.kind==1)then (Pu D C).bind λy3=>(I y3.2.1)else bif (C.kind==5)then (Js D C.ax).bind λy4=>letI T:=y4.2.1;(Px T.aQ C.ax).bind λy5=>letI U:=({T with aQ:=y5.1},());bif L then bu Cg (((),0,()),U) λz23=>some ((),(z23.2.1,()))else some ((),U)else (let Y:Bool -> ah ((af)×(av×af)):=λj6=>bif j6 then (PN D Z).bind λy7=>(I y7.2.1)else (let J:Bool -> ah ((af)×(av×af)):=λj8=>bif j8 then (PO D.bg C.kind D.now).bind λy9=>(I {D with bg:=y9.1})else (I D);bif (C.kind==6)then (J (C.kind==6))else bif (C.kind==7)then (J (C.kind==7))else bif (C.kind==8)then (J (C.kind==8))else (J L));bif (C.kind==2)then (Y (C.kind==2))else (Y (C.kind==3))))else none
def asM:=oC aet [] (fz z0) 120 [arO,asK,ar3,afl,asa,asH,asJ] [afR,afR] func73
def PS(I:n9)(C:eR)(D:Bool):ah (Int):=letI O:=decide (C.idle >= I.sleep);(let Q:Bool -> ah (Int):=λZ=>bif Z then some 0 else (let E:Bool -> ah (Int):=λj7=>bif j7 then some 7 else (let T:Bool -> ah (Int):=λj8=>bif j8 then some 9 else (let J:Bool -> ah (Int):=λj9=>bif j9 then some 8 else (let L:Bool -> ah (Int):=λCh=>bif Ch then some 6 else some 0;letI u0:=L (decide (C.idle >= I.down));bif (!D)then bif (C.state==0)then u0 else (L false)else (L false));letI u1:=J O;bif (!D)then bif (C.state==0)then u1 else (J false)else (J false));bif D then (T (C.state==2))else (T false));letI u2:=E O;(let U:Bool -> ah (Int):=λY=>bif Y then (E Y)else bif (!D)then bif (C.state==1)then u2 else (E false)else (E false);bif D then (U (C.state==1))else (U false)));(IV I).bind λy1=>bif (!y1)then (Q true)else (xk C).bind λy2=>(Q (!y2)))
def asN:=bw [(true,.r5),(true,.Power),(false,.bool)] dN (fz PS) 73 [X0,aeN] func219
abbrev afS:=((af×af×Int×af)×(((aa Int)×Int×Bool×af)×(aa Int)×af))
def JE(x:afS):ah (afS⊕(((af×af)×((aa Int)×af))⊕Empty)):=letI C:=x.2.1;letI E:=ay (((),()),(x.2.2.1,()));letI D:=x.1.2.2.1;letI I:=((),(),(W6 (D+1)),());bif D<(C.1.length:Int)then (Cb (⟨C.1,C.2.1,C.2.2.1⟩:cY)).bind λJ=>bif J then xI C.1 D λL=>bif L >= 4 then bif bC (x.2.2.1.length+([D]:aa Int).length)then xG (I,(C,(x.2.2.1++([D]:aa Int)),()))else none else xG (I,(C,x.2.2.1,()))else E else E
def asO:KY 28 (aZ f300):=⟨0,lB 0 ⟨aez,[(1,.aB BX),(5,.sl .int 2)],[]⟩ [(2,Xj)] JE,lp [Pw]⟩
def JF(C:cY):ah ((aa Int)):=bu JE (((),(),0,()),((C.aJ,C.wait,C.dD,()),([]:aa Int),())) λD=>some D.2.1
def afT:=cg Eu mm (bR JF) 28 [] [asO] func300
def Ci(C:av):ah (Bool):=bif (C.queue.length:Int) > 0 then some true else bif (C.pending.length:Int) > 0 then some true else (JF C.aQ).bind λD=>some ((D.length:Int) > 0)
def X3:jo:=gp [(false,.kW)] [(false,.bool,0)] (λx=>Ci x.1)
def afU:enters Tryz.prog 220/\iP Tryz.prog 220 X3:=kp 26 [afT] func220
abbrev afV:=((av×(aa aH)×af×Int×af)×((Int×Int×Int×Int×af)×af))
def Cj(x:afV):ah (afV⊕(((af×Bool×af)×((Int×Int×Int×Int×af)×af))⊕(((af×af)×((Int×Int×Int×Int×af)×af))⊕Empty))):=letI C:=x.1.2.2.2.1;bif C<(x.1.2.1.length:Int)then xI x.1.2.1 C λE=>(B7 x.1.1 E).bind λI=>bif I then xI x.1.2.1 C λD=>ay (((),true,()),((D.kind,D.ax,D.row,D.bT,()),()))else xG ((x.1.1,x.1.2.1,(),(W6 (C+1)),()),(x.2.1,()))else aV (((),()),(x.2.1,()))
def asP:KY 24 (aZ f221):=⟨0,lB 0 ⟨[(0,.fp .cO 0),(1,.lf (.aD .Command 0)),(4,.aG 4 0),(6,tI)],[(4,.aB fA)],[]⟩ [(1,⟨[(4,.aG 4 0),(5,tB)],[(4,.aB fA)],[]⟩),(2,⟨[(4,.aG 4 0)],[(4,.aB fA)],[]⟩)] Cj,lp [Pg]⟩
def JG(D:av)(E:aa aH):ah (aH×Bool):=bQ Cj ((D,E,(),0,()),((0,0,0,0,()),())) (λC=>some ((⟨C.2.1.1,C.2.1.2.1,C.2.1.2.2.1,C.2.1.2.2.2.1⟩:aH),C.1.2.1)) λI=>some ((⟨0,0,0,0⟩:aH),false)
def asQ:=cg [(false,.kW),(false,(.sl .Command))] [(true,.Command,0),(false,.bool,0)] (bS JG) 24 [] [asP] func221
def Cl(C:av)(D:Int):ah (Bool):=xI C.aQ.aJ D λE=>some (E >= 4)
def PT:=bw [(false,.kW),(false,.int)] cm (bS Cl) 14 [] func301
def ER(D:av)(C:aH):ah (aH):=xI D.bq.aC C.ax λE=>bif E.open_ then some (⟨4,C.ax,0,0⟩:aH)else some C
def X4:=bw [(false,.kW),(true,.Command)] IF (bS ER) 19 [] func302
abbrev afW:=(((aa aK)×Int×Int×af)×(af))
def ES(x:afW):ah (afW⊕(((Bool×af)×(af))⊕(((af)×(af))⊕Empty))):=bif x.1.2.2.1<(x.1.1.length:Int)then xI x.1.1 x.1.2.2.1 λC=>bif (C.ax==x.1.2.1)then ay ((true,()),())else xG ((x.1.1,x.1.2.1,(W6 (x.1.2.2.1+1)),()),())else aV ((),())
def asR:KY 19 (aZ f303):=⟨0,lB 0 ⟨[(0,.lf (.aD .Addr 0)),(1,tI),(5,tI)],[],[]⟩ [(1,ia),(2,fG)] ES,lp []⟩
def ET(C:aa aK)(D:Int):ah (Bool):=bQ ES ((C,D,0,()),()) (λE=>some E.1.1) λI=>some false
def X5:=cg [(false,(.sl .Addr)),(false,.int)] cm (bS ET) 19 [] [asR] func303
abbrev afX:=((av×af×Int×af)×((aa aH)×af))
def JH(x:afX):ah (afX⊕(((av×af×af)×((aa aH)×af))⊕Empty)):=letI C:=x.1.2.2.1;letI D:=(x.1.1,(),(W6 (C+1)),());bif C<(x.1.1.aQ.aJ.length:Int)then (Cl x.1.1 C).bind λI=>bif I then (ER x.1.1 (⟨5,C,0,0⟩:aH)).bind λE=>bif bC (x.2.1.length+([E]:aa aH).length)then xG (D,((x.2.1++([E]:aa aH)),()))else none else xG (D,(x.2.1,()))else ay ((x.1.1,(),()),(x.2.1,()))
def asT:KY 72 (aZ f222):=⟨0,lB 0 ⟨[(0,.fp .cO 0),(3,.lf (.own 7)),(4,tI)],OP,[]⟩ [(2,⟨[(0,.fp .cO 0),(3,.lf (.own 7))],OP,[]⟩)] JH,lp [PT,X4]⟩
abbrev afY:=((av×af×Int×af)×((aa aH)×af))
def JI(x:afY):ah (afY⊕(((af×af)×((aa aH)×af))⊕Empty)):=letI C:=x.1.1;letI D:=x.1.2.2.1;letI I:=(C,(),(W6 (D+1)),());bif D<(C.pending.length:Int)then xI C.pending D λE=>(Cl C E.ax).bind λL=>bif (!L)then if 0 <= (0:Int)/\0 <= D/\D <= (C.pending.length:Int)then (ET ((C.pending.take D.toNat).drop (0:Int).toNat) E.ax).bind λO=>bif (!O)then (ER C (⟨1,E.ax,E.row,0⟩:aH)).bind λJ=>bif bC (x.2.1.length+([J]:aa aH).length)then xG (I,((x.2.1++([J]:aa aH)),()))else none else xG (I,(x.2.1,()))else none else xG (I,(x.2.1,()))else ay (((),()),(x.2.1,()))
def asU:KY 72 (aZ f222):=⟨2,lB 2 ⟨[(0,.fp .cO 0),(3,.lf (.own 7)),(5,tI)],OP,[]⟩ [(4,⟨[(3,.lf (.own 7))],OP,[]⟩)] JI,lp [PT,X4,X5]⟩
def PU(D:av):ah ((aa aH)):=bu JH ((D,(),0,()),(([]:aa aH),())) λC=>bu JI ((C.1.1,(),0,()),(C.2.1,())) λE=>some E.2.1
def asW:=cg [(false,.kW)] [(false,(.sl .Command),2)] (bR PU) 72 [] [asT,asU] func222
abbrev afZ:=((av×af×Int×af)×((aa aK)×af))
def JJ(x:afZ):ah (afZ⊕(((af×af)×((aa aK)×af))⊕Empty)):=bif x.1.2.2.1<(x.1.1.queue.length:Int)then xI x.1.1.queue x.1.2.2.1 λD=>(xg x.1.1 D.line).bind λC=>bif bC (x.2.1.length+([C]:aa aK).length)then xG ((x.1.1,(),(W6 (x.1.2.2.1+1)),()),((x.2.1++([C]:aa aK)),()))else none else ay (((),()),(x.2.1,()))
def asX:KY 29 (aZ f304):=⟨0,lB 0 ⟨[(0,.fp .cO 0),(3,.lf (.own 5)),(4,tI)],[(5,.sl .Addr 2)],[]⟩ [(2,⟨[(3,.lf (.own 5))],[(5,.sl .Addr 2)],[]⟩)] JJ,lp [⟨173,.p Pj,XP⟩]⟩
def JK(C:av):ah ((aa aK)):=bu JJ ((C,(),0,()),(([]:aa aK),())) λD=>some D.2.1
def af0:=cg [(false,.kW)] [(false,(.sl .Addr),2)] (bR JK) 29 [] [asX] func304
end Go.Proofs.YtglnbhiaknohlaaGreat
