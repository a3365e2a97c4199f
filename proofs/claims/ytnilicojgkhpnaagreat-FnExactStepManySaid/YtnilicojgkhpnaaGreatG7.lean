/-
  Functions of the program as plain functions of contents, and that the code computes them. Nothing here is a claim.
-/
import Derived.Test.YtnilicojgkhpnaaGreatVZ
import Derived.Test.YtnilicojgkhpnaaGreatRows
import Derived.Test.YtnilicojgkhpnaaGreatG1
import Derived.Test.YtnilicojgkhpnaaGreatG2
import Derived.Test.YtnilicojgkhpnaaGreatG3
import Derived.Test.YtnilicojgkhpnaaGreatG4
import Derived.Test.YtnilicojgkhpnaaGreatG5
import Derived.Test.YtnilicojgkhpnaaGreatG6
namespace Go.Proofs.YtnilicojgkhpnaaGreat
set_option linter.defProp false
open Go.RowKit Go.Proofs.Tryz
set_option linter.unusedVariables false
set_option maxRecDepth 100000
def aww:enters Tryz.prog 407/\kA Tryz.prog 407 (cj Tryz.prog f407 1 [(oW.f,oW.c)]):=sq (qS 1 [(oW.f,oW.c)] func407 ⟨oW.ok,trivial⟩)
def Re(O:aV)(E:dn)(C:cO):ah (dn):=(tP E).bind λD=>letI T:=(xA D.bx)++([C.at_]:aa Int);letI L:=(T.length:Int);(let U:Bool -> ah (dn):=λj5=>bif j5 then some D else (let Y:Bool -> ah (dn):=λj9=>bif j9 then some D else (qb O).bind λeM=>(let k16:Int -> ah (dn):=λKF=>letI u3:=W6 ((W6 ((W6 (9*KF))+C.cmd.kind))-1);letI Z:=D.last.set u3.toNat C.at_;xL D.last u3 λRf=>bif (C.cmd.kind==1)then bif xZ D.bx then bif bP ((xA D.bx).length+([C.at_]:aa Int).length)then bif L > 4 then if 0 <= (1:Int)/\1 <= L/\L <= L then (tP (⟨Z,((T.take (L.toNat)).drop ((1:Int).toNat))⟩:dn)).bind λgN=>some gN else none else (tP (⟨Z,T⟩:dn)).bind λjT=>some jT else none else none else (tP (⟨Z,D.bx⟩:dn)).bind λtS=>some tS;bif C.cmd.kind <= 5 then (k16 C.cmd.ay)else (k16 eM));bif (C.cmd.kind==1)then bif (E.bx.length:Int) > 0 then xI E.bx (W6 ((E.bx.length:Int)-1)) λe8=>(Y (decide (e8 >= C.at_)))else (Y false)else (Y false));(JX O E).bind λy2=>bif (!y2)then (U true)else (KS O C.cmd).bind λy3=>bif (!y3)then (U true)else (cG C.at_ 0 1000000).bind λy4=>(U (!y4)))
def awx:=aM [(true,.fe),(true,.ki),(true,.Event)] IG (fS Re) 57 [eN,agt,agJ,ahV,⟨407,.i _,aww⟩] func317
def Ff(T:aV)(C:iX)(D:cZ)(E:Int):ah (Bool):=xI D.bz E λL=>bif L > C.bz then some true else xI D.bu E λO=>some (O > C.bu)
def ahW:=aM [(true,.fe),(true,.mO),(true,.Array),(false,.int)] bS (sr Ff) 27 [] func452
abbrev ahX:=((af×Int×af×Int×Int×af)×((af×af×af×af)×(Int×Int×Int×Int×af)×(aa bK)×(aa Int)×(aa Int)×af))
def ahY(x:ahX):ah (ahX⊕(((af×Int×af×Int×af)×((af×af×af×af)×(Int×Int×Int×Int×af)×(aa bK)×(aa Int)×(aa Int)×af))⊕Empty)):=letI O:=(1:Int);letI T:=(0:Int);letI E:=x.1.2.2.2;letI D:=x.2.2.2;letI C:=W6 ((W6 (E.1*x.2.2.1.2.2.2.1))+E.2.1);bif E.2.1<x.2.2.1.2.2.2.1 then xL D.1 C λe4=>xM D.1 C λZ=>xC Z.symbols T (xM D.1 C λe9=>xM e9.symbols T λvM=>xM D.1 C λoX=>xC oX.symbols T (xM D.1 C λU=>xM U.symbols T λRg=>xM D.1 C λCI=>letI L:=D.1.set C.toNat (⟨(U.symbols.set T.toNat (bits .xor .i64 vM 5)),CI.iy⟩:bK);xM L C λKT=>xC KT.symbols O (xM L C λvL=>xM vL.symbols O λvI=>xM L C λvJ=>xC vJ.symbols O (xM L C λY=>xM Y.symbols O λYk=>xM L C λFg=>xG (((),x.1.2.1,(),E.1,(W6 (E.2.1+1)),()),(((),(),(),()),x.2.2.1,(L.set C.toNat (⟨(Y.symbols.set O.toNat (bits .xor .i64 vI 10)),Fg.iy⟩:bK)),D.2.1,D.2.2.1,()))))))else av (((),x.1.2.1,(),E.1,()),(((),(),(),()),x.2.2.1,D.1,D.2.1,D.2.2.1,()))
def awy:KY 110 (aS f408):=⟨0,lB 0 ⟨[(2,.aJ 20000 0),(4,tI),(5,.aJ 5 0),(10,tI),(11,tI)],aex,[]⟩ [(2,⟨[(2,.aJ 20000 0),(4,tI),(5,.aJ 5 0),(10,tI)],aex,[]⟩)] ahY,lp []⟩
def awz(C:aV)(x1:iX)(D:cZ)(x3 U:Int):ah ((af)×(cZ×af)):=letI Y:=W6 ((W6 (x3*C.rows))+U);(let k67:Int -> Int -> Int -> Int -> Int -> Int -> (aa bK) -> (aa Int) -> (aa Int) -> ah ((af)×(cZ×af)):=λj38 L j40 j41 j42 j43 Yl j45 j46=>letI Z:=W6 (L-1);letI u5:=W6 (L+1);letI u4:=j45.set L.toNat (0:Int);letI O:=j46.set L.toNat (0:Int);xL j45 L λe49=>xL j46 L λe52=>(let k66:(aa Int) -> ah ((af)×(cZ×af)):=λT=>bif j38<(W6 (j42-1))then xL T u5 λe62=>letI u6:=W6 (e62+1);xL T u5 λe65=>some ((),((⟨Yl,u4,(T.set u5.toNat (if 100000<u6 then 100000 else u6))⟩:cZ),()))else some ((),((⟨Yl,u4,T⟩:cZ),()));bif j38 > 0 then xL O Z λe55=>letI u8:=W6 (e55+1);xL O Z λe58=>(k66 (O.set Z.toNat (if 100000<u8 then 100000 else u8)))else (k66 O));letI u0:=k67 U Y C.cH C.aB C.rows C.aT D.cells D.bz D.bu;(Ff C x1 D Y).bind λy1=>bif y1 then bh ahY (((),U,(),Y,0,()),(((),(),(),()),(C.cH,C.aB,C.rows,C.aT,()),D.cells,D.bz,D.bu,())) λYm=>letI E:=Ym.2.2;(k67 Ym.1.2.1 Ym.1.2.2.2.1 E.1.1 E.1.2.1 E.1.2.2.1 E.1.2.2.2.1 E.2.1 E.2.2.1 E.2.2.2.1)else u0)
def aHg:=jS [.v true .fe,.v true .mO,.p .Array 4 0,.v false .int,.v false .int] [] (EF awz) 110 [ahW] [awy] func408
abbrev ahZ:=((af×Int×Int×af)×((af×af×Int×af)×(aa Int)×(aa Int)×af))
def KU(x:ahZ):ah (ahZ⊕(((Int×af)×((af×af×Int×af)×(aa Int)×(aa Int)×af))⊕(((af×Int×af)×((af×af×Int×af)×(aa Int)×(aa Int)×af))⊕Empty))):=letI E:=((),(),x.2.1.2.2.1,());letI C:=x.2.2;letI D:=x.1.2.2.1;letI L:=(E,C.1,C.2.1,());bif D<(C.1.length:Int)then xL C.1 D λO=>bif (O==x.1.2.1)then xL C.2.1 D λT=>xL C.2.1 D λU=>av ((D,()),(E,C.1,(C.2.1.set D.toNat (W6 (T+1))),()))else xG (((),x.1.2.1,(W6 (D+1)),()),L)else aQ (((),x.1.2.1,()),L)
def awA:KY 88 (aS f453):=⟨0,lB 0 ⟨[(0,.aJ 20000 0),(1,tI),(5,tI)],EG,[]⟩ [(1,⟨[(4,tI)],EG,[]⟩),(2,⟨[(0,.aJ 20000 0),(1,tI)],EG,[]⟩)] KU,lp []⟩
abbrev ah0:=((af×Int×Int×af)×((af×af×Int×af)×(aa Int)×(aa Int)×af))
def KV(x:ah0):ah (ah0⊕(((Int×af)×((af×af×Int×af)×(aa Int)×(aa Int)×af))⊕(((af×af)×((af×af×Int×af)×(aa Int)×(aa Int)×af))⊕Empty))):=letI C:=x.2.2;letI E:=x.2.1.2.2.1;letI L:=(((),(),E,()),C.1,C.2.1,());letI D:=x.1.2.2.1;bif D<(C.1.length:Int)then xL C.2.1 D λO=>bif (O==E)then xL C.1 D λT=>xL C.2.1 D λU=>av ((D,()),(((),(),E,()),(C.1.set D.toNat x.1.2.1),(C.2.1.set D.toNat (W6 (E+1))),()))else xG (((),x.1.2.1,(W6 (D+1)),()),L)else aQ (((),()),L)
def awB:KY 88 (aS f453):=⟨2,lB 2 ⟨[(0,.aJ 20000 0),(1,tI),(6,tI)],EG,[]⟩ [(1,⟨[(4,tI)],EG,[]⟩),(4,⟨[(0,.aJ 20000 0)],EG,[]⟩)] KV,lp []⟩
def Rh(L:bQ)(T:Int):ah ((Int)×(bQ×af)):=bE KU (((),T,0,()),(((),(),L.cY,()),L.rows,L.counts,())) (λC=>some (C.1.1,((⟨C.2.2.1,C.2.2.2.1,C.2.1.2.2.1⟩:bQ),()))) λD=>bE KV (((),D.1.2.1,0,()),(((),(),D.2.1.2.2.1,()),D.2.2.1,D.2.2.2.1,())) (λE=>some (E.1.1,((⟨E.2.2.1,E.2.2.2.1,E.2.1.2.2.1⟩:bQ),()))) λO=>some ((-1),((⟨O.2.2.1,O.2.2.2.1,(W6 (O.2.1.2.2.1+1))⟩:bQ),()))
def awC:=jS [.p .eR 2 0,.v false .int] cq (br Rh) 88 [] [awA,awB] func453
def KW(D:bQ)(O E:Int):ah (bQ×Bool):=(JM D).bind λT=>letI L:=some (T,false);(CD D).bind λU=>bif (!U)then L else (cG O 0 15).bind λY=>bif (!Y)then L else (cG E 2 1000).bind λZ=>bif (!Z)then L else (Rh T O).bind λC=>(CD C.2.1).bind λy6=>bif (!y6)then (JM D).bind λy7=>some (y7,false)else bif C.1 >= 0 then xL C.2.1.counts C.1 λjU=>if E=0 then none else some (C.2.1,((jU.tmod E)==0))else some (C.2.1,false)
def awD:=aM [(true,.eR),(false,.int),(false,.int)] [(true,.eR,2),(false,.bool,0)] (fS KW) 46 [eN,agw,agU,awC] func409
def Yn(T C:Int):ah ((aa Int)):=letI L:=W6 (T-1);letI O:=some ([]:aa Int);letI D:=([(W6 (C+1))]:aa Int);letI E:=([(W6 (C-1))]:aa Int);(cG T 2 16).bind λU=>bif (!U)then O else (cG C 0 L).bind λY=>bif (!Y)then O else bif C > 0 then bif xZ E then bif C<L then bif bP ((xA E).length+D.length)then some ((xA E)++D)else none else some (xA E)else none else bif C<L then bif xZ D then some (xA D)else none else O
def awE:=aM EJ lK (br Yn) 35 [eN] func410
def awF:bL:=⟨[(2,.aJ 20000 50),(4,tI),(5,.aJ 5 0),(10,tI),(11,tI)],[(5,.aC fZ)],p7⟩
def awG:aa (Nat×bL):=[(2,⟨[(2,.aJ 20000 50),(4,tI),(5,.aJ 5 0),(10,tI)],[(5,.aC fZ)],p7⟩)]
abbrev ah1:=((af×Int×af×Int×Int×af)×(ax×(Int×Int×Int×Int×af)×af))
def Aj(x:ah1):ah (ah1⊕(((af×Int×af×Int×af)×(ax×(Int×Int×Int×Int×af)×af))⊕Empty)):=letI O:=(1:Int);letI T:=(0:Int);letI E:=x.1.2.2.2;letI D:=x.2.1;letI C:=W6 ((W6 (E.1*x.2.2.1.2.2.2.1))+E.2.1);bif E.2.1<x.2.2.1.2.2.2.1 then xL D.array.cells C λe4=>xM D.array.cells C λZ=>xC Z.symbols T (xM D.array.cells C λe9=>xM e9.symbols T λvM=>xM D.array.cells C λoX=>xC oX.symbols T (xM D.array.cells C λU=>xM U.symbols T λRg=>xM D.array.cells C λCI=>letI L:=D.array.cells.set C.toNat (⟨(U.symbols.set T.toNat (bits .xor .i64 vM 5)),CI.iy⟩:bK);xM L C λKT=>xC KT.symbols O (xM L C λvL=>xM vL.symbols O λvI=>xM L C λvJ=>xC vJ.symbols O (xM L C λY=>xM Y.symbols O λYk=>xM L C λFg=>xG (((),x.1.2.1,(),E.1,(W6 (E.2.1+1)),()),({D with array:=⟨(L.set C.toNat (⟨(Y.symbols.set O.toNat (bits .xor .i64 vI 10)),Fg.iy⟩:bK)),D.array.bz,D.array.bu⟩},x.2.2.1,()))))))else av (((),x.1.2.1,(),E.1,()),(D,x.2.2.1,()))
def awH:KY 110 (aS f408):=⟨0,lB 0 awF awG Aj,lp []⟩
def KZ(C:aV)(x1:iX)(Y:ax)(x3 Z:Int):ah ((af)×(ax×af)):=letI u2:=W6 ((W6 (x3*C.rows))+Z);(let k65:ax -> Int -> Int -> Int -> Int -> Int -> Int -> ah ((af)×(ax×af)):=λD j39 E j41 j42 j43 Yl=>letI u7:=W6 (E-1);letI u5:=W6 (E+1);letI u3:=D.array.bz.set E.toNat (0:Int);letI L:=D.array.bu.set E.toNat (0:Int);xL D.array.bz E λe47=>xL D.array.bu E λe50=>(let k64:(aa Int) -> ah ((af)×(ax×af)):=λO=>bif j39<(W6 (j43-1))then xL O u5 λe60=>letI u6:=W6 (e60+1);xL O u5 λe63=>some ((),({D with array:=⟨D.array.cells,u3,(O.set u5.toNat (if 100000<u6 then 100000 else u6))⟩},()))else some ((),({D with array:=⟨D.array.cells,u3,O⟩},()));bif j39 > 0 then xL L u7 λe53=>letI u8:=W6 (e53+1);xL L u7 λYo=>(k64 (L.set u7.toNat (if 100000<u8 then 100000 else u8)))else (k64 L));letI u1:=k65 Y Z u2 C.cH C.aB C.rows C.aT;(Ff C x1 Y.array u2).bind λy1=>bif y1 then bh Aj (((),Z,(),u2,0,()),(Y,(C.cH,C.aB,C.rows,C.aT,()),())) λT=>letI U:=T.2.2.1;(k65 T.2.1 T.1.2.1 T.1.2.2.2.1 U.1 U.2.1 U.2.2.1 U.2.2.2.1)else u1)
def ah2:=jS aeU [] (EF KZ) 110 [ahW] [awH] func408
def awI:bL:=⟨[(0,.aJ 20000 0),(3,.aJ 3 0),(7,tB),(8,.lf (.own 1000000000195000)),(9,tI)],[(3,.aC fZ),(1000000000195000,.sl .int 2)],OT⟩
def awJ:aa (Nat×bL):=[(2,Xs)]
abbrev ah3:=((af×af×Bool×af×Int×af)×(ax×(Int×Int×Int×Int×af)×(aa Int)×af))
def tW(x:ah3):ah (ah3⊕(((af)×(ax×af))⊕Empty)):=letI D:=x.2.2.2.1;letI E:=x.1.2.2.2.2.1;letI O:=((),(),x.1.2.2.1,(),(W6 (E+1)),());letI C:=x.2.1;bif E<(D.length:Int)then bif x.1.2.2.1 then xL D E λT=>letI L:=(⟨x.2.2.1.2.1,T,0⟩:aI);(CE C.pending L).bind λU=>bif U<0 then bif bP (C.pending.length+([L]:aa aI).length)then xG (O,({C with pending:=(C.pending++([L]:aa aI))},x.2.2.1,D,()))else none else xG (O,(C,x.2.2.1,D,()))else av ((),(C,()))else av ((),(C,()))
def ah4:KY 129 (aS f319):=⟨0,lB 0 awI awJ tW,lp [X5]⟩
def Ri(O:ax)(C:aG):ah ((af)×(ax×af)):=letI Y:=Yn O.config.aE.rows C.row;letI Z:=(C.kind,C.ay,C.row,C.bR,());(KZ O.config.aE O.config.dO O C.ay C.row).bind λy1=>letI D:=y1.2.1;letI E:=(D.pending.length:Int);(CE D.pending (⟨C.ay,C.row,0⟩:aI)).bind λL=>letI T:=W6 (L+1);letI u3:=(D.pending.take (E.toNat)).drop (T.toNat);letI U:=(D.pending.take L.toNat).drop ((0:Int).toNat);bif L >= 0 then if 0 <= (0:Int)/\0 <= L/\L <= E then if 0 <= T/\T <= E/\E <= E then bif xZ U then bif bP ((xA U).length+u3.length)then xL D.bH C.ay λe5=>xL D.guard C.ay λe8=>xM D.bH C.ay λjU=>xM D.bH C.ay λni=>(KW (⟨jU.rows,ni.counts,e5.cY⟩:bQ) C.row e8).bind λgT=>xL D.bH C.ay λqU=>Y.bind λgN=>bh tW (((),(),gT.2,(),0,()),({D with bH:=(D.bH.set C.ay.toNat gT.1),pending:=((xA U)++u3)},Z,gN,())) λK0=>some ((),(K0.2.1,()))else none else none else none else none else xL D.bH C.ay λvL=>xL D.guard C.ay λYp=>xM D.bH C.ay λvJ=>xM D.bH C.ay λYj=>(KW (⟨vJ.rows,Yj.counts,vL.cY⟩:bQ) C.row Yp).bind λxV=>xL D.bH C.ay λFg=>Y.bind λAk=>bh tW (((),(),xV.2,(),0,()),({D with bH:=(D.bH.set C.ay.toNat xV.1)},Z,Ak,())) λz42=>some ((),(z42.2.1,()))
def awK:=jS [.p .cN 4 0,.v true .Command] [] (br Ri) 129 [X5,ah2,awD,awE] [ah4,ah4] func319
abbrev ah5:=((Int×af×Int×af)×((aa Int)×af))
def K1(x:ah5):ah (ah5⊕(((af×af)×((aa Int)×af))⊕Empty)):=letI C:=x.1.2.2.1;bif C<x.1.1 then xL x.2.1 C λD=>xG ((x.1.1,(),(W6 (C+1)),()),((x.2.1.set C.toNat (-1:Int)),()))else av (((),()),(x.2.1,()))
def awL:KY 16 (aS f367):=⟨0,lB 0 ⟨[(0,tI),(3,.lf (.own 6)),(4,tI)],[(6,.sl .int 2)],[]⟩ [(2,ae5)] K1,lp []⟩
def Rj(C:Int):ah ((aa Int)):=if 0 <= C/\C <= C/\C<1073741824 then bh K1 ((C,(),0,()),((List.replicate C.toNat (0:Int)),())) λD=>some D.2.1 else none
def awM:=bT lM lK (bF Rj) 16 [] [awL] func367
def Rk(C:Int):ah (bQ×Bool):=(cG C 1 16).bind λD=>bif (!D)then some ((⟨[],[],0⟩:bQ),false)else (Rj C).bind λE=>if 0 <= C/\C <= C/\C<1073741824 then some ((⟨E,(List.replicate C.toNat (0:Int)),0⟩:bQ),true)else none
def awN:=aM lM [(true,.eR,2),(false,.bool,0)] (bF Rk) 13 [eN,awM] func259
def awO:bL:=⟨[(2,.aJ 20000 50),(3,tI),(4,.aJ 4 0),(5,.aJ 5 0),(8,tI)],[(4,.aC fZ),(5,.aC [.int .i64,.int .i64])],p7⟩
def awP:aa (Nat×bL):=[(2,Iz)]
abbrev ah6:=((af×Int×af×af×Int×af)×(ax×(Int×Int×Int×Int×af)×(Int×Int×af)×af))
def K2(x:ah6):ah (ah6⊕(((af)×(ax×af))⊕Empty)):=letI D:=x.1.2.2.2.2.1;letI C:=x.2.2.1;bif D<C.2.2.1 then (KZ (⟨C.1,C.2.1,C.2.2.1,C.2.2.2.1⟩:aV) (⟨x.2.2.2.1.1,x.2.2.2.1.2.1⟩:iX) x.2.1 x.1.2.1 D).bind λE=>xG (((),x.1.2.1,(),(),(W6 (D+1)),()),(E.2.1,C,x.2.2.2.1,()))else av ((),(x.2.1,()))
def awQ:KY 21 (aS f411):=⟨0,lB 0 awO awP K2,lp [ah2]⟩
def Yq(C:aV)(D:iX)(E:ax)(L:Int):ah ((af)×(ax×af)):=bh K2 (((),L,(),(),0,()),(E,(C.cH,C.aB,C.rows,C.aT,()),(D.bz,D.bu,()),())) λO=>some ((),(O.2.1,()))
def awR:=jS [.v true .fe,.v true .mO,.p .cN 4 50,.v false .int] [] (sr Yq) 21 [] [awQ] func411
abbrev ah7:=((af×Int×af×Int×af)×(ax×(aa aI)×af))
def Fh(x:ah7):ah (ah7⊕(((af×af×af)×(ax×(aa aI)×af))⊕Empty)):=letI C:=x.1.2.2.2.1;letI D:=((),x.1.2.1,(),(W6 (C+1)),());bif C<(x.2.1.pending.length:Int)then xL x.2.1.pending C λL=>bif (L.ay != x.1.2.1)then xL x.2.1.pending C λE=>bif bP (x.2.2.1.length+([E]:aa aI).length)then xG (D,(x.2.1,(x.2.2.1++([E]:aa aI)),()))else none else xG (D,(x.2.1,x.2.2.1,()))else av (((),(),()),(x.2.1,x.2.2.1,()))
def awS:KY 82 (aS f320):=⟨0,lB 0 ⟨[(0,.aJ 20000 0),(1,tI),(4,.lf (.own 48)),(5,tI)],[(48,.sl .Addr 2)],p7⟩ [(2,⟨[(0,.aJ 20000 0),(4,.lf (.own 48))],[(48,.sl .Addr 2)],p7⟩)] Fh,lp []⟩
def K3(C:ax)(E:Int):ah ((af)×(ax×af)):=(Yq C.config.aE C.config.dO (⟨C.config,C.box,C.now,C.bq,C.ready,C.array,C.spare,C.aP,C.bH,C.guard,C.pending,C.queue,C.shares,C.drain,C.aZ,C.cK,C.errors,C.trace,C.cS⟩:ax) E).bind λO=>letI D:=O.2.1;(Rk D.config.iz).bind λT=>xL D.bH E λY=>xL D.guard E λZ=>bh Fh (((),E,(),0,()),({D with bH:=(D.bH.set E.toNat T.1),guard:=(D.guard.set E.toNat D.box.bI.fD)},([]:aa aI),())) λL=>letI U:=L.2.1;some ((),({U with pending:=L.2.2.1},()))
def ah8:=jS ID [] (br K3) 82 [awN,awR] [awS] func320
def Ro(C:de)(D:Int):ah (de×Bool):=(JL C).bind λE=>letI L:=some (E,false);(CB C).bind λO=>bif (!O)then L else (cG D 0 (W6 ((C.aH.length:Int)-1))).bind λT=>bif (!T)then L else xI C.aH D λU=>bif U <= (-2)then L else xI C.aH D λY=>xL E.aH D λZ=>some ((⟨(E.aH.set D.toNat (W6 (Y-1))),E.wait,E.dS⟩:de),true)
def awT:=aM IA [(true,.kM,2),(false,.bool,0)] (br Ro) 41 [eN,agv,Qz] func321
def Rp(D:aV)(C:aI):ah (Int):=(CC D C).bind λE=>bif (!E)then some (-1)else some (W6 ((W6 ((W6 ((W6 (C.ay*D.rows))+C.row))*D.aT))+C.bR))
def awU:=aM O0 cq (br Rp) 23 [X4] func264
def Rq(C:aa bA)(U:Int):ah ((aa bA)×Bool):=letI D:=(C.length:Int);(J8 C U).bind λE=>letI L:=W6 (E+1);letI T:=(C.take D.toNat).drop L.toNat;letI O:=(C.take E.toNat).drop (0:Int).toNat;bif E<0 then bif xZ C then some ((xA C),false)else none else if 0 <= (0:Int)/\0 <= E/\E <= D then bif xZ O then if 0 <= L/\L <= D/\D <= D then bif bP ((xA O).length+T.length)then some (((xA O)++T),true)else none else none else none else none
def awV:=aM EI [(false,(.sl .dw),2),(false,.bool,0)] (br Rq) 27 [ag0] func412
def CR(C:ax)(D:Int):ah ((Int×Int)×(ax×af)):=xL C.array.cells D λT=>bif T.iy then some ((0,2),(C,()))else xM C.array.cells D λU=>(QM U.symbols).bind λE=>letI L:=(E.1,E.2.1);bif (E.2.1==1)then (E4 E.1).bind λY=>xL C.array.cells D λZ=>letI O:=C.array.cells.set D.toNat (⟨Y,Z.iy⟩:bK);bif (E.2.1==2)then xL O D λYr=>some (L,({C with array:=⟨(O.set D.toNat (⟨Yr.symbols,true⟩:bK)),C.array.bz,C.array.bu⟩},()))else some (L,({C with array:=⟨O,C.array.bz,C.array.bu⟩},()))else bif (E.2.1==2)then xL C.array.cells D λqU=>some (L,({C with array:=⟨(C.array.cells.set D.toNat (⟨qU.symbols,true⟩:bK)),C.array.bz,C.array.bu⟩},()))else some (L,(C,()))
def ah9:=xN XF [(false,.int,0),(false,.int,0)] (br CR) 48 [avD,ahs] func188
def Rr(C:ax)(x1:Int):ah ((af)×(ax×af)):=letI E:=(4:Int);xL C.queue x1 λD=>letI U:=([(⟨D.id,C.now,0,0⟩:cW)]:aa cW);(xT C D.line).bind λy4=>(Rp C.config.aE y4).bind λL=>(Rq C.queue D.id).bind λY=>if 0 <= E/\E <= 4/\E<1073741824 then xL (List.replicate E.toNat false) D.dN λe9=>(KI C.shares ((List.replicate E.toNat false).set D.dN.toNat true)).bind λZ=>bif D.write then (E4 D.data).bind λeM=>xL C.array.cells L λoX=>bif bP (C.cS.length+U.length)then some ((),({C with array:=⟨(C.array.cells.set L.toNat (⟨eM,false⟩:bK)),C.array.bz,C.array.bu⟩,queue:=Y.1,shares:=Z.1,cS:=(C.cS++U)},()))else none else (CR {C with queue:=Y.1,shares:=Z.1} L).bind λO=>letI u1:=([(⟨D.id,C.now,O.1.1,O.1.2⟩:cW)]:aa cW);(CJ O.2.1 L O.1.2).bind λkF=>letI T:=kF.2.1;bif bP (T.cS.length+u1.length)then some ((),({T with cS:=(T.cS++u1)},()))else none else none
def awW:=xN ID [] (br Rr) 100 [ah9,aht,awU,ahs,⟨316,.q Q0,Yg⟩,ahN,awV] func322
def Rs(C:eE)(E L:Int):ah (eE×Bool):=letI O:=cG L C.since 1000000;letI D:=some (C,false);letI T:=O.bind λU=>bif (!U)then D else some ((⟨0,L,C.idle⟩:eE),true);bif (E==6)then (vH C).bind λY=>bif (!Y)then D else bif (C.state != 0)then D else O.bind λZ=>bif (!Z)then D else some ((⟨1,L,C.idle⟩:eE),true)else bif (E==8)then (vH C).bind λy3=>bif (!y3)then D else bif (C.state != 0)then D else O.bind λy4=>bif (!y4)then D else some ((⟨2,L,C.idle⟩:eE),true)else bif (E==7)then (vH C).bind λy5=>bif (!y5)then D else bif (C.state != 1)then D else T else bif (E==9)then (vH C).bind λy7=>bif (!y7)then D else bif (C.state != 2)then D else T else D
def awX:=aM [(true,.Power),(false,.int),(false,.int)] [(true,.Power,0),(false,.bool,0)] (fS Rs) 42 [eN,QG] func323
def Rt(C:ax)(D:aG):ah ((af)×(ax×af)):=letI E:=some ((),({C with bq:=⟨C.bq.aB,0⟩},()));bif (D.kind==1)then xL C.bq.aB D.ay λL=>some ((),({C with bq:=⟨(C.bq.aB.set D.ay.toNat (⟨true,D.row⟩:cQ)),C.bq.aZ⟩},()))else bif (D.kind==4)then xL C.bq.aB D.ay λO=>some ((),({C with bq:=⟨(C.bq.aB.set D.ay.toNat (⟨false,0⟩:cQ)),C.bq.aZ⟩},()))else bif (D.kind==6)then some ((),({C with bq:=⟨C.bq.aB,1⟩},()))else bif (D.kind==8)then some ((),({C with bq:=⟨C.bq.aB,2⟩},()))else bif (D.kind==7)then bif (D.kind==7)then E else some ((),(C,()))else bif (D.kind==9)then E else some ((),(C,()))
def awY:=xN [.p .cN 4 46,.v true .Command] [] (br Rt) 44 [] func318
abbrev aia:=((af×Int×af)×(ax×af))
def CS(x:aia):ah (aia⊕(((af)×(ax×af))⊕Empty)):=letI C:=x.1.2.1;bif C<(x.2.1.bq.aB.length:Int)then (K3 x.2.1 C).bind λE=>letI D:=E.2.1;xL D.aP.aH C λL=>xG (((),(W6 (C+1)),()),({D with aP:=⟨(D.aP.aH.set C.toNat (0:Int)),D.aP.wait,D.aP.dS⟩},()))else av ((),(x.2.1,()))
def aib:KY 120 (aS f192):=⟨1,lB 1 ⟨[(0,.aJ 20000 0),(7,tI)],[],OT⟩ [(3,Xs)] CS,lp [ah8]⟩
def Al(E:ax)(C:aG)(x2:Int):ah ((af)×(ax×af)):=letI T:=C.kind==9;letI U:=(⟨E.now,C⟩:cO);bif bP (E.trace.length+([U]:aa cO).length)then (Re E.config.aE E.ready U).bind λy1=>(Rt {E with ready:=y1,trace:=(E.trace++([U]:aa cO))} C).bind λy2=>letI D:=y2.2.1;(let L:ax -> ah ((af)×(ax×af)):=λY=>bif T then bh CS (((),0,()),(Y,())) λCT=>some ((),(CT.2.1,()))else some ((),(Y,()));bif (C.kind==1)then (Ri D C).bind λy3=>(L y3.2.1)else bif (C.kind==5)then (K3 D C.ay).bind λy4=>letI Z:=y4.2.1;(Ro Z.aP C.ay).bind λy5=>letI u0:=({Z with aP:=y5.1},());bif T then bh CS (((),0,()),u0) λz23=>some ((),(z23.2.1,()))else some ((),u0)else (let K4:Bool -> ah ((af)×(ax×af)):=λj6=>bif j6 then (Rr D x2).bind λy7=>(L y7.2.1)else (let O:Bool -> ah ((af)×(ax×af)):=λj8=>bif j8 then (Rs D.aZ C.kind D.now).bind λy9=>(L {D with aZ:=y9.1})else (L D);bif (C.kind==6)then (O (C.kind==6))else bif (C.kind==7)then (O (C.kind==7))else bif (C.kind==8)then (O (C.kind==8))else (O T));bif (C.kind==2)then (K4 (C.kind==2))else (K4 (C.kind==3))))else none
def awZ:=jS afi [] (fS Al) 120 [awx,awY,awK,ah8,awT,awW,awX] [aib,aib] func192
abbrev aic:=((af×Int×Int×af)×(ax×af))
def K5(x:aic):ah (aic⊕(((af×Int×af)×(ax×af))⊕Empty)):=letI D:=x.1.2.2.1;letI C:=x.2.1;bif D<(C.aP.aH.length:Int)then xL C.aP.aH D λL=>letI E:=W6 (L+1);xL C.aP.aH D λO=>xG (((),x.1.2.1,(W6 (D+1)),()),({C with aP:=⟨(C.aP.aH.set D.toNat (if 5<E then 5 else E)),C.aP.wait,C.aP.dS⟩},()))else av (((),x.1.2.1,()),(C,()))
def aw0:KY 55 (aS f179):=⟨0,lB 0 ⟨[(0,.aJ 20000 55),(1,tI),(4,tI)],[],p7⟩ [(2,⟨[(0,.aJ 20000 55),(1,tI)],[],p7⟩)] K5,lp []⟩
def K6(D:ax)(O:Int):ah ((af)×(ax×af)):=letI L:=({D with aP:=⟨D.aP.aH,(W6 (D.aP.wait-1)),D.aP.dS⟩},());bif (W6 (D.aP.wait-1)) > 0 then some ((),L)else bh K5 (((),O,0,()),L) λE=>letI C:=E.2.1;bif C.aP.dS then some ((),({C with aP:=⟨C.aP.aH,(W6 (E.1.2.1.tdiv 2)),C.aP.dS⟩},()))else some ((),({C with aP:=⟨C.aP.aH,E.1.2.1,C.aP.dS⟩},()))
def aw1:=jS [.p .cN 4 55,.v false .int] [] (br K6) 55 [] [aw0] func179
abbrev aid:=((af×Int×Int×af)×(ax×af))
def K7(x:aid):ah (aid⊕(((af)×(ax×af))⊕Empty)):=letI D:=x.1.2.2.1;letI C:=x.2.1;bif D<(C.array.bz.length:Int)then xL C.array.bz D λL=>letI E:=W6 (L+x.1.2.1);xL C.array.bz D λO=>xG (((),x.1.2.1,(W6 (D+1)),()),({C with array:=⟨C.array.cells,(C.array.bz.set D.toNat (if 100000<E then 100000 else E)),C.array.bu⟩},()))else av ((),(C,()))
def aw2:KY 30 (aS f180):=⟨0,lB 0 ⟨[(0,.aJ 20000 50),(1,tI),(4,tI)],[],p7⟩ [(2,Iz)] K7,lp []⟩
def K8(C:ax)(D:Int):ah ((af)×(ax×af)):=bh K7 (((),D,0,()),(C,())) λE=>some ((),(E.2.1,()))
def aw3:=jS XF [] (br K8) 30 [] [aw2] func180
def K9(D:ax):ah ((af)×(ax×af)):=letI u3:={D with now:=(W6 (D.now+1))};bif D.now >= 1000000 then some ((),(D,()))else (let k38:ax -> ah ((af)×(ax×af)):=λC=>(Kg C.queue true).bind λy4=>(Ke C.drain y4).bind λy5=>(CF {C with drain:=y5}).bind λy6=>(Kh C.aZ y6).bind λy7=>(Kk C.box ((C.queue.length:Int)==0)).bind λE=>bif E.2 then (Cz E.1.bI.weights).bind λy9=>(tQ C.config.aE).bind λgS=>(CG C.cK gS).bind λeM=>letI L:={C with box:=E.1,shares:=y9.1,drain:=⟨false,E.1.bI.low,E.1.bI.high⟩,aZ:=y7,cK:=eM.1};bif eM.2 >= 0 then (CR L eM.2).bind λgD=>(CJ gD.2.1 eM.2 gD.1.2).bind λgT=>(Ah gT.2.1).bind λO=>(let Ae:Bool -> ah ((af)×(ax×af)):=λKt=>bif Kt then (Al gT.2.1 O.1 O.2).bind λgN=>some ((),(gN.2.1,()))else some ((),(gT.2.1,()));bif (O.1.kind != 0)then (Ai gT.2.1 O.1 O.2).bind λiE=>(Ae iE)else (Ae false))else (Ah L).bind λT=>(let k23:Bool -> ah ((af)×(ax×af)):=λRu=>bif Ru then (Al L T.1 T.2).bind λjV=>some ((),(jV.2.1,()))else some ((),(L,()));bif (T.1.kind != 0)then (Ai L T.1 T.2).bind λAa=>(k23 Aa)else (k23 false))else (tQ C.config.aE).bind λqc=>(CG C.cK qc).bind λvN=>letI U:={C with box:=E.1,drain:=y5,aZ:=y7,cK:=vN.1};bif vN.2 >= 0 then (CR U vN.2).bind λFi=>(CJ Fi.2.1 vN.2 Fi.1.2).bind λAm=>(Ah Am.2.1).bind λY=>(let k32:Bool -> ah ((af)×(ax×af)):=λRv=>bif Rv then (Al Am.2.1 Y.1 Y.2).bind λRw=>some ((),(Rw.2.1,()))else some ((),(Am.2.1,()));bif (Y.1.kind != 0)then (Ai Am.2.1 Y.1 Y.2).bind λYs=>(k32 Ys)else (k32 false))else (Ah U).bind λZ=>(let La:Bool -> ah ((af)×(ax×af)):=λj35=>bif j35 then (Al U Z.1 Z.2).bind λAn=>some ((),(An.2.1,()))else some ((),(U,()));bif (Z.1.kind != 0)then (Ai U Z.1 Z.2).bind λxW=>(La xW)else (La false));letI u2:=k38 u3;bif (D.bq.aZ != 2)then (K6 u3 D.config.interval).bind λy1=>(K8 y1.2.1 1).bind λy2=>(k38 y2.2.1)else u2)
def aw4:=xN [.p .cN 4 0] [] (bF K9) 154 [Qv,aw1,aw3,avk,avm,avn,⟨184,.q X7,aha⟩,avp,agE,avq,ah9,aht,aws,awv,awZ] func52
def aw5:bL:=⟨afj,[],Xr⟩
def aw6:aa (Nat×bL):=[(2,ae7)]
abbrev aie:=((Int×af×af×Int×af)×(ax×ax×af))
def Lb(x:aie):ah (aie⊕(((af×af×af)×(ax×ax×af))⊕Empty)):=bif x.1.2.2.2.1<x.1.1 then (K9 x.2.2.1).bind λC=>xG ((x.1.1,(),(),(W6 (x.1.2.2.2.1+1)),()),(x.2.1,C.2.1,()))else av (((),(),()),(x.2.1,x.2.2.1,()))
def aw7:KY 26 (aS f15):=⟨0,lB 0 aw5 aw6 Lb,lp [aw4]⟩
def Fj(D:ax)(E:Int):ah (ax):=(JN D).bind λC=>(QH D).bind λL=>bif (!L)then some C else (cG E 0 5000).bind λO=>bif (!O)then some C else bh Lb ((E,(),(),0,()),((⟨⟨⟨0,0,0,0⟩,⟨0,0,0,0,0,0,0,0,0,0,0,0,0,0,0,0,0⟩,⟨0,false⟩,0,0,0,⟨0,0⟩⟩,⟨⟨0,0,0,0,0,([]:aa Int),⟨0,0⟩⟩,⟨0,0,0,0,0,([]:aa Int),⟨0,0⟩⟩,false⟩,0,⟨([]:aa cQ),0⟩,⟨([]:aa Int),([]:aa Int)⟩,⟨([]:aa bK),([]:aa Int),([]:aa Int)⟩,⟨0,([]:aa Int)⟩,⟨([]:aa Int),0,false⟩,([]:aa bQ),([]:aa Int),([]:aa aI),([]:aa bA),([]:aa bV),⟨false,0,0⟩,⟨0,0,0⟩,⟨0,0,0⟩,([]:aa bU),([]:aa cO),([]:aa cW)⟩:ax),C,())) λT=>(JN T.2.2.1).bind λU=>some U
def aw8:=bT IB [(true,.cN,4)] (br Fj) 26 [auI,avj,eN] [aw7] func15
def Fk(C:fz):ah (fz):=bif xZ C.weights then some (⟨C.eO,C.cap,C.fD,C.low,C.high,(xA C.weights),C.eK⟩:fz)else none
def aif:=aM II [(true,.lU,2)] (bF Fk) 9 [] func226
def Lc(C:gJ):ah (gJ):=(Fk C.bI).bind λD=>(Fk C.next).bind λE=>some (⟨D,E,C.waits⟩:gJ)
def aih:=aM [(true,.jJ)] [(true,.jJ,2)] (bF Lc) 12 [aif] func200
def Fl(C:cy):ah (cy):=bif xZ C.aB then some (⟨(xA C.aB),C.aZ⟩:cy)else none
def aii:=aM IJ [(true,.iI,2)] (bF Fl) 9 [] func201
def Fm(C:dn):ah (dn):=bif xZ C.last then bif xZ C.bx then some (⟨(xA C.last),(xA C.bx)⟩:dn)else none else none
def aij:=aM [(true,.ki)] IG (bF Fm) 12 [] func202
def Rx(C:bK):ah (bK):=bif xZ C.symbols then some (⟨(xA C.symbols),C.iy⟩:bK)else none
def aw9:=aM [(true,.Cell)] [(true,.Cell,2)] (bF Rx) 9 [] func286
def axa:bL:=⟨[(2,.aJ 2 0),(3,.aJ 3 0),(16,.lf (.aF .Cell 0)),(17,tI),(18,tI)],aey,[]⟩
def axb:aa (Nat×bL):=[(2,⟨[(2,.aJ 2 0),(3,.aJ 3 0)],aey,[]⟩)]
abbrev aik:=((af×af×(aa bK)×Int×Int×af)×((af×af×af×af)×(af×af×af×af)×(aa bK)×(aa Int)×(aa Int)×(aa bK)×(aa Int)×(aa Int)×af))
def Ld(x:aik):ah (aik⊕(((af×af×af)×((af×af×af×af)×(af×af×af×af)×(aa bK)×(aa Int)×(aa Int)×(aa bK)×(aa Int)×(aa Int)×af))⊕Empty)):=letI E:=x.2.2.2;letI D:=x.1.2.2;letI L:=((),(),(),());letI C:=E.2.2;bif D.2.2.1<D.2.1 then xI D.1 D.2.2.1 λT=>(Rx T).bind λO=>bif bP (C.2.1.length+[O].length)then xG (((),(),D.1,D.2.1,(W6 (D.2.2.1+1)),()),(L,L,E.1,E.2.1,C.1,(C.2.1++[O]),C.2.2.1,C.2.2.2.1,()))else none else av (((),(),()),(L,L,E.1,E.2.1,C.1,C.2.1,C.2.2.1,C.2.2.2.1,()))
def axc:KY 31 (aS f203):=⟨0,lB 0 axa axb Ld,lp [aw9]⟩
def Fo(C:cZ):ah (cZ):=bif xZ C.bz then bif xZ C.bu then bh Ld (((),(),C.cells,(C.cells.length:Int),0,()),(((),(),(),()),((),(),(),()),([]:aa bK),([]:aa Int),([]:aa Int),([]:aa bK),(xA C.bz),(xA C.bu),())) λE=>letI D:=E.2.2.2.2.2.2;some (⟨D.1,D.2.1,D.2.2.1⟩:cZ)else none else none
def ail:=bT [(true,.Array)] [(true,.Array,4)] (bF Fo) 31 [] [axc] func203
def aim(C:aa Int):ah ((aa Int)):=bif jt C then none else bif bP (([]:aa Int).length+C.length)then some (([]:aa Int)++C)else none
def Ry(C:aa Int):ah ((aa Int)):=bif jt C then some []else aim C
def ain:iK:=gR [(false,(.sl .int))] [(false,(.sl .int),2)] (λx=>Ry x.1)
def axd:enters Tryz.prog 204/\ij Tryz.prog 204 ain:=Ce 8 [] [] func204 trivial qR (t:=.int) (g:=2) (F:=aim) λx=>by kernel_rfl
def CU(C:de):ah (de):=bif xZ C.aH then some (⟨(xA C.aH),C.wait,C.dS⟩:de)else none
def Yt:=aM Cl [(true,.kM,2)] (bF CU) 9 [] func205
def Fp(C:bQ):ah (bQ):=bif xZ C.rows then bif xZ C.counts then some (⟨(xA C.rows),(xA C.counts),C.cY⟩:bQ)else none else none
def aio:=aM IK [(true,.eR,2)] (bF Fp) 14 [] func206
def aip(C:aa aI):ah ((aa aI)):=bif jt C then none else bif bP (([]:aa aI).length+C.length)then some (([]:aa aI)++C)else none
def Yu(C:aa aI):ah ((aa aI)):=bif jt C then some []else aip C
def aiq:iK:=gR [(false,(.sl .Addr))] [(false,(.sl .Addr),2)] (λx=>Yu x.1)
def axe:enters Tryz.prog 207/\ij Tryz.prog 207 aiq:=Ce 8 [] [] func207 trivial qR (t:=.Addr) (g:=2) (F:=aip) λx=>by kernel_rfl
def air(C:aa bA):ah ((aa bA)):=bif jt C then none else bif bP (([]:aa bA).length+C.length)then some (([]:aa bA)++C)else none
def Yv(C:aa bA):ah ((aa bA)):=bif jt C then some []else air C
def ais:iK:=gR [(false,(.sl .dw))] [(false,(.sl .dw),2)] (λx=>Yv x.1)
def axf:enters Tryz.prog 208/\ij Tryz.prog 208 ais:=Ce 8 [] [] func208 trivial qR (t:=.dw) (g:=2) (F:=air) λx=>by kernel_rfl
def ait(C:aa bV):ah ((aa bV)):=bif jt C then none else bif bP (([]:aa bV).length+C.length)then some (([]:aa bV)++C)else none
def Yw(C:aa bV):ah ((aa bV)):=bif jt C then some []else ait C
def aiu:iK:=gR [(false,(.sl .ef))] [(false,(.sl .ef),2)] (λx=>Yw x.1)
def axg:enters Tryz.prog 209/\ij Tryz.prog 209 aiu:=Ce 8 [] [] func209 trivial qR (t:=.ef) (g:=2) (F:=ait) λx=>by kernel_rfl
def aiv(C:aa bU):ah ((aa bU)):=bif jt C then none else bif bP (([]:aa bU).length+C.length)then some (([]:aa bU)++C)else none
def Yx(C:aa bU):ah ((aa bU)):=bif jt C then some []else aiv C
def aiw:iK:=gR [(false,(.sl .eo))] [(false,(.sl .eo),2)] (λx=>Yx x.1)
def axh:enters Tryz.prog 210/\ij Tryz.prog 210 aiw:=Ce 8 [] [] func210 trivial qR (t:=.eo) (g:=2) (F:=aiv) λx=>by kernel_rfl
def aix(C:aa cO):ah ((aa cO)):=bif jt C then none else bif bP (([]:aa cO).length+C.length)then some (([]:aa cO)++C)else none
def Yy(C:aa cO):ah ((aa cO)):=bif jt C then some []else aix C
def aiy:iK:=gR [(false,(.sl .Event))] [(false,(.sl .Event),2)] (λx=>Yy x.1)
def axi:enters Tryz.prog 211/\ij Tryz.prog 211 aiy:=Ce 8 [] [] func211 trivial qR (t:=.Event) (g:=2) (F:=aix) λx=>by kernel_rfl
def aiz(C:aa cW):ah ((aa cW)):=bif jt C then none else bif bP (([]:aa cW).length+C.length)then some (([]:aa cW)++C)else none
def Yz(C:aa cW):ah ((aa cW)):=bif jt C then some []else aiz C
def aiA:iK:=gR [(false,(.sl .gd))] [(false,(.sl .gd),2)] (λx=>Yz x.1)
def axj:enters Tryz.prog 212/\ij Tryz.prog 212 aiA:=Ce 8 [] [] func212 trivial qR (t:=.gd) (g:=2) (F:=aiz) λx=>by kernel_rfl
def axk:bL:=⟨[(1,.aJ 1 0),(2,.aJ 2 0),(3,.aJ 3 0),(36,.lf (.aF .eR 0)),(37,tI),(38,tI)],zz3,O1⟩
def axl:aa (Nat×bL):=[(2,⟨[(1,.aJ 1 0),(2,.aJ 2 0),(3,.aJ 3 0)],zz3,O1⟩)]
abbrev aiB:=((af×af×af×(aa bQ)×Int×Int×af)×(ax×ax×(Int×Int×Int×Int×Int×Int×Int×Int×Int×Int×Int×Int×Int×Int×Int×Int×Int×Int×Int×Int×Int×Int×Bool×Int×Int×Int×Int×Int×Int×Int×Int×Int×Int×af×Int×Int×Int×Int×Int×Int×Int×af×Int×Int×Bool×Int×af×Int×af×af×af×af×af×Int×af×af×Int×Bool×af×(aa Int)×(aa aI)×(aa bA)×(aa bV)×Bool×Int×Int×Int×Int×Int×Int×Int×Int×(aa bU)×(aa cO)×(aa cW)×af)×(aa Int)×(aa Int)×(aa cQ)×(aa Int)×(aa Int)×(aa bK)×(aa Int)×(aa Int)×(aa Int)×(aa Int)×(aa bQ)×af))
def Fq(x:aiB):ah (aiB⊕(((af×af×af×af)×(ax×ax×(Int×Int×Int×Int×Int×Int×Int×Int×Int×Int×Int×Int×Int×Int×Int×Int×Int×Int×Int×Int×Int×Int×Bool×Int×Int×Int×Int×Int×Int×Int×Int×Int×Int×af×Int×Int×Int×Int×Int×Int×Int×af×Int×Int×Bool×Int×af×Int×af×af×af×af×af×Int×af×af×Int×Bool×af×(aa Int)×(aa aI)×(aa bA)×(aa bV)×Bool×Int×Int×Int×Int×Int×Int×Int×Int×(aa bU)×(aa cO)×(aa cW)×af)×(aa Int)×(aa Int)×(aa cQ)×(aa Int)×(aa Int)×(aa bK)×(aa Int)×(aa Int)×(aa Int)×(aa Int)×(aa bQ)×af))⊕Empty)):=letI E:=x.1.2.2.2;letI C:=x.2.2.2.2;letI L:=C.2.2.2.2;letI D:=L.2.2.2;bif E.2.2.1<E.2.1 then xI E.1 E.2.2.1 λT=>(Fp T).bind λO=>bif bP (D.2.2.2.1.length+[O].length)then xG (((),(),(),E.1,E.2.1,(W6 (E.2.2.1+1)),()),(x.2.1,x.2.2.1,x.2.2.2.1,C.1,C.2.1,C.2.2.1,C.2.2.2.1,L.1,L.2.1,L.2.2.1,D.1,D.2.1,D.2.2.1,(D.2.2.2.1++[O]),()))else none else av (((),(),(),()),(x.2.1,x.2.2.1,x.2.2.2.1,C.1,C.2.1,C.2.2.1,C.2.2.2.1,L.1,L.2.1,L.2.2.1,D.1,D.2.1,D.2.2.1,D.2.2.2.1,()))
def axm:KY 79 (aS f70):=⟨0,lB 0 axk axl Fq,lp [aio]⟩
def Fs(C:ax):ah (ax):=(Lc C.box).bind λD=>(Fl C.bq).bind λy2=>(Fm C.ready).bind λy3=>(Fo C.array).bind λy4=>(Ry C.spare.map).bind λy5=>(CU C.aP).bind λy6=>bh Fq (((),(),(),C.bH,(C.bH.length:Int),0,()),((⟨⟨⟨0,0,0,0⟩,⟨0,0,0,0,0,0,0,0,0,0,0,0,0,0,0,0,0⟩,⟨0,false⟩,0,0,0,⟨0,0⟩⟩,⟨⟨0,0,0,0,0,([]:aa Int),⟨0,0⟩⟩,⟨0,0,0,0,0,([]:aa Int),⟨0,0⟩⟩,false⟩,0,⟨([]:aa cQ),0⟩,⟨([]:aa Int),([]:aa Int)⟩,⟨([]:aa bK),([]:aa Int),([]:aa Int)⟩,⟨0,([]:aa Int)⟩,⟨([]:aa Int),0,false⟩,([]:aa bQ),([]:aa Int),([]:aa aI),([]:aa bA),([]:aa bV),⟨false,0,0⟩,⟨0,0,0⟩,⟨0,0,0⟩,([]:aa bU),([]:aa cO),([]:aa cW)⟩:ax),C,(C.config.aE.cH,C.config.aE.aB,C.config.aE.rows,C.config.aE.aT,C.config.ck.jF,C.config.ck.rp,C.config.ck.gI,C.config.ck.mI,C.config.ck.jG,C.config.ck.jH,C.config.ck.mJ,C.config.ck.mK,C.config.ck.jh,C.config.ck.wr,C.config.ck.mL,C.config.ck.mM,C.config.ck.pG,C.config.ck.mN,C.config.ck.nI,C.config.ck.xp,C.config.ck.xs,C.config.mapping.order,C.config.mapping.hash,C.config.cr,C.config.interval,C.config.iz,C.config.dO.bz,C.config.dO.bu,D.bI.eO,D.bI.cap,D.bI.fD,D.bI.low,D.bI.high,(),D.bI.eK.down,D.bI.eK.sleep,D.next.eO,D.next.cap,D.next.fD,D.next.low,D.next.high,(),D.next.eK.down,D.next.eK.sleep,D.waits,C.now,(),y2.aZ,(),(),(),(),(),C.spare.cr,(),(),y6.wait,y6.dS,(),C.guard,C.pending,C.queue,C.shares,C.drain.on,C.drain.low,C.drain.high,C.aZ.state,C.aZ.since,C.aZ.idle,C.cK.next,C.cK.every,C.cK.wait,C.errors,C.trace,C.cS,()),D.bI.weights,D.next.weights,y2.aB,y3.last,y3.bx,y4.cells,y4.bz,y4.bu,y5,y6.aH,([]:aa bQ),())) λjc=>letI L:=jc.2.2.1;letI E:=jc.2.2.2;letI u16:=E.1.2.2;letI u9:=E.2.2.2.2.2;letI xR:=u9.2.2.2;letI u7:=u16.2.2.2;letI xQ:=u7.2.2.2;letI u2:=xQ.2.2.2;letI T:=u2.2.2.2;letI U:=T.2.2.2.2;letI Y:=U.2.2.2.2;letI Z:=Y.2.2.2.2;letI nj:=Z.2.2.2.2;letI zZ:=nj.2.2.2.2;letI O:=zZ.2.2;letI u8:=O.2.2.2.2.2.2;letI Cw:=u8.2.2.2.2.2.2.2.2.2.2.2;letI u1:=Cw.2.2.2;letI u6:=u1.2.2.2.2.2.2.2;letI xX:=u6.2.2.2.2;(Ry L.guard).bind λeM=>(Yu L.pending).bind λgD=>(Yv L.queue).bind λgT=>(Yw L.shares).bind λjz=>(Yx L.errors).bind λiE=>(Yy L.trace).bind λkF=>(Yz L.cS).bind λgN=>some (⟨⟨⟨E.1.1,E.1.2.1,u16.1,u16.2.1⟩,⟨u16.2.2.1,u7.1,u7.2.1,u7.2.2.1,xQ.1,xQ.2.1,xQ.2.2.1,u2.1,u2.2.1,u2.2.2.1,T.1,T.2.1,T.2.2.1,T.2.2.2.1,U.1,U.2.1,U.2.2.1⟩,⟨U.2.2.2.1,Y.1⟩,Y.2.1,Y.2.2.1,Y.2.2.2.1,⟨Z.1,Z.2.1⟩⟩,⟨⟨Z.2.2.1,Z.2.2.2.1,nj.1,nj.2.1,nj.2.2.1,E.2.1,⟨zZ.1,zZ.2.1⟩⟩,⟨O.1,O.2.1,O.2.2.1,O.2.2.2.1,O.2.2.2.2.1,E.2.2.1,⟨u8.1,u8.2.1⟩⟩,u8.2.2.1⟩,u8.2.2.2.1,⟨E.2.2.2.1,u8.2.2.2.2.2.1⟩,⟨E.2.2.2.2.1,u9.1⟩,⟨u9.2.1,u9.2.2.1,xR.1⟩,⟨Cw.1,xR.2.1⟩,⟨xR.2.2.1,u1.1,u1.2.1⟩,xR.2.2.2.1,eM,gD,gT,jz,⟨u6.1,u6.2.1,u6.2.2.1⟩,⟨u6.2.2.2.1,xX.1,xX.2.1⟩,⟨xX.2.2.1,xX.2.2.2.1,xX.2.2.2.2.1⟩,iE,kF,gN⟩:ax)
def YA:=bT sv [(true,.cN,4)] (bF Fs) 79 [aih,aii,aij,ail,⟨204,.p ain,axd⟩,Yt,⟨207,.p aiq,axe⟩,⟨208,.p ais,axf⟩,⟨209,.p aiu,axg⟩,⟨210,.p aiw,axh⟩,⟨211,.p aiy,axi⟩,⟨212,.p aiA,axj⟩] [axm] func70
def cz(C D E:Int):ah (Bool):=bif C >= D then some (C <= E)else some false
def en:=aM [(false,.int),(false,.int),(false,.int)] bS (fS cz) 15 [] func133
def sx(C:aV):ah (Bool):=(cz C.cH 1 2).bind λD=>bif D then (cz C.aB 1 4).bind λE=>bif E then (cz C.rows 2 16).bind λL=>bif L then (cz C.aT 1 8).bind λO=>some O else some false else some false else some false
def xY:=aM Cj bS (bF sx) 21 [en] func279
def n8(C:aV):ah (Int):=(sx C).bind λD=>bif (!D)then some 0 else some (W6 (C.cH*C.aB))
def qV:=aM Cj cq (bF n8) 11 [xY] func227
end Go.Proofs.YtnilicojgkhpnaaGreat
