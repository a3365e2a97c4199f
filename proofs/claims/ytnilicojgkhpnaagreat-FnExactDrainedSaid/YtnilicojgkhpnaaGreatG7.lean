/-
  Functions of the program as plain functions of contents, and that the code computes them. Nothing here is a claim.
-/
import Derived.Test.YtnilicojgkhpnaaGreatVZ
import Derived.Test.YtnilicojgkhpnaaGreatRows
import Derived.Test.YtnilicojgkhpnaaGreatG1
import Derived.Test.YtnilicojgkhpnaaGreatG2
import Derived.Test.YtnilicojgkhpnaaGreatG3
import Derived.Test.YtnilicojgkhpnaaGreatG4
import Derived.Test.YtnilicojgkhpnaaGreatG5
import Derived.Test.YtnilicojgkhpnaaGreatG6
namespace Go.Proofs.YtnilicojgkhpnaaGreat
set_option linter.defProp false
open Go.RowKit Go.Proofs.Tryz
set_option linter.unusedVariables false
set_option maxRecDepth 100000
def aws:enters Tryz.prog 407/\kA Tryz.prog 407 (cj Tryz.prog f407 1 [(oX.f,oX.c)]):=su (qU 1 [(oX.f,oX.c)] func407 ⟨oX.ok,trivial⟩)
def Rd(O:aU)(E:dn)(C:cP):ah (dn):=(tR E).bind λD=>letI T:=(xA D.bx)++([C.at_]:aa Int);letI L:=(T.length:Int);(let U:Bool -> ah (dn):=λj5=>bif j5 then some D else (let Y:Bool -> ah (dn):=λj9=>bif j9 then some D else (qd O).bind λeM=>(let k16:Int -> ah (dn):=λKB=>letI u3:=W6 ((W6 ((W6 (9*KB))+C.cmd.kind))-1);letI Z:=D.last.set u3.toNat C.at_;xL D.last u3 λRe=>bif (C.cmd.kind==1)then bif xZ D.bx then bif bO ((xA D.bx).length+([C.at_]:aa Int).length)then bif L > 4 then if 0 <= (1:Int)/\1 <= L/\L <= L then (tR (⟨Z,((T.take (L.toNat)).drop ((1:Int).toNat))⟩:dn)).bind λgM=>some gM else none else (tR (⟨Z,T⟩:dn)).bind λjT=>some jT else none else none else (tR (⟨Z,D.bx⟩:dn)).bind λtU=>some tU;bif C.cmd.kind <= 5 then (k16 C.cmd.ay)else (k16 eM));bif (C.cmd.kind==1)then bif (E.bx.length:Int) > 0 then xI E.bx (W6 ((E.bx.length:Int)-1)) λe8=>(Y (decide (e8 >= C.at_)))else (Y false)else (Y false));(JU O E).bind λy2=>bif (!y2)then (U true)else (KP O C.cmd).bind λy3=>bif (!y3)then (U true)else (cG C.at_ 0 1000000).bind λy4=>(U (!y4)))
def awt:=aM [(true,.fe),(true,.ki),(true,.Event)] ID (fS Rd) 57 [eO,agp,agF,ahR,⟨407,.i _,aws⟩] func317
def Fc(T:aU)(C:iY)(D:cZ)(E:Int):ah (Bool):=xI D.bz E λL=>bif L > C.bz then some true else xI D.bu E λO=>some (O > C.bu)
def ahS:=aM [(true,.fe),(true,.mO),(true,.Array),(false,.int)] bS (sv Fc) 27 [] func452
abbrev ahT:=((af×Int×af×Int×Int×af)×((af×af×af×af)×(Int×Int×Int×Int×af)×(aa bK)×(aa Int)×(aa Int)×af))
def ahU(x:ahT):ah (ahT⊕(((af×Int×af×Int×af)×((af×af×af×af)×(Int×Int×Int×Int×af)×(aa bK)×(aa Int)×(aa Int)×af))⊕Empty)):=letI O:=(1:Int);letI T:=(0:Int);letI E:=x.1.2.2.2;letI D:=x.2.2.2;letI C:=W6 ((W6 (E.1*x.2.2.1.2.2.2.1))+E.2.1);bif E.2.1<x.2.2.1.2.2.2.1 then xL D.1 C λe4=>xM D.1 C λZ=>xC Z.symbols T (xM D.1 C λe9=>xM e9.symbols T λvN=>xM D.1 C λoY=>xC oY.symbols T (xM D.1 C λU=>xM U.symbols T λRf=>xM D.1 C λCF=>letI L:=D.1.set C.toNat (⟨(U.symbols.set T.toNat (bits .xor .i64 vN 5)),CF.iy⟩:bK);xM L C λKQ=>xC KQ.symbols O (xM L C λvM=>xM vM.symbols O λvJ=>xM L C λvL=>xC vL.symbols O (xM L C λY=>xM Y.symbols O λYk=>xM L C λFe=>xG (((),x.1.2.1,(),E.1,(W6 (E.2.1+1)),()),(((),(),(),()),x.2.2.1,(L.set C.toNat (⟨(Y.symbols.set O.toNat (bits .xor .i64 vJ 10)),Fe.iy⟩:bK)),D.2.1,D.2.2.1,()))))))else av (((),x.1.2.1,(),E.1,()),(((),(),(),()),x.2.2.1,D.1,D.2.1,D.2.2.1,()))
def awu:KY 110 (aR f408):=⟨0,lB 0 ⟨[(2,.aJ 20000 0),(4,tI),(5,.aJ 5 0),(10,tI),(11,tI)],aev,[]⟩ [(2,⟨[(2,.aJ 20000 0),(4,tI),(5,.aJ 5 0),(10,tI)],aev,[]⟩)] ahU,lp []⟩
def awv(C:aU)(x1:iY)(D:cZ)(x3 U:Int):ah ((af)×(cZ×af)):=letI Y:=W6 ((W6 (x3*C.rows))+U);(let k67:Int -> Int -> Int -> Int -> Int -> Int -> (aa bK) -> (aa Int) -> (aa Int) -> ah ((af)×(cZ×af)):=λj38 L j40 j41 j42 j43 Yl j45 j46=>letI Z:=W6 (L-1);letI u5:=W6 (L+1);letI u4:=j45.set L.toNat (0:Int);letI O:=j46.set L.toNat (0:Int);xL j45 L λe49=>xL j46 L λe52=>(let k66:(aa Int) -> ah ((af)×(cZ×af)):=λT=>bif j38<(W6 (j42-1))then xL T u5 λe62=>letI u6:=W6 (e62+1);xL T u5 λe65=>some ((),((⟨Yl,u4,(T.set u5.toNat (if 100000<u6 then 100000 else u6))⟩:cZ),()))else some ((),((⟨Yl,u4,T⟩:cZ),()));bif j38 > 0 then xL O Z λe55=>letI u8:=W6 (e55+1);xL O Z λe58=>(k66 (O.set Z.toNat (if 100000<u8 then 100000 else u8)))else (k66 O));letI u0:=k67 U Y C.cF C.aB C.rows C.aT D.cells D.bz D.bu;(Fc C x1 D Y).bind λy1=>bif y1 then bk ahU (((),U,(),Y,0,()),(((),(),(),()),(C.cF,C.aB,C.rows,C.aT,()),D.cells,D.bz,D.bu,())) λYm=>letI E:=Ym.2.2;(k67 Ym.1.2.1 Ym.1.2.2.2.1 E.1.1 E.1.2.1 E.1.2.2.1 E.1.2.2.2.1 E.2.1 E.2.2.1 E.2.2.2.1)else u0)
def aHb:=jS [.v true .fe,.v true .mO,.p .Array 4 0,.v false .int,.v false .int] [] (ED awv) 110 [ahS] [awu] func408
abbrev ahV:=((af×Int×Int×af)×((af×af×Int×af)×(aa Int)×(aa Int)×af))
def KR(x:ahV):ah (ahV⊕(((Int×af)×((af×af×Int×af)×(aa Int)×(aa Int)×af))⊕(((af×Int×af)×((af×af×Int×af)×(aa Int)×(aa Int)×af))⊕Empty))):=letI E:=((),(),x.2.1.2.2.1,());letI C:=x.2.2;letI D:=x.1.2.2.1;letI L:=(E,C.1,C.2.1,());bif D<(C.1.length:Int)then xL C.1 D λO=>bif (O==x.1.2.1)then xL C.2.1 D λT=>xL C.2.1 D λU=>av ((D,()),(E,C.1,(C.2.1.set D.toNat (W6 (T+1))),()))else xG (((),x.1.2.1,(W6 (D+1)),()),L)else aQ (((),x.1.2.1,()),L)
def aww:KY 88 (aR f453):=⟨0,lB 0 ⟨[(0,.aJ 20000 0),(1,tI),(5,tI)],EE,[]⟩ [(1,⟨[(4,tI)],EE,[]⟩),(2,⟨[(0,.aJ 20000 0),(1,tI)],EE,[]⟩)] KR,lp []⟩
abbrev ahW:=((af×Int×Int×af)×((af×af×Int×af)×(aa Int)×(aa Int)×af))
def KS(x:ahW):ah (ahW⊕(((Int×af)×((af×af×Int×af)×(aa Int)×(aa Int)×af))⊕(((af×af)×((af×af×Int×af)×(aa Int)×(aa Int)×af))⊕Empty))):=letI C:=x.2.2;letI E:=x.2.1.2.2.1;letI L:=(((),(),E,()),C.1,C.2.1,());letI D:=x.1.2.2.1;bif D<(C.1.length:Int)then xL C.2.1 D λO=>bif (O==E)then xL C.1 D λT=>xL C.2.1 D λU=>av ((D,()),(((),(),E,()),(C.1.set D.toNat x.1.2.1),(C.2.1.set D.toNat (W6 (E+1))),()))else xG (((),x.1.2.1,(W6 (D+1)),()),L)else aQ (((),()),L)
def awx:KY 88 (aR f453):=⟨2,lB 2 ⟨[(0,.aJ 20000 0),(1,tI),(6,tI)],EE,[]⟩ [(1,⟨[(4,tI)],EE,[]⟩),(4,⟨[(0,.aJ 20000 0)],EE,[]⟩)] KS,lp []⟩
def Rg(L:bQ)(T:Int):ah ((Int)×(bQ×af)):=bE KR (((),T,0,()),(((),(),L.cY,()),L.rows,L.counts,())) (λC=>some (C.1.1,((⟨C.2.2.1,C.2.2.2.1,C.2.1.2.2.1⟩:bQ),()))) λD=>bE KS (((),D.1.2.1,0,()),(((),(),D.2.1.2.2.1,()),D.2.2.1,D.2.2.2.1,())) (λE=>some (E.1.1,((⟨E.2.2.1,E.2.2.2.1,E.2.1.2.2.1⟩:bQ),()))) λO=>some ((-1),((⟨O.2.2.1,O.2.2.2.1,(W6 (O.2.1.2.2.1+1))⟩:bQ),()))
def awy:=jS [.p .eR 2 0,.v false .int] cq (br Rg) 88 [] [aww,awx] func453
def KT(D:bQ)(O E:Int):ah (bQ×Bool):=(JJ D).bind λT=>letI L:=some (T,false);(CA D).bind λU=>bif (!U)then L else (cG O 0 15).bind λY=>bif (!Y)then L else (cG E 2 1000).bind λZ=>bif (!Z)then L else (Rg T O).bind λC=>(CA C.2.1).bind λy6=>bif (!y6)then (JJ D).bind λy7=>some (y7,false)else bif C.1 >= 0 then xL C.2.1.counts C.1 λjU=>if E=0 then none else some (C.2.1,((jU.tmod E)==0))else some (C.2.1,false)
def awz:=aM [(true,.eR),(false,.int),(false,.int)] [(true,.eR,2),(false,.bool,0)] (fS KT) 46 [eO,ags,agQ,awy] func409
def Yn(T C:Int):ah ((aa Int)):=letI L:=W6 (T-1);letI O:=some ([]:aa Int);letI D:=([(W6 (C+1))]:aa Int);letI E:=([(W6 (C-1))]:aa Int);(cG T 2 16).bind λU=>bif (!U)then O else (cG C 0 L).bind λY=>bif (!Y)then O else bif C > 0 then bif xZ E then bif C<L then bif bO ((xA E).length+D.length)then some ((xA E)++D)else none else some (xA E)else none else bif C<L then bif xZ D then some (xA D)else none else O
def awA:=aM EH lK (br Yn) 35 [eO] func410
def awB:bM:=⟨[(2,.aJ 20000 50),(4,tI),(5,.aJ 5 0),(10,tI),(11,tI)],[(5,.aC fZ)],p9⟩
def awC:aa (Nat×bM):=[(2,⟨[(2,.aJ 20000 50),(4,tI),(5,.aJ 5 0),(10,tI)],[(5,.aC fZ)],p9⟩)]
abbrev ahX:=((af×Int×af×Int×Int×af)×(ax×(Int×Int×Int×Int×af)×af))
def Ai(x:ahX):ah (ahX⊕(((af×Int×af×Int×af)×(ax×(Int×Int×Int×Int×af)×af))⊕Empty)):=letI O:=(1:Int);letI T:=(0:Int);letI E:=x.1.2.2.2;letI D:=x.2.1;letI C:=W6 ((W6 (E.1*x.2.2.1.2.2.2.1))+E.2.1);bif E.2.1<x.2.2.1.2.2.2.1 then xL D.array.cells C λe4=>xM D.array.cells C λZ=>xC Z.symbols T (xM D.array.cells C λe9=>xM e9.symbols T λvN=>xM D.array.cells C λoY=>xC oY.symbols T (xM D.array.cells C λU=>xM U.symbols T λRf=>xM D.array.cells C λCF=>letI L:=D.array.cells.set C.toNat (⟨(U.symbols.set T.toNat (bits .xor .i64 vN 5)),CF.iy⟩:bK);xM L C λKQ=>xC KQ.symbols O (xM L C λvM=>xM vM.symbols O λvJ=>xM L C λvL=>xC vL.symbols O (xM L C λY=>xM Y.symbols O λYk=>xM L C λFe=>xG (((),x.1.2.1,(),E.1,(W6 (E.2.1+1)),()),({D with array:=⟨(L.set C.toNat (⟨(Y.symbols.set O.toNat (bits .xor .i64 vJ 10)),Fe.iy⟩:bK)),D.array.bz,D.array.bu⟩},x.2.2.1,()))))))else av (((),x.1.2.1,(),E.1,()),(D,x.2.2.1,()))
def awD:KY 110 (aR f408):=⟨0,lB 0 awB awC Ai,lp []⟩
def KU(C:aU)(x1:iY)(Y:ax)(x3 Z:Int):ah ((af)×(ax×af)):=letI u2:=W6 ((W6 (x3*C.rows))+Z);(let k65:ax -> Int -> Int -> Int -> Int -> Int -> Int -> ah ((af)×(ax×af)):=λD j39 E j41 j42 j43 Yl=>letI u7:=W6 (E-1);letI u5:=W6 (E+1);letI u3:=D.array.bz.set E.toNat (0:Int);letI L:=D.array.bu.set E.toNat (0:Int);xL D.array.bz E λe47=>xL D.array.bu E λe50=>(let k64:(aa Int) -> ah ((af)×(ax×af)):=λO=>bif j39<(W6 (j43-1))then xL O u5 λe60=>letI u6:=W6 (e60+1);xL O u5 λe63=>some ((),({D with array:=⟨D.array.cells,u3,(O.set u5.toNat (if 100000<u6 then 100000 else u6))⟩},()))else some ((),({D with array:=⟨D.array.cells,u3,O⟩},()));bif j39 > 0 then xL L u7 λe53=>letI u8:=W6 (e53+1);xL L u7 λYo=>(k64 (L.set u7.toNat (if 100000<u8 then 100000 else u8)))else (k64 L));letI u1:=k65 Y Z u2 C.cF C.aB C.rows C.aT;(Fc C x1 Y.array u2).bind λy1=>bif y1 then bk Ai (((),Z,(),u2,0,()),(Y,(C.cF,C.aB,C.rows,C.aT,()),())) λT=>letI U:=T.2.2.1;(k65 T.2.1 T.1.2.1 T.1.2.2.2.1 U.1 U.2.1 U.2.2.1 U.2.2.2.1)else u1)
def ahY:=jS aeT [] (ED KU) 110 [ahS] [awD] func408
def awE:bM:=⟨[(0,.aJ 20000 0),(3,.aJ 3 0),(7,tB),(8,.lf (.own 1000000000195000)),(9,tI)],[(3,.aC fZ),(1000000000195000,.sl .int 2)],OR⟩
def awF:aa (Nat×bM):=[(2,Xq)]
abbrev ahZ:=((af×af×Bool×af×Int×af)×(ax×(Int×Int×Int×Int×af)×(aa Int)×af))
def tY(x:ahZ):ah (ahZ⊕(((af)×(ax×af))⊕Empty)):=letI D:=x.2.2.2.1;letI E:=x.1.2.2.2.2.1;letI O:=((),(),x.1.2.2.1,(),(W6 (E+1)),());letI C:=x.2.1;bif E<(D.length:Int)then bif x.1.2.2.1 then xL D E λT=>letI L:=(⟨x.2.2.1.2.1,T,0⟩:aI);(CB C.pending L).bind λU=>bif U<0 then bif bO (C.pending.length+([L]:aa aI).length)then xG (O,({C with pending:=(C.pending++([L]:aa aI))},x.2.2.1,D,()))else none else xG (O,(C,x.2.2.1,D,()))else av ((),(C,()))else av ((),(C,()))
def ah0:KY 129 (aR f319):=⟨0,lB 0 awE awF tY,lp [X5]⟩
def Rh(O:ax)(C:aG):ah ((af)×(ax×af)):=letI Y:=Yn O.config.aE.rows C.row;letI Z:=(C.kind,C.ay,C.row,C.bR,());(KU O.config.aE O.config.dO O C.ay C.row).bind λy1=>letI D:=y1.2.1;letI E:=(D.pending.length:Int);(CB D.pending (⟨C.ay,C.row,0⟩:aI)).bind λL=>letI T:=W6 (L+1);letI u3:=(D.pending.take (E.toNat)).drop (T.toNat);letI U:=(D.pending.take L.toNat).drop ((0:Int).toNat);bif L >= 0 then if 0 <= (0:Int)/\0 <= L/\L <= E then if 0 <= T/\T <= E/\E <= E then bif xZ U then bif bO ((xA U).length+u3.length)then xL D.bH C.ay λe5=>xL D.guard C.ay λe8=>xM D.bH C.ay λjU=>xM D.bH C.ay λni=>(KT (⟨jU.rows,ni.counts,e5.cY⟩:bQ) C.row e8).bind λgS=>xL D.bH C.ay λqW=>Y.bind λgM=>bk tY (((),(),gS.2,(),0,()),({D with bH:=(D.bH.set C.ay.toNat gS.1),pending:=((xA U)++u3)},Z,gM,())) λKV=>some ((),(KV.2.1,()))else none else none else none else none else xL D.bH C.ay λvM=>xL D.guard C.ay λYp=>xM D.bH C.ay λvL=>xM D.bH C.ay λYj=>(KT (⟨vL.rows,Yj.counts,vM.cY⟩:bQ) C.row Yp).bind λxV=>xL D.bH C.ay λFe=>Y.bind λAj=>bk tY (((),(),xV.2,(),0,()),({D with bH:=(D.bH.set C.ay.toNat xV.1)},Z,Aj,())) λz42=>some ((),(z42.2.1,()))
def awG:=jS [.p .cN 4 0,.v true .Command] [] (br Rh) 129 [X5,ahY,awz,awA] [ah0,ah0] func319
abbrev ah1:=((Int×af×Int×af)×((aa Int)×af))
def KW(x:ah1):ah (ah1⊕(((af×af)×((aa Int)×af))⊕Empty)):=letI C:=x.1.2.2.1;bif C<x.1.1 then xL x.2.1 C λD=>xG ((x.1.1,(),(W6 (C+1)),()),((x.2.1.set C.toNat (-1:Int)),()))else av (((),()),(x.2.1,()))
def awH:KY 16 (aR f367):=⟨0,lB 0 ⟨[(0,tI),(3,.lf (.own 6)),(4,tI)],[(6,.sl .int 2)],[]⟩ [(2,ae3)] KW,lp []⟩
def Ri(C:Int):ah ((aa Int)):=if 0 <= C/\C <= C/\C<1073741824 then bk KW ((C,(),0,()),((List.replicate C.toNat (0:Int)),())) λD=>some D.2.1 else none
def awI:=bT lM lK (bF Ri) 16 [] [awH] func367
def Rj(C:Int):ah (bQ×Bool):=(cG C 1 16).bind λD=>bif (!D)then some ((⟨[],[],0⟩:bQ),false)else (Ri C).bind λE=>if 0 <= C/\C <= C/\C<1073741824 then some ((⟨E,(List.replicate C.toNat (0:Int)),0⟩:bQ),true)else none
def awJ:=aM lM [(true,.eR,2),(false,.bool,0)] (bF Rj) 13 [eO,awI] func259
def awK:bM:=⟨[(2,.aJ 20000 50),(3,tI),(4,.aJ 4 0),(5,.aJ 5 0),(8,tI)],[(4,.aC fZ),(5,.aC [.int .i64,.int .i64])],p9⟩
def awL:aa (Nat×bM):=[(2,Ix)]
abbrev ah2:=((af×Int×af×af×Int×af)×(ax×(Int×Int×Int×Int×af)×(Int×Int×af)×af))
def KZ(x:ah2):ah (ah2⊕(((af)×(ax×af))⊕Empty)):=letI D:=x.1.2.2.2.2.1;letI C:=x.2.2.1;bif D<C.2.2.1 then (KU (⟨C.1,C.2.1,C.2.2.1,C.2.2.2.1⟩:aU) (⟨x.2.2.2.1.1,x.2.2.2.1.2.1⟩:iY) x.2.1 x.1.2.1 D).bind λE=>xG (((),x.1.2.1,(),(),(W6 (D+1)),()),(E.2.1,C,x.2.2.2.1,()))else av ((),(x.2.1,()))
def awM:KY 21 (aR f411):=⟨0,lB 0 awK awL KZ,lp [ahY]⟩
def Yq(C:aU)(D:iY)(E:ax)(L:Int):ah ((af)×(ax×af)):=bk KZ (((),L,(),(),0,()),(E,(C.cF,C.aB,C.rows,C.aT,()),(D.bz,D.bu,()),())) λO=>some ((),(O.2.1,()))
def awN:=jS [.v true .fe,.v true .mO,.p .cN 4 50,.v false .int] [] (sv Yq) 21 [] [awM] func411
abbrev ah3:=((af×Int×af×Int×af)×(ax×(aa aI)×af))
def Ff(x:ah3):ah (ah3⊕(((af×af×af)×(ax×(aa aI)×af))⊕Empty)):=letI C:=x.1.2.2.2.1;letI D:=((),x.1.2.1,(),(W6 (C+1)),());bif C<(x.2.1.pending.length:Int)then xL x.2.1.pending C λL=>bif (L.ay != x.1.2.1)then xL x.2.1.pending C λE=>bif bO (x.2.2.1.length+([E]:aa aI).length)then xG (D,(x.2.1,(x.2.2.1++([E]:aa aI)),()))else none else xG (D,(x.2.1,x.2.2.1,()))else av (((),(),()),(x.2.1,x.2.2.1,()))
def awO:KY 82 (aR f320):=⟨0,lB 0 ⟨[(0,.aJ 20000 0),(1,tI),(4,.lf (.own 48)),(5,tI)],[(48,.sl .Addr 2)],p9⟩ [(2,⟨[(0,.aJ 20000 0),(4,.lf (.own 48))],[(48,.sl .Addr 2)],p9⟩)] Ff,lp []⟩
def K0(C:ax)(E:Int):ah ((af)×(ax×af)):=(Yq C.config.aE C.config.dO (⟨C.config,C.box,C.now,C.bq,C.ready,C.array,C.spare,C.aP,C.bH,C.guard,C.pending,C.queue,C.shares,C.drain,C.aZ,C.cK,C.errors,C.trace,C.cT⟩:ax) E).bind λO=>letI D:=O.2.1;(Rj D.config.iz).bind λT=>xL D.bH E λY=>xL D.guard E λZ=>bk Ff (((),E,(),0,()),({D with bH:=(D.bH.set E.toNat T.1),guard:=(D.guard.set E.toNat D.box.bI.fD)},([]:aa aI),())) λL=>letI U:=L.2.1;some ((),({U with pending:=L.2.2.1},()))
def ah4:=jS IA [] (br K0) 82 [awJ,awN] [awO] func320
def Rk(C:de)(D:Int):ah (de×Bool):=(JI C).bind λE=>letI L:=some (E,false);(Cy C).bind λO=>bif (!O)then L else (cG D 0 (W6 ((C.aH.length:Int)-1))).bind λT=>bif (!T)then L else xI C.aH D λU=>bif U <= (-2)then L else xI C.aH D λY=>xL E.aH D λZ=>some ((⟨(E.aH.set D.toNat (W6 (Y-1))),E.wait,E.dS⟩:de),true)
def awP:=aM Iy [(true,.kM,2),(false,.bool,0)] (br Rk) 41 [eO,agr,Qy] func321
def Ro(D:aU)(C:aI):ah (Int):=(Cz D C).bind λE=>bif (!E)then some (-1)else some (W6 ((W6 ((W6 ((W6 (C.ay*D.rows))+C.row))*D.aT))+C.bR))
def awQ:=aM OZ cq (br Ro) 23 [X4] func264
def Rp(C:aa bA)(U:Int):ah ((aa bA)×Bool):=letI D:=(C.length:Int);(J5 C U).bind λE=>letI L:=W6 (E+1);letI T:=(C.take D.toNat).drop L.toNat;letI O:=(C.take E.toNat).drop (0:Int).toNat;bif E<0 then bif xZ C then some ((xA C),false)else none else if 0 <= (0:Int)/\0 <= E/\E <= D then bif xZ O then if 0 <= L/\L <= D/\D <= D then bif bO ((xA O).length+T.length)then some (((xA O)++T),true)else none else none else none else none
def awR:=aM EG [(false,(.sl .dw),2),(false,.bool,0)] (br Rp) 27 [agW] func412
def CO(C:ax)(D:Int):ah ((Int×Int)×(ax×af)):=xL C.array.cells D λT=>bif T.iy then some ((0,2),(C,()))else xM C.array.cells D λU=>(QL U.symbols).bind λE=>letI L:=(E.1,E.2.1);bif (E.2.1==1)then (E2 E.1).bind λY=>xL C.array.cells D λZ=>letI O:=C.array.cells.set D.toNat (⟨Y,Z.iy⟩:bK);bif (E.2.1==2)then xL O D λYr=>some (L,({C with array:=⟨(O.set D.toNat (⟨Yr.symbols,true⟩:bK)),C.array.bz,C.array.bu⟩},()))else some (L,({C with array:=⟨O,C.array.bz,C.array.bu⟩},()))else bif (E.2.1==2)then xL C.array.cells D λqW=>some (L,({C with array:=⟨(C.array.cells.set D.toNat (⟨qW.symbols,true⟩:bK)),C.array.bz,C.array.bu⟩},()))else some (L,(C,()))
def ah5:=xN XD [(false,.int,0),(false,.int,0)] (br CO) 48 [avz,aho] func188
def Rq(C:ax)(x1:Int):ah ((af)×(ax×af)):=letI E:=(4:Int);xL C.queue x1 λD=>letI U:=([(⟨D.id,C.now,0,0⟩:cX)]:aa cX);(xT C D.line).bind λy4=>(Ro C.config.aE y4).bind λL=>(Rp C.queue D.id).bind λY=>if 0 <= E/\E <= 4/\E<1073741824 then xL (List.replicate E.toNat false) D.dN λe9=>(KF C.shares ((List.replicate E.toNat false).set D.dN.toNat true)).bind λZ=>bif D.write then (E2 D.data).bind λeM=>xL C.array.cells L λoY=>bif bO (C.cT.length+U.length)then some ((),({C with array:=⟨(C.array.cells.set L.toNat (⟨eM,false⟩:bK)),C.array.bz,C.array.bu⟩,queue:=Y.1,shares:=Z.1,cT:=(C.cT++U)},()))else none else (CO {C with queue:=Y.1,shares:=Z.1} L).bind λO=>letI u1:=([(⟨D.id,C.now,O.1.1,O.1.2⟩:cX)]:aa cX);(CG O.2.1 L O.1.2).bind λkF=>letI T:=kF.2.1;bif bO (T.cT.length+u1.length)then some ((),({T with cT:=(T.cT++u1)},()))else none else none
def awS:=xN IA [] (br Rq) 100 [ah5,ahp,awQ,aho,⟨316,.q QZ,Yg⟩,ahJ,awR] func322
def Rr(C:eC)(E L:Int):ah (eC×Bool):=letI O:=cG L C.since 1000000;letI D:=some (C,false);letI T:=O.bind λU=>bif (!U)then D else some ((⟨0,L,C.idle⟩:eC),true);bif (E==6)then (vI C).bind λY=>bif (!Y)then D else bif (C.state != 0)then D else O.bind λZ=>bif (!Z)then D else some ((⟨1,L,C.idle⟩:eC),true)else bif (E==8)then (vI C).bind λy3=>bif (!y3)then D else bif (C.state != 0)then D else O.bind λy4=>bif (!y4)then D else some ((⟨2,L,C.idle⟩:eC),true)else bif (E==7)then (vI C).bind λy5=>bif (!y5)then D else bif (C.state != 1)then D else T else bif (E==9)then (vI C).bind λy7=>bif (!y7)then D else bif (C.state != 2)then D else T else D
def awT:=aM [(true,.Power),(false,.int),(false,.int)] [(true,.Power,0),(false,.bool,0)] (fS Rr) 42 [eO,QF] func323
def Rs(C:ax)(D:aG):ah ((af)×(ax×af)):=letI E:=some ((),({C with bq:=⟨C.bq.aB,0⟩},()));bif (D.kind==1)then xL C.bq.aB D.ay λL=>some ((),({C with bq:=⟨(C.bq.aB.set D.ay.toNat (⟨true,D.row⟩:cR)),C.bq.aZ⟩},()))else bif (D.kind==4)then xL C.bq.aB D.ay λO=>some ((),({C with bq:=⟨(C.bq.aB.set D.ay.toNat (⟨false,0⟩:cR)),C.bq.aZ⟩},()))else bif (D.kind==6)then some ((),({C with bq:=⟨C.bq.aB,1⟩},()))else bif (D.kind==8)then some ((),({C with bq:=⟨C.bq.aB,2⟩},()))else bif (D.kind==7)then bif (D.kind==7)then E else some ((),(C,()))else bif (D.kind==9)then E else some ((),(C,()))
def awU:=xN [.p .cN 4 46,.v true .Command] [] (br Rs) 44 [] func318
abbrev ah6:=((af×Int×af)×(ax×af))
def CP(x:ah6):ah (ah6⊕(((af)×(ax×af))⊕Empty)):=letI C:=x.1.2.1;bif C<(x.2.1.bq.aB.length:Int)then (K0 x.2.1 C).bind λE=>letI D:=E.2.1;xL D.aP.aH C λL=>xG (((),(W6 (C+1)),()),({D with aP:=⟨(D.aP.aH.set C.toNat (0:Int)),D.aP.wait,D.aP.dS⟩},()))else av ((),(x.2.1,()))
def ah7:KY 120 (aR f192):=⟨1,lB 1 ⟨[(0,.aJ 20000 0),(7,tI)],[],OR⟩ [(3,Xq)] CP,lp [ah4]⟩
def Ak(E:ax)(C:aG)(x2:Int):ah ((af)×(ax×af)):=letI T:=C.kind==9;letI U:=(⟨E.now,C⟩:cP);bif bO (E.trace.length+([U]:aa cP).length)then (Rd E.config.aE E.ready U).bind λy1=>(Rs {E with ready:=y1,trace:=(E.trace++([U]:aa cP))} C).bind λy2=>letI D:=y2.2.1;(let L:ax -> ah ((af)×(ax×af)):=λY=>bif T then bk CP (((),0,()),(Y,())) λCQ=>some ((),(CQ.2.1,()))else some ((),(Y,()));bif (C.kind==1)then (Rh D C).bind λy3=>(L y3.2.1)else bif (C.kind==5)then (K0 D C.ay).bind λy4=>letI Z:=y4.2.1;(Rk Z.aP C.ay).bind λy5=>letI u0:=({Z with aP:=y5.1},());bif T then bk CP (((),0,()),u0) λz23=>some ((),(z23.2.1,()))else some ((),u0)else (let K1:Bool -> ah ((af)×(ax×af)):=λj6=>bif j6 then (Rq D x2).bind λy7=>(L y7.2.1)else (let O:Bool -> ah ((af)×(ax×af)):=λj8=>bif j8 then (Rr D.aZ C.kind D.now).bind λy9=>(L {D with aZ:=y9.1})else (L D);bif (C.kind==6)then (O (C.kind==6))else bif (C.kind==7)then (O (C.kind==7))else bif (C.kind==8)then (O (C.kind==8))else (O T));bif (C.kind==2)then (K1 (C.kind==2))else (K1 (C.kind==3))))else none
def awV:=jS aff [] (fS Ak) 120 [awt,awU,awG,ah4,awP,awS,awT] [ah7,ah7] func192
abbrev ah8:=((af×Int×Int×af)×(ax×af))
def K2(x:ah8):ah (ah8⊕(((af×Int×af)×(ax×af))⊕Empty)):=letI D:=x.1.2.2.1;letI C:=x.2.1;bif D<(C.aP.aH.length:Int)then xL C.aP.aH D λL=>letI E:=W6 (L+1);xL C.aP.aH D λO=>xG (((),x.1.2.1,(W6 (D+1)),()),({C with aP:=⟨(C.aP.aH.set D.toNat (if 5<E then 5 else E)),C.aP.wait,C.aP.dS⟩},()))else av (((),x.1.2.1,()),(C,()))
def awW:KY 55 (aR f179):=⟨0,lB 0 ⟨[(0,.aJ 20000 55),(1,tI),(4,tI)],[],p9⟩ [(2,⟨[(0,.aJ 20000 55),(1,tI)],[],p9⟩)] K2,lp []⟩
def K3(D:ax)(O:Int):ah ((af)×(ax×af)):=letI L:=({D with aP:=⟨D.aP.aH,(W6 (D.aP.wait-1)),D.aP.dS⟩},());bif (W6 (D.aP.wait-1)) > 0 then some ((),L)else bk K2 (((),O,0,()),L) λE=>letI C:=E.2.1;bif C.aP.dS then some ((),({C with aP:=⟨C.aP.aH,(W6 (E.1.2.1.tdiv 2)),C.aP.dS⟩},()))else some ((),({C with aP:=⟨C.aP.aH,E.1.2.1,C.aP.dS⟩},()))
def awX:=jS [.p .cN 4 55,.v false .int] [] (br K3) 55 [] [awW] func179
abbrev ah9:=((af×Int×Int×af)×(ax×af))
def K4(x:ah9):ah (ah9⊕(((af)×(ax×af))⊕Empty)):=letI D:=x.1.2.2.1;letI C:=x.2.1;bif D<(C.array.bz.length:Int)then xL C.array.bz D λL=>letI E:=W6 (L+x.1.2.1);xL C.array.bz D λO=>xG (((),x.1.2.1,(W6 (D+1)),()),({C with array:=⟨C.array.cells,(C.array.bz.set D.toNat (if 100000<E then 100000 else E)),C.array.bu⟩},()))else av ((),(C,()))
def awY:KY 30 (aR f180):=⟨0,lB 0 ⟨[(0,.aJ 20000 50),(1,tI),(4,tI)],[],p9⟩ [(2,Ix)] K4,lp []⟩
def K5(C:ax)(D:Int):ah ((af)×(ax×af)):=bk K4 (((),D,0,()),(C,())) λE=>some ((),(E.2.1,()))
def awZ:=jS XD [] (br K5) 30 [] [awY] func180
def K6(D:ax):ah ((af)×(ax×af)):=letI u3:={D with now:=(W6 (D.now+1))};bif D.now >= 1000000 then some ((),(D,()))else (let k38:ax -> ah ((af)×(ax×af)):=λC=>(Kd C.queue true).bind λy4=>(Kb C.drain y4).bind λy5=>(CC {C with drain:=y5}).bind λy6=>(Ke C.aZ y6).bind λy7=>(Kh C.box ((C.queue.length:Int)==0)).bind λE=>bif E.2 then (Cw E.1.bI.weights).bind λy9=>(tS C.config.aE).bind λgR=>(CD C.cK gR).bind λeM=>letI L:={C with box:=E.1,shares:=y9.1,drain:=⟨false,E.1.bI.low,E.1.bI.high⟩,aZ:=y7,cK:=eM.1};bif eM.2 >= 0 then (CO L eM.2).bind λgD=>(CG gD.2.1 eM.2 gD.1.2).bind λgS=>(Ag gS.2.1).bind λO=>(let Ad:Bool -> ah ((af)×(ax×af)):=λKq=>bif Kq then (Ak gS.2.1 O.1 O.2).bind λgM=>some ((),(gM.2.1,()))else some ((),(gS.2.1,()));bif (O.1.kind != 0)then (Ah gS.2.1 O.1 O.2).bind λiE=>(Ad iE)else (Ad false))else (Ag L).bind λT=>(let k23:Bool -> ah ((af)×(ax×af)):=λRt=>bif Rt then (Ak L T.1 T.2).bind λjV=>some ((),(jV.2.1,()))else some ((),(L,()));bif (T.1.kind != 0)then (Ah L T.1 T.2).bind λz0=>(k23 z0)else (k23 false))else (tS C.config.aE).bind λqe=>(CD C.cK qe).bind λvO=>letI U:={C with box:=E.1,drain:=y5,aZ:=y7,cK:=vO.1};bif vO.2 >= 0 then (CO U vO.2).bind λFg=>(CG Fg.2.1 vO.2 Fg.1.2).bind λAl=>(Ag Al.2.1).bind λY=>(let k32:Bool -> ah ((af)×(ax×af)):=λRu=>bif Ru then (Ak Al.2.1 Y.1 Y.2).bind λy31=>some ((),(y31.2.1,()))else some ((),(Al.2.1,()));bif (Y.1.kind != 0)then (Ah Al.2.1 Y.1 Y.2).bind λYs=>(k32 Ys)else (k32 false))else (Ag U).bind λZ=>(let K7:Bool -> ah ((af)×(ax×af)):=λj35=>bif j35 then (Ak U Z.1 Z.2).bind λAm=>some ((),(Am.2.1,()))else some ((),(U,()));bif (Z.1.kind != 0)then (Ah U Z.1 Z.2).bind λxW=>(K7 xW)else (K7 false));letI u2:=k38 u3;bif (D.bq.aZ != 2)then (K3 u3 D.config.interval).bind λy1=>(K5 y1.2.1 1).bind λy2=>(k38 y2.2.1)else u2)
def aw0:=xN [.p .cN 4 0] [] (bF K6) 154 [Qu,awX,awZ,avg,avi,avj,⟨184,.q X7,ag6⟩,avl,agA,avm,ah5,ahp,awo,awr,awV] func52
def aw1:bM:=⟨[(2,.aJ 2 0),(3,.aJ 3 0),(4,tI)],[],OQ⟩
def aw2:aa (Nat×bM):=[(2,⟨OW,[],OQ⟩)]
abbrev aia:=((af×af×Int×af)×(ax×ax×af))
def Fh(x:aia):ah (aia⊕(((af×af×af)×(ax×ax×af))⊕Empty)):=letI C:=av (((),(),()),(x.2.1,x.2.2.1,()));bif x.1.2.2.1<5000 then bif (x.2.2.1.queue.length:Int) > 0 then (K6 x.2.2.1).bind λD=>xG (((),(),(W6 (x.1.2.2.1+1)),()),(x.2.1,D.2.1,()))else C else C
def aw3:KY 24 (aR f17):=⟨0,lB 0 aw1 aw2 Fh,lp [aw0]⟩
def Rv(C:ax):ah (ax):=(JK C).bind λD=>(QG C).bind λE=>bif (!E)then some D else bk Fh (((),(),0,()),((⟨⟨⟨0,0,0,0⟩,⟨0,0,0,0,0,0,0,0,0,0,0,0,0,0,0,0,0⟩,⟨0,false⟩,0,0,0,⟨0,0⟩⟩,⟨⟨0,0,0,0,0,([]:aa Int),⟨0,0⟩⟩,⟨0,0,0,0,0,([]:aa Int),⟨0,0⟩⟩,false⟩,0,⟨([]:aa cR),0⟩,⟨([]:aa Int),([]:aa Int)⟩,⟨([]:aa bK),([]:aa Int),([]:aa Int)⟩,⟨0,([]:aa Int)⟩,⟨([]:aa Int),0,false⟩,([]:aa bQ),([]:aa Int),([]:aa aI),([]:aa bA),([]:aa bV),⟨false,0,0⟩,⟨0,0,0⟩,⟨0,0,0⟩,([]:aa bU),([]:aa cP),([]:aa cX)⟩:ax),D,())) λL=>(JK L.2.2.1).bind λO=>some O
def aw4:=bT qa [(true,.cN,4)] (bF Rv) 24 [auE,avf] [aw3] func17
def Fi(C:fz):ah (fz):=bif xZ C.weights then some (⟨C.eN,C.cap,C.fD,C.low,C.high,(xA C.weights),C.eI⟩:fz)else none
def aib:=aM IE [(true,.lU,2)] (bF Fi) 9 [] func226
def K8(C:gI):ah (gI):=(Fi C.bI).bind λD=>(Fi C.next).bind λE=>some (⟨D,E,C.waits⟩:gI)
def aic:=aM [(true,.jJ)] [(true,.jJ,2)] (bF K8) 12 [aib] func200
def Fj(C:cy):ah (cy):=bif xZ C.aB then some (⟨(xA C.aB),C.aZ⟩:cy)else none
def aid:=aM IF [(true,.iI,2)] (bF Fj) 9 [] func201
def Fk(C:dn):ah (dn):=bif xZ C.last then bif xZ C.bx then some (⟨(xA C.last),(xA C.bx)⟩:dn)else none else none
def aie:=aM [(true,.ki)] ID (bF Fk) 12 [] func202
def Rw(C:bK):ah (bK):=bif xZ C.symbols then some (⟨(xA C.symbols),C.iy⟩:bK)else none
def aw5:=aM [(true,.Cell)] [(true,.Cell,2)] (bF Rw) 9 [] func286
def aw6:bM:=⟨[(2,.aJ 2 0),(3,.aJ 3 0),(16,.lf (.aF .Cell 0)),(17,tI),(18,tI)],aew,[]⟩
def aw7:aa (Nat×bM):=[(2,⟨OW,aew,[]⟩)]
abbrev aif:=((af×af×(aa bK)×Int×Int×af)×((af×af×af×af)×(af×af×af×af)×(aa bK)×(aa Int)×(aa Int)×(aa bK)×(aa Int)×(aa Int)×af))
def K9(x:aif):ah (aif⊕(((af×af×af)×((af×af×af×af)×(af×af×af×af)×(aa bK)×(aa Int)×(aa Int)×(aa bK)×(aa Int)×(aa Int)×af))⊕Empty)):=letI E:=x.2.2.2;letI D:=x.1.2.2;letI L:=((),(),(),());letI C:=E.2.2;bif D.2.2.1<D.2.1 then xI D.1 D.2.2.1 λT=>(Rw T).bind λO=>bif bO (C.2.1.length+[O].length)then xG (((),(),D.1,D.2.1,(W6 (D.2.2.1+1)),()),(L,L,E.1,E.2.1,C.1,(C.2.1++[O]),C.2.2.1,C.2.2.2.1,()))else none else av (((),(),()),(L,L,E.1,E.2.1,C.1,C.2.1,C.2.2.1,C.2.2.2.1,()))
def aw8:KY 31 (aR f203):=⟨0,lB 0 aw6 aw7 K9,lp [aw5]⟩
def Fl(C:cZ):ah (cZ):=bif xZ C.bz then bif xZ C.bu then bk K9 (((),(),C.cells,(C.cells.length:Int),0,()),(((),(),(),()),((),(),(),()),([]:aa bK),([]:aa Int),([]:aa Int),([]:aa bK),(xA C.bz),(xA C.bu),())) λE=>letI D:=E.2.2.2.2.2.2;some (⟨D.1,D.2.1,D.2.2.1⟩:cZ)else none else none
def aih:=bT [(true,.Array)] [(true,.Array,4)] (bF Fl) 31 [] [aw8] func203
def aii(C:aa Int):ah ((aa Int)):=bif jt C then none else bif bO (([]:aa Int).length+C.length)then some (([]:aa Int)++C)else none
def Rx(C:aa Int):ah ((aa Int)):=bif jt C then some []else aii C
def aij:iK:=gQ [(false,(.sl .int))] [(false,(.sl .int),2)] (λx=>Rx x.1)
def aw9:enters Tryz.prog 204/\ig Tryz.prog 204 aij:=Cb 8 [] [] func204 trivial qT (t:=.int) (g:=2) (F:=aii) λx=>by kernel_rfl
def CR(C:de):ah (de):=bif xZ C.aH then some (⟨(xA C.aH),C.wait,C.dS⟩:de)else none
def Yt:=aM Ch [(true,.kM,2)] (bF CR) 9 [] func205
def Fm(C:bQ):ah (bQ):=bif xZ C.rows then bif xZ C.counts then some (⟨(xA C.rows),(xA C.counts),C.cY⟩:bQ)else none else none
def aik:=aM IG [(true,.eR,2)] (bF Fm) 14 [] func206
def ail(C:aa aI):ah ((aa aI)):=bif jt C then none else bif bO (([]:aa aI).length+C.length)then some (([]:aa aI)++C)else none
def Yu(C:aa aI):ah ((aa aI)):=bif jt C then some []else ail C
def aim:iK:=gQ [(false,(.sl .Addr))] [(false,(.sl .Addr),2)] (λx=>Yu x.1)
def axa:enters Tryz.prog 207/\ig Tryz.prog 207 aim:=Cb 8 [] [] func207 trivial qT (t:=.Addr) (g:=2) (F:=ail) λx=>by kernel_rfl
def ain(C:aa bA):ah ((aa bA)):=bif jt C then none else bif bO (([]:aa bA).length+C.length)then some (([]:aa bA)++C)else none
def Yv(C:aa bA):ah ((aa bA)):=bif jt C then some []else ain C
def aio:iK:=gQ [(false,(.sl .dw))] [(false,(.sl .dw),2)] (λx=>Yv x.1)
def axb:enters Tryz.prog 208/\ig Tryz.prog 208 aio:=Cb 8 [] [] func208 trivial qT (t:=.dw) (g:=2) (F:=ain) λx=>by kernel_rfl
def aip(C:aa bV):ah ((aa bV)):=bif jt C then none else bif bO (([]:aa bV).length+C.length)then some (([]:aa bV)++C)else none
def Yw(C:aa bV):ah ((aa bV)):=bif jt C then some []else aip C
def aiq:iK:=gQ [(false,(.sl .ef))] [(false,(.sl .ef),2)] (λx=>Yw x.1)
def axc:enters Tryz.prog 209/\ig Tryz.prog 209 aiq:=Cb 8 [] [] func209 trivial qT (t:=.ef) (g:=2) (F:=aip) λx=>by kernel_rfl
def air(C:aa bU):ah ((aa bU)):=bif jt C then none else bif bO (([]:aa bU).length+C.length)then some (([]:aa bU)++C)else none
def Yx(C:aa bU):ah ((aa bU)):=bif jt C then some []else air C
def ais:iK:=gQ [(false,(.sl .eo))] [(false,(.sl .eo),2)] (λx=>Yx x.1)
def axd:enters Tryz.prog 210/\ig Tryz.prog 210 ais:=Cb 8 [] [] func210 trivial qT (t:=.eo) (g:=2) (F:=air) λx=>by kernel_rfl
def ait(C:aa cP):ah ((aa cP)):=bif jt C then none else bif bO (([]:aa cP).length+C.length)then some (([]:aa cP)++C)else none
def Yy(C:aa cP):ah ((aa cP)):=bif jt C then some []else ait C
def aiu:iK:=gQ [(false,(.sl .Event))] [(false,(.sl .Event),2)] (λx=>Yy x.1)
def axe:enters Tryz.prog 211/\ig Tryz.prog 211 aiu:=Cb 8 [] [] func211 trivial qT (t:=.Event) (g:=2) (F:=ait) λx=>by kernel_rfl
def aiv(C:aa cX):ah ((aa cX)):=bif jt C then none else bif bO (([]:aa cX).length+C.length)then some (([]:aa cX)++C)else none
def Yz(C:aa cX):ah ((aa cX)):=bif jt C then some []else aiv C
def aiw:iK:=gQ [(false,(.sl .gd))] [(false,(.sl .gd),2)] (λx=>Yz x.1)
def axf:enters Tryz.prog 212/\ig Tryz.prog 212 aiw:=Cb 8 [] [] func212 trivial qT (t:=.gd) (g:=2) (F:=aiv) λx=>by kernel_rfl
def axg:bM:=⟨[(1,.aJ 1 0),(2,.aJ 2 0),(3,.aJ 3 0),(36,.lf (.aF .eR 0)),(37,tI),(38,tI)],zz3,O0⟩
def axh:aa (Nat×bM):=[(2,⟨[(1,.aJ 1 0),(2,.aJ 2 0),(3,.aJ 3 0)],zz3,O0⟩)]
abbrev aix:=((af×af×af×(aa bQ)×Int×Int×af)×(ax×ax×(Int×Int×Int×Int×Int×Int×Int×Int×Int×Int×Int×Int×Int×Int×Int×Int×Int×Int×Int×Int×Int×Int×Bool×Int×Int×Int×Int×Int×Int×Int×Int×Int×Int×af×Int×Int×Int×Int×Int×Int×Int×af×Int×Int×Bool×Int×af×Int×af×af×af×af×af×Int×af×af×Int×Bool×af×(aa Int)×(aa aI)×(aa bA)×(aa bV)×Bool×Int×Int×Int×Int×Int×Int×Int×Int×(aa bU)×(aa cP)×(aa cX)×af)×(aa Int)×(aa Int)×(aa cR)×(aa Int)×(aa Int)×(aa bK)×(aa Int)×(aa Int)×(aa Int)×(aa Int)×(aa bQ)×af))
def Fo(x:aix):ah (aix⊕(((af×af×af×af)×(ax×ax×(Int×Int×Int×Int×Int×Int×Int×Int×Int×Int×Int×Int×Int×Int×Int×Int×Int×Int×Int×Int×Int×Int×Bool×Int×Int×Int×Int×Int×Int×Int×Int×Int×Int×af×Int×Int×Int×Int×Int×Int×Int×af×Int×Int×Bool×Int×af×Int×af×af×af×af×af×Int×af×af×Int×Bool×af×(aa Int)×(aa aI)×(aa bA)×(aa bV)×Bool×Int×Int×Int×Int×Int×Int×Int×Int×(aa bU)×(aa cP)×(aa cX)×af)×(aa Int)×(aa Int)×(aa cR)×(aa Int)×(aa Int)×(aa bK)×(aa Int)×(aa Int)×(aa Int)×(aa Int)×(aa bQ)×af))⊕Empty)):=letI E:=x.1.2.2.2;letI C:=x.2.2.2.2;letI L:=C.2.2.2.2;letI D:=L.2.2.2;bif E.2.2.1<E.2.1 then xI E.1 E.2.2.1 λT=>(Fm T).bind λO=>bif bO (D.2.2.2.1.length+[O].length)then xG (((),(),(),E.1,E.2.1,(W6 (E.2.2.1+1)),()),(x.2.1,x.2.2.1,x.2.2.2.1,C.1,C.2.1,C.2.2.1,C.2.2.2.1,L.1,L.2.1,L.2.2.1,D.1,D.2.1,D.2.2.1,(D.2.2.2.1++[O]),()))else none else av (((),(),(),()),(x.2.1,x.2.2.1,x.2.2.2.1,C.1,C.2.1,C.2.2.1,C.2.2.2.1,L.1,L.2.1,L.2.2.1,D.1,D.2.1,D.2.2.1,D.2.2.2.1,()))
def axi:KY 79 (aR f70):=⟨0,lB 0 axg axh Fo,lp [aik]⟩
def Fp(C:ax):ah (ax):=(K8 C.box).bind λD=>(Fj C.bq).bind λy2=>(Fk C.ready).bind λy3=>(Fl C.array).bind λy4=>(Rx C.spare.map).bind λy5=>(CR C.aP).bind λy6=>bk Fo (((),(),(),C.bH,(C.bH.length:Int),0,()),((⟨⟨⟨0,0,0,0⟩,⟨0,0,0,0,0,0,0,0,0,0,0,0,0,0,0,0,0⟩,⟨0,false⟩,0,0,0,⟨0,0⟩⟩,⟨⟨0,0,0,0,0,([]:aa Int),⟨0,0⟩⟩,⟨0,0,0,0,0,([]:aa Int),⟨0,0⟩⟩,false⟩,0,⟨([]:aa cR),0⟩,⟨([]:aa Int),([]:aa Int)⟩,⟨([]:aa bK),([]:aa Int),([]:aa Int)⟩,⟨0,([]:aa Int)⟩,⟨([]:aa Int),0,false⟩,([]:aa bQ),([]:aa Int),([]:aa aI),([]:aa bA),([]:aa bV),⟨false,0,0⟩,⟨0,0,0⟩,⟨0,0,0⟩,([]:aa bU),([]:aa cP),([]:aa cX)⟩:ax),C,(C.config.aE.cF,C.config.aE.aB,C.config.aE.rows,C.config.aE.aT,C.config.ck.jF,C.config.ck.rp,C.config.ck.gH,C.config.ck.mI,C.config.ck.jG,C.config.ck.jH,C.config.ck.mJ,C.config.ck.mK,C.config.ck.ji,C.config.ck.wr,C.config.ck.mL,C.config.ck.mM,C.config.ck.pH,C.config.ck.mN,C.config.ck.nJ,C.config.ck.xp,C.config.ck.xs,C.config.mapping.order,C.config.mapping.hash,C.config.cr,C.config.interval,C.config.iz,C.config.dO.bz,C.config.dO.bu,D.bI.eN,D.bI.cap,D.bI.fD,D.bI.low,D.bI.high,(),D.bI.eI.down,D.bI.eI.sleep,D.next.eN,D.next.cap,D.next.fD,D.next.low,D.next.high,(),D.next.eI.down,D.next.eI.sleep,D.waits,C.now,(),y2.aZ,(),(),(),(),(),C.spare.cr,(),(),y6.wait,y6.dS,(),C.guard,C.pending,C.queue,C.shares,C.drain.on,C.drain.low,C.drain.high,C.aZ.state,C.aZ.since,C.aZ.idle,C.cK.next,C.cK.every,C.cK.wait,C.errors,C.trace,C.cT,()),D.bI.weights,D.next.weights,y2.aB,y3.last,y3.bx,y4.cells,y4.bz,y4.bu,y5,y6.aH,([]:aa bQ),())) λjd=>letI L:=jd.2.2.1;letI E:=jd.2.2.2;letI u16:=E.1.2.2;letI u9:=E.2.2.2.2.2;letI xR:=u9.2.2.2;letI u7:=u16.2.2.2;letI xQ:=u7.2.2.2;letI u2:=xQ.2.2.2;letI T:=u2.2.2.2;letI U:=T.2.2.2.2;letI Y:=U.2.2.2.2;letI Z:=Y.2.2.2.2;letI nj:=Z.2.2.2.2;letI zY:=nj.2.2.2.2;letI O:=zY.2.2;letI u8:=O.2.2.2.2.2.2;letI Ct:=u8.2.2.2.2.2.2.2.2.2.2.2;letI u1:=Ct.2.2.2;letI u6:=u1.2.2.2.2.2.2.2;letI xX:=u6.2.2.2.2;(Rx L.guard).bind λeM=>(Yu L.pending).bind λgD=>(Yv L.queue).bind λgS=>(Yw L.shares).bind λjz=>(Yx L.errors).bind λiE=>(Yy L.trace).bind λkF=>(Yz L.cT).bind λgM=>some (⟨⟨⟨E.1.1,E.1.2.1,u16.1,u16.2.1⟩,⟨u16.2.2.1,u7.1,u7.2.1,u7.2.2.1,xQ.1,xQ.2.1,xQ.2.2.1,u2.1,u2.2.1,u2.2.2.1,T.1,T.2.1,T.2.2.1,T.2.2.2.1,U.1,U.2.1,U.2.2.1⟩,⟨U.2.2.2.1,Y.1⟩,Y.2.1,Y.2.2.1,Y.2.2.2.1,⟨Z.1,Z.2.1⟩⟩,⟨⟨Z.2.2.1,Z.2.2.2.1,nj.1,nj.2.1,nj.2.2.1,E.2.1,⟨zY.1,zY.2.1⟩⟩,⟨O.1,O.2.1,O.2.2.1,O.2.2.2.1,O.2.2.2.2.1,E.2.2.1,⟨u8.1,u8.2.1⟩⟩,u8.2.2.1⟩,u8.2.2.2.1,⟨E.2.2.2.1,u8.2.2.2.2.2.1⟩,⟨E.2.2.2.2.1,u9.1⟩,⟨u9.2.1,u9.2.2.1,xR.1⟩,⟨Ct.1,xR.2.1⟩,⟨xR.2.2.1,u1.1,u1.2.1⟩,xR.2.2.2.1,eM,gD,gS,jz,⟨u6.1,u6.2.1,u6.2.2.1⟩,⟨u6.2.2.2.1,xX.1,xX.2.1⟩,⟨xX.2.2.1,xX.2.2.2.1,xX.2.2.2.2.1⟩,iE,kF,gM⟩:ax)
def YA:=bT qa [(true,.cN,4)] (bF Fp) 79 [aic,aid,aie,aih,⟨204,.p aij,aw9⟩,Yt,⟨207,.p aim,axa⟩,⟨208,.p aio,axb⟩,⟨209,.p aiq,axc⟩,⟨210,.p ais,axd⟩,⟨211,.p aiu,axe⟩,⟨212,.p aiw,axf⟩] [axi] func70
def cA(C D E:Int):ah (Bool):=bif C >= D then some (C <= E)else some false
def en:=aM [(false,.int),(false,.int),(false,.int)] bS (fS cA) 15 [] func133
def sy(C:aU):ah (Bool):=(cA C.cF 1 2).bind λD=>bif D then (cA C.aB 1 4).bind λE=>bif E then (cA C.rows 2 16).bind λL=>bif L then (cA C.aT 1 8).bind λO=>some O else some false else some false else some false
def xY:=aM Cg bS (bF sy) 21 [en] func279
def n9(C:aU):ah (Int):=(sy C).bind λD=>bif (!D)then some 0 else some (W6 (C.cF*C.aB))
def qX:=aM Cg cq (bF n9) 11 [xY] func227
end Go.Proofs.YtnilicojgkhpnaaGreat
