/-
  Functions of the program as plain functions of contents, and that the code computes them. Nothing here is a claim.
-/
import Derived.Test.YtgjfmljpdnnihaaGreatVZ
import Derived.Test.YtgjfmljpdnnihaaGreatRows
import Derived.Test.YtgjfmljpdnnihaaGreatG1
namespace Go.Proofs.YtgjfmljpdnnihaaGreat
set_option linter.defProp false
open Go.RowKit Go.Proofs.Tryz
set_option linter.unusedVariables false
set_option maxRecDepth 100000
abbrev aes:=(((aa cA)×af×(aa cA)×Int×Int×(aa cA)×Int×Int×af)×((Int×Int×Int×af)×af))
def Ey(x:aes):aj (aes⊕(((Bool×af)×(af))⊕((((aa cA)×(aa cA)×Int×Int×af)×(af))⊕Empty))):=letI D:=x.1.2.2;letI C:=D.2.2;letI E:=xG ((x.1.1,(),D.1,D.2.1,C.1,C.2.1,C.2.2.1,(W6 (C.2.2.2.1+1)),()),(x.2.1,()));bif C.2.2.2.1<C.2.2.1 then xI C.2.1 C.2.2.2.1 λI=>bif (x.2.1.1==I.line)then bif (x.2.1.2.1==I.code)then az ((false,()),())else E else E else bf ((x.1.1,D.1,D.2.1,C.1,()),())
def aet:KY 59 (rF (bh f63) 0):=⟨2,lB 2 ⟨[(0,.lf (.aH .gH 0)),(4,.aG 4 0),(7,.lf (.aH .gH 0)),(8,tI),(9,tI),(36,.lf (.aH .gH 0)),(37,tI),(38,tI)],[(4,.aC HY)],[]⟩ [(1,nP),(4,adn)] Ey,lp []⟩
abbrev aeu:=(((aa cA)×(aa cA)×Int×Int×af)×(af))
def Iz(x:aeu):aj (aeu⊕(((Bool×af)×(af))⊕((((aa cA)×af)×(af))⊕Empty))):=letI I:=az ((false,()),());letI D:=x.1.2.2.2.1;letI L:=(x.1.1.take D.toNat).drop (0:Int).toNat;bif D<x.1.2.2.1 then xI x.1.2.1 D λC=>letI O:=(cB C.times 1 999).bind λT=>bif (!T)then I else if 0 <= (0:Int)/\0 <= D/\D <= (x.1.1.length:Int)then bP Ey ((x.1.1,(),x.1.2.1,x.1.2.2.1,D,L,(L.length:Int),0,()),((C.line,C.code,C.times,()),())) (λU=>az ((U.1.1,()),())) λE=>xG ((E.1.1,E.1.2.1,E.1.2.2.1,(W6 (E.1.2.2.2.1+1)),()),())else none;(cB C.line 0 1023).bind λY=>bif (!Y)then I else bif (C.code != 1)then bif (C.code != 2)then I else O else O else bf ((x.1.1,()),())
def aqu:KY 59 (bh f63):=⟨0,lB 0 adn [(1,nP),(2,⟨[(0,.lf (.aH .gH 0))],[],[]⟩)] Iz,lq [eM] [aet,aet]⟩
def IA(C:aa cA):aj (Bool):=bP Iz ((C,C,(C.length:Int),0,()),()) (λD=>some D.1.1) λE=>some ((E.1.1.length:Int) <= 6)
def aev:=cg [(false,(.sl .gH))] cv (bL IA) 59 [] [aqu] func63
def zV(C:av):aj (Bool):=(sK C.config C.box.bT).bind λD=>bif (!D)then some false else (sK C.config C.box.next).bind λE=>bif (!E)then some false else (cB C.now 0 1000000).bind λI=>bif (!I)then some false else (Im C.config.ax C.aY).bind λL=>bif (!L)then some false else (Ev C.config.ax C.ready).bind λO=>bif (!O)then some false else (It C.config.ax C.array).bind λT=>bif (!T)then some false else (Ik C.config.ax C.spare).bind λU=>bif (!U)then some false else bif (C.spare.bM != C.config.bM)then some false else (Od C).bind λY=>bif (!Y)then some false else (Et C.config.ax C.spare).bind λZ=>(zO Z).bind λlM=>(Og lM C.queue).bind λgK=>bif (!gK)then some false else (Ep C.shares).bind λhU=>bif (!hU)then some false else bif ((C.shares.length:Int) != 4)then some false else (B3 C.drain).bind λiV=>bif (!iV)then some false else (B9 C.aT).bind λlN=>bif (!lN)then some false else bif (C.aT.state != C.aY.aT)then some false else bif C.aT.since > C.now then some false else (cB C.cU.every 1 100000).bind λkj=>bif kj then (cB C.cU.wait 1 C.cU.every).bind λmR=>bif mR then (zO C.config.ax).bind λjL=>(cB C.cU.next 0 (W6 (jL-1))).bind λpH=>bif pH then (IA C.errors).bind λxx=>bif xx then bif (C.trace.length:Int) <= 2000 then some ((C.cr.length:Int) <= 400)else some false else some false else some false else some false else some false
def Oh:=bx sJ cv (bL zV) 155 [ap6,eM,Wz,WB,aea,WC,aqi,ad7,aqp,aqt,Wx,Wy,WI,aev] func17
def IB(D:aI):aj (bU):=(oy D).bind λE=>bif (!E)then some (⟨[],0⟩:bU)else (mQ D).bind λC=>if 0 <= C/\C <= C/\C<1073741824 then some (⟨(List.replicate C.toNat (⟨false,0⟩:di)),0⟩:bU)else none
def aew:=bx ud [(true,.gX,2)] (bL IB) 11 [pG,rH] func29
def Ca(C:Int)(D:Bool)(E:Int):aj (Bool):=bif (!D)then some (C==0)else (cB C 0 (W6 (E-1))).bind λI=>some I
def aqv:=bx [(false,.int),(false,.bool),(false,.int)] cv (fC Ca) 15 [eM] func265
def Oi(C:Int):aj (Bool):=some (C==1)
def aqw:=bx lK cv (bL Oi) 5 [] func266
def Oj(C:Int):aj (Bool):=bif (C==2)then some true else some (C==3)
def aqx:=bx lK cv (bL Oj) 9 [] func267
def WJ(C:aE)(D E I:Int):aj (Bool):=(cB C.kind 1 9).bind λL=>bif L then (xw C.kind).bind λO=>(Ca C.ay O D).bind λT=>bif T then (Oi C.kind).bind λU=>(Ca C.row U E).bind λY=>bif Y then (Oj C.kind).bind λZ=>(Ca C.bO Z I).bind λy7=>some y7 else some false else some false else some false
def aqy:=bx [(true,.Command),(false,.int),(false,.int),(false,.int)] cv (nO WJ) 39 [eM,N9,aqv,aqw,aqx] func193
def Cb(C:aI)(D:aE):aj (Bool):=(oy C).bind λE=>bif E then (mQ C).bind λI=>(WJ D I C.rows C.aL).bind λL=>some L else some false
def Ok:=bx Wu cv (bY Cb) 17 [pG,rH,aqy] func114
def Ez(C:bU):aj (bU):=bif xZ C.aA then some (⟨(xA C.aA),C.aT⟩:bU)else none
def aex:=bx [(true,.gX)] [(true,.gX,2)] (bL Ez) 9 [] func88
def IC(O:aI)(D:bU)(C:aE):aj (Bool):=letI E:=D.aT==0;letI T:=bif E then xI D.aA C.ay λY=>some (!Y.open_)else some false;letI I:=bif E then xI D.aA C.ay λZ=>some Z.open_ else some false;letI L:=bif (C.kind==6)then some E else bif (C.kind==8)then bif E then (zP D).bind λy7=>some ((y7.length:Int)==0)else some false else bif (C.kind==7)then some (D.aT==1)else some (D.aT==2);letI U:=bif (C.kind==2)then bif (C.kind==2)then I else L else bif (C.kind==3)then bif (C.kind==3)then I else L else bif (C.kind==4)then I else L;(Im O D).bind λy1=>bif (!y1)then some false else (Cb O C).bind λy2=>bif (!y2)then some false else bif (C.kind==1)then bif (C.kind==1)then T else U else bif (C.kind==5)then T else U
def aey:=bx [(true,.fo),(true,.gX),(true,.Command)] cv (fC IC) 75 [aea,Ok,N8] func165
def xy(L:aI)(E:bU)(C:aE):aj (bU×Bool):=(Ez E).bind λD=>letI I:=some ((⟨D.aA,0⟩:bU),true);(IC L E C).bind λO=>bif (!O)then some (D,false)else bif (C.kind==1)then xL D.aA C.ay λT=>some ((⟨(D.aA.set C.ay.toNat (⟨true,C.row⟩:di)),D.aT⟩:bU),true)else bif (C.kind==4)then xL D.aA C.ay λU=>some ((⟨(D.aA.set C.ay.toNat (⟨false,0⟩:di)),D.aT⟩:bU),true)else bif (C.kind==6)then some ((⟨D.aA,1⟩:bU),true)else bif (C.kind==8)then some ((⟨D.aA,2⟩:bU),true)else bif (C.kind==7)then bif (C.kind==7)then I else some (D,true)else bif (C.kind==9)then I else some (D,true)
def WK:=bx [(true,.fo),(true,.gX),(true,.Command)] [(true,.gX,2),(false,.bool,0)] (fC xy) 48 [aex,aey] func115
def Ol(C:ck)(D E:Int):aj (Int):=(let O:Bool -> aj (Int):=λI=>(let L:Bool -> aj (Int):=λj2=>bif j2 then some C.kJ else (let T:Bool -> aj (Int):=λj3=>bif j3 then some C.gG else (let U:Bool -> aj (Int):=λj4=>bif j4 then some (W6 (C.gG+C.rp))else (let Y:Bool -> aj (Int):=λj5=>bif j5 then some C.jl else (let Z:Bool -> aj (Int):=λj6=>bif j6 then some (W6 (C.jl+C.rp))else (let WL:Bool -> aj (Int):=λj7=>bif j7 then some C.wr else (let EA:Bool -> aj (Int):=λj8=>bif j8 then some (W6 (C.wr+C.rp))else (let WM:Bool -> aj (Int):=λj9=>bif j9 then some C.rp else (let EB:Bool -> aj (Int):=λCc=>bif Cc then some C.n6 else some 0;bif (D==5)then (EB I)else (EB false));bif (D==4)then (WM I)else (WM false));bif (D==3)then (EA I)else (EA false));bif (D==3)then (WL (E==4))else (WL false));bif (D==2)then (Z I)else (Z false));bif (D==2)then (Y (E==4))else (Y false));bif (D==1)then (U I)else (U false));bif (D==1)then (T (E==4))else (T false));bif (D==1)then bif (E==2)then (L true)else (L (E==3))else (L false));bif (E==1)then (O true)else (O (E==5)))
def aez:=bx [(true,.jn),(false,.int),(false,.int)] dD (fC Ol) 103 [] func270
def aqz:enters Tryz.prog 307/\rm Tryz.prog 307 (ci Tryz.prog f307 1 []):=HQ 1 [] func307 trivial
def Om(C:ck)(D E:Int)(I:Bool):aj (Int):=bif (D==7)then some C.xp else bif (D==9)then some C.xs else (let T:Bool -> aj (Int):=λj1=>bif j1 then (let U:Int -> aj (Int):=λj2=>some j2;bif I then (U C.kK)else (U C.nW))else (let L:Bool -> aj (Int):=λj4=>bif j4 then (let Y:Int -> aj (Int):=λj5=>some j5;bif I then (Y C.nY)else (Y C.nX))else (let Z:Bool -> aj (Int):=λj7=>bif j7 then (let k9:Int -> aj (Int):=λj8=>some j8;bif I then (k9 C.n5)else (k9 C.nZ))else (let zW:Bool -> aj (Int):=λCc=>bif Cc then some C.qM else (let zX:Bool -> aj (Int):=λWN=>bif WN then some C.kK else (let zY:Bool -> aj (Int):=λID=>bif ID then some C.jl else (let zZ:Bool -> aj (Int):=λCd=>bif Cd then some C.wr else bif (E==8)then (Ol C D 1).bind λlN=>some lN else (let O:Bool -> aj (Int):=λEC=>bif EC then some C.oK else some 0;letI u0:=bif (D==8)then (O (E==9))else (O false);bif (D==6)then bif (E==7)then (O true)else u0 else u0);bif (D==3)then (zZ (E==6))else (zZ false));bif (D==2)then (zY (E==6))else (zY false));bif (D==5)then (zX (E==5))else (zX false));bif (D==2)then (zW (E==3))else (zW false));bif (D==3)then (Z (E==2))else (Z false));letI u1:=bif (D==3)then (L (E==3))else (L false);bif (D==2)then bif (E==2)then (L true)else u1 else u1);bif (D==1)then (T (E==1))else (T false))
def aqA:=bx adz dD (nO Om) 126 [aez,⟨307,.i _,aqz⟩] func268
def IE(C:aI)(D:Int):aj (Int):=(mQ C).bind λE=>(cB D 0 (W6 (E-1))).bind λI=>bif (!I)then some (-1)else if C.aA=0 then none else some (W6 (D.tdiv C.aA))
def aqB:=bx HW dD (bY IE) 15 [pG,eM] func269
def z0(T:aI)(L:ck)(C D:aE):aj (Int):=letI U:=Ol L C.kind D.kind;letI Y:=Om L C.kind D.kind false;(xw C.kind).bind λy1=>bif y1 then (xw D.kind).bind λO=>bif O then (IE T C.ay).bind λy3=>(IE T D.ay).bind λy4=>(Om L C.kind D.kind (y3==y4)).bind λE=>letI Z:=some (if E > 1 then E else 1);bif O then bif (C.ay==D.ay)then U.bind λy6=>some (if y6 > (if E > 1 then E else 1)then y6 else (if E > 1 then E else 1))else Z else Z else Y.bind λI=>letI u2:=some (if I > 1 then I else 1);bif O then bif (C.ay==D.ay)then U.bind λy8=>some (if y8 > (if I > 1 then I else 1)then y8 else (if I > 1 then I else 1))else u2 else u2 else Y.bind λy9=>some (if y9 > 1 then y9 else 1)
def aeA:=bx adA dD (nO z0) 55 [N9,aqA,aqB,aez] func194
abbrev aeB:=((af×af×af×Int×(aa bW)×Int×Int×af)×((Int×Int×Int×Int×af)×ck×(Int×Int×Int×Int×af)×af))
def On(x:aeB):aj (aeB⊕(((Int×af)×(af))⊕Empty)):=letI D:=x.2.2.2.1;letI C:=x.1.2.2.2;bif C.2.2.2.1<C.2.2.1 then xI C.2.1 C.2.2.2.1 λE=>(z0 (⟨x.2.1.1,x.2.1.2.1,x.2.1.2.2.1,x.2.1.2.2.2.1⟩:aI) x.2.2.1 E.cmd (⟨D.1,D.2.1,D.2.2.1,D.2.2.2.1⟩:aE)).bind λL=>letI I:=W6 (E.at_+L);xG (((),(),(),(if I > C.1 then I else C.1),C.2.1,C.2.2.1,(W6 (C.2.2.2.1+1)),()),(x.2.1,x.2.2.1,D,()))else az ((C.1,()),())
def aqC:KY 31 (bh f116):=⟨0,lB 0 ⟨[(4,.aG 4 0),(5,.aG 5 0),(7,.aG 7 0),(9,tI),(12,.lf (.aH .Event 0)),(13,tI),(14,tI)],[(4,.aC eK),(5,.st .jn),(7,.aC eK)],[]⟩ [(2,⟨[(9,tI)],[],[]⟩)] On,lp [aeA]⟩
def IF(C:aI)(I:ck)(E:aa bW)(D:aE):aj (Int):=br On (((),(),(),0,E,(E.length:Int),0,()),((C.bK,C.aA,C.rows,C.aL,()),I,(D.kind,D.ay,D.row,D.bO,()),())) λL=>some L.1.1
def aqD:=cg [(true,.fo),(true,.jn),(false,(.sl .Event)),(true,.Command)] dD (nO IF) 31 [] [aqC] func116
abbrev aeC:=((af×(aa bW)×Int×Int×af)×((aa Int)×af))
def IG(x:aeC):aj (aeC⊕(((af×af)×((aa Int)×af))⊕Empty)):=letI C:=x.1.2.2;letI E:=((),x.1.2.1,C.1,(W6 (C.2.1+1)),());bif C.2.1<C.1 then xI x.1.2.1 C.2.1 λD=>bif (D.cmd.kind==1)then bif bD (x.2.1.length+([D.at_]:aa Int).length)then xG (E,((x.2.1++([D.at_]:aa Int)),()))else none else xG (E,(x.2.1,()))else az (((),()),(x.2.1,()))
def aqE:KY 24 (bh f195):=⟨0,lB 0 ⟨[(3,.lf (.own 6)),(7,.lf (.aH .Event 0)),(8,tI),(9,tI)],NX,[]⟩ [(2,Wb)] IG,lp []⟩
def Oo(C:aa bW):aj ((aa Int)):=br IG (((),C,(C.length:Int),0,()),(([]:aa Int),())) λD=>some D.2.1
def aqF:=cg [(false,(.sl .Event))] mc (bL Oo) 24 [] [aqE] func195
def II(D:ck)(E:aa bW):aj (Int):=(Oo E).bind λC=>bif (C.length:Int)<4 then some 0 else xL C (W6 ((C.length:Int)-4)) λI=>some (W6 (I+D.iN))
def aqG:=bx [(true,.jn),(false,(.sl .Event))] dD (bY II) 20 [aqF] func117
def aqH:bG:=⟨[(2,.lf (.aH .Event 0)),(3,.aG 3 0),(4,.aG 4 0),(8,.aG 8 0),(28,.lf (.aH .Event 0)),(29,tI),(30,tI)],[(3,.aC eK),(4,.st .jn),(8,.aC [.own 1000000000127000,.int .i64]),(1000000000127000,.sl .jB 2)],[]⟩
def aqI:aa (Nat×bG):=[(1,⟨[(6,tI),(7,tI)],[],[]⟩),(2,gx)]
abbrev aeD:=(((aa bW)×af×af×af×(aa bW)×Int×Int×af)×((Int×Int×Int×Int×af)×ck×(af×Int×af)×(aa di)×af))
def Ce(x:aeD):aj (aeD⊕(((Int×Int×af)×(af))⊕(((af)×(af))⊕Empty))):=letI E:=x.1.2.2.2.2;letI I:=(⟨x.2.1.1,x.2.1.2.1,x.2.1.2.2.1,x.2.1.2.2.2.1⟩:aI);letI C:=E.2.2.1;letI L:=az ((1,C,()),());letI T:=(x.1.1.take C.toNat).drop (0:Int).toNat;bif C<E.2.1 then xI E.1 C λD=>letI U:=(xy I (⟨x.2.2.2.2.1,x.2.2.2.1.2.1⟩:bU) D.cmd).bind λO=>letI Y:=xG ((x.1.1,(),(),(),E.1,E.2.1,(W6 (C+1)),()),(x.2.1,x.2.2.1,((),O.1.aT,()),O.1.aA,()));bif (!O.2)then az ((2,C,()),())else if 0 <= (0:Int)/\0 <= C/\C <= (x.1.1.length:Int)then (IF I x.2.2.1 T D.cmd).bind λZ=>bif D.at_<Z then az ((3,C,()),())else bif (D.cmd.kind==1)then if 0 <= (0:Int)/\0 <= C/\C <= (x.1.1.length:Int)then (II x.2.2.1 T).bind λhU=>bif D.at_<hU then az ((4,C,()),())else Y else none else Y else none;(Cb I D.cmd).bind λy6=>bif (!y6)then L else (cB D.at_ 0 1000000).bind λy7=>bif (!y7)then L else bif C > 0 then xI x.1.1 (W6 (C-1)) λe9=>bif D.at_ <= e9.at_ then L else U else U else bf ((),())
def aqJ:KY 105 (bh f47):=⟨0,lB 0 aqH aqI Ce,lp [eM,Ok,WK,aqD,aqG]⟩
def Oq(C:aI)(I:ck)(D:aa bW):aj (Int×Int):=letI E:=some (1,(-1));(oy C).bind λT=>bif (!T)then E else (B1 I).bind λU=>bif (!U)then E else bif (D.length:Int) > 2000 then E else (IB C).bind λL=>bP Ce ((D,(),(),(),D,(D.length:Int),0,()),((C.bK,C.aA,C.rows,C.aL,()),I,((),L.aT,()),L.aA,())) (λO=>some (O.1.1,O.1.2.1)) λY=>some (0,(-1))
def aqK:=cg [(true,.fo),(true,.jn),(false,(.sl .Event))] [(false,.int,0),(false,.int,0)] (fC Oq) 105 [aew,rH,N4] [aqJ] func47
def aqL:bG:=⟨[(2,.aG 2 0),(4,.aG 4 0),(6,.aG 6 0),(17,.lf (.aH .Event 0)),(18,tI),(19,tI)],[(2,.aC eK),(4,.aC Wr),(6,.aC adO),(90100,.sl .jB 2),(1000000000116000,.sl .jB 2)],[]⟩
def aqM:aa (Nat×bG):=[(1,⟨[(4,.aG 4 0),(5,tB)],[(4,.aC Wr),(90100,.sl .jB 2)],[]⟩),(2,⟨[(4,.aG 4 0),(6,.aG 6 0)],[(4,.aC Wr),(6,.aC adO),(90100,.sl .jB 2),(1000000000116000,.sl .jB 2)],[]⟩)]
abbrev aeE:=((af×af×af×(aa bW)×Int×Int×af)×((Int×Int×Int×Int×af)×(af×Int×af)×(af×Int×af)×(aa di)×(aa di)×af))
def IJ(x:aeE):aj (aeE⊕(((af×Bool×af)×((af×Int×af)×(aa di)×af))⊕(((af×af×af)×((af×Int×af)×(af×Int×af)×(aa di)×(aa di)×af))⊕Empty))):=letI I:=((),x.2.2.1.2.1,());letI D:=x.2.2.2;letI C:=x.1.2.2.2;bif C.2.2.1<C.2.1 then xI C.1 C.2.2.1 λL=>(xy (⟨x.2.1.1,x.2.1.2.1,x.2.1.2.2.1,x.2.1.2.2.2.1⟩:aI) (⟨D.2.2.1,D.1.2.1⟩:bU) L.cmd).bind λE=>bif (!E.2)then az (((),false,()),(((),0,()),([]:aa di),()))else xG (((),(),(),C.1,C.2.1,(W6 (C.2.2.1+1)),()),(x.2.1,I,((),E.1.aT,()),D.2.1,E.1.aA,()))else bf (((),(),()),(I,((),D.1.2.1,()),D.2.1,D.2.2.1,()))
def aqN:KY 37 (bh f48):=⟨0,lB 0 aqL aqM IJ,lp [WK]⟩
def Ot(C:aI)(E:aa bW):aj (bU×Bool):=(oy C).bind λO=>bif (!O)then some ((⟨[],0⟩:bU),false)else (IB C).bind λI=>bP IJ (((),(),(),E,(E.length:Int),0,()),((C.bK,C.aA,C.rows,C.aL,()),((),0,()),((),I.aT,()),([]:aa di),I.aA,())) (λD=>some ((⟨D.2.2.1,D.2.1.2.1⟩:bU),D.1.2.1)) λL=>some ((⟨L.2.2.2.2.1,L.2.2.1.2.1⟩:bU),true)
def aqO:=cg [(true,.fo),(false,(.sl .Event))] [(true,.gX,2),(false,.bool,0)] (bY Ot) 37 [aew,rH] [aqN] func48
abbrev aeF:=((af×af×Int×Int×af)×((af×af×af)×(af×af×af)×(aa Int)×(aa Int)×(aa Int)×(aa Int)×af))
def IK(x:aeF):aj (aeF⊕(((af×af×af)×((af×af×af)×(af×af×af)×(aa Int)×(aa Int)×(aa Int)×(aa Int)×af))⊕Empty)):=letI E:=x.1.2.2.2.1;letI D:=((),(),());letI C:=x.2.2.2.2;bif E<x.1.2.2.1 then xL C.2.1 E λI=>xG (((),(),x.1.2.2.1,(W6 (E+1)),()),(D,D,x.2.2.2.1,C.1,(C.2.1.set E.toNat (-1:Int)),C.2.2.1,()))else az (D,(D,D,x.2.2.2.1,C.1,C.2.1,C.2.2.1,()))
def aqP:KY 27 (bh f30):=⟨0,lB 0 ⟨[(2,.aG 2 0),(3,.aG 3 0),(17,tI),(18,tI)],ac4,[]⟩ [(2,⟨Wq,ac4,[]⟩)] IK,lp []⟩
def Ou(D:aI):aj (cZ):=(oy D).bind λI=>bif (!I)then some (⟨[],[]⟩:cZ)else (mQ D).bind λL=>letI C:=W6 (9*(W6 (L+1)));if 0 <= C/\C <= C/\C<1073741824 then br IK (((),(),((List.replicate C.toNat (0:Int)).length:Int),0,()),(((),(),()),((),(),()),([]:aa Int),([]:aa Int),(List.replicate C.toNat (0:Int)),([]:aa Int),())) λE=>some (⟨E.2.2.2.2.2.1,E.2.2.2.2.2.2.1⟩:cZ)else none
def aqQ:=cg ud [(true,.ny,2)] (bL Ou) 27 [pG,rH] [aqP] func30
def ED(C:cZ):aj (cZ):=bif xZ C.last then bif xZ C.aU then some (⟨(xA C.last),(xA C.aU)⟩:cZ)else none else none
def aeG:=bx [(true,.ny)] H6 (bL ED) 12 [] func89
def Ov(D:aI)(C:aE):aj (Int):=(mQ D).bind λE=>(xw C.kind).bind λI=>bif I then some (W6 ((W6 ((W6 (9*C.ay))+C.kind))-1))else some (W6 ((W6 ((W6 (9*E))+C.kind))-1))
def aqR:=bx Wu dD (bY Ov) 19 [pG,N9] func196
def EE(T:aI)(L:cZ)(C:bW):aj (cZ):=letI U:=([C.at_]:aa Int);(ED L).bind λD=>letI O:=((D.aU++U).length:Int);letI E:=W6 (O-4);letI Y:=((D.aU++U).take (O.toNat)).drop ((if E > 0 then E else 0).toNat);(let I:Bool -> aj (cZ):=λj7=>bif j7 then some D else (Ov T C.cmd).bind λZ=>letI u4:=D.last.set Z.toNat C.at_;xL D.last Z λrI=>bif (C.cmd.kind==1)then bif bD (D.aU.length+U.length)then if 0 <= (if E > 0 then E else 0)/\(if E > 0 then E else 0) <= O/\O <= O then bif xZ Y then some (⟨u4,(xA Y)⟩:cZ)else none else none else none else some (⟨u4,D.aU⟩:cZ);(Ev T L).bind λy2=>bif (!y2)then (I true)else (Cb T C.cmd).bind λy3=>bif (!y3)then (I true)else (cB C.at_ 0 1000000).bind λy4=>bif (!y4)then (I true)else bif (C.cmd.kind==1)then bif (L.aU.length:Int) > 0 then xI L.aU (W6 ((L.aU.length:Int)-1)) λe6=>(I (decide (C.at_ <= e6)))else (I false)else (I false))
def aeH:=bx [(true,.fo),(true,.ny),(true,.Event)] H6 (fC EE) 84 [eM,WC,aeG,Ok,aqR] func118
def aqS:bG:=⟨[(2,.aG 2 0),(4,.aG 4 0),(5,.aG 5 0),(10,.lf (.aH .Event 0)),(11,tI),(12,tI)],[(2,.aC eK),(4,.aC V8),(5,.aC adx),(90100,.sl .int 2),(90101,.sl .int 2),(1000000000109000,.sl .int 2),(1000000000109001,.sl .int 2)],[]⟩
def aqT:aa (Nat×bG):=[(2,⟨[(4,.aG 4 0),(5,.aG 5 0)],[(4,.aC V8),(5,.aC adx),(90100,.sl .int 2),(90101,.sl .int 2),(1000000000109000,.sl .int 2),(1000000000109001,.sl .int 2)],[]⟩)]
abbrev aeI:=((af×af×af×(aa bW)×Int×Int×af)×((Int×Int×Int×Int×af)×(af×af×af)×(af×af×af)×(aa Int)×(aa Int)×(aa Int)×(aa Int)×af))
def Ow(x:aeI):aj (aeI⊕(((af×af×af)×((af×af×af)×(af×af×af)×(aa Int)×(aa Int)×(aa Int)×(aa Int)×af))⊕Empty)):=letI E:=((),(),());letI D:=x.1.2.2.2;letI C:=x.2.2.2.2;bif D.2.2.1<D.2.1 then xI D.1 D.2.2.1 λL=>(EE (⟨x.2.1.1,x.2.1.2.1,x.2.1.2.2.1,x.2.1.2.2.2.1⟩:aI) (⟨C.2.2.1,C.2.2.2.1⟩:cZ) L).bind λI=>xG (((),(),(),D.1,D.2.1,(W6 (D.2.2.1+1)),()),(x.2.1,E,E,C.1,C.2.1,I.last,I.aU,()))else az (E,(E,E,C.1,C.2.1,C.2.2.1,C.2.2.2.1,()))
def aqU:KY 22 (bh f49):=⟨0,lB 0 aqS aqT Ow,lp [aeH]⟩
def IL(C:aI)(D:aa bW):aj (cZ):=(Ou C).bind λE=>br Ow (((),(),(),D,(D.length:Int),0,()),((C.bK,C.aA,C.rows,C.aL,()),((),(),()),((),(),()),([]:aa Int),([]:aa Int),E.last,E.aU,())) λI=>some (⟨I.2.2.2.2.2.1,I.2.2.2.2.2.2.1⟩:cZ)
def aqV:=cg [(true,.fo),(false,(.sl .Event))] H6 (bY IL) 22 [aqQ] [aqU] func49
abbrev aeJ:=(((aa Int)×(aa Int)×Int×Int×af)×(af))
def IM(x:aeJ):aj (aeJ⊕(((Bool×af)×(af))⊕(((af)×(af))⊕Empty))):=letI C:=x.1.2.2.2.1;bif C<x.1.2.2.1 then xI x.1.1 C λD=>xI x.1.2.1 C λE=>bif (D != E)then az ((false,()),())else xG ((x.1.1,x.1.2.1,x.1.2.2.1,(W6 (C+1)),()),())else bf ((),())
def aqW:KY 26 (bh f50):=⟨0,lB 0 ⟨[(0,.lf (.aH .int 0)),(1,.lf (.aH .int 0)),(12,tI),(13,tI)],[],[]⟩ [(1,jK),(2,gx)] IM,lp []⟩
def Cf(C D:aa Int):aj (Bool):=bif ((C.length:Int) != (D.length:Int))then some false else bP IM ((C,D,(C.length:Int),0,()),()) (λE=>some E.1.1) λI=>some true
def aqX:=cg [(false,(.sl .int)),(false,(.sl .int))] cv (bY Cf) 26 [] [aqW] func50
abbrev aeK:=((af×af×af×Int×Int×af)×(av×(Int×Int×Int×Int×af)×(af×Int×af)×(aa di)×af))
def Ox(x:aeK):aj (aeK⊕(((Bool×af)×(af))⊕(((af×af×af)×(av×(Int×Int×Int×Int×af)×af))⊕Empty))):=letI C:=x.1.2.2.2;bif C.2.1<C.1 then xL x.2.2.2.2.1 C.2.1 λD=>xI x.2.1.aY.aA C.2.1 λE=>bif (!((D.open_==E.open_)&&((D.row==E.row)&&true)))then az ((false,()),())else xG (((),(),(),C.1,(W6 (C.2.1+1)),()),(x.2.1,x.2.2.1,((),x.2.2.2.1.2.1,()),x.2.2.2.2.1,()))else bf (((),(),()),(x.2.1,x.2.2.1,()))
def aqY:KY 84 (bh f13):=⟨0,lB 0 ⟨[(1,.aG 1 0),(3,.aG 3 0),(6,.aG 6 0),(49,tI),(50,tI)],[(1,.st .cO),(3,.aC eK),(6,.aC [.own 1000000000130000,.int .i64]),(1000000000130000,.sl .jB 2)],[]⟩ [(1,nP),(2,ady)] Ox,lp []⟩
def Oy(C:av):aj (Bool):=(zV C).bind λO=>bif (!O)then some false else (Oq C.config.ax C.config.bX C.trace).bind λT=>(Ot C.config.ax C.trace).bind λD=>bif (T.1 != 0)then some false else bif (!D.2)then some false else bif (D.1.aT != C.aY.aT)then some false else bP Ox (((),(),(),(D.1.aA.length:Int),0,()),(C,(C.config.ax.bK,C.config.ax.aA,C.config.ax.rows,C.config.ax.aL,()),((),D.1.aT,()),D.1.aA,())) (λU=>some U.1.1) λE=>letI I:=E.2.2.1;(IL (⟨I.1,I.2.1,I.2.2.1,I.2.2.2.1⟩:aI) E.2.1.trace).bind λL=>(Cf L.last E.2.1.ready.last).bind λY=>bif Y then (Cf L.aU E.2.1.ready.aU).bind λZ=>some Z else some false
def aqZ:=cg sJ cv (bL Oy) 84 [Oh,aqK,aqO,aqV,aqX] [aqY] func13
abbrev aeL:=((af×Int×Int×af)×((aa Int)×af))
def IN(x:aeL):aj (aeL⊕(((af×Int×af)×((aa Int)×af))⊕Empty)):=letI C:=x.1.2.2.1;letI D:=az (((),x.1.2.1,()),(x.2.1,()));bif C<(x.2.1.length:Int)then bif C<4000 then xI x.2.1 C λE=>xG (((),(bits .and .i64 (W6 ((W6 ((W6 (x.1.2.1*131))+(W6 E)))+7)) 1073741823),(W6 (C+1)),()),(x.2.1,()))else D else D
def aeM:KY 32 (bh f23):=⟨0,lB 0 ⟨[(0,.lf (.own 20000)),(3,tI),(4,tI)],[(20000,.sl .u8 0)],[]⟩ [(2,⟨[(0,.lf (.own 20000)),(3,tI)],[(20000,.sl .u8 0)],[]⟩)] IN,lp []⟩
def IP(C:aa Int):aj Int:=br IN (((),(W6 (97301+(C.length:Int))),0,()),(C,())) λD=>some D.1.2.1
def aq0:enters Tryz.prog 23/\MW Tryz.prog 23 IP:=apm (N:=32) (fn:=f23) (code:=bh f23) (Φ:=(mb [])) (Λ:=(jI [(0,aeM.b)])) func23 (by kernel_rfl) (by kernel_rfl) (by kernel_rfl) (by kernel_rfl) (by kernel_rfl) (ua _ trivial) (V2 (by kernel_rfl) _ ⟨⟨_,by kernel_rfl,aeM.ok⟩,trivial⟩) (λl=>by kernel_rfl)
def Aa(C:bN):aj ((Int)×(bN×af)):=letI D:=W6 ((W6 (C.h*6364136223846793005))+1442695040888963407);letI E:=bits .and .i64 (bits .xor .i64 (D.fdiv (2 ^ (min (33:Int).toNat IntKind.i64.bits))) (D.fdiv (2 ^ (min (45:Int).toNat IntKind.i64.bits)))) 255;bif C.i<(C.b.length:Int)then xI C.b C.i λI=>some ((bits .and .i64 (W6 (E+(W6 I))) 255),((⟨C.b,(W6 (C.i+1)),D⟩:bN),()))else some (E,((⟨C.b,C.i,D⟩:bN),()))
def aq1:=jJ zL dD (bL Aa) 58 [] func77
def eZ(C:bN)(D:Int):aj ((Int)×(bN×af)):=bif D <= 0 then some (0,(C,()))else bif D <= 256 then (Aa C).bind λE=>if D=0 then none else some ((E.1.tmod D),((⟨C.b,E.2.1.i,E.2.1.h⟩:bN),()))else (Aa C).bind λI=>(Aa (⟨C.b,I.2.1.i,I.2.1.h⟩:bN)).bind λL=>(Aa (⟨C.b,L.2.1.i,L.2.1.h⟩:bN)).bind λO=>(Aa (⟨C.b,O.2.1.i,O.2.1.h⟩:bN)).bind λT=>if D=0 then none else some (((W6 ((W6 ((W6 ((W6 (I.1*16777216))+(W6 (L.1*65536))))+(W6 (O.1*256))))+T.1)).tmod D),((⟨C.b,T.2.1.i,T.2.1.h⟩:bN),()))
def sL:=jJ Wp dD (bY eZ) 37 [aq1] func26
def Oz(C:bN):aj ((aI)×(bN×af)):=(eZ C 2).bind λD=>(eZ (⟨C.b,D.2.1.i,D.2.1.h⟩:bN) 3).bind λE=>(eZ (⟨C.b,E.2.1.i,E.2.1.h⟩:bN) 2).bind λI=>some ((⟨1,(W6 (1+D.1)),(W6 (2+E.1)),(W6 (1+I.1))⟩:aI),((⟨C.b,I.2.1.i,I.2.1.h⟩:bN),()))
def aq2:=jJ zL [(true,.fo,0)] (bL Oz) 13 [sL] func72
def aeN  : aj (ck):=some (⟨3,3,7,2,3,10,2,3,3,6,4,5,4,12,3,4,16⟩:ck)
def aq3:=bx [] [(true,.jn,0)] (xU0 aeN) 2 [] func73
def Cg(D:bN)(E:Int):aj ((Bool)×(bN×af)):=(eZ D E).bind λC=>some ((C.1==0),((⟨D.b,C.2.1.i,C.2.1.h⟩:bN),()))
def OA:=jJ Wp cv (bY Cg) 9 [sL] func75
def OB(C:bN):aj ((nt)×(bN×af)):=(eZ C 3).bind λD=>(Cg (⟨C.b,D.2.1.i,D.2.1.h⟩:bN) 2).bind λE=>some ((⟨D.1,E.1⟩:nt),((⟨C.b,E.2.1.i,E.2.1.h⟩:bN),()))
def aq4:=jJ zL [(true,.r4,0)] (bL OB) 8 [sL,OA] func74
def OC(D:bN):aj ((fm)×(bN×af)):=(Oz D).bind λE=>(aeN).bind λC=>(OB (⟨D.b,E.2.1.i,E.2.1.h⟩:bN)).bind λI=>(eZ (⟨D.b,I.2.1.i,I.2.1.h⟩:bN) 60).bind λY=>letI L:=W6 (200+Y.1);(eZ (⟨D.b,Y.2.1.i,Y.2.1.h⟩:bN) 3).bind λO=>(eZ (⟨D.b,O.2.1.i,O.2.1.h⟩:bN) 2).bind λT=>(eZ (⟨D.b,T.2.1.i,T.2.1.h⟩:bN) 3).bind λU=>(Cg (⟨D.b,U.2.1.i,U.2.1.h⟩:bN) 3).bind λZ=>letI u1:=(⟨D.b,Z.2.1.i,Z.2.1.h⟩:bN);bif Z.1 then (eZ u1 5).bind λy9=>(eZ (⟨D.b,y9.2.1.i,y9.2.1.h⟩:bN) 4).bind λlM=>some ((⟨⟨(W6 (1+T.1)),E.1.aA,(W6 (4+O.1)),E.1.aL⟩,⟨C.kJ,C.rp,C.gG,C.nW,C.kK,C.iN,C.nX,C.nY,(W6 (1+lM.1)),(W6 (4+y9.1)),C.nZ,C.n5,C.qM,C.n6,C.oK,C.xp,C.xs⟩,I.1,U.1,L,16,⟨(W6 (6*L)),40⟩⟩:fm),((⟨D.b,lM.2.1.i,lM.2.1.h⟩:bN),()))else some ((⟨⟨(W6 (1+T.1)),E.1.aA,(W6 (4+O.1)),E.1.aL⟩,C,I.1,U.1,L,16,⟨(W6 (6*L)),40⟩⟩:fm),(u1,()))
def aq5:=jJ zL [(true,.Config,0)] (bL OC) 44 [sL,aq2,aq3,aq4,OA] func24
def aeO  : aj (dY):=some (⟨0,60,8,2,6,([1,1,1,1]:aa Int),⟨20,400⟩⟩:dY)
def aq6:=bx [] [(true,.n8,2)] (xU0 aeO) 4 [] func177
def Ab(D:bN)(E:aa Int):aj ((Int)×(bN×af)):=(eZ D (E.length:Int)).bind λC=>xI E C.1 λI=>some (I,((⟨D.b,C.2.1.i,C.2.1.h⟩:bN),()))
def WO:=jJ [.p .r5 0 0,.v false (.sl .int)] dD (bY Ab) 12 [sL] func178
def OD(C:bN):aj ((dY)×(bN×af)):=(aeO).bind λy1=>(eZ C 2).bind λI=>(Ab (⟨C.b,I.2.1.i,I.2.1.h⟩:bN) ([0,10,60,200]:aa Int)).bind λL=>(eZ (⟨C.b,L.2.1.i,L.2.1.h⟩:bN) 6).bind λO=>(eZ (⟨C.b,O.2.1.i,O.2.1.h⟩:bN) 3).bind λD=>(eZ (⟨C.b,D.2.1.i,D.2.1.h⟩:bN) 4).bind λT=>(eZ (⟨C.b,T.2.1.i,T.2.1.h⟩:bN) 4).bind λE=>(eZ (⟨C.b,E.2.1.i,E.2.1.h⟩:bN) 4).bind λU=>xL y1.weights E.1 λEF=>(eZ (⟨C.b,U.2.1.i,U.2.1.h⟩:bN) 20).bind λY=>(eZ (⟨C.b,Y.2.1.i,Y.2.1.h⟩:bN) 60).bind λZ=>some ((⟨I.1,L.1,(W6 (3+O.1)),D.1,(W6 ((W6 (D.1+1))+T.1)),(y1.weights.set E.1.toNat (W6 (1+U.1))),⟨(W6 (5+Y.1)),(W6 (60+Z.1))⟩⟩:dY),((⟨C.b,Z.2.1.i,Z.2.1.h⟩:bN),()))
def aq7:=jJ zL [(true,.n8,2)] (bL OD) 43 [sL,aq6,WO] func76
def IQ(D:bN):aj ((dY)×(bN×af)):=(OD D).bind λC=>(eZ (⟨D.b,C.2.1.i,C.2.1.h⟩:bN) 10).bind λE=>some ((⟨C.1.eU,C.1.cap,(W6 (8+E.1)),C.1.low,C.1.high,C.1.weights,C.1.eB⟩:dY),((⟨D.b,E.2.1.i,E.2.1.h⟩:bN),()))
def aeP:=jJ zL [(true,.n8,2)] (bL IQ) 11 [sL,aq7] func25
end Go.Proofs.YtgjfmljpdnnihaaGreat
