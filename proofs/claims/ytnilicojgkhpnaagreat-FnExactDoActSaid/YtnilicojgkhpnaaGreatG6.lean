/-
  Functions of the program as plain functions of contents, and that the code computes them. Nothing here is a claim.
-/
import Derived.Test.YtnilicojgkhpnaaGreatVZ
import Derived.Test.YtnilicojgkhpnaaGreatRows
import Derived.Test.YtnilicojgkhpnaaGreatG1
import Derived.Test.YtnilicojgkhpnaaGreatG2
import Derived.Test.YtnilicojgkhpnaaGreatG3
import Derived.Test.YtnilicojgkhpnaaGreatG4
import Derived.Test.YtnilicojgkhpnaaGreatG5
namespace Go.Proofs.YtnilicojgkhpnaaGreat
set_option linter.defProp false
open Go.RowKit Go.Proofs.Tryz
set_option linter.unusedVariables false
set_option maxRecDepth 100000
abbrev ai9:=((Int×af×Int×af)×((aa Int)×af))
def Lr(x:ai9):ah (ai9⊕(((af×af)×((aa Int)×af))⊕Empty)):=letI C:=x.1.2.2.1;letI D:=av (((),()),(x.2.1,()));letI E:=([(bits .and .i64 (x.1.1.fdiv (2 ^ (min (IntKind.u64.wrap (W6 (4*C))).toNat IntKind.i64.bits))) 15)]:aa Int);bif C<8 then (K6 x.1.1).bind λL=>bif L then if (IntKind.u64.wrap (W6 (4*C)))<0 then none else bif bM (x.2.1.length+E.length)then xG ((x.1.1,(),(W6 (C+1)),()),((x.2.1++E),()))else none else D else D
def axy:KY 24 (aW f390):=⟨0,lB 0 ⟨[(0,tI),(3,.lf (.own 5)),(4,tI)],[(5,.sl .int 2)],[]⟩ [(2,Y5)] Lr,lp [aiE]⟩
def Sa(C:Int):ah ((aa Int)):=bk Lr ((C,(),0,()),(([]:aa Int),())) λD=>some D.2.1
def axz:=bS mz mw (bG Sa) 24 [] [axy] func390
def FV(C:Int):ah ((aa Int)):=(Sa C).bind λD=>(Ax D).bind λE=>some E
def aja:=aP mz mw (bG FV) 6 [axx,axz] func306
def Sb(L:aa bW)(T U:Int):ah ((aa bW)×Bool):=letI C:=xA L;letI E:=(C.length:Int);letI O:=([(⟨T,U,1⟩:bW)]:aa bW);letI Y:=(C.take (E.toNat)).drop ((1:Int).toNat);bif xZ L then (Ld L).bind λy1=>bif (!y1)then some (C,false)else (FN (⟨T,U,1⟩:bW)).bind λy2=>bif (!y2)then some (C,false)else (Lb L T U).bind λD=>bif D >= 0 then xC C D (if h5:D.toNat<C.length then (let e6:=C[D.toNat]'h5;letI Z:=W6 (e6.times+1);xC C D (if h8:D.toNat<C.length then (let e9:=C[D.toNat]'h8;some ((C.set D.toNat (⟨e9.line,e9.code,(if 999<Z then 999 else Z)⟩:bW)),true))else none))else none)else bif E >= 6 then if 0 <= (1:Int)/\1 <= E/\E <= E then bif xZ Y then bif bM ((xA Y).length+O.length)then some (((xA Y)++O),true)else none else none else none else bif bM (C.length+O.length)then some ((C++O),true)else none else none
def axA:=aP Za [(false,(.sl .eH),2),(false,.bool,0)] (fO Sb) 55 [aiO,aiK,aiM] func307
def Dc(C:ax)(E D:Int):ah ((af)×(ax×af)):=bif (D != 0)then (Sb C.errors E D).bind λL=>some ((),({C with errors:=L.1},()))else some ((),(C,()))
def ajb:=x7 Zc [] (fO Dc) 21 [axA] func189
def Sc(L:lA)(C:eN)(D:Bool):ah (Int):=letI U:=decide (C.idle >= L.sleep);(let Y:Bool -> ah (Int):=λj3=>bif j3 then some 0 else (let E:Bool -> ah (Int):=λj7=>bif j7 then some 7 else (let Z:Bool -> ah (Int):=λj8=>bif j8 then some 9 else (let O:Bool -> ah (Int):=λj9=>bif j9 then some 8 else (let T:Bool -> ah (Int):=λDd=>bif Dd then some 6 else some 0;letI u0:=T (decide (C.idle >= L.down));bif (!D)then bif (C.state==0)then u0 else (T false)else (T false));letI u1:=O U;bif (!D)then bif (C.state==0)then u1 else (O false)else (O false));bif D then (Z (C.state==2))else (Z false));letI u2:=E U;(let k6:Bool -> ah (Int):=λj5=>bif j5 then (E j5)else bif (!D)then bif (C.state==1)then u2 else (E false)else (E false);bif D then (k6 (C.state==1))else (k6 false)));(KP L).bind λy1=>bif (!y1)then (Y true)else (we C).bind λy2=>(Y (!y2)))
def axB:=aP [(true,.n9),(true,.Power),(false,.bool)] cm (fO Sc) 73 [R3,aik] func308
abbrev ajc:=((af×af×Int×af)×(((aa c9)×Int×af)×(aa Int)×af))
def FW(x:ajc):ah (ajc⊕(((af×af)×((aa Int)×af))⊕Empty)):=letI C:=x.1.2.2.1;letI D:=((),(),(W6 (C+1)),());bif C<(x.2.1.1.length:Int)then xI x.2.1.1 C λE=>bif E.open_ then bif bM (x.2.2.1.length+([C]:aa Int).length)then xG (D,(x.2.1,(x.2.2.1++([C]:aa Int)),()))else none else xG (D,(x.2.1,x.2.2.1,()))else av (((),()),(x.2.2.1,()))
def axC:KY 24 (aW f404):=⟨0,lB 0 ⟨agU,[(1,.aB Ak),(5,.sl .int 2)],[]⟩ [(2,Y5)] FW,lp []⟩
def Ls(C:cC):ah ((aa Int)):=bk FW (((),(),0,()),((C.aC,C.bf,()),([]:aa Int),())) λD=>some D.2.1
def ajd:=bS JM mw (bG Ls) 24 [] [axC] func404
def Sd(D:cC)(C:aG):ah (Bool):=letI E:=D.bf==0;letI T:=bif E then xI D.aC C.ay λY=>some (!Y.open_)else some false;letI L:=bif E then xI D.aC C.ay λZ=>some Z.open_ else some false;letI O:=bif (C.kind==6)then some E else bif (C.kind==8)then bif E then (Ls D).bind λy5=>some ((y5.length:Int)==0)else some false else bif (C.kind==7)then some (D.bf==1)else some (D.bf==2);letI U:=bif (C.kind==2)then bif (C.kind==2)then L else O else bif (C.kind==3)then bif (C.kind==3)then L else O else bif (C.kind==4)then L else O;bif (C.kind==1)then bif (C.kind==1)then T else U else bif (C.kind==5)then T else U
def axD:=aP [(true,.ja),(true,.Command)] bR (bq Sd) 63 [ajd] func391
def Lt(C:dj)(D E:Int):ah (Int):=letI T:=some (W6 (C.wr+C.rp));letI U:=some (W6 (C.jy+C.rp));letI Y:=some (W6 (C.gX+C.rp));letI O:=E==5;letI L:=E==4;(C2 C).bind λZ=>bif (!Z)then some 0 else bif (E==1)then bif (D==1)then bif (E==2)then some C.jY else bif (E==3)then some C.jY else bif L then some C.gX else Y else bif (D==2)then bif L then some C.jy else U else bif (D==3)then bif L then some C.wr else T else bif (D==4)then some C.rp else bif (D==5)then some C.nD else some 0 else bif (D==1)then bif (E==2)then some C.jY else bif (E==3)then some C.jY else bif L then some C.gX else bif O then Y else some 0 else bif (D==2)then bif L then some C.jy else bif O then U else some 0 else bif (D==3)then bif L then some C.wr else bif O then T else some 0 else bif (D==4)then bif O then some C.rp else some 0 else bif (D==5)then bif O then some C.nD else some 0 else some 0
def aje:=aP [(true,.kf),(false,.int),(false,.int)] cm (fO Lt) 57 [RK] func464
def Se(C:Bool)(D E:Int):ah (Int):=bif C then some D else some E
def axE:=aP [(false,.bool),(false,.int),(false,.int)] cm (fO Se) 10 [] func469
def Lu(C:dj)(D E:Int)(L:Bool):ah (Int):=(let O:Bool -> ah (Int):=λj4=>bif j4 then some 0 else bif (D==7)then some C.xp else bif (D==9)then some C.xs else (let T:Bool -> ah (Int):=λj6=>bif j6 then some C.n7 else (let Y:Bool -> ah (Int):=λj7=>bif j7 then (Se L C.jZ C.nt).bind λy8=>some y8 else (let U:Bool -> ah (Int):=λj9=>bif j9 then (Se L C.ny C.nu).bind λgS=>some gS else (let Z:Bool -> ah (Int):=λZM=>bif ZM then (Se L C.nB C.nA).bind λgC=>some gC else (let uq:Bool -> ah (Int):=λDe=>bif De then some C.p9 else (let Ay:Bool -> ah (Int):=λDf=>bif Df then some C.jZ else (let ur:Bool -> ah (Int):=λFX=>bif FX then some C.jy else (let Az:Bool -> ah (Int):=λLv=>bif Lv then some C.wr else bif (E==8)then (Lt C D 1).bind λhG=>some hG else some 0;bif (E==6)then (Az (D==3))else (Az false));bif (E==6)then (ur (D==2))else (ur false));bif (D==5)then (Ay (E==5))else (Ay false));bif (D==2)then (uq (E==3))else (uq false));bif (D==3)then (Z (E==2))else (Z false));bif (D==E)then bif (D==2)then (U true)else (U (D==3))else (U false));bif (D==1)then (Y (E==1))else (Y false));letI u0:=bif (D==8)then (T (E==9))else (T false);bif (D==6)then bif (E==7)then (T true)else u0 else u0);(C2 C).bind λy1=>bif (!y1)then (O true)else (cD D 1 9).bind λy2=>bif (!y2)then (O true)else (cD E 1 9).bind λy3=>(O (!y3)))
def axF:=aP agG cm (mW Lu) 135 [eU,RK,aje,axE] func463
def AA(O:aM)(Y:dj)(D C:aG):ah (Int):=letI Z:=Lt Y D.kind C.kind;letI u0:=Lu Y D.kind C.kind false;bif D.kind <= 5 then bif C.kind <= 5 then if O.aC=0 then none else if O.aC=0 then none else (Lu Y D.kind C.kind ((W6 (D.ay.tdiv O.aC))==(W6 (C.ay.tdiv O.aC)))).bind λE=>letI u1:=some (if 1 > E then 1 else E);bif C.kind <= 5 then bif (D.ay==C.ay)then Z.bind λT=>some (if 1 > (if T > E then T else E)then 1 else (if T > E then T else E))else u1 else u1 else u0.bind λL=>letI u2:=some (if 1 > L then 1 else L);bif C.kind <= 5 then bif (D.ay==C.ay)then Z.bind λU=>some (if 1 > (if U > L then U else L)then 1 else (if U > L then U else L))else u2 else u2 else u0.bind λy5=>some (if 1 > y5 then 1 else y5)
def axG:=aP agH cm (mW AA) 57 [axF,aje] func446
abbrev ajf:=((af×af×af×af×Int×Int×af)×((Int×Int×Int×Int×af)×dj×((aa Int)×(aa Int)×af)×(Int×Int×Int×Int×af)×af))
def Lw(x:ajf):ah (ajf⊕(((af×af×af×Int×af)×(dj×((aa Int)×(aa Int)×af)×(Int×Int×Int×Int×af)×af))⊕Empty)):=letI E:=x.2.2.2.1;letI Y:=(⟨x.2.1.1,x.2.1.2.1,x.2.1.2.2.1,x.2.1.2.2.2.1⟩:aM);letI L:=x.2.2.2.2.1;letI Z:=(⟨L.1,L.2.1,L.2.2.1,L.2.2.2.1⟩:aG);letI O:=(x.2.1,x.2.2.1,E,L,());letI C:=x.1.2.2.2.2;letI D:=C.2.1;letI T:=W6 (D+1);letI U:=W6 ((D.tmod 9)+1);bif D<(E.1.length:Int)then xI E.1 D λe2=>bif e2<0 then xG (((),(),(),(),C.1,T,()),O)else bif U <= 5 then xI E.1 D λe4=>(AA Y x.2.2.1 (⟨U,(W6 (D.tdiv 9)),0,0⟩:aG) Z).bind λy5=>letI u8:=W6 (e4+y5);xG (((),(),(),(),(if u8 > C.1 then u8 else C.1),T,()),O)else xI E.1 D λe7=>(AA Y x.2.2.1 (⟨U,0,0,0⟩:aG) Z).bind λy8=>letI u9:=W6 (e7+y8);xG (((),(),(),(),(if u9 > C.1 then u9 else C.1),T,()),O)else av (((),(),(),C.1,()),(x.2.2.1,E,L,()))
def axH:KY 67 (aW f392):=⟨0,lB 0 ⟨[(4,.aH 4 0),(5,.aH 5 0),(6,.aH 6 0),(7,.aH 7 0),(9,tI),(10,tI)],agD,[]⟩ [(2,agf)] Lw,lp [axG]⟩
def Sf(D:aM)(U:dj)(O:dB)(E:aG):ah (Int):=bk Lw (((),(),(),(),0,0,()),((D.cu,D.aC,D.rows,D.aO,()),U,(O.last,O.bC,()),(E.kind,E.ay,E.row,E.bT,()),())) λC=>letI L:=C.1.2.2.2.1;bif (C.2.2.2.1.1==1)then bif ((C.2.2.1.2.1.length:Int)==4)then xI C.2.2.1.2.1 (0:Int) λY=>letI T:=W6 (Y+C.2.1.ke);some (if T > C.1.2.2.2.1 then T else L)else some L else some L
def axI:=bS agI cm (mW Sf) 67 [] [axH] func392
def Dg(C:ax)(D:aG):ah (Bool):=(Sd C.br D).bind λL=>bif (!L)then some false else (Sf C.config.az C.config.cq C.ready D).bind λE=>bif E <= 1000000 then some (E <= C.now)else some false
def Sg:=aP [(false,.lW),(true,.Command)] bR (bq Dg) 39 [axD,axI] func309
abbrev ajg:=((ax×(aa aG)×af×Int×af)×((Int×Int×Int×Int×af)×af))
def Dh(x:ajg):ah (ajg⊕(((af×Bool×af)×((Int×Int×Int×Int×af)×af))⊕(((af×af)×((Int×Int×Int×Int×af)×af))⊕Empty))):=letI C:=x.1.2.2.2.1;bif C<(x.1.2.1.length:Int)then xI x.1.2.1 C λE=>(Dg x.1.1 E).bind λL=>bif L then xI x.1.2.1 C λD=>av (((),true,()),((D.kind,D.ay,D.row,D.bT,()),()))else xG ((x.1.1,x.1.2.1,(),(W6 (C+1)),()),(x.2.1,()))else aQ (((),()),(x.2.1,()))
def axJ:KY 24 (aW f310):=⟨0,lB 0 ⟨[(0,.fp .cN 0),(1,.lf (.aF .Command 0)),(4,.aH 4 0),(6,tI)],[(4,.aB eZ)],[]⟩ [(1,⟨[(4,.aH 4 0),(5,tB)],[(4,.aB eZ)],[]⟩),(2,⟨[(4,.aH 4 0)],[(4,.aB eZ)],[]⟩)] Dh,lp [Sg]⟩
def Lx(D:ax)(E:aa aG):ah (aG×Bool):=bE Dh ((D,E,(),0,()),((0,0,0,0,()),())) (λC=>some ((⟨C.2.1.1,C.2.1.2.1,C.2.1.2.2.1,C.2.1.2.2.2.1⟩:aG),C.1.2.1)) λL=>some ((⟨0,0,0,0⟩:aG),false)
def axK:=bS [(false,.lW),(false,(.sl .Command))] [(true,.Command,0),(false,.bool,0)] (bq Lx) 24 [] [axJ] func310
def Di(C:ax)(D:Int):ah (Bool):=xI C.aV.aI D λE=>some (E >= 4)
def Sh:=aP [(false,.lW),(false,.int)] bR (bq Di) 14 [] func393
def FY(D:ax)(C:aG):ah (aG):=xI D.br.aC C.ay λE=>bif E.open_ then some (⟨4,C.ay,0,0⟩:aG)else some C
def ZN:=aP [(false,.lW),(true,.Command)] Ft (bq FY) 19 [] func394
abbrev ajh:=(((aa aJ)×Int×Int×af)×(af))
def FZ(x:ajh):ah (ajh⊕(((Bool×af)×(af))⊕(((af)×(af))⊕Empty))):=bif x.1.2.2.1<(x.1.1.length:Int)then xI x.1.1 x.1.2.2.1 λC=>bif (C.ay==x.1.2.1)then av ((true,()),())else xG ((x.1.1,x.1.2.1,(W6 (x.1.2.2.1+1)),()),())else aQ ((),())
def axL:KY 19 (aW f395):=⟨0,lB 0 agz [(1,gR),(2,fq)] FZ,lp []⟩
def F0(C:aa aJ)(D:Int):ah (Bool):=bE FZ ((C,D,0,()),()) (λE=>some E.1.1) λL=>some false
def ZO:=bS Qm bR (bq F0) 19 [] [axL] func395
abbrev aji:=((ax×af×Int×af)×((aa aG)×af))
def Ly(x:aji):ah (aji⊕(((ax×af×af)×((aa aG)×af))⊕Empty)):=letI C:=x.1.2.2.1;letI D:=(x.1.1,(),(W6 (C+1)),());bif C<(x.1.1.aV.aI.length:Int)then (Di x.1.1 C).bind λL=>bif L then (FY x.1.1 (⟨5,C,0,0⟩:aG)).bind λE=>bif bM (x.2.1.length+([E]:aa aG).length)then xG (D,((x.2.1++([E]:aa aG)),()))else none else xG (D,(x.2.1,()))else av ((x.1.1,(),()),(x.2.1,()))
def axM:KY 72 (aW f311):=⟨0,lB 0 ⟨[(0,.fp .cN 0),(3,.lf (.own 7)),(4,tI)],Qx,[]⟩ [(2,⟨[(0,.fp .cN 0),(3,.lf (.own 7))],Qx,[]⟩)] Ly,lp [Sh,ZN]⟩
abbrev ajj:=((ax×af×Int×af)×((aa aG)×af))
def Lz(x:ajj):ah (ajj⊕(((af×af)×((aa aG)×af))⊕Empty)):=letI C:=x.1.1;letI D:=x.1.2.2.1;letI L:=(C,(),(W6 (D+1)),());bif D<(C.pending.length:Int)then xI C.pending D λE=>(Di C E.ay).bind λT=>bif (!T)then if 0 <= (0:Int)/\0 <= D/\D <= (C.pending.length:Int)then (F0 ((C.pending.take D.toNat).drop (0:Int).toNat) E.ay).bind λU=>bif (!U)then (FY C (⟨1,E.ay,E.row,0⟩:aG)).bind λO=>bif bM (x.2.1.length+([O]:aa aG).length)then xG (L,((x.2.1++([O]:aa aG)),()))else none else xG (L,(x.2.1,()))else none else xG (L,(x.2.1,()))else av (((),()),(x.2.1,()))
def axN:KY 72 (aW f311):=⟨2,lB 2 ⟨[(0,.fp .cN 0),(3,.lf (.own 7)),(5,tI)],Qx,[]⟩ [(4,⟨ug,Qx,[]⟩)] Lz,lp [Sh,ZN,ZO]⟩
def Si(D:ax):ah ((aa aG)):=bk Ly ((D,(),0,()),(([]:aa aG),())) λC=>bk Lz ((C.1.1,(),0,()),(C.2.1,())) λE=>some E.2.1
def axO:=bS [(false,.lW)] [(false,(.sl .Command),2)] (bG Si) 72 [] [axM,axN] func311
def AB(D:cC)(C:aJ)(L:Bool):ah (aG):=letI E:=some (⟨1,C.ay,C.row,0⟩:aG);(cD C.ay 0 (W6 ((D.aC.length:Int)-1))).bind λO=>bif (!O)then E else xI D.aC C.ay λT=>bif (!T.open_)then E else xI D.aC C.ay λU=>bif (U.row != C.row)then some (⟨4,C.ay,0,0⟩:aG)else bif L then some (⟨3,C.ay,0,C.bT⟩:aG)else some (⟨2,C.ay,0,C.bT⟩:aG)
def ZP:=aP [(true,.ja),(true,.Addr),(false,.bool)] Ft (fO AB) 54 [eU] func315
def Sj(C:aM)(E:jX)(L:Int):ah (aJ×Bool):=letI u6:=some ((⟨0,0,0⟩:aJ),false);letI T:=L.tmod C.aO;letI O:=W6 (L.tdiv C.aO);letI U:=O.tmod C.rows;(FI E).bind λy1=>bif (!y1)then u6 else (sO C).bind λy2=>(cD L 0 (W6 (y2-1))).bind λy3=>bif (!y3)then u6 else (pR C).bind λD=>letI Y:=W6 (O.tdiv D);letI Z:=W6 (L.tdiv D);letI u1:=W6 (Z.tdiv C.aO);bif (E.order==0)then if C.aO=0 then none else if C.aO=0 then none else if D=0 then none else if C.aO=0 then none else if D=0 then none else bif E.hash then if D=0 then none else some ((⟨((W6 ((O.tmod D)+Y)).tmod D),Y,T⟩:aJ),true)else some ((⟨(O.tmod D),Y,T⟩:aJ),true)else bif (E.order==1)then if D=0 then none else if D=0 then none else if C.aO=0 then none else if D=0 then none else if C.aO=0 then none else bif E.hash then if D=0 then none else some ((⟨((W6 ((L.tmod D)+u1)).tmod D),u1,(Z.tmod C.aO)⟩:aJ),true)else some ((⟨(L.tmod D),u1,(Z.tmod C.aO)⟩:aJ),true)else if C.aO=0 then none else if C.aO=0 then none else if C.rows=0 then none else if C.aO=0 then none else if C.rows=0 then none else bif E.hash then if D=0 then none else some ((⟨((W6 ((W6 (O.tdiv C.rows))+U)).tmod D),U,T⟩:aJ),true)else some ((⟨(W6 (O.tdiv C.rows)),U,T⟩:aJ),true)
def axP:=aP [(true,.fA),(true,.n8),(false,.int)] [(true,.Addr,0),(false,.bool,0)] (fO Sj) 94 [eU,KV,oC,aif] func406
def yg(C:ax)(L:Int):ah (aJ):=letI E:=W6 (C.config.az.rows-C.config.bQ);(Sj (⟨C.config.az.cu,C.config.az.aC,E,C.config.az.aO⟩:aM) C.config.mapping L).bind λD=>xI C.spare.map (W6 ((W6 (D.1.ay*E))+D.1.row)) λO=>some (⟨D.1.ay,O,D.1.bT⟩:aJ)
def Sk:jb:=gQ [(false,.lW),(false,.int)] [(true,.Addr,0)] (λx=>yg x.1 x.2.1)
def ZQ:enters Tryz.prog 316/\iH Tryz.prog 316 Sk:=kp 50 [axP] func316
abbrev ajk:=((ax×af×Int×af)×((aa aJ)×af))
def LA(x:ajk):ah (ajk⊕(((af×af)×((aa aJ)×af))⊕Empty)):=bif x.1.2.2.1<(x.1.1.queue.length:Int)then xI x.1.1.queue x.1.2.2.1 λD=>(yg x.1.1 D.line).bind λC=>bif bM (x.2.1.length+([C]:aa aJ).length)then xG ((x.1.1,(),(W6 (x.1.2.2.1+1)),()),((x.2.1++([C]:aa aJ)),()))else none else av (((),()),(x.2.1,()))
def axQ:KY 29 (aW f396):=⟨0,lB 0 ⟨[(0,.fp .cN 0),(3,.lf (.own 5)),(4,tI)],[(5,.sl .Addr 2)],[]⟩ [(2,⟨[(3,.lf (.own 5))],[(5,.sl .Addr 2)],[]⟩)] LA,lp [⟨316,.p Sk,ZQ⟩]⟩
def LB(C:ax):ah ((aa aJ)):=bk LA ((C,(),0,()),(([]:aa aJ),())) λD=>some D.2.1
def ajl:=bS [(false,.lW)] [(false,(.sl .Addr),2)] (bG LB) 29 [] [axQ] func396
abbrev ajm:=(((aa aK)×Int×Int×af)×(af))
def F1(x:ajm):ah (ajm⊕(((Bool×af)×(af))⊕(((af)×(af))⊕Empty))):=letI C:=x.1.2;bif C.2.1<C.1 then bif C.1<(x.1.1.length:Int)then xI x.1.1 C.2.1 λD=>xI x.1.1 C.1 λE=>bif (D.line==E.line)then av ((true,()),())else xG ((x.1.1,C.1,(W6 (C.2.1+1)),()),())else aQ ((),())else aQ ((),())
def axR:KY 28 (aW f447):=⟨0,lB 0 Y9 [(1,gR),(2,fq)] F1,lp []⟩
def LC(C:aa aK)(D:Int):ah (Bool):=bE F1 ((C,D,0,()),()) (λE=>some E.1.1) λL=>some false
def ajn:=bS Fo bR (bq LC) 28 [] [axR] func447
def Sl(C:gP)(D:Int)(E:Bool):ah (Bool):=(C3 C).bind λL=>bif (!L)then some false else bif E then bif C.on then some true else some (D<1)else some (!C.on)
def axS:=aP [(true,.lD),(false,.int),(false,.bool)] bR (fO Sl) 20 [RM] func448
abbrev ajo:=((ax×Int×Int×Int×af)×(af))
def LD(x:ajo):ah (ajo⊕(((ax×Int×Int×af)×(af))⊕Empty)):=letI D:=x.1.1;letI C:=x.1.2.2;letI E:=W6 (C.2.1+1);bif C.2.1<(D.queue.length:Int)then (LC D.queue C.2.1).bind λL=>bif L then xG ((D,x.1.2.1,C.1,E,()),())else xI D.queue C.2.1 λO=>bif O.write then xG ((D,x.1.2.1,(W6 (C.1+1)),E,()),())else xG ((D,(W6 (x.1.2.1+1)),C.1,E,()),())else av ((D,x.1.2.1,C.1,()),())
def axT:KY 82 (aW f397):=⟨0,lB 0 ⟨[(0,.fp .cN 0),(3,tI),(4,tI),(5,tI)],[],[]⟩ [(2,⟨[(0,.fp .cN 0),(3,tI),(4,tI)],[],[]⟩)] LD,lp [ajn]⟩
abbrev ajp:=((ax×Int×Int×af×Int×af)×((aa Bool)×af))
def LF(x:ajp):ah (ajp⊕(((af×af)×((aa Bool)×af))⊕Empty)):=letI C:=x.2.1;letI L:=([(x.1.2.2.1==0)]:aa Bool);letI D:=x.1.2.2.2.2.1;letI E:=(x.1.1,x.1.2.1,x.1.2.2.1,(),(W6 (D+1)),());letI O:=bif bM (C.length+([false]:aa Bool).length)then xG (E,((C++([false]:aa Bool)),()))else none;bif D<(x.1.1.queue.length:Int)then xI x.1.1.queue D λT=>(LC x.1.1.queue D).bind λU=>bif (!U)then (Sl x.1.1.drain x.1.2.1 T.write).bind λY=>bif Y then bif bM (C.length+([true]:aa Bool).length)then xG (E,((C++([true]:aa Bool)),()))else none else bif (!T.write)then bif bM (C.length+L.length)then xG (E,((C++L),()))else none else O else O else av (((),()),(C,()))
def axU:KY 82 (aW f397):=⟨2,lB 2 ⟨[(0,.fp .cN 0),(3,tI),(4,tI),(6,.lf (.own 36)),(7,tI)],[(36,.sl .bool 2)],[]⟩ [(4,⟨[(6,.lf (.own 36))],[(36,.sl .bool 2)],[]⟩)] LF,lp [ajn,axS]⟩
def Sn(D:ax):ah ((aa Bool)):=bk LD ((D,0,0,0,()),()) λC=>bk LF ((C.1.1,C.1.2.1,C.1.2.2.1,(),0,()),(([]:aa Bool),())) λE=>some E.2.1
def axV:=bS [(false,.lW)] [(false,(.sl .bool),2)] (bG Sn) 82 [] [axT,axU] func397
def So(C:cC)(D:Int):ah (Int):=(cD D 0 (W6 ((C.aC.length:Int)-1))).bind λE=>bif (!E)then some (-1)else xI C.aC D λL=>bif (!L.open_)then some (-1)else xI C.aC D λO=>some O.row
def axW:=aP Qp cm (bq So) 27 [eU] func449
def LG(D:cC)(C:aJ):ah (Bool):=(So D C.ay).bind λE=>bif (E==C.row)then (So D C.ay).bind λL=>some (L != (-1))else some false
def ajq:=aP [(true,.ja),(true,.Addr)] bR (bq LG) 19 [axW] func399
abbrev ajr:=((ax×(aa aJ)×(aa Bool)×af×Int×af)×((Int×Int×Int×af)×af))
def F2(x:ajr):ah (ajr⊕(((Bool×af)×(af))⊕(((af)×(af))⊕Empty))):=letI C:=x.1.2;letI D:=C.2.2.2.1;letI E:=xG ((x.1.1,C.1,C.2.1,(),(W6 (D+1)),()),(x.2.1,()));bif D<(C.1.length:Int)then xI C.2.1 D λL=>bif L then xI C.1 D λO=>bif (O.ay==x.2.1.1)then xI C.1 D λT=>(LG x.1.1.br T).bind λU=>bif U then av ((false,()),())else E else E else E else aQ ((),())
def axX:KY 120 (aW f398):=⟨0,lB 0 ⟨[(0,.fp .cN 0),(1,.lf (.aF .Addr 0)),(2,.lf (.aF .bool 0)),(9,.aH 9 0),(12,tI)],[(9,.aB JH)],[]⟩ [(1,⟨[(8,tB)],[],[]⟩),(2,fq)] F2,lp [ajq]⟩
def Sq(C:ax)(O:aa aJ)(T:aa Bool)(E:Int):ah (Bool):=xI O E λD=>(let U:Bool -> ah (Bool):=λj6=>bif j6 then some false else xI C.queue E λe9=>(AB C.br D e9.write).bind λL=>(Dg C L).bind λeP=>bif (!eP)then some false else (let Y:Bool -> ah (Bool):=λLH=>(let Z:Bool -> ah (Bool):=λDf=>bif Df then some false else (let ur:Bool -> ah (Bool):=λLI=>bif LI then some true else bE F2 ((C,O,T,(),0,()),((D.ay,D.row,D.bT,()),())) (λZR=>some ZR.1.1) (λz28=>some true);bif (L.kind != 4)then (ur true)else xI C.queue E λDj=>(ur (decide ((W6 (C.now-Dj.at_)) >= C.box.bH.cap))));bif LH then (F0 C.pending D.ay).bind λgD=>(Z gD)else (Z false));bif (L.kind==1)then (Y true)else (Y (L.kind==4)));xI T E λe4=>bif (!e4)then (U true)else (Di C D.ay).bind λy5=>(U y5))
def axY:=bS [(false,.lW),(false,(.sl .Addr)),(false,(.sl .bool)),(false,.int)] bR (mW Sq) 120 [Sg,ZP,Sh,ZO] [axX] func398
abbrev ajs:=(((aa bY)×(aa Bool)×Int×Int×af)×(af))
def ajt(x:ajs):ah (ajs⊕(((Int×af)×(af))⊕Empty)):=letI D:=x.1.2.2.1;letI C:=x.1.2.2.2.1;letI E:=xG ((x.1.1,x.1.2.1,C,(W6 (C+1)),()),());letI L:=xG ((x.1.1,x.1.2.1,D,(W6 (C+1)),()),());bif C<(x.1.1.length:Int)then bif C<(x.1.2.1.length:Int)then xI x.1.2.1 C λO=>bif O then bif D<0 then E else xI x.1.1 C λT=>xI x.1.1 D λU=>bif T.ff > U.ff then E else L else L else av ((D,()),())else av ((D,()),())
def axZ:KY 42 (aW f450):=⟨0,lB 0 agm [(2,v8)] ajt,lp []⟩
def Sr(C:aa bY)(D:aa Bool):ah (Int):=bk ajt ((C,D,(-1),0,()),()) λE=>some E.1.1
def ax0:=bS Ql cm (bq Sr) 42 [] [axZ] func450
abbrev aju:=(((aa Bool)×af×Int×af)×((aa bY)×af))
def F3(x:aju):ah (aju⊕((((aa Bool)×af×af)×((aa bY)×af))⊕Empty)):=letI C:=x.1.2.2.1;bif C<(x.2.1.length:Int)then xL x.2.1 C λD=>xL x.2.1 C λE=>xG ((x.1.1,(),(W6 (C+1)),()),((x.2.1.set C.toNat (⟨E.weight,D.weight⟩:bY)),()))else av ((x.1.1,(),()),(x.2.1,()))
def ax1:KY 58 (aW f400):=⟨0,lB 0 ⟨[(1,.lf (.aF .bool 0)),(6,.lf (.own 9)),(8,tI)],[(9,.sl .eC 2)],[]⟩ [(2,agr)] F3,lp []⟩
def LJ(O:aa bY)(T:aa Bool):ah ((aa bY)×Int):=letI C:=xA O;bif xZ O then (FJ O).bind λU=>bif (!U)then some (C,(-1))else (Sr C T).bind λD=>bif D<0 then some (C,(-1))else xC C D (if Y:D.toNat<C.length then (let Z:=C[D.toNat]'Y;bif (Z.ff==0)then bk F3 ((T,(),0,()),(C,())) λE=>(Sr E.2.1 E.1.1).bind λL=>xL E.2.1 L λnU=>xL E.2.1 L λDk=>some ((E.2.1.set L.toNat (⟨Dk.weight,(W6 (nU.ff-1))⟩:bY)),L)else xC C D (if yh:D.toNat<C.length then (let ZS:=C[D.toNat]'yh;xC C D (if Ss:D.toNat<C.length then (let rG:=C[D.toNat]'Ss;some ((C.set D.toNat (⟨rG.weight,(W6 (ZS.ff-1))⟩:bY)),D))else none))else none))else none)else none
def ajv:=bS Ql [(false,(.sl .eC),2),(false,.int,0)] (bq LJ) 58 [ZE,ax0] [ax1] func400
abbrev ajw:=(((aa aK)×(aa Bool)×(aa Bool)×Int×Int×Int×Int×Int×af)×(af))
def LK(x:ajw):ah (ajw⊕(((Int×af)×(af))⊕Empty)):=letI L:=x.1.1;letI O:=x.1.2.1;letI E:=x.1.2.2;letI u8:=E.2.1;letI D:=E.2.2;letI Z:=av ((D.2.1,()),());letI T:=D.2.2.1;letI C:=D.2.2.2.1;letI U:=W6 (C+1);letI Y:=xG ((L,O,E.1,u8,D.1,D.2.1,T,U,()),());letI u4:=bif 3 > T then xG ((L,O,E.1,u8,D.1,C,3,U,()),())else Y;letI u1:=xI L C λkE=>bif kE.at_ <= (W6 (D.1-u8))then u4 else bif 1 > T then xG ((L,O,E.1,u8,D.1,C,1,U,()),())else Y;bif C<(L.length:Int)then bif C<(O.length:Int)then xI O C λe4=>bif (!e4)then Y else bif C<(E.1.length:Int)then xI E.1 C λe6=>bif e6 then xI L C λe8=>bif e8.at_ <= (W6 (D.1-u8))then u4 else bif 2 > T then xG ((L,O,E.1,u8,D.1,C,2,U,()),())else Y else u1 else u1 else Z else Z
def ax2:KY 65 (aW f401):=⟨0,lB 0 ⟨[(0,.lf (.aF .cW 0)),(1,.lf (.aF .bool 0)),(2,.lf (.aF .bool 0)),(3,tI),(4,tI),(11,tI),(12,tI),(13,tI)],[],[]⟩ [(2,⟨[(11,tI)],[],[]⟩)] LK,lp []⟩
def Su(E:aa aK)(L O:aa Bool)(C D:Int):ah (Int):=(cD C 0 1000000).bind λT=>bif (!T)then some (-1)else (cD D 0 1000000).bind λU=>bif (!U)then some (-1)else bk LK ((E,L,O,C,D,(-1),0,0,()),()) λY=>some Y.1.1
def ax3:=bS ago cm (CH Su) 65 [eU] [ax2] func401
def ax4:bL:=⟨[(0,.fp .cN 0),(2,.aH 2 0),(4,.lf (.own 1000000000116000)),(5,.lf (.own 1000000000118000)),(6,.lf (.own 19)),(7,.lf (.own 20)),(8,.lf (.own 21)),(9,tI)],[(2,.aB eZ),(1000000000116000,.sl .Addr 2),(1000000000118000,.sl .bool 2),(19,.sl .bool 2),(20,.sl .bool 2),(21,.sl .bool 2)],[]⟩
def ax5:aa (Nat×bL):=[(2,⟨[(0,.fp .cN 0),(2,.aH 2 0),(4,.lf (.own 1000000000116000)),(6,.lf (.own 19)),(7,.lf (.own 20)),(8,.lf (.own 21))],[(2,.aB eZ),(1000000000116000,.sl .Addr 2),(19,.sl .bool 2),(20,.sl .bool 2),(21,.sl .bool 2)],[]⟩)]
abbrev ajx:=((ax×af×af×af×af×af×af×Int×af)×((Int×Int×Int×Int×af)×(aa aJ)×(aa Bool)×(aa Bool)×(aa Bool)×(aa Bool)×af))
def LL(x:ajx):ah (ajx⊕(((ax×af×af×af×af×af×af)×((Int×Int×Int×Int×af)×(aa aJ)×(aa Bool)×(aa Bool)×(aa Bool)×af))⊕Empty)):=letI C:=x.2.2;letI D:=C.2.2;letI L:=D.2.2.1;letI E:=x.1.2.2.2.2.2.2.2.1;letI U:=(x.1.1,(),(),(),(),(),(),(W6 (E+1)),());bif E<(C.1.length:Int)then (Sq x.1.1 C.1 C.2.1 E).bind λY=>letI O:=([Y]:aa Bool);bif bM (D.1.length+O.length)then xL C.1 E λe6=>(LG x.1.1.br e6).bind λy7=>letI T:=([y7]:aa Bool);bif bM (D.2.1.length+T.length)then bif Y then xI x.1.1.queue E λZ=>xL L Z.dm λmA=>xG (U,(x.2.1,C.1,C.2.1,(D.1++O),(D.2.1++T),(L.set Z.dm.toNat true),()))else xG (U,(x.2.1,C.1,C.2.1,(D.1++O),(D.2.1++T),L,()))else none else none else av ((x.1.1,(),(),(),(),(),()),(x.2.1,C.1,D.1,D.2.1,L,()))
def ax6:KY 132 (aW f312):=⟨0,lB 0 ax4 ax5 LL,lp [axY,ajq]⟩
abbrev ajy:=((ax×af×af×af×af×Int×Int×af)×((Int×Int×Int×Int×af)×(aa aJ)×(aa Bool)×(aa Bool)×af))
def LM(x:ajy):ah (ajy⊕(((ax×af×af×af×af×af)×((Int×Int×Int×Int×af)×(aa aJ)×(aa Bool)×(aa Bool)×af))⊕Empty)):=letI C:=x.2.2.2;letI E:=x.1.2.2.2.2.2;letI D:=E.2.1;letI L:=(x.1.1,(),(),(),(),E.1,(W6 (D+1)),());bif D<(x.2.2.1.length:Int)then xL C.1 D λO=>bif O then xI x.1.1.queue D λT=>xL C.1 D λU=>xG (L,(x.2.1,x.2.2.1,(C.1.set D.toNat (T.dm==E.1)),C.2.1,()))else xL C.1 D λY=>xG (L,(x.2.1,x.2.2.1,(C.1.set D.toNat false),C.2.1,()))else av ((x.1.1,(),(),(),(),()),(x.2.1,x.2.2.1,C.1,C.2.1,()))
def ax7:KY 132 (aW f312):=⟨2,lB 2 ⟨[(0,.fp .cN 0),(2,.aH 2 0),(4,.lf (.own 1000000000116000)),(6,.lf (.own 19)),(7,.lf (.own 20)),(12,tI),(13,tI)],agq,[]⟩ [(4,⟨[(0,.fp .cN 0),(2,.aH 2 0),(4,.lf (.own 1000000000116000)),(6,.lf (.own 19)),(7,.lf (.own 20))],agq,[]⟩)] LM,lp []⟩
def Sv(O:ax):ah (aG×Int):=(LB O).bind λT=>(Sn O).bind λU=>if 0 <= (4:Int)/\(4:Int) <= 4/\(4:Int)<1073741824 then bk LL ((O,(),(),(),(),(),(),0,()),((0,0,0,0,()),T,U,([]:aa Bool),([]:aa Bool),(List.replicate (4:Int).toNat false),())) λC=>(LJ C.1.1.shares C.2.2.2.2.2.1).bind λY=>bk LM ((C.1.1,(),(),(),(),Y.2,0,()),(C.2.1,C.2.2.1,C.2.2.2.1,C.2.2.2.2.1,())) λE=>letI D:=E.1.1;(Su D.queue E.2.2.2.1 E.2.2.2.2.1 D.box.bH.cap D.now).bind λL=>bif L<0 then some ((⟨0,0,0,0⟩:aG),(-1))else xL E.2.2.1 L λZ=>xI D.queue L λZT=>(AB D.br Z ZT.write).bind λAD=>some (AD,L)else none
def ax8:=bS [(false,.lW)] [(true,.Command,0),(false,.int,0)] (bG Sv) 132 [ZP,ajl,axV,ajv,ax3] [ax6,ax7] func312
abbrev ajz:=(((aa Bool)×af×Bool×Int×Int×af)×(((aa Int)×Int×Bool×af)×af))
def LN(x:ajz):ah (ajz⊕(((Int×af)×(af))⊕Empty)):=letI E:=x.2.1.1;letI D:=x.1.2.2;letI C:=D.2.2.1;letI O:=xG ((x.1.1,(),D.1,C,(W6 (C+1)),()),(x.2.1,()));letI L:=xG ((x.1.1,(),D.1,D.2.1,(W6 (C+1)),()),(x.2.1,()));letI T:=bif D.2.1<0 then O else xI E C λU=>xI E D.2.1 λY=>bif U > Y then O else L;bif C<(E.length:Int)then xI E C λZ=>bif (!D.1)then xI E C λe6=>bif e6 > 0 then bif C<(x.1.1.length:Int)then xI x.1.1 C λe8=>bif e8 then T else L else L else L else bif Z >= 4 then T else L else av ((D.2.1,()),())
def ax9:KY 69 (aW f402):=⟨0,lB 0 ⟨[(1,.lf (.aF .bool 0)),(2,.aH 2 0),(5,tB),(6,tI),(7,tI)],[(2,.aB CL)],[]⟩ [(2,JI)] LN,lp []⟩
def Sw(C:cS)(D:aa Bool):ah (Int):=(At C).bind λE=>bif (!E)then some (-1)else (Lk C).bind λL=>bk LN ((D,(),(decide ((L.length:Int) > 0)),(-1),0,()),((C.aI,C.wait,C.dD,()),())) λO=>some O.1.1
def aya:=bS [(true,.jz),(false,(.sl .bool))] cm (bq Sw) 69 [K3,aiR] [ax9] func402
abbrev ajA:=(((aa aJ)×af×Int×Bool×Int×af)×(((aa c9)×Int×af)×af))
def F4(x:ajA):ah (ajA⊕((((aa aJ)×af×Int×Bool×af)×(((aa c9)×Int×af)×af))⊕Empty)):=letI C:=x.1.2.2;letI D:=C.2.2.1;letI E:=xG ((x.1.1,(),C.1,C.2.1,(W6 (D+1)),()),(x.2.1,()));bif D<(x.1.1.length:Int)then xI x.1.1 D λL=>bif (L.ay==C.1)then xI x.1.1 D λO=>xI x.2.1.1 C.1 λT=>bif (O.row==T.row)then xG ((x.1.1,(),C.1,true,(W6 (D+1)),()),(x.2.1,()))else E else E else av ((x.1.1,(),C.1,C.2.1,()),(x.2.1,()))
def ayb:KY 56 (rD (aW f403) 0):=⟨2,lB 2 ⟨[(2,.lf (.aF .Addr 0)),(3,.aH 3 0),(7,tI),(8,tB),(9,tI)],[(3,.aB Ak)],[]⟩ [(4,⟨[(2,.lf (.aF .Addr 0)),(3,.aH 3 0),(7,tI),(8,tB)],[(3,.aB Ak)],[]⟩)] F4,lp []⟩
abbrev ajB:=(((aa aJ)×af×Int×af)×(((aa c9)×Int×af)×af))
def Dl(x:ajB):ah (ajB⊕(((Int×af)×(af))⊕(((af)×(af))⊕Empty))):=bif x.1.2.2.1<(x.2.1.1.length:Int)then xI x.2.1.1 x.1.2.2.1 λD=>bk F4 ((x.1.1,(),x.1.2.2.1,(!D.open_),0,()),(x.2.1,())) λC=>bif (!C.1.2.2.2.1)then av ((C.1.2.2.1,()),())else xG ((C.1.1,(),(W6 (C.1.2.2.1+1)),()),(C.2.1,()))else aQ ((),())
def ayc:KY 56 (aW f403):=⟨0,lB 0 ⟨[(2,.lf (.aF .Addr 0)),(3,.aH 3 0),(7,tI)],[(3,.aB Ak)],[]⟩ [(1,JI),(2,fq)] Dl,lq [] [ayb]⟩
def Sx(C:cC)(D:Int)(E:aa aJ):ah (Int):=bif (D != 1)then some (-1)else bE Dl ((E,(),0,()),((C.aC,C.bf,()),())) (λL=>some L.1.1) λO=>some (-1)
def ayd:=bS agO cm (fO Sx) 56 [] [ayc] func403
abbrev ajC:=((ax×Int×af×af×af×Int×af)×((aa aG)×(aa aJ)×(aa Bool)×af))
def LO(x:ajC):ah (ajC⊕(((ax×Int×af×af×af×af)×((aa aG)×(aa aJ)×(aa Bool)×af))⊕Empty)):=letI C:=x.1.2.2.2.2.2.1;bif C<(x.1.1.br.aC.length:Int)then (F0 x.2.2.1 C).bind λD=>bif bM (x.2.2.2.1.length+([(!D)]:aa Bool).length)then xG ((x.1.1,x.1.2.1,(),(),(),(W6 (C+1)),()),(x.2.1,x.2.2.1,(x.2.2.2.1++([(!D)]:aa Bool)),()))else none else av ((x.1.1,x.1.2.1,(),(),(),()),(x.2.1,x.2.2.1,x.2.2.2.1,()))
def aye:KY 99 (aW f313):=⟨0,lB 0 ⟨[(0,.fp .cN 0),(1,tI),(5,.lf (.own 11)),(6,.lf (.own 1000000000113000)),(7,.lf (.own 14)),(8,tI)],agw,[]⟩ [(2,⟨[(0,.fp .cN 0),(1,tI),(5,.lf (.own 11)),(6,.lf (.own 1000000000113000)),(7,.lf (.own 14))],agw,[]⟩)] LO,lp [ZO]⟩
def SA(T:ax)(x1:Int):ah ((aa aG)):=(LB T).bind λy1=>bk LO ((T,x1,(),(),(),0,()),(([]:aa aG),y1,([]:aa Bool),())) λC=>letI D:=C.1.1;letI U:=([(⟨C.1.2.1,0,0,0⟩:aG)]:aa aG);(Sw D.aV C.2.2.2.1).bind λL=>(let Y:(aa aG) -> ah ((aa aG)):=λO=>(Sx D.br D.box.bH.eX C.2.2.1).bind λZ=>letI u4:=([(⟨4,Z,0,0⟩:aG)]:aa aG);(let Ay:(aa aG) -> ah ((aa aG)):=λE=>(Ls D.br).bind λgC=>(let LP:Bool -> ah ((aa aG)):=λDe=>bif De then xL gC (0:Int) λnU=>letI u3:=([(⟨4,nU,0,0⟩:aG)]:aa aG);bif bM (E.length+u3.length)then some (E++u3)else none else (let ur:(aa aG) -> ah ((aa aG)):=λLI=>some LI;letI u0:=ur (E++U);bif (C.1.2.1 != 0)then bif bM (E.length+U.length)then u0 else none else (ur E));letI u6:=LP (decide ((gC.length:Int) > 0));bif (C.1.2.1==8)then u6 else (LP false));letI u1:=Ay (O++u4);bif Z >= 0 then bif bM (O.length+u4.length)then u1 else none else (Ay O));(let k8:Bool -> ah ((aa aG)):=λj6=>bif j6 then (FY D (⟨5,L,0,0⟩:aG)).bind λy7=>letI u5:=Y (C.2.1++([y7]:aa aG));bif bM (C.2.1.length+([y7]:aa aG).length)then u5 else none else (Y C.2.1);bif L >= 0 then (Di D L).bind λy5=>(k8 (!y5))else (k8 false)))
def ayf:=bS [(false,.lW),(false,.int)] [(false,(.sl .Command),2)] (bq SA) 99 [Sh,ZN,ajl,aya,ayd,ajd] [aye] func313
def AE(C:ax):ah (aG×Int):=letI E:=some ((⟨0,0,0,0⟩:aG),(-1));bif (C.trace.length:Int) >= 2000 then E else (C8 C).bind λT=>(Sc C.box.bH.eT C.bf T).bind λD=>bif (C.bf.state != 0)then bif (D==0)then E else (Dg C (⟨D,0,0,0⟩:aG)).bind λU=>bif (!U)then E else some ((⟨D,0,0,0⟩:aG),(-1))else (Si C).bind λY=>(Lx C Y).bind λO=>bif O.2 then some (O.1,(-1))else (Sv C).bind λL=>bif L.2 >= 0 then some (L.1,L.2)else (SA C D).bind λZ=>(Lx C Z).bind λy8=>some (y8.1,(-1))
def ayg:KX:=⟨190,.q (gQ [(false,.lW)] [(true,.Command,0),(false,.int,0)] λx=>AE x.1),kp 77 [⟨184,.p ZH,aiS⟩,axB,Sg,axK,axO,ax8,ayf] func190⟩
def SB(C:Int):ah (Bool×Bool×Bool):=(cD C 1 5).bind λD=>bif (C==2)then some (D,(C==1),true)else some (D,(C==1),(C==3))
def ayh:=aP mz [(false,.bool,0),(false,.bool,0),(false,.bool,0)] (bG SB) 15 [eU] func451
def SC(C:aG):ah (Bool):=letI E:=(cD C.kind 1 9).bind λT=>bif T then (cD C.ay 0 7).bind λU=>bif U then (cD C.row 0 15).bind λY=>bif Y then (cD C.bT 0 7).bind λZ=>some Z else some false else some false else some false;(SB C.kind).bind λD=>letI L:=bif (!D.2.2)then bif (C.bT != 0)then some false else E else E;letI O:=bif (!D.2.1)then bif (C.row != 0)then some false else L else L;bif (!D.1)then bif (C.ay != 0)then some false else O else O
def ayi:=aP [(true,.Command)] bR (bG SC) 56 [eU,ayh] func405
def LQ(D:aM)(C:aG):ah (Bool):=(SC C).bind λE=>bif E then (Au D (⟨C.ay,C.row,C.bT⟩:aJ)).bind λL=>some L else some false
def ajD:=aP Zj bR (bq LQ) 18 [RU,ayi] func314
end Go.Proofs.YtnilicojgkhpnaaGreat
