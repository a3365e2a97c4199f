/-
  Functions of the program as plain functions of contents, and that the code computes them. Nothing here is a claim.
-/
import Derived.Test.YtnilicojgkhpnaaGreatVZ
import Derived.Test.YtnilicojgkhpnaaGreatRows
import Derived.Test.YtnilicojgkhpnaaGreatG1
import Derived.Test.YtnilicojgkhpnaaGreatG2
import Derived.Test.YtnilicojgkhpnaaGreatG3
namespace Go.Proofs.YtnilicojgkhpnaaGreat
set_option linter.defProp false
open Go.RowKit Go.Proofs.Tryz
set_option linter.unusedVariables false
set_option maxRecDepth 100000
abbrev ahH:=((af×af×Int×af)×(((aa Int)×Int×Bool×af)×(aa Int)×af))
def Lw(x:ahH):ah (ahH⊕(((af×af)×((aa Int)×af))⊕Empty)):=letI C:=x.2.1;letI E:=ax (((),()),(x.2.2.1,()));letI D:=x.1.2.2.1;letI L:=((),(),(W6 (D+1)),());bif D<(C.1.length:Int)then (DB (⟨C.1,C.2.1,C.2.2.1⟩:cO)).bind λO=>bif O then xI C.1 D λT=>bif T >= 4 then bif bI (x.2.2.1.length+([D]:aa Int).length)then xG (L,(C,(x.2.2.1++([D]:aa Int)),()))else none else xG (L,(C,x.2.2.1,()))else E else E
def avz:KY 28 (aW f304):=⟨0,lB 0 ⟨agB,[(1,.aB Ds),(5,.sl .int 2)],[]⟩ [(2,YT)] Lw,lp [RL]⟩
def Lx(C:cO):ah ((aa Int)):=bh Lw (((),(),0,()),((C.aI,C.wait,C.dy,()),([]:aa Int),())) λD=>some D.2.1
def ahI:=bS F3 mP (bO Lx) 28 [] [avz] func304
def DC(C:av):ah (Bool):=bif (C.queue.length:Int) > 0 then some true else bif (C.pending.length:Int) > 0 then some true else (Lx C.aV).bind λD=>some ((D.length:Int) > 0)
def Zt:jl:=gW [(false,.mD)] [(false,.bool,0)] (λx=>DC x.1)
def ahJ:enters Tryz.prog 184/\iR Tryz.prog 184 Zt:=kp 26 [ahI] func184
def Ly(C:fL)(E:Bool):ah (fL×Bool):=(La C).bind λD=>bif (!E)then some (D,false)else bif (!C.waits)then some (D,false)else (wJ C.next).bind λL=>some ((⟨L,D.next,false⟩:fL),true)
def avA:=aZ [(true,.mC),(false,.bool)] F1 (bx Ly) 23 [Zj,Rw] func185
def DD(C:jY)(E:Int):ah (jY×Int):=letI D:=some (C,(-1));(cT C.every 1 100000).bind λL=>bif (!L)then D else (cT C.wait 1 C.every).bind λO=>bif (!O)then D else bif E<1 then D else bif C.next<0 then D else bif C.next >= E then D else bif (W6 (C.wait-1)) > 0 then some ((⟨C.next,C.every,(W6 (C.wait-1))⟩:jY),(-1))else if E=0 then none else some ((⟨((W6 (C.next+1)).tmod E),C.every,C.every⟩:jY),C.next)
def avB:=aZ [(true,.pP),(false,.int)] [(true,.pP,0),(false,.int,0)] (bx DD) 55 [fG] func187
def yO(C:Int):ah (Bool):=(cT C 0 15).bind λD=>some D
def RM:=aZ lO bP (bO yO) 5 [fG] func263
abbrev ahK:=(((aa Int)×Int×Int×af)×(af))
def AZ(x:ahK):ah (ahK⊕(((Bool×af)×(af))⊕((((aa Int)×Int×af)×(af))⊕Empty))):=bif x.1.2.2.1<(x.1.1.length:Int)then xI x.1.1 x.1.2.2.1 λC=>(yO C).bind λD=>bif (!D)then ax ((false,()),())else xG ((x.1.1,x.1.2.1,(W6 (x.1.2.2.1+1)),()),())else aU ((x.1.1,x.1.2.1,()),())
def avC:KY 22 (aW f295):=⟨0,lB 0 YO [(1,iz),(2,agj)] AZ,lp [RM]⟩
def wL(D:aa Int)(E:Int):ah (Bool):=bE AZ ((D,E,0,()),()) (λL=>some L.1.1) λC=>some ((C.1.1.length:Int)==C.1.2.1)
def Lz:=bS AS bP (bx wL) 22 [] [avC] func295
abbrev ahL:=((Int×Int×Int×Int×af)×(af))
def ahM(x:ahL):ah (ahL⊕(((Int×af)×(af))⊕Empty)):=letI C:=x.1.2;letI D:=C.2.2.1;letI E:=min (IntKind.u64.wrap D).toNat IntKind.i64.bits;bif D<4 then if (IntKind.u64.wrap D)<0 then none else bif ((bits .and .i64 (C.1.fdiv (2 ^ E)) 1)==1)then if (IntKind.u64.wrap D)<0 then none else xG ((x.1.1,C.1,(bits .xor .i64 C.2.1 (W6 (x.1.1*2 ^ E))),(W6 (D+1)),()),())else xG ((x.1.1,C.1,C.2.1,(W6 (D+1)),()),())else ax ((C.2.1,()),())
def avD:KY 49 (aW f445):=⟨0,lB 0 YQ [(2,wI)] ahM,lp []⟩
abbrev ahN:=((Int×Int×af)×(af))
def ahO(x:ahN):ah (ahN⊕(((Int×af)×(af))⊕Empty)):=letI C:=x.1.2.1;bif C >= 4 then if (IntKind.u64.wrap C)<0 then none else bif ((bits .and .i64 (x.1.1.fdiv (2 ^ (min (IntKind.u64.wrap C).toNat IntKind.i64.bits))) 1)==1)then if (IntKind.u64.wrap (W6 (C-4)))<0 then none else xG (((bits .xor .i64 x.1.1 (W6 ((19:Int)*2 ^ (min (IntKind.u64.wrap (W6 (C-4))).toNat IntKind.i64.bits)))),(W6 (C-1)),()),())else xG ((x.1.1,(W6 (C-1)),()),())else ax ((x.1.1,()),())
def avE:KY 49 (aW f445):=⟨2,lB 2 ⟨[(5,tI),(7,tI)],[],[]⟩ [(4,wI)] ahO,lp []⟩
def uR(C D:Int):ah (Int):=(yO C).bind λE=>bif (!E)then some (-1)else (yO D).bind λL=>bif (!L)then some (-1)else bh ahM ((C,D,0,0,()),()) λO=>bh ahO ((O.1.1,6,()),()) λT=>some T.1.1
def LA:=bS AT cE (bx uR) 49 [RM] [avD,avE] func445
abbrev ahP:=((Int×Int×Int×Int×af)×(af))
def ahQ(x:ahP):ah (ahP⊕(((Int×af)×(af))⊕Empty)):=bif x.1.2.2.2.1<x.1.2.1 then (uR x.1.2.2.1 x.1.1).bind λC=>xG ((x.1.1,x.1.2.1,C,(W6 (x.1.2.2.2.1+1)),()),())else ax ((x.1.2.2.1,()),())
def avF:KY 24 (aW f444):=⟨0,lB 0 YQ [(2,wI)] ahQ,lp [LA]⟩
def Gr(C D:Int):ah (Int):=(yO C).bind λE=>bif (!E)then some (-1)else (cT D 0 1000).bind λL=>bif (!L)then some (-1)else bh ahQ ((C,D,1,0,()),()) λO=>some O.1.1
def Zu:=bS AT cE (bx Gr) 24 [fG,RM] [avF] func444
abbrev ahR:=(((aa Int)×af×Int×Int×Int×Int×af)×((aa Int)×af))
def Gs(x:ahR):ah (ahR⊕((((aa Int)×af×Int×af)×((aa Int)×af))⊕Empty)):=letI C:=x.1.2.2.2;letI D:=C.2.2.1;bif D<3 then xL x.2.1 D λE=>xI x.1.1 x.1.2.2.1 λL=>(uR L C.1).bind λO=>xL x.2.1 D λU=>(uR C.1 C.2.1).bind λT=>xG ((x.1.1,(),x.1.2.2.1,T,C.2.1,(W6 (D+1)),()),((x.2.1.set D.toNat (bits .xor .i64 E O)),()))else ax ((x.1.1,(),x.1.2.2.1,()),(x.2.1,()))
def avG:KY 43 (sn (aW f442) 0):=⟨2,lB 2 ⟨[(0,.lf (.aF .int 0)),(3,.lf (.own 12)),(4,tI),(5,tI),(6,tI),(7,tI)],[(12,.sl .int 2)],[]⟩ [(4,afZ)] Gs,lp [LA]⟩
abbrev ahS:=(((aa Int)×af×Int×af)×((aa Int)×af))
def LB(x:ahS):ah (ahS⊕(((af×af)×((aa Int)×af))⊕Empty)):=bif x.1.2.2.1<(x.1.1.length:Int)then (Gr 2 x.1.2.2.1).bind λD=>bh Gs ((x.1.1,(),x.1.2.2.1,1,D,0,()),(x.2.1,())) λC=>xG ((C.1.1,(),(W6 (C.1.2.2.1+1)),()),(C.2.1,()))else ax (((),()),(x.2.1,()))
def avH:KY 43 (aW f442):=⟨0,lB 0 afZ [(2,⟨[(3,.lf (.own 12))],[(12,.sl .int 2)],[]⟩)] LB,lq [Zu] [avG]⟩
def RN(C:aa Int):ah ((aa Int)):=(wL C 11).bind λD=>bif (!D)then some ([]:aa Int)else if 0 <= (3:Int)/\(3:Int) <= 3/\(3:Int)<1073741824 then bh LB ((C,(),0,()),((List.replicate (3:Int).toNat (0:Int)),())) λE=>some E.2.1 else none
def avI:=bS ou mP (bO RN) 43 [Lz] [avH] func442
def Gt(C:aa Int):ah (Bool):=xI C (0:Int) λD=>bif (D==0)then xI C (1:Int) λE=>bif (E==0)then xI C (2:Int) λL=>some (L==0)else some false else some false
def avJ:=aZ ou bP (bO Gt) 19 [] func443
abbrev ahT:=((af×af×Int×af)×((aa Int)×(aa Int)×af))
def DE(x:ahT):ah (ahT⊕(((af×Int×Int×af)×((aa Int)×af))⊕(((af×af)×((aa Int)×af))⊕Empty))):=letI C:=x.2.2.1;letI D:=x.1.2.2.1;letI E:=xG (((),(),(W6 (D+1)),()),(x.2.1,C,()));bif D<11 then (Gr 2 D).bind λL=>xL C (0:Int) λO=>bif (O != 0)then xL C (0:Int) λT=>xL C (1:Int) λU=>(uR T L).bind λY=>bif (Y==U)then xL C (1:Int) λZ=>xL C (2:Int) λDF=>(uR Z L).bind λDG=>bif (DG==DF)then xL x.2.1 D λZv=>xL C (0:Int) λtD=>xL x.2.1 D λo9=>ax (((),1,D,()),((x.2.1.set D.toNat (bits .xor .i64 Zv tD)),()))else E else E else E else aU (((),()),(x.2.1,()))
def avK:KY 67 (aW f386):=⟨0,lB 0 ⟨[(5,.lf (.own 13)),(6,.lf (.own 1000000000117000)),(7,tI)],[(13,.sl .int 2),(1000000000117000,.sl .int 2)],[]⟩ [(1,⟨[(2,.lf (.own 13)),(3,tI),(4,tI)],[(13,.sl .int 2)],[]⟩),(2,⟨[(5,.lf (.own 13))],[(13,.sl .int 2)],[]⟩)] DE,lp [Zu,LA]⟩
def RO(C:aa Int):ah ((aa Int)×Int×Int):=(wL C 11).bind λL=>bif (!L)then some (([]:aa Int),2,(-1))else bif xZ C then (RN C).bind λE=>(Gt E).bind λO=>bif O then some ((xA C),0,(-1))else bE DE (((),(),0,()),((xA C),E,())) (λD=>some (D.2.1,D.1.2.1,D.1.2.2.1)) λT=>some (T.2.1,2,(-1))else none
def avL:=bS ou [(false,(.sl .int),2),(false,.int,0),(false,.int,0)] (bO RO) 67 [Lz,avI,avJ] [avK] func386
abbrev ahU:=(((aa Int)×Int×Int×af)×(af))
def LC(x:ahU):ah (ahU⊕(((Int×af)×(af))⊕Empty)):=letI C:=x.1.2.2.1;bif C<(x.1.1.length:Int)then xI x.1.1 C λD=>if (IntKind.u64.wrap (W6 (4*C)))<0 then none else xG ((x.1.1,(bits .or .i64 x.1.2.1 (W6 (D*2 ^ (min (IntKind.u64.wrap (W6 (4*C))).toNat IntKind.i64.bits)))),(W6 (C+1)),()),())else ax ((x.1.2.1,()),())
def avM:KY 26 (aW f387):=⟨0,lB 0 ⟨[(0,.lf (.aF .int 0)),(4,tI),(5,tI)],[],[]⟩ [(2,lN)] LC,lp []⟩
def RQ(C:aa Int):ah (Int×Bool):=(wL C 8).bind λD=>bif (!D)then some (0,false)else bh LC ((C,0,0,()),()) λE=>some (E.1.1,true)
def avN:=bS ou [(false,.int,0),(false,.bool,0)] (bO RQ) 26 [Lz] [avM] func387
def RR(D:aa Int):ah ((aa Int)):=letI C:=(D.length:Int);letI E:=(D.take C.toNat).drop (3:Int).toNat;(wL D 11).bind λL=>bif (!L)then some ([]:aa Int)else if 0 <= (3:Int)/\3 <= C/\C <= C then bif xZ E then some (xA E)else none else none
def avO:=aZ ou mP (bO RR) 11 [Lz] func388
def RS(D:aa Int):ah (Int×Int×Int):=(RO D).bind λC=>bif (C.2.1==2)then some (0,C.2.1,C.2.2)else (RR C.1).bind λE=>(RQ E).bind λL=>some (L.1,C.2.1,C.2.2)
def avP:=aZ ou [(false,.int,0),(false,.int,0),(false,.int,0)] (bO RS) 29 [avL,avN,avO] func305
abbrev ahV:=((af×af×Int×af×Int×af)×((aa Int)×(aa Int)×(aa Int)×af))
def ahW(x:ahV):ah (ahV⊕(((af×Int×af×af)×((aa Int)×(aa Int)×af))⊕Empty)):=letI C:=x.2.2;letI D:=x.1.2.2.2.2.1;letI E:=W6 (D+1);bif D<(C.1.length:Int)then xL C.2.1 E λO=>xL C.1 D λT=>letI L:=C.2.1.set E.toNat (bits .xor .i64 O T);xL C.2.1 E λZw=>xL L D λU=>xL C.1 D λY=>(Gr 2 x.1.2.2.1).bind λZ=>(uR Y Z).bind λDH=>xL L D λyP=>xG (((),(),x.1.2.2.1,(),E,()),(x.2.1,C.1,(L.set D.toNat (bits .xor .i64 U DH)),()))else ax (((),x.1.2.2.1,(),()),(x.2.1,C.2.1,()))
def avQ:KY 116 (sn (aW f389) 0):=⟨2,lB 2 ⟨[(3,.lf (.own 18)),(4,.lf (.own 99004)),(5,tI),(6,.lf (.own 29)),(7,tI)],[(18,.sl .int 2),(99004,.sl .int 2),(29,.sl .int 2)],[]⟩ [(4,⟨[(3,.lf (.own 18)),(5,tI),(6,.lf (.own 29))],[(18,.sl .int 2),(29,.sl .int 2)],[]⟩)] ahW,lp [Zu,LA]⟩
abbrev ahX:=((af×af×Int×af)×((aa Int)×(aa Int)×af))
def Zx(x:ahX):ah (ahX⊕(((af×af×af)×((aa Int)×(aa Int)×af))⊕Empty)):=letI C:=W6 ((x.2.2.1.length:Int)+1);bif x.1.2.2.1<3 then if 0 <= C/\C <= C/\C<1073741824 then bh ahW (((),(),x.1.2.2.1,(),0,()),(x.2.1,x.2.2.1,(List.replicate C.toNat (0:Int)),())) λD=>xG (((),(),(W6 (D.1.2.1+1)),()),(D.2.1,D.2.2.1,()))else none else ax (((),(),()),(x.2.1,x.2.2.1,()))
def avR:KY 116 (aW f389):=⟨0,lB 0 ⟨[(3,.lf (.own 18)),(4,.lf (.own 99004)),(5,tI)],[(18,.sl .int 2),(99004,.sl .int 2)],[]⟩ [(2,⟨[(3,.lf (.own 18)),(4,.lf (.own 99004))],[(18,.sl .int 2),(99004,.sl .int 2)],[]⟩)] Zx,lq [] [avQ]⟩
abbrev ahY:=((af×af×af×Int×Int×Int×af)×((aa Int)×(aa Int)×(aa Int)×af))
def Gu(x:ahY):ah (ahY⊕(((af×af×af×Int×af)×((aa Int)×(aa Int)×(aa Int)×af))⊕Empty)):=letI C:=x.2.2;letI D:=x.1.2.2.2;letI E:=D.2.2.1;letI L:=W6 ((W6 (D.1-3))+E);bif E<(C.1.length:Int)then xL C.2.1 L λO=>xL C.1 E λT=>(uR T D.2.1).bind λU=>xL C.2.1 L λY=>xG (((),(),(),D.1,D.2.1,(W6 (E+1)),()),(x.2.1,C.1,(C.2.1.set L.toNat (bits .xor .i64 O U)),()))else ax (((),(),(),D.1,()),(x.2.1,C.1,C.2.1,()))
def avS:KY 116 (sn (aW f389) 4):=⟨6,lB 6 ⟨[(3,.lf (.own 18)),(4,.lf (.own 99004)),(8,.lf (.own 66)),(9,tI),(10,tI),(11,tI)],afP,[]⟩ [(8,afQ)] Gu,lp [LA]⟩
abbrev ahZ:=((af×af×af×Int×af)×((aa Int)×(aa Int)×(aa Int)×af))
def Gw(x:ahZ):ah (ahZ⊕(((af×af×af)×((aa Int)×(aa Int)×af))⊕Empty)):=letI D:=x.1.2.2.2.1;bif D >= 3 then xL x.2.2.2.1 D λE=>bh Gu (((),(),(),D,E,0,()),(x.2.1,x.2.2.1,x.2.2.2.1,())) λC=>xG (((),(),(),(W6 (C.1.2.2.2.1-1)),()),(C.2.1,C.2.2.1,C.2.2.2.1,()))else ax (((),(),()),(x.2.1,x.2.2.2.1,()))
def avT:KY 116 (aW f389):=⟨4,lB 4 afQ [(6,⟨[(3,.lf (.own 18)),(8,.lf (.own 66))],[(18,.sl .int 2),(66,.sl .int 2)],[]⟩)] Gw,lq [] [avS]⟩
abbrev ah0:=((af×af×Int×af)×((aa Int)×(aa Int)×af))
def LD(x:ah0):ah (ah0⊕(((af×af)×((aa Int)×af))⊕Empty)):=letI C:=x.1.2.2.1;bif C<3 then xL x.2.2.1 C λD=>xL x.2.1 C λE=>xG (((),(),(W6 (C+1)),()),((x.2.1.set C.toNat D),x.2.2.1,()))else ax (((),()),(x.2.1,()))
def avU:KY 116 (aW f389):=⟨8,lB 8 ⟨[(3,.lf (.own 18)),(8,.lf (.own 66)),(13,tI)],[(18,.sl .int 2),(66,.sl .int 2)],[]⟩ [(10,⟨[(3,.lf (.own 18))],[(18,.sl .int 2)],[]⟩)] LD,lp []⟩
def A0(E:aa Int):ah ((aa Int)):=letI C:=(3:Int);(wL E 8).bind λO=>bif (!O)then some ([]:aa Int)else if 0 <= C/\C <= 3/\C<1073741824 then bif bI ((List.replicate C.toNat (0:Int)).length+E.length)then bh Zx (((),(),1,()),(((List.replicate C.toNat (0:Int))++E),([1,1]:aa Int),())) λD=>bif xZ D.2.1 then bh Gw (((),(),(),(W6 (((xA D.2.1).length:Int)-1)),()),(D.2.1,D.2.2.1,(xA D.2.1),())) λL=>bh LD (((),(),0,()),(L.2.1,L.2.2.1,())) λT=>some T.2.1 else none else none else none
def avV:=bS ou mP (bO A0) 116 [Lz] [avR,avT,avU] func389
def LF(C:Int):ah (Bool):=(cT C 0 4294967295).bind λD=>some D
def ah1:=aZ lO bP (bO LF) 5 [fG] func385
abbrev ah2:=((Int×af×Int×af)×((aa Int)×af))
def LG(x:ah2):ah (ah2⊕(((af×af)×((aa Int)×af))⊕Empty)):=letI C:=x.1.2.2.1;letI D:=ax (((),()),(x.2.1,()));letI E:=([(bits .and .i64 (x.1.1.fdiv (2 ^ (min (IntKind.u64.wrap (W6 (4*C))).toNat IntKind.i64.bits))) 15)]:aa Int);bif C<8 then (LF x.1.1).bind λL=>bif L then if (IntKind.u64.wrap (W6 (4*C)))<0 then none else bif bI (x.2.1.length+E.length)then xG ((x.1.1,(),(W6 (C+1)),()),((x.2.1++E),()))else none else D else D
def avW:KY 24 (aW f390):=⟨0,lB 0 ⟨[(0,tI),(3,.lf (.own 5)),(4,tI)],[(5,.sl .int 2)],[]⟩ [(2,YT)] LG,lp [ah1]⟩
def RT(C:Int):ah ((aa Int)):=bh LG ((C,(),0,()),(([]:aa Int),())) λD=>some D.2.1
def avX:=bS lO mP (bO RT) 24 [] [avW] func390
def Gx(C:Int):ah ((aa Int)):=(RT C).bind λD=>(A0 D).bind λE=>some E
def ah3:=aZ lO mP (bO Gx) 6 [avV,avX] func306
def Gy(C:bV):ah (Bool):=letI D:=(cT C.times 1 999).bind λE=>some E;(cT C.line 0 1023).bind λL=>bif L then bif (C.code==1)then D else bif (C.code==2)then D else some false else some false
def ah4:=aZ [(true,.fM)] bP (bO Gy) 21 [fG] func302
abbrev ah5:=(((aa bV)×Int×Int×Int×af)×(af))
def LH(x:ah5):ah (ah5⊕(((Int×af)×(af))⊕(((af)×(af))⊕Empty))):=letI C:=x.1.2.2.2.1;letI D:=xG ((x.1.1,x.1.2.1,x.1.2.2.1,(W6 (C+1)),()),());bif C<(x.1.1.length:Int)then xI x.1.1 C λE=>bif (E.line==x.1.2.1)then xI x.1.1 C λL=>bif (L.code==x.1.2.2.1)then ax ((C,()),())else D else D else aU ((),())
def avY:KY 31 (aW f303):=⟨0,lB 0 ⟨[(0,.lf (.aF .fM 0)),(1,tI),(2,tI),(7,tI)],[],[]⟩ [(1,Ki),(2,fS)] LH,lp []⟩
def LI(C:aa bV)(D E:Int):ah (Int):=bE LH ((C,D,E,0,()),()) (λL=>some L.1.1) λO=>some (-1)
def ah6:=bS YR cE (fR LI) 31 [] [avY] func303
abbrev ah7:=(((aa bV)×Int×af)×(af))
def LJ(x:ah7):ah (ah7⊕(((Bool×af)×(af))⊕(((af)×(af))⊕Empty))):=letI C:=x.1.2.1;bif C<(x.1.1.length:Int)then xI x.1.1 C λD=>(Gy D).bind λE=>bif (!E)then ax ((false,()),())else xI x.1.1 C λL=>xI x.1.1 C λO=>(LI x.1.1 L.line O.code).bind λT=>bif (T != C)then ax ((false,()),())else xG ((x.1.1,(W6 (C+1)),()),())else aU ((),())
def avZ:KY 35 (aW f178):=⟨0,lB 0 ⟨[(0,.lf (.aF .fM 0)),(3,tI)],[],[]⟩ [(1,qW),(2,fS)] LJ,lp [ah4,ah6]⟩
def RU(C:aa bV):ah (Bool):=bif (C.length:Int) > 6 then some false else bE LJ ((C,0,()),()) (λD=>some D.1.1) λE=>some true
def av0:=bS [(false,(.sl .fM))] bP (bO RU) 35 [] [avZ] func178
def RX(L:aa bV)(T U:Int):ah ((aa bV)×Bool):=letI C:=xA L;letI E:=(C.length:Int);letI O:=([(⟨T,U,1⟩:bV)]:aa bV);letI Y:=(C.take (E.toNat)).drop ((1:Int).toNat);bif xZ L then (RU L).bind λy1=>bif (!y1)then some (C,false)else (Gy (⟨T,U,1⟩:bV)).bind λy2=>bif (!y2)then some (C,false)else (LI L T U).bind λD=>bif D >= 0 then xC C D (if h5:D.toNat<C.length then (let e6:=C[D.toNat]'h5;letI Z:=W6 (e6.times+1);xC C D (if h8:D.toNat<C.length then (let e9:=C[D.toNat]'h8;some ((C.set D.toNat (⟨e9.line,e9.code,(if 999<Z then 999 else Z)⟩:bV)),true))else none))else none)else bif E >= 6 then if 0 <= (1:Int)/\1 <= E/\E <= E then bif xZ Y then bif bI ((xA Y).length+O.length)then some (((xA Y)++O),true)else none else none else none else bif bI (C.length+O.length)then some ((C++O),true)else none else none
def av1:=aZ YR [(false,(.sl .fM),2),(false,.bool,0)] (fR RX) 55 [av0,ah4,ah6] func307
def DI(C:av)(E D:Int):ah ((af)×(av×af)):=bif (D != 0)then (RX C.errors E D).bind λL=>some ((),({C with errors:=L.1},()))else some ((),(C,()))
def ah8:=yE YV [] (fR DI) 21 [av1] func189
def RY(L:lW)(C:fk)(D:Bool):ah (Int):=letI U:=decide (C.idle >= L.sleep);(let Y:Bool -> ah (Int):=λj3=>bif j3 then some 0 else (let E:Bool -> ah (Int):=λj7=>bif j7 then some 7 else (let Z:Bool -> ah (Int):=λj8=>bif j8 then some 9 else (let O:Bool -> ah (Int):=λj9=>bif j9 then some 8 else (let T:Bool -> ah (Int):=λDJ=>bif DJ then some 6 else some 0;letI u0:=T (decide (C.idle >= L.down));bif (!D)then bif (C.state==0)then u0 else (T false)else (T false));letI u1:=O U;bif (!D)then bif (C.state==0)then u1 else (O false)else (O false));bif D then (Z (C.state==2))else (Z false));letI u2:=E U;(let k6:Bool -> ah (Int):=λj5=>bif j5 then (E j5)else bif (!D)then bif (C.state==1)then u2 else (E false)else (E false);bif D then (k6 (C.state==1))else (k6 false)));(Ll L).bind λy1=>bif (!y1)then (Y true)else (yN C).bind λy2=>(Y (!y2)))
def av2:=aZ [(true,.oM),(true,.Power),(false,.bool)] cE (fR RY) 73 [Zs,ahy] func308
abbrev ah9:=((af×af×Int×af)×(((aa dG)×Int×af)×(aa Int)×af))
def Gz(x:ah9):ah (ah9⊕(((af×af)×((aa Int)×af))⊕Empty)):=letI C:=x.1.2.2.1;letI D:=((),(),(W6 (C+1)),());bif C<(x.2.1.1.length:Int)then xI x.2.1.1 C λE=>bif E.open_ then bif bI (x.2.2.1.length+([C]:aa Int).length)then xG (D,(x.2.1,(x.2.2.1++([C]:aa Int)),()))else none else xG (D,(x.2.1,x.2.2.1,()))else ax (((),()),(x.2.2.1,()))
def av3:KY 24 (aW f404):=⟨0,lB 0 ⟨agB,[(1,.aB Du),(5,.sl .int 2)],[]⟩ [(2,YT)] Gz,lp []⟩
def LK(C:cH):ah ((aa Int)):=bh Gz (((),(),0,()),((C.aC,C.bk,()),([]:aa Int),())) λD=>some D.2.1
def aia:=bS [(true,.iO)] mP (bO LK) 24 [] [av3] func404
def RZ(D:cH)(C:aH):ah (Bool):=letI E:=D.bk==0;letI T:=bif E then xI D.aC C.ay λY=>some (!Y.open_)else some false;letI L:=bif E then xI D.aC C.ay λZ=>some Z.open_ else some false;letI O:=bif (C.kind==6)then some E else bif (C.kind==8)then bif E then (LK D).bind λy5=>some ((y5.length:Int)==0)else some false else bif (C.kind==7)then some (D.bk==1)else some (D.bk==2);letI U:=bif (C.kind==2)then bif (C.kind==2)then L else O else bif (C.kind==3)then bif (C.kind==3)then L else O else bif (C.kind==4)then L else O;bif (C.kind==1)then bif (C.kind==1)then T else U else bif (C.kind==5)then T else U
def av4:=aZ [(true,.iO),(true,.Command)] bP (bx RZ) 63 [aia] func391
def LL(C:dw)(D E:Int):ah (Int):=letI T:=some (W6 (C.wr+C.rp));letI U:=some (W6 (C.jI+C.rp));letI Y:=some (W6 (C.hD+C.rp));letI O:=E==5;letI L:=E==4;(DA C).bind λZ=>bif (!Z)then some 0 else bif (E==1)then bif (D==1)then bif (E==2)then some C.kF else bif (E==3)then some C.kF else bif L then some C.hD else Y else bif (D==2)then bif L then some C.jI else U else bif (D==3)then bif L then some C.wr else T else bif (D==4)then some C.rp else bif (D==5)then some C.nZ else some 0 else bif (D==1)then bif (E==2)then some C.kF else bif (E==3)then some C.kF else bif L then some C.hD else bif O then Y else some 0 else bif (D==2)then bif L then some C.jI else bif O then U else some 0 else bif (D==3)then bif L then some C.wr else bif O then T else some 0 else bif (D==4)then bif O then some C.rp else some 0 else bif (D==5)then bif O then some C.nZ else some 0 else some 0
def aib:=aZ [(true,.kI),(false,.int),(false,.int)] cE (fR LL) 57 [RB] func464
def R0(C:Bool)(D E:Int):ah (Int):=bif C then some D else some E
def av5:=aZ [(false,.bool),(false,.int),(false,.int)] cE (fR R0) 10 [] func469
def LM(C:dw)(D E:Int)(L:Bool):ah (Int):=(let O:Bool -> ah (Int):=λj4=>bif j4 then some 0 else bif (D==7)then some C.xp else bif (D==9)then some C.xs else (let T:Bool -> ah (Int):=λj6=>bif j6 then some C.oK else (let Y:Bool -> ah (Int):=λj7=>bif j7 then (R0 L C.kG C.nT).bind λy8=>some y8 else (let U:Bool -> ah (Int):=λj9=>bif j9 then (R0 L C.nW C.nU).bind λku=>some ku else (let Z:Bool -> ah (Int):=λZy=>bif Zy then (R0 L C.nY C.nX).bind λjd=>some jd else (let uS:Bool -> ah (Int):=λDK=>bif DK then some C.qB else (let A1:Bool -> ah (Int):=λDL=>bif DL then some C.kG else (let uT:Bool -> ah (Int):=λGA=>bif GA then some C.jI else (let A3:Bool -> ah (Int):=λLN=>bif LN then some C.wr else bif (E==8)then (LL C D 1).bind λjB=>some jB else some 0;bif (E==6)then (A3 (D==3))else (A3 false));bif (E==6)then (uT (D==2))else (uT false));bif (D==5)then (A1 (E==5))else (A1 false));bif (D==2)then (uS (E==3))else (uS false));bif (D==3)then (Z (E==2))else (Z false));bif (D==E)then bif (D==2)then (U true)else (U (D==3))else (U false));bif (D==1)then (Y (E==1))else (Y false));letI u0:=bif (D==8)then (T (E==9))else (T false);bif (D==6)then bif (E==7)then (T true)else u0 else u0);(DA C).bind λy1=>bif (!y1)then (O true)else (cT D 1 9).bind λy2=>bif (!y2)then (O true)else (cT E 1 9).bind λy3=>(O (!y3)))
def av6:=aZ agk cE (nE LM) 135 [fG,RB,aib,av5] func463
def A4(O:aL)(Y:dw)(D C:aH):ah (Int):=letI Z:=LL Y D.kind C.kind;letI u0:=LM Y D.kind C.kind false;bif D.kind <= 5 then bif C.kind <= 5 then if O.aC=0 then none else if O.aC=0 then none else (LM Y D.kind C.kind ((W6 (D.ay.tdiv O.aC))==(W6 (C.ay.tdiv O.aC)))).bind λE=>letI u1:=some (if 1 > E then 1 else E);bif C.kind <= 5 then bif (D.ay==C.ay)then Z.bind λT=>some (if 1 > (if T > E then T else E)then 1 else (if T > E then T else E))else u1 else u1 else u0.bind λL=>letI u2:=some (if 1 > L then 1 else L);bif C.kind <= 5 then bif (D.ay==C.ay)then Z.bind λU=>some (if 1 > (if U > L then U else L)then 1 else (if U > L then U else L))else u2 else u2 else u0.bind λy5=>some (if 1 > y5 then 1 else y5)
def av7:=aZ agl cE (nE A4) 57 [av6,aib] func446
abbrev aic:=((af×af×af×af×Int×Int×af)×((Int×Int×Int×Int×af)×dw×((aa Int)×(aa Int)×af)×(Int×Int×Int×Int×af)×af))
def LO(x:aic):ah (aic⊕(((af×af×af×Int×af)×(dw×((aa Int)×(aa Int)×af)×(Int×Int×Int×Int×af)×af))⊕Empty)):=letI E:=x.2.2.2.1;letI Y:=(⟨x.2.1.1,x.2.1.2.1,x.2.1.2.2.1,x.2.1.2.2.2.1⟩:aL);letI L:=x.2.2.2.2.1;letI Z:=(⟨L.1,L.2.1,L.2.2.1,L.2.2.2.1⟩:aH);letI O:=(x.2.1,x.2.2.1,E,L,());letI C:=x.1.2.2.2.2;letI D:=C.2.1;letI T:=W6 (D+1);letI U:=W6 ((D.tmod 9)+1);bif D<(E.1.length:Int)then xI E.1 D λe2=>bif e2<0 then xG (((),(),(),(),C.1,T,()),O)else bif U <= 5 then xI E.1 D λe4=>(A4 Y x.2.2.1 (⟨U,(W6 (D.tdiv 9)),0,0⟩:aH) Z).bind λy5=>letI u8:=W6 (e4+y5);xG (((),(),(),(),(if u8 > C.1 then u8 else C.1),T,()),O)else xI E.1 D λe7=>(A4 Y x.2.2.1 (⟨U,0,0,0⟩:aH) Z).bind λy8=>letI u9:=W6 (e7+y8);xG (((),(),(),(),(if u9 > C.1 then u9 else C.1),T,()),O)else ax (((),(),(),C.1,()),(x.2.2.1,E,L,()))
def av8:KY 67 (aW f392):=⟨0,lB 0 ⟨[(4,.aG 4 0),(5,.aG 5 0),(6,.aG 6 0),(7,.aG 7 0),(9,tI),(10,tI)],agf,[]⟩ [(2,afS)] LO,lp [av7]⟩
def R1(D:aL)(U:dw)(O:dJ)(E:aH):ah (Int):=bh LO (((),(),(),(),0,0,()),((D.cg,D.aC,D.rows,D.aO,()),U,(O.last,O.aX,()),(E.kind,E.ay,E.row,E.bR,()),())) λC=>letI L:=C.1.2.2.2.1;bif (C.2.2.2.1.1==1)then bif ((C.2.2.1.2.1.length:Int)==4)then xI C.2.2.1.2.1 (0:Int) λY=>letI T:=W6 (Y+C.2.1.kH);some (if T > C.1.2.2.2.1 then T else L)else some L else some L
def av9:=bS agm cE (nE R1) 67 [] [av8] func392
def DM(C:av)(D:aH):ah (Bool):=(RZ C.bq D).bind λL=>bif (!L)then some false else (R1 C.config.az C.config.cq C.ready D).bind λE=>bif E <= 1000000 then some (E <= C.now)else some false
def R2:=aZ [(false,.mD),(true,.Command)] bP (bx DM) 39 [av4,av9] func309
abbrev aid:=((av×(aa aH)×af×Int×af)×((Int×Int×Int×Int×af)×af))
def DN(x:aid):ah (aid⊕(((af×Bool×af)×((Int×Int×Int×Int×af)×af))⊕(((af×af)×((Int×Int×Int×Int×af)×af))⊕Empty))):=letI C:=x.1.2.2.2.1;bif C<(x.1.2.1.length:Int)then xI x.1.2.1 C λE=>(DM x.1.1 E).bind λL=>bif L then xI x.1.2.1 C λD=>ax (((),true,()),((D.kind,D.ay,D.row,D.bR,()),()))else xG ((x.1.1,x.1.2.1,(),(W6 (C+1)),()),(x.2.1,()))else aU (((),()),(x.2.1,()))
def awa:KY 24 (aW f310):=⟨0,lB 0 ⟨[(0,.fp .cP 0),(1,.lf (.aF .Command 0)),(4,.aG 4 0),(6,tI)],[(4,.aB fj)],[]⟩ [(1,⟨[(4,.aG 4 0),(5,tB)],[(4,.aB fj)],[]⟩),(2,⟨[(4,.aG 4 0)],[(4,.aB fj)],[]⟩)] DN,lp [R2]⟩
def LP(D:av)(E:aa aH):ah (aH×Bool):=bE DN ((D,E,(),0,()),((0,0,0,0,()),())) (λC=>some ((⟨C.2.1.1,C.2.1.2.1,C.2.1.2.2.1,C.2.1.2.2.2.1⟩:aH),C.1.2.1)) λL=>some ((⟨0,0,0,0⟩:aH),false)
def awb:=bS [(false,.mD),(false,(.sl .Command))] [(true,.Command,0),(false,.bool,0)] (bx LP) 24 [] [awa] func310
def DO(C:av)(D:Int):ah (Bool):=xI C.aV.aI D λE=>some (E >= 4)
def R3:=aZ [(false,.mD),(false,.int)] bP (bx DO) 14 [] func393
def GB(D:av)(C:aH):ah (aH):=xI D.bq.aC C.ay λE=>bif E.open_ then some (⟨4,C.ay,0,0⟩:aH)else some C
def Zz:=aZ [(false,.mD),(true,.Command)] Kj (bx GB) 19 [] func394
abbrev aie:=(((aa aJ)×Int×Int×af)×(af))
def GC(x:aie):ah (aie⊕(((Bool×af)×(af))⊕(((af)×(af))⊕Empty))):=bif x.1.2.2.1<(x.1.1.length:Int)then xI x.1.1 x.1.2.2.1 λC=>bif (C.ay==x.1.2.1)then ax ((true,()),())else xG ((x.1.1,x.1.2.1,(W6 (x.1.2.2.1+1)),()),())else aU ((),())
def awc:KY 19 (aW f395):=⟨0,lB 0 af9 [(1,iz),(2,fS)] GC,lp []⟩
def GD(C:aa aJ)(D:Int):ah (Bool):=bE GC ((C,D,0,()),()) (λE=>some E.1.1) λL=>some false
def ZA:=bS YW bP (bx GD) 19 [] [awc] func395
abbrev aif:=((av×af×Int×af)×((aa aH)×af))
def LQ(x:aif):ah (aif⊕(((av×af×af)×((aa aH)×af))⊕Empty)):=letI C:=x.1.2.2.1;letI D:=(x.1.1,(),(W6 (C+1)),());bif C<(x.1.1.aV.aI.length:Int)then (DO x.1.1 C).bind λL=>bif L then (GB x.1.1 (⟨5,C,0,0⟩:aH)).bind λE=>bif bI (x.2.1.length+([E]:aa aH).length)then xG (D,((x.2.1++([E]:aa aH)),()))else none else xG (D,(x.2.1,()))else ax ((x.1.1,(),()),(x.2.1,()))
def awd:KY 72 (aW f311):=⟨0,lB 0 ⟨[(0,.fp .cP 0),(3,.lf (.own 7)),(4,tI)],QY,[]⟩ [(2,⟨[(0,.fp .cP 0),(3,.lf (.own 7))],QY,[]⟩)] LQ,lp [R3,Zz]⟩
abbrev aih:=((av×af×Int×af)×((aa aH)×af))
def LR(x:aih):ah (aih⊕(((af×af)×((aa aH)×af))⊕Empty)):=letI C:=x.1.1;letI D:=x.1.2.2.1;letI L:=(C,(),(W6 (D+1)),());bif D<(C.pending.length:Int)then xI C.pending D λE=>(DO C E.ay).bind λT=>bif (!T)then if 0 <= (0:Int)/\0 <= D/\D <= (C.pending.length:Int)then (GD ((C.pending.take D.toNat).drop (0:Int).toNat) E.ay).bind λU=>bif (!U)then (GB C (⟨1,E.ay,E.row,0⟩:aH)).bind λO=>bif bI (x.2.1.length+([O]:aa aH).length)then xG (L,((x.2.1++([O]:aa aH)),()))else none else xG (L,(x.2.1,()))else none else xG (L,(x.2.1,()))else ax (((),()),(x.2.1,()))
def awe:KY 72 (aW f311):=⟨2,lB 2 ⟨[(0,.fp .cP 0),(3,.lf (.own 7)),(5,tI)],QY,[]⟩ [(4,⟨[(3,.lf (.own 7))],QY,[]⟩)] LR,lp [R3,Zz,ZA]⟩
def R4(D:av):ah ((aa aH)):=bh LQ ((D,(),0,()),(([]:aa aH),())) λC=>bh LR ((C.1.1,(),0,()),(C.2.1,())) λE=>some E.2.1
def awf:=bS [(false,.mD)] [(false,(.sl .Command),2)] (bO R4) 72 [] [awd,awe] func311
def A5(D:cH)(C:aJ)(L:Bool):ah (aH):=letI E:=some (⟨1,C.ay,C.row,0⟩:aH);(cT C.ay 0 (W6 ((D.aC.length:Int)-1))).bind λO=>bif (!O)then E else xI D.aC C.ay λT=>bif (!T.open_)then E else xI D.aC C.ay λU=>bif (U.row != C.row)then some (⟨4,C.ay,0,0⟩:aH)else bif L then some (⟨3,C.ay,0,C.bR⟩:aH)else some (⟨2,C.ay,0,C.bR⟩:aH)
def ZB:=aZ [(true,.iO),(true,.Addr),(false,.bool)] Kj (fR A5) 54 [fG] func315
def R5(C:aL)(E:kE)(L:Int):ah (aJ×Bool):=letI u6:=some ((⟨0,0,0⟩:aJ),false);letI T:=L.tmod C.aO;letI O:=W6 (L.tdiv C.aO);letI U:=O.tmod C.rows;(Gj E).bind λy1=>bif (!y1)then u6 else (wK C).bind λy2=>(cT L 0 (W6 (y2-1))).bind λy3=>bif (!y3)then u6 else (o8 C).bind λD=>letI Y:=W6 (O.tdiv D);letI Z:=W6 (L.tdiv D);letI u1:=W6 (Z.tdiv C.aO);bif (E.order==0)then if C.aO=0 then none else if C.aO=0 then none else if D=0 then none else if C.aO=0 then none else if D=0 then none else bif E.hash then if D=0 then none else some ((⟨((W6 ((O.tmod D)+Y)).tmod D),Y,T⟩:aJ),true)else some ((⟨(O.tmod D),Y,T⟩:aJ),true)else bif (E.order==1)then if D=0 then none else if D=0 then none else if C.aO=0 then none else if D=0 then none else if C.aO=0 then none else bif E.hash then if D=0 then none else some ((⟨((W6 ((L.tmod D)+u1)).tmod D),u1,(Z.tmod C.aO)⟩:aJ),true)else some ((⟨(L.tmod D),u1,(Z.tmod C.aO)⟩:aJ),true)else if C.aO=0 then none else if C.aO=0 then none else if C.rows=0 then none else if C.aO=0 then none else if C.rows=0 then none else bif E.hash then if D=0 then none else some ((⟨((W6 ((W6 (O.tdiv C.rows))+U)).tmod D),U,T⟩:aJ),true)else some ((⟨(W6 (O.tdiv C.rows)),U,T⟩:aJ),true)
def awg:=aZ [(true,.ga),(true,.oL),(false,.int)] Y2 (fR R5) 94 [fG,RH,ox,ahu] func406
end Go.Proofs.YtnilicojgkhpnaaGreat
