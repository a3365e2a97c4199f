/-
  Functions of the program as plain functions of contents, and that the code computes them. Nothing here is a claim.
-/
import Derived.Test.YtpigmalhjkekiaaGreatVZ
import Derived.Test.YtpigmalhjkekiaaGreatRows
import Derived.Test.YtpigmalhjkekiaaGreatG1
import Derived.Test.YtpigmalhjkekiaaGreatG2
import Derived.Test.YtpigmalhjkekiaaGreatG3
import Derived.Test.YtpigmalhjkekiaaGreatG4
import Derived.Test.YtpigmalhjkekiaaGreatG5
import Derived.Test.YtpigmalhjkekiaaGreatG6
namespace Go.Proofs.YtpigmalhjkekiaaGreat
set_option linter.defProp false
open Go.RowKit Go.Proofs.Tryz
set_option linter.unusedVariables false
set_option maxRecDepth 100000
def sM(D:ax)(C:fY):aj (ax×Bool):=letI u1:=FU D.config.ak D.array C.addr C.xO C.n;(A7 D).bind λE=>letI u2:=some (E,false);letI T:=u1.bind λod=>some ({E with array:=od},false);(Ba D).bind λy2=>bif (!y2)then u2 else bif (C.kind==1)then (O8 D C.request).bind λU=>some (U.1,U.2)else bif (C.kind==2)then (cc C.n 0 500).bind λI=>bif I then (FT D C.n).bind λy5=>some (y5,I)else some (E,I)else bif (C.kind==3)then (zk D.config.ak C.addr).bind λy6=>bif y6 then (cc C.xO 0 10).bind λy7=>bif y7 then (sK C.n).bind λy8=>u1.bind λy9=>some ({E with array:=y9},y8)else T else T else bif (C.kind==4)then (cc C.n 0 1).bind λO=>bif O then (P4 D.aD (C.n==1)).bind λlW=>some ({E with aD:=lW},O)else some (E,O)else bif (C.kind==5)then (qJ D.config C.eD).bind λlA=>bif lA then (P5 D.box C.eD).bind λY=>some ({E with box:=Y.1},Y.2)else u2 else bif (C.kind==6)then (P8 E C.addr.ay C.addr.row).bind λZ=>some (Z.2.1,Z.1)else u2
def as1:=bD [(true,.dV),(true,.Act)] IF (cF sM) 106 [aql,asK,V3,JD,JW,dW,JN,Ju,asM,asN,asO,as0] func65
def as2:bG:=⟨[(6,.aG 6 0),(8,.aG 8 0),(10,tI),(29,.lf (.aH .Act 0)),(30,tI),(31,tI)],[],zz4⟩
def as3:aa (Nat×bG):=[(2,⟨[(6,.aG 6 0),(8,.aG 8 0),(10,tI)],[],zz4⟩)]
abbrev agi:=((ah×ah×Int×(aa fY)×Int×Int×ah)×(ax×ax×ah))
def KF(x:agi):aj (agi⊕(((ah×ah×Int×ah)×(ax×ax×ah))⊕Empty)):=letI C:=x.1.2.2.2;letI u1:=C.2.2.1;bif u1<C.2.1 then xI C.1 u1 λE=>(sM x.2.2.1 E).bind λD=>bif D.2 then xG (((),(),(W6 (x.1.2.2.1+1)),C.1,C.2.1,(W6 (u1+1)),()),(x.2.1,D.1,()))else xG (((),(),x.1.2.2.1,C.1,C.2.1,(W6 (u1+1)),()),(x.2.1,x.2.2.1,()))else aE (((),(),x.1.2.2.1,()),(x.2.1,x.2.2.1,()))
def as4:KY 48 (bx f17):=⟨0,lB 0 as2 as3 KF,lp [as1]⟩
def KG(O:eo)(T:cR)(C:aa fY):aj (ax×Int):=letI D:=some ((⟨⟨⟨0,0,0,0⟩,⟨0,0,0,0,0,0,0,0,0,0,0,0,0,0,0,0,0⟩,⟨0,false⟩,0,0,0,⟨0,0⟩⟩,⟨⟨0,0,0,0,0,[],⟨0,0⟩⟩,⟨0,0,0,0,0,[],⟨0,0⟩⟩,false⟩,0,⟨[],0⟩,⟨[],[]⟩,⟨[],[],[]⟩,⟨0,[]⟩,⟨[],0,false⟩,[],[],[],[],[],⟨false,0,0⟩,⟨0,0,0⟩,⟨0,0,0⟩,[],[],[]⟩:ax),0);(OT O T).bind λE=>bif (!E.2)then D else bif (C.length:Int) > 60 then D else bR KF (((),(),0,C,(C.length:Int),0,()),((⟨⟨⟨0,0,0,0⟩,⟨0,0,0,0,0,0,0,0,0,0,0,0,0,0,0,0,0⟩,⟨0,false⟩,0,0,0,⟨0,0⟩⟩,⟨⟨0,0,0,0,0,([]:aa Int),⟨0,0⟩⟩,⟨0,0,0,0,0,([]:aa Int),⟨0,0⟩⟩,false⟩,0,⟨([]:aa gN),0⟩,⟨([]:aa Int),([]:aa Int)⟩,⟨([]:aa bO),([]:aa Int),([]:aa Int)⟩,⟨0,([]:aa Int)⟩,⟨([]:aa Int),0,false⟩,([]:aa cI),([]:aa Int),([]:aa aO),([]:aa aU),([]:aa cQ),⟨false,0,0⟩,⟨0,0,0⟩,⟨0,0,0⟩,([]:aa cr),([]:aa dO),([]:aa ey)⟩:ax),E.1,())) λI=>some (I.2.2.1,I.1.2.2.1)
def as5:=cM [(true,.Config),(true,.nT),(false,(.sl .Act))] [(true,.dV,4),(false,.int,0)] (iV KG) 48 [apG] [as4] func17
def P9(D:aF)(C:aO):aj (Int):=(E5 D C).bind λE=>bif (!E)then some (-1)else some (W6 ((W6 ((W6 ((W6 (C.ay*D.rows))+C.row))*D.aQ))+C.bZ))
def as6:=bD NQ fV (cF P9) 23 [adZ] func18
def WV(O:aa Int):aj (Bool):=letI u1:=(1:Int);letI D:=(0:Int);(VL O).bind λy1=>bif y1 then some true else (N9 O).bind λE=>(Oa O).bind λC=>(Ol E.1 E.2.1).bind λY=>(E1 E.1.ak Y.1.spare).bind λy5=>(vD y5).bind λI=>if h7:0 <= D/\D.toNat<C.length then if h8:(0:Int).toNat<C.length then (let T:=C[D.toNat]'h8;if I=0 then none else (OH Y.1 (T.tmod I)).bind λZ=>if zq:0 <= u1/\u1.toNat<C.length then if qz:(1:Int).toNat<C.length then (let e13:=C[u1.toNat]'qz;if vE:0 <= (2:Int)/\(2:Int).toNat<C.length then if vF:(2:Int).toNat<C.length then (let Bf:=C[(2:Int).toNat]'vF;if Bk:0 <= (3:Int)/\(3:Int).toNat<C.length then if Bl:(3:Int).toNat<C.length then (let Dj:=C[(3:Int).toNat]'Bl;(KG E.1 E.2.1 ([(⟨1,⟨1,0,(T.tmod I),true,e13,0⟩,0,0,⟨0,0,0⟩,⟨0,0,0,0,0,[],⟨0,0⟩⟩⟩:fY),(⟨2,⟨0,0,0,false,0,0⟩,60,0,⟨0,0,0⟩,⟨0,0,0,0,0,[],⟨0,0⟩⟩⟩:fY),(⟨3,⟨0,0,0,false,0,0⟩,(W6 (1+(Dj.tmod 15))),(Bf.tmod 11),Z.1,⟨0,0,0,0,0,[],⟨0,0⟩⟩⟩:fY),(⟨1,⟨2,0,(T.tmod I),false,0,0⟩,0,0,⟨0,0,0⟩,⟨0,0,0,0,0,[],⟨0,0⟩⟩⟩:fY),(⟨2,⟨0,0,0,false,0,0⟩,200,0,⟨0,0,0⟩,⟨0,0,0,0,0,[],⟨0,0⟩⟩⟩:fY)]:aa fY)).bind λC2=>letI u2:=C2.1;bif (C2.2 != 5)then some false else bif ((u2.bF.length:Int) != 2)then some false else bif ((u2.errors.length:Int) != 1)then some false else if Bg:0 <= u1/\u1.toNat<u2.bF.length then if Dt:(1:Int).toNat<u2.bF.length then (let U:=u2.bF[u1.toNat]'Dt;bif (U.id==2)then if WH:0 <= u1/\u1.toNat<C.length then if Qa:(1:Int).toNat<C.length then (let Kq:=C[u1.toNat]'Qa;bif (U.data==Kq)then bif (U.code != 2)then if h27:0 <= D/\D.toNat<u2.errors.length then if h28:(0:Int).toNat<u2.errors.length then (let e29:=u2.errors[D.toNat]'h28;bif (e29.code==1)then if h30:0 <= D/\D.toNat<u2.errors.length then if WW:(0:Int).toNat<u2.errors.length then (let e32:=u2.errors[D.toNat]'WW;(P9 E.1.ak Z.1).bind λWQ=>bif (e32.line==WQ)then if h34:0 <= D/\D.toNat<u2.errors.length then if h35:(0:Int).toNat<u2.errors.length then (let V7:=u2.errors[D.toNat]'h35;some (V7.times==1))else none else none else some false)else none else none else some false)else none else none else some false else some false)else none else none else some false)else none else none)else none else none)else none else none)else none else none)else none else none
def as7:jH:=iL [(false,(.sl .u8))] [(false,.bool,0)] (λx=>WV x.1)
def as8:enters Tryz.prog 4/\jl Tryz.prog 4 as7:=kp 142 [anO,an4,an6,C0,VQ,aoy,apa,as5,as6] func4
end Go.Proofs.YtpigmalhjkekiaaGreat
