/-
  Functions of the program as plain functions of contents, and that the code computes them. Nothing here is a claim.
-/
import Derived.Test.YtpigmalhjkekiaaGreatVZ
import Derived.Test.YtpigmalhjkekiaaGreatRows
import Derived.Test.YtpigmalhjkekiaaGreatRep
import Derived.Test.YtpigmalhjkekiaaGreatG1
namespace Go.Proofs.YtpigmalhjkekiaaGreat
set_option linter.defProp false
open Go.RowKit Go.Proofs.Tryz
set_option linter.unusedVariables false
set_option maxRecDepth 100000
def Ee(D:aH):aj (bM):=(nA D).bind λE=>bif (!E)then some (⟨[],0⟩:bM)else (jP D).bind λC=>if 0 <= C/\C <= C/\C<1073741824 then some (⟨(List.replicate C.toNat (⟨false,0⟩:ep)),0⟩:bM)else none
def Ty:=bS ye [(true,.kU,2)] (cA Ee) 11 [lW,qt] func25
abbrev aba:=((ah×ah×Int×Int×ah)×((ah×ah×ah)×(ah×ah×ah)×(aa Int)×(aa Int)×(aa Int)×(aa Int)×ah))
def HD(x:aba):aj (aba⊕(((ah×ah×ah)×((ah×ah×ah)×(ah×ah×ah)×(aa Int)×(aa Int)×(aa Int)×(aa Int)×ah))⊕Empty)):=letI u2:=x.1.2.2.2.1;letI u1:=((),(),());letI C:=x.2.2.2.2;bif u2<x.1.2.2.1 then xL C.2.1 u2 λD=>xG (((),(),x.1.2.2.1,(W6 (u2+1)),()),(u1,u1,x.2.2.2.1,C.1,(C.2.1.set u2.toNat (-1:Int)),C.2.2.1,()))else aM (u1,(u1,u1,x.2.2.2.1,C.1,C.2.1,C.2.2.1,()))
def alv:KY 27 (bw f26):=⟨0,lB 0 ⟨[(2,.aL 2 0),(3,.aL 3 0),(17,tI),(18,tI)],aar,[]⟩ [(2,⟨[(2,.aL 2 0),(3,.aL 3 0)],aar,[]⟩)] HD,lp []⟩
def HE(D:aH):aj (dR):=(nA D).bind λI=>bif (!I)then some (⟨[],[]⟩:dR)else (jP D).bind λO=>letI C:=W6 (9*(W6 (O+1)));if 0 <= C/\C <= C/\C<1073741824 then bR HD (((),(),((List.replicate C.toNat (0:Int)).length:Int),0,()),(((),(),()),((),(),()),([]:aa Int),([]:aa Int),(List.replicate C.toNat (0:Int)),([]:aa Int),())) λE=>some (⟨E.2.2.2.2.2.1,E.2.2.2.2.2.2.1⟩:dR)else none
def abb:=dg ye [(true,.oD,2)] (cA HE) 27 [lW,qt] [alv] func26
def sZ(C:aH):aj (Int):=(jP C).bind λD=>some (W6 ((W6 (D*C.rows))*C.aR))
def Ef:=bS ye gq (cA sZ) 11 [lW] func41
def Ca(C:Int):aj (Bool):=(bZ C 0 4294967295).bind λD=>some D
def Tz:=bS sX dJ (cA Ca) 5 [dO] func156
def Cb(C:Int):aj (Bool):=(bZ C 0 15).bind λD=>some D
def TA:=bS sX dJ (cA Cb) 5 [dO] func144
abbrev abc:=(((aa Int)×Int×(aa Int)×Int×Int×ah)×(ah))
def Aa(x:abc):aj (abc⊕(((Bool×ah)×(ah))⊕((((aa Int)×Int×ah)×(ah))⊕Empty))):=letI C:=x.1.2.2;bif C.2.2.1<C.2.1 then xI C.1 C.2.2.1 λD=>(Cb D).bind λE=>bif (!E)then aM ((false,()),())else xG ((x.1.1,x.1.2.1,C.1,C.2.1,(W6 (C.2.2.1+1)),()),())else bF ((x.1.1,x.1.2.1,()),())
def alw:KY 21 (bw f163):=⟨0,lB 0 ⟨[(0,.lf (.aG .int 0)),(1,tI),(7,.lf (.aG .int 0)),(8,tI),(9,tI)],[],[]⟩ [(1,qm),(2,⟨[(0,.lf (.aG .int 0)),(1,tI)],[],[]⟩)] Aa,lp [TA]⟩
def vQ(C:aa Int)(E:Int):aj (Bool):=cY Aa ((C,E,C,(C.length:Int),0,()),()) (λI=>some I.1.1) λD=>some ((D.1.1.length:Int)==D.1.2.1)
def HF:=dg Hf dJ (dc vQ) 21 [] [alw] func163
abbrev abd:=((Int×Int×Int×Int×ah)×(ah))
def abe(x:abd):aj (abd⊕(((Int×ah)×(ah))⊕Empty)):=letI u4:=x.1.2.1;letI u1:=x.1.2.2;letI u3:=bits .xor .i64 u1.1 x.1.1;letI u2:=W6 (u1.2.1+1);letI C:=W6 (x.1.1*2 ^ (min (1:Int).toNat IntKind.i64.bits));bif u1.2.1<4 then if u1.2.1<0 then none else bif ((bits .and .i64 (u4.fdiv (2 ^ (min u1.2.1.toNat IntKind.i64.bits))) 1)==1)then bif C > 15 then xG (((bits .xor .i64 C 19),u4,u3,u2,()),())else xG ((C,u4,u3,u2,()),())else bif C > 15 then xG (((bits .xor .i64 C 19),u4,u1.1,u2,()),())else xG ((C,u4,u1.1,u2,()),())else aM ((u1.1,()),())
def alx:KY 34 (bw f203):=⟨0,lB 0 ⟨[(0,tI),(1,tI),(5,tI),(6,tI)],[],[]⟩ [(2,Hg)] abe,lp []⟩
def jx(C D:Int):aj (Int):=(Cb C).bind λE=>bif (!E)then some (-1)else (Cb D).bind λI=>bif (!I)then some (-1)else bR abe ((C,D,0,0,()),()) λO=>some O.1.1
def HG:=dg L5 gq (dc jx) 34 [TA] [alx] func203
abbrev abf:=((Int×Int×Int×ah)×(ah))
def abg(x:abf):aj (abf⊕(((Int×ah)×(ah))⊕Empty)):=bif x.1.2.1 > 0 then (jx x.1.2.2.1 x.1.1).bind λC=>xG ((x.1.1,(W6 (x.1.2.1-1)),C,()),())else aM ((x.1.2.2.1,()),())
def aly:KY 22 (bw f241):=⟨0,lB 0 ⟨[(0,tI),(1,tI),(5,tI)],[],[]⟩ [(2,Hg)] abg,lp [HG]⟩
def HH(C D:Int):aj (Int):=(Cb C).bind λE=>bif (!E)then some (-1)else (bZ D 0 1000).bind λI=>bif (!I)then some (-1)else bR abg ((C,D,1,()),()) λO=>some O.1.1
def abh:=dg L5 gq (dc HH) 22 [dO,TA] [aly] func241
abbrev abi:=(((aa Int)×ah×Int×Int×Int×(aa Int)×Int×Int×ah)×((aa Int)×ah))
def Cc(x:abi):aj (abi⊕((((aa Int)×ah×Int×Int×ah)×((aa Int)×ah))⊕Empty)):=letI u1:=x.1.2.2;letI C:=u1.2.2;letI u2:=C.2.2.2.1;bif u2<C.2.2.1 then xI C.2.1 u2 λD=>xL x.2.1 u1.1 λE=>(HH 2 (W6 (u2*u1.1))).bind λI=>(jx D I).bind λO=>xL x.2.1 u1.1 λT=>xG ((x.1.1,(),u1.1,u1.2.1,C.1,C.2.1,C.2.2.1,(W6 (u2+1)),()),((x.2.1.set u1.1.toNat (bits .xor .i64 E O)),()))else aM ((x.1.1,(),u1.2.1,C.1,()),(x.2.1,()))
def alz:KY 38 (yc (bw f201) 0):=⟨2,lB 2 ⟨[(0,.lf (.aG .int 0)),(3,.lf (.own 10)),(4,tI),(12,tI),(13,tI),(16,.lf (.aG .int 0)),(17,tI),(18,tI)],[(10,.sl .int 2)],[]⟩ [(4,aav)] Cc,lp [HG,abh]⟩
abbrev abj:=(((aa Int)×ah×Int×Int×ah)×((aa Int)×ah))
def Eg(x:abj):aj (abj⊕(((ah×ah)×((aa Int)×ah))⊕Empty)):=letI C:=x.1.2.2;bif C.2.1<C.1 then bR Cc ((x.1.1,(),C.2.1,C.1,C.2.1,x.1.1,(x.1.1.length:Int),0,()),(x.2.1,())) λD=>xG ((D.1.1,(),D.1.2.2.1,(W6 (D.1.2.2.2.1+1)),()),(D.2.1,()))else aM (((),()),(x.2.1,()))
def alA:KY 38 (bw f201):=⟨0,lB 0 aav [(2,⟨[(3,.lf (.own 10))],[(10,.sl .int 2)],[]⟩)] Eg,lq [] [alz]⟩
def Ab(D:aa Int):aj ((aa Int)):=letI C:=(3:Int);(vQ D 11).bind λE=>bif (!E)then some ([])else if 0 <= C/\C <= 3/\C<1073741824 then bR Eg ((D,(),((List.replicate C.toNat (0:Int)).length:Int),0,()),((List.replicate C.toNat (0:Int)),())) λI=>some I.2.1 else none
def TB:=dg zR vO (cA Ab) 38 [HF] [alA] func201
abbrev abk:=((Int×Int×ah)×(ah))
def abl(x:abk):aj (abk⊕(((Int×ah)×(ah))⊕(((ah)×(ah))⊕Empty))):=bif x.1.2.1 <= 15 then (jx x.1.1 x.1.2.1).bind λC=>bif (C==1)then aM ((x.1.2.1,()),())else xG ((x.1.1,(W6 (x.1.2.1+1)),()),())else bF ((),())
def alB:KY 13 (bw f202):=⟨0,lB 0 aaM [(1,⟨[(2,tI)],[],[]⟩),(2,lC)] abl,lp [HG]⟩
def Cd(C:Int):aj (Int):=cY abl ((C,1,()),()) (λD=>some D.1.1) λE=>some (-1)
def abm:=dg sX gq (cA Cd) 13 [] [alB] func202
def HI(E:aa Int):aj ((aa Int)):=letI u4:=(1:Int);letI u3:=(3:Int);letI u2:=(0:Int);letI u1:=(List.replicate u3.toNat u2)++E;(vQ E 8).bind λY=>bif (!Y)then some ([])else if 0 <= u3/\u3 <= 3/\u3<1073741824 then bif bV ((List.replicate u3.toNat u2).length+E.length)then (Ab u1).bind λC=>xL C u2 λI=>xL C u4 λO=>xL C u2 λZ=>xL C (2:Int) λAc=>letI u5:=bits .xor .i64 Z Ac;(Cd 4).bind λT=>(jx 2 (bits .xor .i64 I O)).bind λqq=>(jx 5 u5).bind λo6=>(jx (bits .xor .i64 qq o6) T).bind λU=>xL u1 u4 λe21=>(jx 3 u5).bind λmI=>(jx 5 (bits .xor .i64 I O)).bind λuF=>(jx (bits .xor .i64 mI uF) T).bind λAd=>letI D:=(u1.set u4.toNat U).set (2:Int).toNat Ad;xL (u1.set u4.toNat U) (2:Int) λMw=>xL C u2 λTD=>xL D u4 λe33=>xL D (2:Int) λe36=>xL D u2 λe39=>some (D.set u2.toNat (bits .xor .i64 (bits .xor .i64 TD e33) e36))else none else none
def alC:=bS zR vO (cA HI) 63 [HF,TB,abm,HG] func157
abbrev abn:=((Int×ah×Int×ah)×((aa Int)×ah))
def HJ(x:abn):aj (abn⊕(((ah×ah)×((aa Int)×ah))⊕Empty)):=letI u1:=x.1.2.2.1;letI C:=([(bits .and .i64 (x.1.1.fdiv (2 ^ (min (W6 (4*u1)).toNat IntKind.i64.bits))) 15)]:aa Int);bif u1<8 then if (W6 (4*u1))<0 then none else bif bV (x.2.1.length+C.length)then xG ((x.1.1,(),(W6 (u1+1)),()),((x.2.1++C),()))else none else aM (((),()),(x.2.1,()))
def alD:KY 22 (bw f158):=⟨0,lB 0 ⟨[(0,tI),(3,.lf (.own 8)),(4,tI)],[(8,.sl .int 2)],[]⟩ [(2,⟨[(3,.lf (.own 8))],[(8,.sl .int 2)],[]⟩)] HJ,lp []⟩
def Mx(C:Int):aj ((aa Int)):=(Ca C).bind λD=>bif (!D)then some ([])else bR HJ ((C,(),0,()),(([]:aa Int),())) λE=>some E.2.1
def alE:=dg sX vO (cA Mx) 22 [Tz] [alD] func158
def Ae(C:Int):aj ((aa Int)):=(Ca C).bind λD=>bif (!D)then some ([])else (Mx C).bind λE=>(HI E).bind λI=>some I
def abo:=bS sX vO (cA Ae) 9 [Tz,alC,alE] func79
def alF:bD:=⟨[(1,.aL 1 0),(2,.aL 2 0),(4,.aL 4 0),(5,tI)],[(1,.aB gQ),(2,.aB L2),(4,.aB [.own 90200,.own 16,.own 18]),(90100,.sl .Cell 4),(90101,.sl .int 2),(90102,.sl .int 2),(90200,.sl .Cell 4),(16,.sl .int 2),(18,.sl .int 2)],[]⟩
def alG:aa (Nat×bD):=[(2,⟨[(2,.aL 2 0),(4,.aL 4 0)],[(2,.aB L2),(4,.aB [.own 90200,.own 16,.own 18]),(90100,.sl .Cell 4),(90101,.sl .int 2),(90102,.sl .int 2),(90200,.sl .Cell 4),(16,.sl .int 2),(18,.sl .int 2)],[]⟩)]
abbrev abp:=((ah×ah×ah×Int×ah)×((Int×Int×Int×Int×ah)×(ah×ah×ah×ah)×(ah×ah×ah×ah)×(aa cB)×(aa Int)×(aa Int)×(aa cB)×(aa Int)×(aa Int)×ah))
def HK(x:abp):aj (abp⊕(((ah×ah×ah)×((ah×ah×ah×ah)×(ah×ah×ah×ah)×(aa cB)×(aa Int)×(aa Int)×(aa cB)×(aa Int)×(aa Int)×ah))⊕Empty)):=letI u1:=((),(),(),());letI C:=x.2.2.2.2.2;letI u2:=C.2.2;(sZ (⟨x.2.1.1,x.2.1.2.1,x.2.1.2.2.1,x.2.1.2.2.2.1⟩:aH)).bind λE=>bif x.1.2.2.2.1<E then (Ae 0).bind λD=>bif bV (u2.1.length+[(⟨D,false⟩:cB)].length)then xG (((),(),(),(W6 (x.1.2.2.2.1+1)),()),(x.2.1,u1,u1,x.2.2.2.2.1,C.1,C.2.1,(u2.1++[(⟨D,false⟩:cB)]),u2.2.1,u2.2.2.1,()))else none else aM (((),(),()),(u1,u1,x.2.2.2.2.1,C.1,C.2.1,u2.1,u2.2.1,u2.2.2.1,()))
def alH:KY 34 (bw f27):=⟨0,lB 0 alF alG HK,lp [Ef,abo]⟩
def My(D:aH):aj (dw):=(nA D).bind λE=>bif (!E)then some (⟨[],[],[]⟩:dw)else (jP D).bind λI=>letI C:=W6 (I*D.rows);if 0 <= C/\C <= C/\C<1073741824 then if 0 <= C/\C <= C/\C<1073741824 then bR HK (((),(),(),0,()),((D.bI,D.aE,D.rows,D.aR,()),((),(),(),()),((),(),(),()),([]:aa cB),([]:aa Int),([]:aa Int),([]:aa cB),(List.replicate C.toNat (0:Int)),(List.replicate C.toNat (0:Int)),())) λO=>letI u1:=O.2.2.2.2.2.2;some (⟨u1.1,u1.2.1,u1.2.2.1⟩:dw)else none else none
def alI:=dg ye [(true,.Array,4)] (cA My) 34 [lW,qt] [alH] func27
def vR(C:cK):aj (cK):=bif xZ C.weights then some (⟨C.eX,C.cap,C.di,C.low,C.high,(xA C.weights),C.dj⟩:cK)else none
def TE:=bS [(true,.m6)] [(true,.m6,2)] (cA vR) 9 [] func80
def Mz(C:cK):aj (mY×Bool):=(HC C).bind λD=>bif (!D)then some ((⟨⟨0,0,0,0,0,[],⟨0,0⟩⟩,⟨0,0,0,0,0,[],⟨0,0⟩⟩,false⟩:mY),false)else (vR C).bind λE=>(vR C).bind λI=>some ((⟨E,I,false⟩:mY),true)
def alJ:=bS [(true,.m6)] [(true,.sj,2),(false,.bool,0)] (cA Mz) 13 [aa8,TE] func28
def MA(C D:Int):aj (eH×Bool):=letI E:=some ((⟨[],0,false⟩:eH),false);(bZ C 1 8).bind λI=>bif (!I)then E else (bZ D 2 10000).bind λO=>bif (!O)then E else if 0 <= C/\C <= C/\C<1073741824 then some ((⟨(List.replicate C.toNat (0:Int)),D,false⟩:eH),true)else none
def alK:=bS L5 [(true,.m0,2),(false,.bool,0)] (dc MA) 19 [dO] func30
def TF(C:Int):aj (tO×Bool):=(bZ C 1 100000).bind λD=>bif (!D)then some ((⟨0,0,0⟩:tO),false)else some ((⟨0,C,C⟩:tO),true)
def alL:=bS sX [(true,.vf,0),(false,.bool,0)] (cA TF) 11 [dO] func33
def Eh(C:Int):aj (cX×Bool):=(bZ C 1 16).bind λD=>bif (!D)then some ((⟨[],[],0⟩:cX),false)else (B2 ([(-1)]:aa Int) C).bind λE=>if 0 <= C/\C <= C/\C<1073741824 then some ((⟨E,(List.replicate C.toNat (0:Int)),0⟩:cX),true)else none
def abq:=bS sX [(true,.mZ,2),(false,.bool,0)] (cA Eh) 14 [dO,⟨82,.p aai,ak1⟩] func34
def alM:bD:=⟨[(2,.aL 2 0),(3,.aL 3 0),(4,.aL 4 0),(6,.aL 6 0),(7,.aL 7 0),(8,tI)],[(2,.st .Config),(3,.aB B3),(6,.aB gQ)],aas⟩
def alN:aa (Nat×bD):=[(2,⟨[(4,.aL 4 0),(7,.aL 7 0)],[],aas⟩)]
abbrev abr:=((ah×ah×ah×ah×ah×Int×ah)×(av×av×fo×(Int×Int×Int×Int×Int×(aa Int)×Int×Int×ah)×(Int×Int×Int×Int×ah)×ah))
def Ei(x:abr):aj (abr⊕(((ah×ah×ah)×(av×av×ah))⊕Empty)):=letI u1:=x.2.2.2.2;letI u2:=([u1.1.2.2.1]:aa Int);letI C:=x.2.2.1;(jP (⟨u1.2.1.1,u1.2.1.2.1,u1.2.1.2.2.1,u1.2.1.2.2.2.1⟩:aH)).bind λE=>bif x.1.2.2.2.2.2.1<E then (Eh x.2.2.2.1.ij).bind λD=>bif bV (C.bB.length+[D.1].length)then bif bV (C.guard.length+u2.length)then xG (((),(),(),(),(),(W6 (x.1.2.2.2.2.2.1+1)),()),(x.2.1,{C with bB:=(C.bB++[D.1]),guard:=(C.guard++u2)},x.2.2.2.1,u1.1,u1.2.1,()))else none else none else aM (((),(),()),(x.2.1,C,()))
def alO:KY 92 (bw f8):=⟨0,lB 0 alM alN Ei,lp [lW,abq]⟩
def MB(C:fo)(D:cK):aj (av×Bool):=(sY C D).bind λE=>bif (!E)then some ((⟨⟨⟨0,0,0,0⟩,⟨0,0,0,0,0,0,0,0,0,0,0,0,0,0,0,0,0⟩,⟨0,false⟩,0,0,0,⟨0,0⟩⟩,⟨⟨0,0,0,0,0,[],⟨0,0⟩⟩,⟨0,0,0,0,0,[],⟨0,0⟩⟩,false⟩,0,⟨[],0⟩,⟨[],[]⟩,⟨[],[],[]⟩,⟨0,[]⟩,⟨[],0,false⟩,[],[],[],[],[],⟨false,0,0⟩,⟨0,0,0⟩,⟨0,0,0⟩,[],[],[]⟩:av),false)else (Ee C.ak).bind λI=>(HE C.ak).bind λO=>(My C.ak).bind λT=>(Mz D).bind λU=>(Eb C.ak C.cF).bind λY=>(jP C.ak).bind λZ=>(MA Z C.interval).bind λy8=>(yf D.weights).bind λy9=>(TF 10).bind λrN=>bR Ei (((),(),(),(),(),0,()),((⟨⟨⟨0,0,0,0⟩,⟨0,0,0,0,0,0,0,0,0,0,0,0,0,0,0,0,0⟩,⟨0,false⟩,0,0,0,⟨0,0⟩⟩,⟨⟨0,0,0,0,0,([]:aa Int),⟨0,0⟩⟩,⟨0,0,0,0,0,([]:aa Int),⟨0,0⟩⟩,false⟩,0,⟨([]:aa ep),0⟩,⟨([]:aa Int),([]:aa Int)⟩,⟨([]:aa cB),([]:aa Int),([]:aa Int)⟩,⟨0,([]:aa Int)⟩,⟨([]:aa Int),0,false⟩,([]:aa cX),([]:aa Int),([]:aa aQ),([]:aa aX),([]:aa dD),⟨false,0,0⟩,⟨0,0,0⟩,⟨0,0,0⟩,([]:aa cP),([]:aa bO),([]:aa gj)⟩:av),(⟨C,U.1,0,I,O,T,Y.1,y8.1,([]:aa cX),([]:aa Int),([]:aa aQ),([]:aa aX),y9.1,⟨false,D.low,D.high⟩,⟨0,0,0⟩,rN.1,([]:aa cP),([]:aa bO),([]:aa gj)⟩:av),C,(D.eX,D.cap,D.di,D.low,D.high,D.weights,D.dj.down,D.dj.sleep,()),(C.ak.bI,C.ak.aE,C.ak.rows,C.ak.aR,()),())) λo7=>some (o7.2.2.1,true)
def alP:=dg [(true,.Config),(true,.m6)] Th (dc MB) 92 [aa9,Ty,abb,alI,alJ,Tv,alK,lW,Tx,alL] [alO] func8
abbrev abt:=((Int×ah×ah×ah×Int×ah)×((Int×Int×Int×Int×ah)×(Int×ah×ah)×(Int×ah×ah)×(aa Int)×(aa Int)×ah))
def HL(x:abt):aj (abt⊕(((ah×ah×ah)×((Int×ah×ah)×(Int×ah×ah)×(aa Int)×(aa Int)×ah))⊕Empty)):=letI u2:=x.2.2.2;letI u1:=x.1.2.2.2.2.1;letI C:=W6 (x.2.1.2.2.1-x.1.1);letI u3:=([(u1.tmod C)]:aa Int);(zX (⟨x.2.1.1,x.2.1.2.1,x.2.1.2.2.1,x.2.1.2.2.2.1⟩:aH)).bind λD=>bif u1<(W6 (D*C))then if C=0 then none else bif bV (u2.2.2.1.length+u3.length)then xG ((x.1.1,(),(),(),(W6 (u1+1)),()),(x.2.1,x.2.2.1,u2.1,u2.2.1,(u2.2.2.1++u3),()))else none else aM (((),(),()),(x.2.2.1,u2.1,u2.2.1,u2.2.2.1,()))
def alQ:KY 49 (bw f57):=⟨0,lB 0 S9 [(2,aat)] HL,lp [Hp]⟩
def MC(C:aH)(D:Int):aj (dL×Bool):=letI E:=some ((⟨0,[]⟩:dL),false);(D8 C).bind λO=>bif (!O)then E else (zW D 0 2).bind λT=>bif (!T)then E else bif (W6 (C.rows-D))<2 then E else bR HL ((D,(),(),(),0,()),((C.bI,C.aE,C.rows,C.aR,()),(0,(),()),(D,(),()),([]:aa Int),([]:aa Int),())) λI=>some ((⟨I.2.2.1.1,I.2.2.2.2.1⟩:dL),true)
def alR:=dg L4 [(true,.sg,2),(false,.bool,0)] (dc MC) 49 [Ts,Tp] [alQ] func57
abbrev abu:=(((aa Int)×Int×Int×ah)×(ah))
def HM(x:abu):aj (abu⊕(((Bool×ah)×(ah))⊕(((ah)×(ah))⊕Empty))):=bif x.1.2.2.1<(x.1.1.length:Int)then xI x.1.1 x.1.2.2.1 λC=>bif (C==x.1.2.1)then aM ((true,()),())else xG ((x.1.1,x.1.2.1,(W6 (x.1.2.2.1+1)),()),())else bF ((),())
def alS:KY 18 (bw f83):=⟨0,lB 0 ⟨[(0,.lf (.aG .int 0)),(1,tI),(5,tI)],[],[]⟩ [(1,qm),(2,lC)] HM,lp []⟩
def MD(C:aa Int)(D:Int):aj (Bool):=cY HM ((C,D,0,()),()) (λE=>some E.1.1) λI=>some false
def alT:=dg Hf dJ (dc MD) 18 [] [alS] func83
abbrev abv:=((ah×ah×Int×Int×ah)×((Int×Int×Int×Int×ah)×(Int×(aa Int)×ah)×ah))
def HN(x:abv):aj (abv⊕(((Bool×ah)×(ah))⊕(((ah)×(ah))⊕Empty))):=letI u3:=x.2.2.1.2.1;letI C:=x.1.2.2;letI u4:=C.2.1;letI u2:=xG (((),(),C.1,(W6 (u4+1)),()),(x.2.1,x.2.2.1,()));letI u1:=W6 ((W6 (u4.tdiv C.1))*C.1);bif u4<(u3.length:Int)then xI u3 u4 λD=>if C.1=0 then none else bif (D==(u4.tmod C.1))then u2 else xI u3 u4 λE=>(zW E C.1 (W6 (x.2.1.2.2.1-1))).bind λI=>bif (!I)then aM ((false,()),())else if C.1=0 then none else if 0 <= u1/\u1 <= u4/\u4 <= (u3.length:Int)then xI u3 u4 λO=>(MD ((u3.take u4.toNat).drop u1.toNat) O).bind λT=>bif T then aM ((false,()),())else u2 else none else bF ((),())
def alU:KY 77 (bw f37):=⟨0,lB 0 Tf [(1,qm),(2,lC)] HN,lp [Tp,alT]⟩
def ME(C:aH)(D:dL):aj (Bool):=letI E:=W6 (C.rows-D.cF);(MC C D.cF).bind λI=>bif (!I.2)then some false else (zX C).bind λO=>bif ((D.map.length:Int) != (W6 (O*E)))then some false else cY HN (((),(),E,0,()),((C.bI,C.aE,C.rows,C.aR,()),(D.cF,D.map,()),())) (λT=>some T.1.1) λU=>some true
def alV:=dg L6 dJ (dc ME) 77 [Hp,alR] [alU] func37
def MF(C:aH)(D:dL):aj (aH):=(ME C D).bind λE=>bif (!E)then some (⟨0,0,0,0⟩:aH)else some (⟨C.bI,C.aE,(W6 (C.rows-D.cF)),C.aR⟩:aH)
def alW:=bS L6 [(true,.fO,0)] (dc MF) 17 [alV] func10
def HO(C:mY):aj (mY):=(vR C.bX).bind λD=>(vR C.next).bind λE=>some (⟨D,E,C.waits⟩:mY)
def abw:=bS [(true,.sj)] [(true,.sj,2)] (cA HO) 12 [TE] func84
def Ej(C:bM):aj (bM):=bif xZ C.aE then some (⟨(xA C.aE),C.aN⟩:bM)else none
def abx:=bS [(true,.kU)] [(true,.kU,2)] (cA Ej) 9 [] func85
def El(C:dR):aj (dR):=bif xZ C.last then bif xZ C.bf then some (⟨(xA C.last),(xA C.bf)⟩:dR)else none else none
def aby:=bS [(true,.oD)] [(true,.oD,2)] (cA El) 12 [] func86
def MG(C:cB):aj (cB):=bif xZ C.symbols then some (⟨(xA C.symbols),C.pU⟩:cB)else none
def alX:=bS [(true,.Cell)] [(true,.Cell,2)] (cA MG) 9 [] func160
def alY:bD:=⟨[(2,.aL 2 0),(3,.aL 3 0),(16,.lf (.aG .Cell 0)),(17,tI),(18,tI)],aaj,[]⟩
def alZ:aa (Nat×bD):=[(2,⟨[(2,.aL 2 0),(3,.aL 3 0)],aaj,[]⟩)]
abbrev abz:=((ah×ah×(aa cB)×Int×Int×ah)×((ah×ah×ah×ah)×(ah×ah×ah×ah)×(aa cB)×(aa Int)×(aa Int)×(aa cB)×(aa Int)×(aa Int)×ah))
def HP(x:abz):aj (abz⊕(((ah×ah×ah)×((ah×ah×ah×ah)×(ah×ah×ah×ah)×(aa cB)×(aa Int)×(aa Int)×(aa cB)×(aa Int)×(aa Int)×ah))⊕Empty)):=letI u3:=x.2.2.2;letI u2:=x.1.2.2;letI u1:=((),(),(),());letI C:=u3.2.2;bif u2.2.2.1<u2.2.1 then xI u2.1 u2.2.2.1 λE=>(MG E).bind λD=>bif bV (C.2.1.length+[D].length)then xG (((),(),u2.1,u2.2.1,(W6 (u2.2.2.1+1)),()),(u1,u1,u3.1,u3.2.1,C.1,(C.2.1++[D]),C.2.2.1,C.2.2.2.1,()))else none else aM (((),(),()),(u1,u1,u3.1,u3.2.1,C.1,C.2.1,C.2.2.1,C.2.2.2.1,()))
def al0:KY 31 (bw f87):=⟨0,lB 0 alY alZ HP,lp [alX]⟩
def Em(C:dw):aj (dw):=bif xZ C.bu then bif xZ C.bg then bR HP (((),(),C.cells,(C.cells.length:Int),0,()),(((),(),(),()),((),(),(),()),([]:aa cB),([]:aa Int),([]:aa Int),([]:aa cB),(xA C.bu),(xA C.bg),())) λE=>letI D:=E.2.2.2.2.2.2;some (⟨D.1,D.2.1,D.2.2.1⟩:dw)else none else none
def abA:=dg [(true,.Array)] [(true,.Array,4)] (cA Em) 31 [] [al0] func87
def abC(C:aa Int):aj ((aa Int)):=bif jH C then none else bif bV (([]:aa Int).length+C.length)then some (([]:aa Int)++C)else none
def MH(C:aa Int):aj ((aa Int)):=bif jH C then some []else abC C
def abD:jn:=iu [(false,(.sl .int))] [(false,(.sl .int),2)] (λx=>MH x.1)
def al1:enters Tryz.prog 88/\iO Tryz.prog 88 abD:=BZ 8 [] [] func88 trivial rM (t:=.int) (g:=2) (F:=abC) λx=>by kernel_rfl
def Ce(C:eH):aj (eH):=bif xZ C.aC then some (⟨(xA C.aC),C.wait,C.dY⟩:eH)else none
def TG:=bS [(true,.m0)] [(true,.m0,2)] (cA Ce) 9 [] func89
def En(C:cX):aj (cX):=bif xZ C.rows then bif xZ C.counts then some (⟨(xA C.rows),(xA C.counts),C.fj⟩:cX)else none else none
def abE:=bS [(true,.mZ)] [(true,.mZ,2)] (cA En) 14 [] func90
def abF(C:aa aQ):aj ((aa aQ)):=bif jH C then none else bif bV (([]:aa aQ).length+C.length)then some (([]:aa aQ)++C)else none
def TH(C:aa aQ):aj ((aa aQ)):=bif jH C then some []else abF C
def abG:jn:=iu [(false,(.sl .Addr))] [(false,(.sl .Addr),2)] (λx=>TH x.1)
def al2:enters Tryz.prog 91/\iO Tryz.prog 91 abG:=BZ 8 [] [] func91 trivial rM (t:=.Addr) (g:=2) (F:=abF) λx=>by kernel_rfl
def abH(C:aa aX):aj ((aa aX)):=bif jH C then none else bif bV (([]:aa aX).length+C.length)then some (([]:aa aX)++C)else none
def TI(C:aa aX):aj ((aa aX)):=bif jH C then some []else abH C
def abI:jn:=iu [(false,(.sl .eK))] [(false,(.sl .eK),2)] (λx=>TI x.1)
def al3:enters Tryz.prog 92/\iO Tryz.prog 92 abI:=BZ 8 [] [] func92 trivial rM (t:=.eK) (g:=2) (F:=abH) λx=>by kernel_rfl
def abJ(C:aa dD):aj ((aa dD)):=bif jH C then none else bif bV (([]:aa dD).length+C.length)then some (([]:aa dD)++C)else none
def TJ(C:aa dD):aj ((aa dD)):=bif jH C then some []else abJ C
def abK:jn:=iu [(false,(.sl .iM))] [(false,(.sl .iM),2)] (λx=>TJ x.1)
def al4:enters Tryz.prog 93/\iO Tryz.prog 93 abK:=BZ 8 [] [] func93 trivial rM (t:=.iM) (g:=2) (F:=abJ) λx=>by kernel_rfl
def abL(C:aa cP):aj ((aa cP)):=bif jH C then none else bif bV (([]:aa cP).length+C.length)then some (([]:aa cP)++C)else none
def TK(C:aa cP):aj ((aa cP)):=bif jH C then some []else abL C
def abM:jn:=iu [(false,(.sl .iV))] [(false,(.sl .iV),2)] (λx=>TK x.1)
def al5:enters Tryz.prog 94/\iO Tryz.prog 94 abM:=BZ 8 [] [] func94 trivial rM (t:=.iV) (g:=2) (F:=abL) λx=>by kernel_rfl
def abN(C:aa bO):aj ((aa bO)):=bif jH C then none else bif bV (([]:aa bO).length+C.length)then some (([]:aa bO)++C)else none
def TL(C:aa bO):aj ((aa bO)):=bif jH C then some []else abN C
def abO:jn:=iu [(false,(.sl .Event))] [(false,(.sl .Event),2)] (λx=>TL x.1)
def al6:enters Tryz.prog 95/\iO Tryz.prog 95 abO:=BZ 8 [] [] func95 trivial rM (t:=.Event) (g:=2) (F:=abN) λx=>by kernel_rfl
def abP(C:aa gj):aj ((aa gj)):=bif jH C then none else bif bV (([]:aa gj).length+C.length)then some (([]:aa gj)++C)else none
def TM(C:aa gj):aj ((aa gj)):=bif jH C then some []else abP C
def abQ:jn:=iu [(false,(.sl .nN))] [(false,(.sl .nN),2)] (λx=>TM x.1)
def al7:enters Tryz.prog 96/\iO Tryz.prog 96 abQ:=BZ 8 [] [] func96 trivial rM (t:=.nN) (g:=2) (F:=abP) λx=>by kernel_rfl
def al8:bD:=⟨[(1,.aL 1 0),(2,.aL 2 0),(3,.aL 3 0),(36,.lf (.aG .mZ 0)),(37,tI),(38,tI)],zz1,aao⟩
def al9:aa (Nat×bD):=[(2,⟨[(1,.aL 1 0),(2,.aL 2 0),(3,.aL 3 0)],zz1,aao⟩)]
abbrev abR:=((ah×ah×ah×(aa cX)×Int×Int×ah)×(av×av×(Int×Int×Int×Int×Int×Int×Int×Int×Int×Int×Int×Int×Int×Int×Int×Int×Int×Int×Int×Int×Int×Int×Bool×Int×Int×Int×Int×Int×Int×Int×Int×Int×Int×ah×Int×Int×Int×Int×Int×Int×Int×ah×Int×Int×Bool×Int×ah×Int×ah×ah×ah×ah×ah×Int×ah×ah×Int×Bool×ah×(aa Int)×(aa aQ)×(aa aX)×(aa dD)×Bool×Int×Int×Int×Int×Int×Int×Int×Int×(aa cP)×(aa bO)×(aa gj)×ah)×(aa Int)×(aa Int)×(aa ep)×(aa Int)×(aa Int)×(aa cB)×(aa Int)×(aa Int)×(aa Int)×(aa Int)×(aa cX)×ah))
def Eo(x:abR):aj (abR⊕(((ah×ah×ah×ah)×(av×av×(Int×Int×Int×Int×Int×Int×Int×Int×Int×Int×Int×Int×Int×Int×Int×Int×Int×Int×Int×Int×Int×Int×Bool×Int×Int×Int×Int×Int×Int×Int×Int×Int×Int×ah×Int×Int×Int×Int×Int×Int×Int×ah×Int×Int×Bool×Int×ah×Int×ah×ah×ah×ah×ah×Int×ah×ah×Int×Bool×ah×(aa Int)×(aa aQ)×(aa aX)×(aa dD)×Bool×Int×Int×Int×Int×Int×Int×Int×Int×(aa cP)×(aa bO)×(aa gj)×ah)×(aa Int)×(aa Int)×(aa ep)×(aa Int)×(aa Int)×(aa cB)×(aa Int)×(aa Int)×(aa Int)×(aa Int)×(aa cX)×ah))⊕Empty)):=letI u3:=x.1.2.2.2;letI u1:=x.2.2.2.2;letI C:=u1.2.2.2.2;letI u2:=C.2.2.2;bif u3.2.2.1<u3.2.1 then xI u3.1 u3.2.2.1 λE=>(En E).bind λD=>bif bV (u2.2.2.2.1.length+[D].length)then xG (((),(),(),u3.1,u3.2.1,(W6 (u3.2.2.1+1)),()),(x.2.1,x.2.2.1,x.2.2.2.1,u1.1,u1.2.1,u1.2.2.1,u1.2.2.2.1,C.1,C.2.1,C.2.2.1,u2.1,u2.2.1,u2.2.2.1,(u2.2.2.2.1++[D]),()))else none else aM (((),(),(),()),(x.2.1,x.2.2.1,x.2.2.2.1,u1.1,u1.2.1,u1.2.2.1,u1.2.2.2.1,C.1,C.2.1,C.2.2.1,u2.1,u2.2.1,u2.2.2.1,u2.2.2.2.1,()))
def ama:KY 79 (bw f38):=⟨0,lB 0 al8 al9 Eo,lp [abE]⟩
def Cf(C:av):aj (av):=(HO C.box).bind λD=>(Ej C.aF).bind λy2=>(El C.ready).bind λy3=>(Em C.array).bind λy4=>(MH C.spare.map).bind λy5=>(Ce C.az).bind λy6=>bR Eo (((),(),(),C.bB,(C.bB.length:Int),0,()),((⟨⟨⟨0,0,0,0⟩,⟨0,0,0,0,0,0,0,0,0,0,0,0,0,0,0,0,0⟩,⟨0,false⟩,0,0,0,⟨0,0⟩⟩,⟨⟨0,0,0,0,0,([]:aa Int),⟨0,0⟩⟩,⟨0,0,0,0,0,([]:aa Int),⟨0,0⟩⟩,false⟩,0,⟨([]:aa ep),0⟩,⟨([]:aa Int),([]:aa Int)⟩,⟨([]:aa cB),([]:aa Int),([]:aa Int)⟩,⟨0,([]:aa Int)⟩,⟨([]:aa Int),0,false⟩,([]:aa cX),([]:aa Int),([]:aa aQ),([]:aa aX),([]:aa dD),⟨false,0,0⟩,⟨0,0,0⟩,⟨0,0,0⟩,([]:aa cP),([]:aa bO),([]:aa gj)⟩:av),C,(C.config.ak.bI,C.config.ak.aE,C.config.ak.rows,C.config.ak.aR,C.config.bQ.qR,C.config.bQ.rp,C.config.bQ.jY,C.config.bQ.r5,C.config.bQ.oC,C.config.bQ.jZ,C.config.bQ.r6,C.config.bQ.r7,C.config.bQ.mW,C.config.bQ.wr,C.config.bQ.r8,C.config.bQ.r9,C.config.bQ.vc,C.config.bQ.tM,C.config.bQ.tN,C.config.bQ.xp,C.config.bQ.xs,C.config.mapping.order,C.config.mapping.hash,C.config.cF,C.config.interval,C.config.ij,C.config.dS.bu,C.config.dS.bg,D.bX.eX,D.bX.cap,D.bX.di,D.bX.low,D.bX.high,(),D.bX.dj.down,D.bX.dj.sleep,D.next.eX,D.next.cap,D.next.di,D.next.low,D.next.high,(),D.next.dj.down,D.next.dj.sleep,D.waits,C.now,(),y2.aN,(),(),(),(),(),C.spare.cF,(),(),y6.wait,y6.dY,(),C.guard,C.pending,C.queue,C.shares,C.drain.on,C.drain.low,C.drain.high,C.aN.state,C.aN.since,C.aN.idle,C.eA.next,C.eA.every,C.eA.wait,C.errors,C.trace,C.bA,()),D.bX.weights,D.next.weights,y2.aE,y3.last,y3.bf,y4.cells,y4.bu,y4.bg,y5,y6.aC,([]:aa cX),())) λn9=>letI E:=n9.2.2.1;letI u4:=n9.2.2.2;letI u16:=u4.1.2.2;letI Y:=u4.2.2.2.2.2;letI Z:=Y.2.2.2;letI u7:=u16.2.2.2;letI MI:=u7.2.2.2;letI u2:=MI.2.2.2;letI I:=u2.2.2.2;letI u5:=I.2.2.2.2;letI O:=u5.2.2.2.2;letI T:=O.2.2.2.2;letI s7:=T.2.2.2.2;letI TN:=s7.2.2.2.2;letI u3:=TN.2.2;letI u8:=u3.2.2.2.2.2.2;letI u15:=u8.2.2.2.2.2.2.2.2.2.2.2;letI u1:=u15.2.2.2;letI u6:=u1.2.2.2.2.2.2.2;letI U:=u6.2.2.2.2;(MH E.guard).bind λoZ=>(TH E.pending).bind λzY=>(TI E.queue).bind λmH=>(TJ E.shares).bind λn8=>(TK E.errors).bind λo8=>(TL E.trace).bind λqq=>(TM E.bA).bind λo6=>some (⟨⟨⟨u4.1.1,u4.1.2.1,u16.1,u16.2.1⟩,⟨u16.2.2.1,u7.1,u7.2.1,u7.2.2.1,MI.1,MI.2.1,MI.2.2.1,u2.1,u2.2.1,u2.2.2.1,I.1,I.2.1,I.2.2.1,I.2.2.2.1,u5.1,u5.2.1,u5.2.2.1⟩,⟨u5.2.2.2.1,O.1⟩,O.2.1,O.2.2.1,O.2.2.2.1,⟨T.1,T.2.1⟩⟩,⟨⟨T.2.2.1,T.2.2.2.1,s7.1,s7.2.1,s7.2.2.1,u4.2.1,⟨TN.1,TN.2.1⟩⟩,⟨u3.1,u3.2.1,u3.2.2.1,u3.2.2.2.1,u3.2.2.2.2.1,u4.2.2.1,⟨u8.1,u8.2.1⟩⟩,u8.2.2.1⟩,u8.2.2.2.1,⟨u4.2.2.2.1,u8.2.2.2.2.2.1⟩,⟨u4.2.2.2.2.1,Y.1⟩,⟨Y.2.1,Y.2.2.1,Z.1⟩,⟨u15.1,Z.2.1⟩,⟨Z.2.2.1,u1.1,u1.2.1⟩,Z.2.2.2.1,oZ,zY,mH,n8,⟨u6.1,u6.2.1,u6.2.2.1⟩,⟨u6.2.2.2.1,U.1,U.2.1⟩,⟨U.2.2.1,U.2.2.2.1,U.2.2.2.2.1⟩,o8,qq,o6⟩:av)
def MJ:=dg vP [(true,.eC,4)] (cA Cf) 79 [abw,abx,aby,abA,⟨88,.p abD,al1⟩,TG,⟨91,.p abG,al2⟩,⟨92,.p abI,al3⟩,⟨93,.p abK,al4⟩,⟨94,.p abM,al5⟩,⟨95,.p abO,al6⟩,⟨96,.p abQ,al7⟩] [ama] func38
def Ep(I:aH)(C:dL)(D:Int):aj (Nat×Nat):=letI E:=W6 (I.rows-C.cF);letI u2:=W6 (D*E);letI u1:=W6 ((W6 (D+1))*E);if 0 <= u2/\u2 <= u1/\u1 <= (C.map.length:Int)then some (u2.toNat,u1.toNat)else none
def TO:Bz:=SR [(true,.fO),(true,.sg),(false,.int)] 1 1 .int (λx=>Ep x.1 x.2.1 x.2.2.1)
def abS:enters Tryz.prog 164/\K7 Tryz.prog 164 TO:=akw (N:=23) (fn:=f164) (code:=bw f164) (Φ:=(lV [])) (Λ:=(jO [])) (t:=.int) func164 (by kernel_rfl) (by kernel_rfl) (by kernel_rfl) (by kernel_rfl) (by kernel_rfl) (by kernel_rfl) (by kernel_rfl) (by kernel_rfl) (uC _ trivial) rM (λx=>by kernel_rfl)
end Go.Proofs.YtpigmalhjkekiaaGreat
