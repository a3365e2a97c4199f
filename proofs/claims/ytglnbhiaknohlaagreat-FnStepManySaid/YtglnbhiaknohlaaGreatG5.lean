/-
  Functions of the program as plain functions of contents, and that the code computes them. Nothing here is a claim.
-/
import Derived.Test.YtglnbhiaknohlaaGreatVZ
import Derived.Test.YtglnbhiaknohlaaGreatRows
import Derived.Test.YtglnbhiaknohlaaGreatG1
import Derived.Test.YtglnbhiaknohlaaGreatG2
import Derived.Test.YtglnbhiaknohlaaGreatG3
import Derived.Test.YtglnbhiaknohlaaGreatG4
namespace Go.Proofs.YtglnbhiaknohlaaGreat
set_option linter.defProp false
open Go.RowKit Go.Proofs.Tryz
set_option linter.unusedVariables false
set_option maxRecDepth 100000
def Yb(C:bN):ah ((av)×(bN×af)):=(OT C).bind λD=>(Ke (⟨C.b,D.2.1.i,D.2.1.h⟩:bN)).bind λE=>(Qp (⟨C.b,E.2.1.i,E.2.1.h⟩:bN) D.1 12).bind λI=>(Qg D.1 E.1 I.1).bind λJ=>some (J.1,((⟨C.b,I.2.1.i,I.2.1.h⟩:bN),()))
def at7:=jE zM [(true,.cO,4)] (bR Yb) 19 [aqN,atW,agt,at6] func24
abbrev agv:=((af×Int×Int×af)×((aa Int)×af))
def Kh(x:agv):ah (agv⊕(((af×Int×af)×((aa Int)×af))⊕Empty)):=letI C:=x.1.2.2.1;letI D:=ay (((),x.1.2.1,()),(x.2.1,()));bif C<(x.2.1.length:Int)then bif C<4000 then xI x.2.1 C λE=>xG (((),(bits .and .i64 (W6 ((W6 ((W6 (x.1.2.1*131))+(W6 E)))+7)) 1073741823),(W6 (C+1)),()),(x.2.1,()))else D else D
def agw:KY 32 (aZ f25):=⟨0,lB 0 ⟨[(0,.lf (.own 20000)),(3,tI),(4,tI)],[(20000,.sl .u8 0)],[]⟩ [(2,⟨[(0,.lf (.own 20000)),(3,tI)],[(20000,.sl .u8 0)],[]⟩)] Kh,lp []⟩
def Cq(C:aa Int):ah Int:=bu Kh (((),(W6 (97301+(C.length:Int))),0,()),(C,())) λD=>some D.1.2.1
def agx:enters Tryz.prog 25/\NK Tryz.prog 25 Cq:=aqa (N:=32) (fn:=f25) (code:=aZ f25) (Φ:=(mj [])) (Λ:=(jD [(0,agw.b)])) func25 (by kernel_rfl) (by kernel_rfl) (by kernel_rfl) (by kernel_rfl) (by kernel_rfl) (tS _ trivial) (Xb (by kernel_rfl) _ ⟨⟨_,by kernel_rfl,agw.ok⟩,trivial⟩) (λl=>by kernel_rfl)
def Qq(C:aa Int):ah (av):=(Cq C).bind λD=>(Yb (⟨C,0,D⟩:bN)).bind λE=>some E.1
def at8:=bw [(false,(.sl .u8))] [(true,.cO,4)] (bR Qq) 6 [at7,⟨25,.n Cq,agx⟩] func8
abbrev agy:=((af×af×Int×af)×(((aa Int)×Int×Int×af)×(aa Int)×af))
def Ki(x:agy):ah (agy⊕(((af×af)×((aa Int)×af))⊕Empty)):=bif x.1.2.2.1<12 then (eU (⟨x.2.1.1,x.2.1.2.1,x.2.1.2.2.1⟩:bN) 10000).bind λC=>bif bC (x.2.2.1.length+([C.1]:aa Int).length)then xG (((),(),(W6 (x.1.2.2.1+1)),()),((x.2.1.1,C.2.1.i,C.2.1.h,()),(x.2.2.1++([C.1]:aa Int)),()))else none else ay (((),()),(x.2.2.1,()))
def at9:KY 19 (aZ f9):=⟨0,lB 0 ⟨[(3,.aG 1000000000107000 0),(4,.lf (.own 8)),(5,tI)],[(1000000000107000,.aB [.aD .u8 0,.int .i64,.int .i64]),(8,.sl .int 2)],[]⟩ [(2,⟨[(4,.lf (.own 8))],[(8,.sl .int 2)],[]⟩)] Ki,lp [rM]⟩
def Qr(C:aa Int):ah ((aa Int)):=(Cq C).bind λD=>bu Ki (((),(),0,()),((C,0,D,()),([]:aa Int),())) λE=>some E.2.1
def aua:=cg [(false,(.sl .u8))] mm (bR Qr) 19 [⟨25,.n Cq,agx⟩] [at9] func9
def cE(C D E:Int):ah (Bool):=bif C >= D then some (C <= E)else some false
def ew:=bw [(false,.int),(false,.int),(false,.int)] cm (fz cE) 15 [] func37
def sH(C:aM):ah (Bool):=(cE C.cu 1 2).bind λD=>bif D then (cE C.aC 1 4).bind λE=>bif E then (cE C.rows 2 16).bind λI=>bif I then (cE C.aN 1 8).bind λJ=>some J else some false else some false else some false
def xm:=bw w6 cm (bR sH) 21 [ew] func118
def oG(C:aM):ah (Int):=(sH C).bind λD=>bif (!D)then some 0 else some (W6 (C.cu*C.aC))
def rN:=bw w6 dN (bR oG) 11 [xm] func113
def vm(C:aM):ah (Int):=(oG C).bind λD=>some (W6 ((W6 (D*C.rows))*C.aN))
def Qs:=bw w6 dN (bR vm) 11 [rN] func32
abbrev agz:=((Int×af×af×af×Int×Int×af)×((Int×Int×Int×Int×af)×(Int×af×af)×(Int×af×af)×(aa Int)×(aa Int)×af))
def E2(x:agz):ah (agz⊕(((Int×af×af×af×Int×af)×((Int×Int×Int×Int×af)×(Int×af×af)×(Int×af×af)×(aa Int)×(aa Int)×af))⊕Empty)):=letI C:=x.2.2.2;letI D:=x.1.2.2.2.2;bif D.2.1<(W6 (x.2.1.2.2.1-x.1.1))then bif bC (C.2.2.1.length+([D.2.1]:aa Int).length)then xG ((x.1.1,(),(),(),D.1,(W6 (D.2.1+1)),()),(x.2.1,x.2.2.1,C.1,C.2.1,(C.2.2.1++([D.2.1]:aa Int)),()))else none else ay ((x.1.1,(),(),(),D.1,()),(x.2.1,x.2.2.1,C.1,C.2.1,C.2.2.1,()))
def aub:KY 48 (rK (aZ f120) 0):=⟨2,lB 2 ⟨[(1,tI),(2,.aG 2 0),(4,.aG 4 0),(6,.aG 6 0),(7,tI),(8,tI)],adH,[]⟩ [(4,Xh)] E2,lp []⟩
abbrev agA:=((Int×af×af×af×Int×af)×((Int×Int×Int×Int×af)×(Int×af×af)×(Int×af×af)×(aa Int)×(aa Int)×af))
def Kj(x:agA):ah (agA⊕(((af×af×af)×((Int×af×af)×(Int×af×af)×(aa Int)×(aa Int)×af))⊕Empty)):=letI D:=x.2.2.2;(oG (⟨x.2.1.1,x.2.1.2.1,x.2.1.2.2.1,x.2.1.2.2.2.1⟩:aM)).bind λE=>bif x.1.2.2.2.2.1<E then bu E2 ((x.1.1,(),(),(),x.1.2.2.2.2.1,0,()),(x.2.1,x.2.2.1,D.1,D.2.1,D.2.2.1,())) λC=>xG ((C.1.1,(),(),(),(W6 (C.1.2.2.2.2.1+1)),()),(C.2.1,C.2.2.1,C.2.2.2.1,C.2.2.2.2.1,C.2.2.2.2.2.1,()))else ay (((),(),()),(x.2.2.1,D.1,D.2.1,D.2.2.1,()))
def auc:KY 48 (aZ f120):=⟨0,lB 0 Xh [(2,adN)] Kj,lq [rN] [aub]⟩
def Kk(C:aM)(D:Int):ah (dH×Bool):=letI E:=some ((⟨0,[]⟩:dH),false);(sH C).bind λJ=>bif (!J)then E else (cE D 0 2).bind λL=>bif (!L)then E else bif (W6 (C.rows-D))<2 then E else bu Kj ((D,(),(),(),0,()),((C.cu,C.aC,C.rows,C.aN,()),(0,(),()),(D,(),()),([]:aa Int),([]:aa Int),())) λI=>some ((⟨I.2.2.1.1,I.2.2.2.2.1⟩:dH),true)
def agB:=cg IB [(true,.oc,2),(false,.bool,0)] (bS Kk) 48 [ew,xm] [auc] func120
def E3(L:aM)(E:dH)(I:Int):ah (Nat×Nat):=letI J:=W6 (L.rows-E.bP);letI C:=W6 (I*J);letI D:=W6 ((W6 (I+1))*J);if 0 <= C/\C <= D/\D <= (E.map.length:Int)then some (C.toNat,D.toNat)else none
def Yc:Bn:=WZ [(true,.fM),(true,.oc),(false,.int)] 1 1 .int (λx=>E3 x.1 x.2.1 x.2.2.1)
def agC:enters Tryz.prog 121/\NL Tryz.prog 121 Yc:=aqb (N:=23) (fn:=f121) (code:=aZ f121) (Φ:=(mj [])) (Λ:=(jD [])) (t:=.int) func121 (by kernel_rfl) (by kernel_rfl) (by kernel_rfl) (by kernel_rfl) (by kernel_rfl) (by kernel_rfl) (by kernel_rfl) (by kernel_rfl) (tS _ trivial) rL (λx=>by kernel_rfl)
abbrev agD:=((Int×Int×(aa Int)×Int×Int×af)×(af))
def Kl(x:agD):ah (agD⊕(((Int×af)×(af))⊕Empty)):=letI C:=x.1.2.2;letI D:=C.2.2.1;bif D<C.2.1 then xI C.1 D λE=>bif (E==x.1.1)then xG ((x.1.1,(W6 (x.1.2.1+1)),C.1,C.2.1,(W6 (D+1)),()),())else xG ((x.1.1,x.1.2.1,C.1,C.2.1,(W6 (D+1)),()),())else ay ((x.1.2.1,()),())
def aud:KY 21 (aZ f122):=⟨0,lB 0 ⟨[(1,tI),(5,tI),(8,.lf (.aD .int 0)),(9,tI),(10,tI)],[],[]⟩ [(2,vi)] Kl,lp []⟩
def Qt(C:aa Int)(D:Int):ah (Int):=bu Kl ((D,0,C,(C.length:Int),0,()),()) λE=>some E.1.1
def aue:=cg Es dN (bS Qt) 21 [] [aud] func122
abbrev agE:=((af×af×Int×Int×(aa Int)×(aa Int)×Int×Int×af)×((Int×Int×Int×Int×af)×(Int×(aa Int)×af)×af))
def E4(x:agE):ah (agE⊕(((Bool×af)×(af))⊕(((af×af×Int×Int×af)×((Int×Int×Int×Int×af)×(Int×(aa Int)×af)×af))⊕Empty))):=letI D:=x.1.2.2;letI C:=D.2.2;letI E:=C.2.2.2.1;letI J:=xG (((),(),D.1,D.2.1,C.1,C.2.1,C.2.2.1,(W6 (E+1)),()),(x.2.1,x.2.2.1,()));bif E<C.2.2.1 then xI C.2.1 E λI=>bif (I != E)then (cE I D.1 (W6 (x.2.1.2.2.1-1))).bind λL=>bif (!L)then ay ((false,()),())else (Qt C.1 I).bind λO=>bif O > 1 then ay ((false,()),())else J else J else aV (((),(),D.1,D.2.1,()),(x.2.1,x.2.2.1,()))
def auf:KY 71 (rK (aZ f41) 0):=⟨2,lB 2 ⟨[(2,.aG 2 0),(3,.aG 3 0),(7,tI),(8,tI),(9,.lf (.aD .int 0)),(45,.lf (.aD .int 0)),(46,tI),(47,tI)],[(2,.aB fA),(3,.aB OL)],[]⟩ [(1,ia),(4,Xl)] E4,lp [ew,aue]⟩
abbrev agF:=((af×af×Int×Int×af)×((Int×Int×Int×Int×af)×(Int×(aa Int)×af)×af))
def Km(x:agF):ah (agF⊕(((Bool×af)×(af))⊕(((af)×(af))⊕Empty))):=letI I:=x.1.2.2.2.1;letI C:=x.2.2.1;letI L:=(⟨x.2.1.1,x.2.1.2.1,x.2.1.2.2.1,x.2.1.2.2.2.1⟩:aM);(oG L).bind λO=>bif I<O then (E3 L (⟨C.1,C.2.1⟩:dH) I).bind λD=>letI J:=(C.2.1.take D.2).drop D.1;bif Nat.ble D.1 D.2&&Nat.ble D.2 C.2.1.length then bQ E4 (((),(),x.1.2.2.1,I,J,J,(J.length:Int),0,()),(x.2.1,C,())) (λQ=>ay ((Q.1.1,()),())) λE=>xG (((),(),E.1.2.2.1,(W6 (E.1.2.2.2.1+1)),()),(E.2.1,E.2.2.1,()))else none else aV ((),())
def aug:KY 71 (aZ f41):=⟨0,lB 0 Xl [(1,ia),(2,fG)] Km,lq [rN,⟨121,.v Yc,agC⟩] [auf]⟩
def Ko(C:aM)(D:dH):ah (Bool):=(Kk C D.bP).bind λE=>bif (!E.2)then some false else bif ((D.map.length:Int) != (E.1.map.length:Int))then some false else bQ Km (((),(),(W6 (C.rows-D.bP)),0,()),((C.cu,C.aC,C.rows,C.aN,()),(D.bP,D.map,()),())) (λI=>some I.1.1) λJ=>some true
def agG:=cg Xw cm (bS Ko) 71 [agB] [aug] func41
def E5(C:aM)(D:dH):ah (aM):=(Ko C D).bind λE=>bif (!E)then some (⟨0,0,0,0⟩:aM)else some (⟨C.cu,C.aC,(W6 (C.rows-D.bP)),C.aN⟩:aM)
def Yd:=bw Xw [(true,.fM,0)] (bS E5) 17 [agG] func33
abbrev agH:=((af×af×Int×Int×af)×(c7×(aa Int)×af))
def E6(x:agH):ah (agH⊕(((Bool×af)×(af))⊕(((af×af)×(c7×af))⊕Empty))):=letI C:=x.1.2.2;bif C.2.1<C.1 then xL x.2.2.1 C.2.1 λD=>(cE D 1 64).bind λE=>bif (!E)then ay ((false,()),())else xG (((),(),C.1,(W6 (C.2.1+1)),()),(x.2.1,x.2.2.1,()))else aV (((),()),(x.2.1,()))
def auh:KY 75 (aZ f85):=⟨0,lB 0 ⟨[(1,.aG 1 0),(39,.lf (.own 39)),(40,tI),(41,tI)],[(1,.st .kT),(39,.sl .int 2)],[]⟩ [(1,qy),(2,ael)] E6,lp [ew]⟩
def E7(C:c7):ah (Bool):=letI E:=([C.jI,C.rp,C.gw,C.nq,C.jJ,C.jK,C.nt,C.nu,C.iY,C.wr,C.ny,C.nA,C.pT,C.nB,C.n8,C.xp,C.xs]:aa Int);bQ E6 (((),(),(E.length:Int),0,()),(C,E,())) (λI=>some I.1.1) λJ=>letI D:=J.2.1;bif D.jI <= D.gw then bif D.nq <= D.jJ then bif D.nt <= D.nu then some (D.ny <= D.nA)else some false else some false else some false
def Ye:=cg II cm (bR E7) 75 [] [auh] func85
def Ad(C:c7):ah (Int):=(E7 C).bind λD=>bif (!D)then some 0 else some (W6 (2*(W6 ((W6 ((W6 ((W6 ((W6 ((W6 ((W6 ((W6 ((W6 (C.n8+C.xp))+C.gw))+C.wr))+C.iY))+C.rp))+C.nB))+C.jI))+(W6 (8*C.jJ))))+16))))
def aui:=bw II dN (bR Ad) 35 [Ye] func19
def Kp(C:kQ):ah (Bool):=(cE C.order 0 2).bind λD=>some D
def agI:=bw [(true,.qR)] cm (bR Kp) 6 [ew] func196
def Qu(C:eT):ah (Bool):=(Kk C.az C.bP).bind λD=>(sH C.az).bind λE=>bif E then (E7 C.bL).bind λI=>bif I then (Kp C.mapping).bind λJ=>bif J then bif D.2 then (Ad C.bL).bind λL=>(cE C.interval L 10000).bind λO=>bif O then (cE C.gU 1 16).bind λQ=>bif Q then (cE C.dU.bz (W6 (6*C.interval)) 100000).bind λT=>bif T then (cE C.dU.br 0 100000).bind λU=>some U else some false else some false else some false else some false else some false else some false else some false
def auj:=bw [(true,.Config)] cm (bR Qu) 57 [aui,ew,Ye,xm,agB,agI] func115
def Cr(C:gx):ah (Bool):=bif C.low >= 0 then bif C.low<C.high then some (C.high <= 12)else some false else some false
def Qv:=bw [(true,.od)] cm (bR Cr) 18 [] func45
abbrev agJ:=(((aa cw)×(aa cw)×Int×Int×af)×(af))
def Kq(x:agJ):ah (agJ⊕(((Bool×af)×(af))⊕((((aa cw)×af)×(af))⊕Empty))):=letI C:=x.1.2.2;bif C.2.1<C.1 then xI x.1.2.1 C.2.1 λD=>(cE D.weight 1 9).bind λE=>bif (!E)then ay ((false,()),())else (cE D.fy 0 D.weight).bind λI=>bif (!I)then ay ((false,()),())else xG ((x.1.1,x.1.2.1,C.1,(W6 (C.2.1+1)),()),())else aV ((x.1.1,()),())
def auk:KY 27 (aZ f44):=⟨0,lB 0 ⟨[(0,.lf (.aD .fF 0)),(5,.lf (.aD .fF 0)),(6,tI),(7,tI)],[],[]⟩ [(1,qy),(2,aeq)] Kq,lp [ew]⟩
def E8(C:aa cw):ah (Bool):=bQ Kq ((C,C,(C.length:Int),0,()),()) (λD=>some D.1.1) λE=>(cE (E.1.1.length:Int) 1 4).bind λI=>some I
def Yf:=cg [(false,(.sl .fF))] cm (bR E8) 27 [ew] [auk] func44
abbrev agK:=((af×(aa Int)×Int×Int×af)×((aa cw)×af))
def Kr(x:agK):ah (agK⊕(((af×af)×((aa cw)×af))⊕Empty)):=letI C:=x.1.2.2;bif C.2.1<C.1 then xI x.1.2.1 C.2.1 λD=>letI E:=([(⟨D,D⟩:cw)]:aa cw);bif bC (x.2.1.length+E.length)then xG (((),x.1.2.1,C.1,(W6 (C.2.1+1)),()),((x.2.1++E),()))else none else ay (((),()),(x.2.1,()))
def aul:KY 25 (aZ f55):=⟨0,lB 0 ⟨[(4,.lf (.own 7)),(8,.lf (.aD .int 0)),(9,tI),(10,tI)],[(7,.sl .fF 2)],[]⟩ [(2,⟨[(4,.lf (.own 7))],[(7,.sl .fF 2)],[]⟩)] Kr,lp []⟩
def Ae(C:aa Int):ah ((aa cw)×Bool):=bu Kr (((),C,(C.length:Int),0,()),(([]:aa cw),())) λD=>(E8 D.2.1).bind λE=>bif (!E)then some ([],false)else some (D.2.1,true)
def agL:=cg oE [(false,(.sl .fF),2),(false,.bool,0)] (bR Ae) 25 [Yf] [aul] func55
def Kt(C:n9):ah (Bool):=(cE C.down 1 10000).bind λD=>bif D then bif C.sleep > C.down then some (C.sleep <= 20000)else some false else some false
def agM:=bw [(true,.r5)] cm (bR Kt) 18 [ew] func197
def Qx(C:dJ):ah (Bool):=(Ae C.weights).bind λE=>letI D:=(cE C.cap 0 100000).bind λI=>bif I then (cE C.eZ 3 1000).bind λJ=>bif J then (Cr (⟨false,C.low,C.high⟩:gx)).bind λL=>bif L then bif ((C.weights.length:Int)==4)then bif E.2 then (Kt C.dS).bind λO=>some O else some false else some false else some false else some false else some false;bif (C.eS==0)then D else bif (C.eS==1)then D else some false
def aum:=bw IG cm (bR Qx) 51 [ew,Qv,agL,agM] func116
def Af(C:Int):ah (Int):=(cE C 3 1000).bind λD=>bif (!D)then some 0 else some (W6 ((W6 (2*C))+2))
def aun:=bw lD dN (bR Af) 9 [ew] func117
def sI(C:eT)(D:dJ):ah (Bool):=letI E:=W6 (C.bL.gw+C.bL.rp);(Qu C).bind λI=>bif I then (Qx D).bind λJ=>bif J then (Af D.eZ).bind λL=>bif (W6 (L+2)) <= C.dU.br then if E=0 then none else some ((W6 ((W6 (C.gU+1))*D.eZ)) > (W6 ((W6 ((W6 (5*C.interval)).tdiv E))+2)))else some false else some false else some false
def auo:=bw Xt cm (bS sI) 42 [auj,aum,aun] func36
abbrev agN:=((af×(aa eP)×Int×Int×af)×((aa Int)×af))
def E9(x:agN):ah (agN⊕(((af×af)×((aa Int)×af))⊕Empty)):=letI C:=x.1.2.2.2.1;letI D:=((),x.1.2.1,x.1.2.2.1,(W6 (C+1)),());bif C<x.1.2.2.1 then xI x.1.2.1 C λE=>bif E.open_ then bif bC (x.2.1.length+([C]:aa Int).length)then xG (D,((x.2.1++([C]:aa Int)),()))else none else xG (D,(x.2.1,()))else ay (((),()),(x.2.1,()))
def aup:KY 23 (aZ f87):=⟨0,lB 0 ⟨[(3,.lf (.own 6)),(8,.lf (.aD .kr 0)),(9,tI),(10,tI)],[(6,.sl .int 2)],[]⟩ [(2,aef)] E9,lp []⟩
def Ag(C:cK):ah ((aa Int)):=bu E9 (((),C.aC,(C.aC.length:Int),0,()),(([]:aa Int),())) λD=>some D.2.1
def Qy:=cg [(true,.gV)] mm (bR Ag) 23 [] [aup] func87
abbrev agO:=((af×af×(aa eP)×Int×Int×af)×((Int×Int×Int×Int×af)×((aa eP)×Int×af)×af))
def Ku(x:agO):ah (agO⊕(((Bool×af)×(af))⊕(((af×af)×(((aa eP)×Int×af)×af))⊕Empty))):=letI C:=x.1.2.2;letI E:=xG (((),(),C.1,C.2.1,(W6 (C.2.2.1+1)),()),(x.2.1,x.2.2.1,()));bif C.2.2.1<C.2.1 then xI C.1 C.2.2.1 λD=>(cE D.row 0 (W6 (x.2.1.2.2.1-1))).bind λI=>bif (!I)then ay ((false,()),())else bif (!D.open_)then bif (D.row != 0)then ay ((false,()),())else E else E else aV (((),()),(x.2.2.1,()))
def auq:KY 58 (aZ f38):=⟨0,lB 0 ⟨[(2,.aG 2 0),(3,.aG 3 0),(25,.lf (.aD .kr 0)),(26,tI),(27,tI)],[(2,.aB fA),(3,.aB B0)],[]⟩ [(1,ia),(2,⟨[(3,.aG 3 0)],[(3,.aB B0)],[]⟩)] Ku,lp [ew]⟩
def Kv(C:aM)(D:cK):ah (Bool):=(sH C).bind λI=>bif (!I)then some false else (oG C).bind λJ=>bif ((D.aC.length:Int) != J)then some false else (cE D.bg 0 2).bind λL=>bif (!L)then some false else bQ Ku (((),(),D.aC,(D.aC.length:Int),0,()),((C.cu,C.aC,C.rows,C.aN,()),(D.aC,D.bg,()),())) (λO=>some O.1.1) λE=>bif (E.2.1.2.1 != 2)then some true else (Ag (⟨E.2.1.1,E.2.1.2.1⟩:cK)).bind λQ=>some ((Q.length:Int)==0)
def agP:=cg [(true,.fM),(true,.gV)] cm (bS Kv) 58 [ew,Qy,rN,xm] [auq] func38
def xo(C:Int):ah (Bool):=(cE C 1 5).bind λD=>some D
def Qz:=bw lD cm (bR xo) 5 [ew] func184
def Cs(J:aM)(I:Int):ah (aH×Bool):=letI C:=W6 (I.tdiv 9);letI D:=W6 ((I.tmod 9)+1);(oG J).bind λE=>bif C<E then (xo D).bind λL=>some ((⟨D,C,0,0⟩:aH),((decide (C<E))==L))else (xo D).bind λO=>some ((⟨D,0,0,0⟩:aH),((decide (C<E))==O))
def agQ:=bw IB [(true,.Command,0),(false,.bool,0)] (bS Cs) 27 [rN,Qz] func88
abbrev agR:=((af×af×(aa Int)×Int×Int×af)×((Int×Int×Int×Int×af)×((aa Int)×(aa Int)×af)×af))
def Kw(x:agR):ah (agR⊕(((Bool×af)×(af))⊕(((af×af)×(((aa Int)×(aa Int)×af)×af))⊕Empty))):=letI C:=x.1.2.2;letI D:=C.2.2.1;letI E:=xG (((),(),C.1,C.2.1,(W6 (D+1)),()),(x.2.1,x.2.2.1,()));bif D<C.2.1 then xI C.1 D λI=>(Cs (⟨x.2.1.1,x.2.1.2.1,x.2.1.2.2.1,x.2.1.2.2.2.1⟩:aM) D).bind λJ=>(cE I (-1) 1000000).bind λL=>bif (!L)then ay ((false,()),())else bif (!J.2)then bif (I != (-1))then ay ((false,()),())else E else E else aV (((),()),(x.2.2.1,()))
def aur:KY 82 (aZ f39):=⟨0,lB 0 ⟨[(2,.aG 2 0),(3,.aG 3 0),(31,.lf (.aD .int 0)),(32,tI),(33,tI)],[(2,.aB fA),(3,.aB BZ)],[]⟩ [(1,ia),(2,aem)] Kw,lp [ew,agQ]⟩
abbrev agS:=((af×(aa Int)×Int×Int×af)×(((aa Int)×(aa Int)×af)×af))
def Kx(x:agS):ah (agS⊕(((Bool×af)×(af))⊕(((af)×(af))⊕Empty))):=letI C:=x.1.2.2.2.1;letI D:=xG (((),x.1.2.1,x.1.2.2.1,(W6 (C+1)),()),(x.2.1,()));bif C<x.1.2.2.1 then xI x.1.2.1 C λE=>(cE E 0 1000000).bind λI=>bif (!I)then ay ((false,()),())else bif C > 0 then xI x.2.1.2.1 (W6 (C-1)) λJ=>bif J >= E then ay ((false,()),())else D else D else aV ((),())
def aus:KY 82 (aZ f39):=⟨2,lB 2 ⟨[(3,.aG 3 0),(57,.lf (.aD .int 0)),(58,tI),(59,tI)],[(3,.aB BZ)],[]⟩ [(1,ia),(4,fG)] Kx,lp [ew]⟩
def Fa(C:aM)(D:dG):ah (Bool):=(sH C).bind λI=>bif (!I)then some false else (oG C).bind λJ=>bif ((D.last.length:Int) != (W6 (9*(W6 (J+1)))))then some false else bif (D.bf.length:Int) > 4 then some false else bQ Kw (((),(),D.last,(D.last.length:Int),0,()),((C.cu,C.aC,C.rows,C.aN,()),(D.last,D.bf,()),())) (λL=>some L.1.1) λE=>bQ Kx (((),E.2.1.2.1,(E.2.1.2.1.length:Int),0,()),(E.2.1,())) (λO=>some O.1.1) λQ=>some true
def Yg:=cg [(true,.fM),(true,.kU)] cm (bS Fa) 82 [rN,xm] [aur,aus] func39
def Ct(C:Int):ah (Bool):=(cE C 0 15).bind λD=>some D
def Yh:=bw lD cm (bR Ct) 5 [ew] func198
abbrev agT:=(((aa Int)×Int×(aa Int)×Int×Int×af)×(af))
def Ah(x:agT):ah (agT⊕(((Bool×af)×(af))⊕((((aa Int)×Int×af)×(af))⊕Empty))):=letI C:=x.1.2.2;bif C.2.2.1<C.2.1 then xI C.1 C.2.2.1 λD=>(Ct D).bind λE=>bif (!E)then ay ((false,()),())else xG ((x.1.1,x.1.2.1,C.1,C.2.1,(W6 (C.2.2.1+1)),()),())else aV ((x.1.1,x.1.2.1,()),())
def aut:KY 21 (aZ f119):=⟨0,lB 0 ⟨[(0,.lf (.aD .int 0)),(1,tI),(7,.lf (.aD .int 0)),(8,tI),(9,tI)],[],[]⟩ [(1,ia),(2,aeh)] Ah,lp [Yh]⟩
def vn(C:aa Int)(E:Int):ah (Bool):=bQ Ah ((C,E,C,(C.length:Int),0,()),()) (λI=>some I.1.1) λD=>some ((D.1.1.length:Int)==D.1.2.1)
def Ky:=cg Es cm (bS vn) 21 [] [aut] func119
abbrev agU:=((af×(aa bY)×Int×Int×af)×(((aa bY)×(aa Int)×(aa Int)×af)×af))
def Kz(x:agU):ah (agU⊕(((Bool×af)×(af))⊕(((af×af)×(((aa bY)×(aa Int)×(aa Int)×af)×af))⊕Empty))):=letI C:=x.1.2.2;bif C.2.1<C.1 then xI x.1.2.1 C.2.1 λD=>(vn D.symbols 11).bind λE=>bif (!E)then ay ((false,()),())else xG (((),x.1.2.1,C.1,(W6 (C.2.1+1)),()),(x.2.1,()))else aV (((),()),(x.2.1,()))
def auu:KY 74 (aZ f40):=⟨0,lB 0 ⟨[(3,.aG 3 0),(40,.lf (.aD .Cell 0)),(41,tI),(42,tI)],[(3,.aB Er)],[]⟩ [(1,ia),(2,⟨[(3,.aG 3 0)],[(3,.aB Er)],[]⟩)] Kz,lp [Ky]⟩
abbrev agV:=((af×Int×Int×af)×(((aa bY)×(aa Int)×(aa Int)×af)×af))
def KA(x:agV):ah (agV⊕(((Bool×af)×(af))⊕(((af)×(af))⊕Empty))):=letI C:=x.1.2.2.1;bif C<x.1.2.1 then xI x.2.1.2.1 C λD=>(cE D 0 100000).bind λE=>bif (!E)then ay ((false,()),())else xI x.2.1.2.2.1 C λI=>(cE I 0 100000).bind λJ=>bif (!J)then ay ((false,()),())else xG (((),x.1.2.1,(W6 (C+1)),()),(x.2.1,()))else aV ((),())
def auv:KY 74 (aZ f40):=⟨2,lB 2 ⟨[(3,.aG 3 0),(53,tI),(54,tI)],[(3,.aB Er)],[]⟩ [(1,ia),(4,fG)] KA,lp [ew]⟩
def Fb(D:aM)(C:dm):ah (Bool):=(oG D).bind λE=>(sH D).bind λJ=>bif (!J)then some false else (vm D).bind λL=>bif ((C.cells.length:Int) != L)then some false else bif ((C.bz.length:Int) != (W6 (E*D.rows)))then some false else bif ((C.br.length:Int) != (W6 (E*D.rows)))then some false else bQ Kz (((),C.cells,(C.cells.length:Int),0,()),((C.cells,C.bz,C.br,()),())) (λO=>some O.1.1) λI=>bQ KA (((),(I.2.1.2.1.length:Int),0,()),(I.2.1,())) (λQ=>some Q.1.1) λT=>some true
def agW:=cg [(true,.fM),(true,.Array)] cm (bS Fb) 74 [Qs,rN,xm] [auu,auv] func40
abbrev agX:=((af×(aa Int)×Int×Int×af)×(((aa Int)×Int×Bool×af)×af))
def KB(x:agX):ah (agX⊕(((Bool×af)×(af))⊕(((af×af)×(((aa Int)×Int×Bool×af)×af))⊕Empty))):=letI C:=x.1.2.2;bif C.2.1<C.1 then xI x.1.2.1 C.2.1 λD=>(cE D (-2) 5).bind λE=>bif (!E)then ay ((false,()),())else xG (((),x.1.2.1,C.1,(W6 (C.2.1+1)),()),(x.2.1,()))else aV (((),()),(x.2.1,()))
def auw:KY 25 (aZ f123):=⟨0,lB 0 ⟨[(1,.aG 1 0),(6,.lf (.aD .int 0)),(7,tI),(8,tI)],[(1,.aB BX)],[]⟩ [(1,qy),(2,aen)] KB,lp [ew]⟩
def Ai(C:cY):ah (Bool):=bQ KB (((),C.aJ,(C.aJ.length:Int),0,()),((C.aJ,C.wait,C.dD,()),())) (λE=>some E.1.1) λD=>(cE (D.2.1.1.length:Int) 1 8).bind λI=>bif I then (cE D.2.1.2.1 1 10000).bind λJ=>some J else some false
def KD:=cg Eu cm (bR Ai) 25 [ew] [auw] func123
abbrev agY:=(((aa Int)×Int×Int×Int×af)×(af))
def KE(x:agY):ah (agY⊕(((Int×af)×(af))⊕(((af)×(af))⊕Empty))):=letI C:=x.1.2.2.2.1;bif C<x.1.2.2.1 then xI x.1.1 C λD=>bif (x.1.2.1==D)then ay ((C,()),())else xG ((x.1.1,x.1.2.1,x.1.2.2.1,(W6 (C+1)),()),())else aV ((),())
def auy:KY 19 (aZ f199):=⟨0,lB 0 ⟨[(0,.lf (.aD .int 0)),(1,tI),(7,tI),(8,tI)],[],[]⟩ [(1,wZ),(2,fG)] KE,lp []⟩
def Cu(C:aa Int)(D:Int):ah (Int):=(iter KE aP ((C,D,(C.length:Int),0,()),())).bind (Sum.elim (λE=>some E.1.1) (Sum.elim (λI=>some (-1)) (λz=>nomatch z)))
def Yi:=cg Es dN (bS Cu) 19 [] [auy] func199
abbrev agZ:=((af×(aa Int)×Int×Int×af)×(((aa Int)×(aa Int)×Int×af)×af))
def KF(x:agZ):ah (agZ⊕(((Bool×af)×(af))⊕(((af)×(af))⊕Empty))):=letI D:=ay ((false,()),());letI C:=x.1.2.2.2.1;letI I:=xG (((),x.1.2.1,x.1.2.2.1,(W6 (C+1)),()),(x.2.1,()));bif C<x.1.2.2.1 then xI x.1.2.1 C λE=>letI J:=bif (E != (-1))then (Cu x.2.1.1 E).bind λL=>bif (L != C)then D else I else I;(cE E (-1) 15).bind λO=>bif (!O)then D else xI x.2.1.2.1 C λQ=>(cE Q x.2.1.2.2.1 100000).bind λT=>bif (!T)then D else bif (E==(-1))then xI x.2.1.2.1 C λU=>bif (U != 0)then D else J else J else aV ((),())
def auz:KY 72 (aZ f124):=⟨0,lB 0 ⟨[(1,.aG 1 0),(26,.lf (.aD .int 0)),(27,tI),(28,tI)],Xg,[]⟩ [(1,qy),(2,fG)] KF,lp [ew,Yi]⟩
def Aj(C:cr):ah (Bool):=letI D:=(C.rows.length:Int);(cE D 1 16).bind λE=>bif (!E)then some false else bif ((C.counts.length:Int) != D)then some false else (cE C.dc 0 100000).bind λI=>bif (!I)then some false else bQ KF (((),C.rows,D,0,()),((C.rows,C.counts,C.dc,()),())) (λJ=>some J.1.1) λL=>some true
def ag0:=cg [(true,.gD)] cm (bR Aj) 72 [ew] [auz] func124
def Cv(C:aM)(D:aK):ah (Bool):=(sH C).bind λE=>bif E then (oG C).bind λI=>(cE D.ax 0 (W6 (I-1))).bind λJ=>bif J then (cE D.row 0 (W6 (C.rows-1))).bind λL=>bif L then (cE D.bT 0 (W6 (C.aN-1))).bind λO=>some O else some false else some false else some false
def Yj:=bw ON cm (bS Cv) 31 [ew,rN,xm] func125
abbrev ag1:=(((aa aK)×af×Int×Int×af)×((Int×Int×Int×af)×af))
def KG(x:ag1):ah (ag1⊕(((Int×af)×(af))⊕(((af)×(af))⊕Empty))):=letI C:=x.1.2.2.2.1;bif C<x.1.2.2.1 then xI x.1.1 C λD=>bif ((x.2.1.1==D.ax)&&((x.2.1.2.1==D.row)&&((x.2.1.2.2.1==D.bT)&&true)))then ay ((C,()),())else xG ((x.1.1,(),x.1.2.2.1,(W6 (C+1)),()),(x.2.1,()))else aV ((),())
def auA:KY 19 (aZ f126):=⟨0,lB 0 ⟨[(0,.lf (.aD .Addr 0)),(3,.aG 3 0),(7,tI),(8,tI)],[(3,.aB ID)],[]⟩ [(1,wZ),(2,fG)] KG,lp []⟩
def Fc(D:aa aK)(C:aK):ah (Int):=(iter KG aP ((D,(),(D.length:Int),0,()),((C.ax,C.row,C.bT,()),()))).bind (Sum.elim (λE=>some E.1.1) (Sum.elim (λI=>some (-1)) (λz=>nomatch z)))
def ag2:=cg Xo dN (bS Fc) 19 [] [auA] func126
abbrev ag3:=((af×af×Int×Int×af)×(av×(Int×Int×Int×Int×af)×af))
def QA(x:ag3):ah (ag3⊕(((Bool×af)×(af))⊕(((af×af×af)×(av×(Int×Int×Int×Int×af)×af))⊕Empty))):=letI C:=x.1.2.2.2.1;bif C<x.1.2.2.1 then xI x.2.1.bO C λD=>(Aj D).bind λE=>bif (!E)then ay ((false,()),())else xI x.2.1.guard C λI=>(cE I 3 1000).bind λJ=>bif (!J)then ay ((false,()),())else xG (((),(),x.1.2.2.1,(W6 (C+1)),()),(x.2.1,x.2.2.1,()))else aV (((),(),()),(x.2.1,x.2.2.1,()))
def auB:KY 94 (aZ f42):=⟨0,lB 0 ⟨[(1,.aG 1 0),(3,.aG 3 0),(47,tI),(48,tI)],Xq,[]⟩ [(1,qy),(2,⟨[(1,.aG 1 0),(3,.aG 3 0)],Xq,[]⟩)] QA,lp [ew,ag0]⟩
abbrev ag4:=((af×af×(aa aK)×Int×Int×af)×(av×(Int×Int×Int×Int×af)×af))
def QB(x:ag4):ah (ag4⊕(((Bool×af)×(af))⊕(((af)×(af))⊕Empty))):=letI C:=x.2.2.1;letI I:=ay ((false,()),());letI D:=x.1.2.2;letI E:=D.2.2.1;bif E<D.2.1 then xI D.1 E λJ=>(Cv (⟨C.1,C.2.1,C.2.2.1,C.2.2.2.1⟩:aM) J).bind λL=>bif (!L)then I else bif (J.bT != 0)then I else (Fc x.2.1.pending J).bind λO=>bif (O != E)then I else xG (((),(),D.1,D.2.1,(W6 (E+1)),()),(x.2.1,C,()))else aV ((),())
def auC:KY 94 (aZ f42):=⟨2,lB 2 ⟨[(1,.aG 1 0),(3,.aG 3 0),(69,.lf (.aD .Addr 0)),(70,tI),(71,tI)],Xq,[]⟩ [(1,qy),(4,fG)] QB,lp [Yj,ag2]⟩
def QC(C:av):ah (Bool):=(oG C.config.az).bind λE=>(Ai C.aQ).bind λI=>bif (!I)then some false else bif ((C.aQ.aJ.length:Int) != E)then some false else bif ((C.bO.length:Int) != E)then some false else bif ((C.guard.length:Int) != E)then some false else bif (C.pending.length:Int) > 128 then some false else bQ QA (((),(),(C.bO.length:Int),0,()),(C,(C.config.az.cu,C.config.az.aC,C.config.az.rows,C.config.az.aN,()),())) (λJ=>some J.1.1) λD=>bQ QB (((),(),D.2.1.pending,(D.2.1.pending.length:Int),0,()),(D.2.1,D.2.2.1,())) (λL=>some L.1.1) λO=>some true
def auD:=cg w5 cm (bR QC) 94 [rN,KD] [auB,auC] func42
def QD(C D:aX):ah (Bool):=bif C.at_<D.at_ then some true else bif (C.at_==D.at_)then some (C.id<D.id)else some false
def auE:=bw [(true,.di),(true,.di)] cm (bS QD) 24 [] func111
def Cw(C:Int):ah (Bool):=(cE C 0 4294967295).bind λD=>some D
def Yk:=bw lD cm (bR Cw) 5 [ew] func200
end Go.Proofs.YtglnbhiaknohlaaGreat
