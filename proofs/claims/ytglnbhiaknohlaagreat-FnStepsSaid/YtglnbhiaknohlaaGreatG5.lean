/-
  Functions of the program as plain functions of contents, and that the code computes them. Nothing here is a claim.
-/
import Derived.Test.YtglnbhiaknohlaaGreatVZ
import Derived.Test.YtglnbhiaknohlaaGreatRows
import Derived.Test.YtglnbhiaknohlaaGreatG1
import Derived.Test.YtglnbhiaknohlaaGreatG2
import Derived.Test.YtglnbhiaknohlaaGreatG3
import Derived.Test.YtglnbhiaknohlaaGreatG4
namespace Go.Proofs.YtglnbhiaknohlaaGreat
set_option linter.defProp false
open Go.RowKit Go.Proofs.Tryz
set_option linter.unusedVariables false
set_option maxRecDepth 100000
def XR(C:bN):aj ((av)×(bN×af)):=(OS C).bind λD=>(Km (⟨C.b,D.2.1.i,D.2.1.h⟩:bN)).bind λE=>(Qo (⟨C.b,E.2.1.i,E.2.1.h⟩:bN) D.1 12).bind λI=>(Qf D.1 E.1 I.1).bind λJ=>some (J.1,((⟨C.b,I.2.1.i,I.2.1.h⟩:bN),()))
def atp:=jQ zZ [(true,.cV,4)] (bS XR) 19 [aqc,atg,af9,ato] func24
abbrev agb:=((af×Int×Int×af)×((aa Int)×af))
def Kq(x:agb):aj (agb⊕(((af×Int×af)×((aa Int)×af))⊕Empty)):=letI C:=x.1.2.2.1;letI D:=aA (((),x.1.2.1,()),(x.2.1,()));bif C<(x.2.1.length:Int)then bif C<4000 then xI x.2.1 C λE=>xG (((),(bits .and .i64 (W6 ((W6 ((W6 (x.1.2.1*131))+(W6 E)))+7)) 1073741823),(W6 (C+1)),()),(x.2.1,()))else D else D
def agc:KY 32 (bk f25):=⟨0,lB 0 ⟨[(0,.lf (.own 20000)),(3,tI),(4,tI)],[(20000,.sl .u8 0)],[]⟩ [(2,⟨[(0,.lf (.own 20000)),(3,tI)],[(20000,.sl .u8 0)],[]⟩)] Kq,lp []⟩
def Kr(C:aa Int):aj Int:=bw Kq (((),(W6 (97301+(C.length:Int))),0,()),(C,())) λD=>some D.1.2.1
def atq:enters Tryz.prog 25/\NJ Tryz.prog 25 Kr:=apz (N:=32) (fn:=f25) (code:=bk f25) (Φ:=(mH [])) (Λ:=(jP [(0,agc.b)])) func25 (by kernel_rfl) (by kernel_rfl) (by kernel_rfl) (by kernel_rfl) (by kernel_rfl) (uh _ trivial) (WR (by kernel_rfl) _ ⟨⟨_,by kernel_rfl,agc.ok⟩,trivial⟩) (λl=>by kernel_rfl)
def Qp(C:aa Int):aj (av):=(Kr C).bind λD=>(XR (⟨C,0,D⟩:bN)).bind λE=>some E.1
def atr:=bA [(false,(.sl .u8))] [(true,.cV,4)] (bS Qp) 6 [atp,⟨25,.n Kr,atq⟩] func8
def cK(C D E:Int):aj (Bool):=bif C >= D then some (C <= E)else some false
def eI:=bA [(false,.int),(false,.int),(false,.int)] cB (fD cK) 15 [] func37
def sZ(C:aO):aj (Bool):=(cK C.cq 1 2).bind λD=>bif D then (cK C.aC 1 4).bind λE=>bif E then (cK C.rows 2 16).bind λI=>bif I then (cK C.aN 1 8).bind λJ=>some J else some false else some false else some false
def xJ:=bA xo cB (bS sZ) 21 [eI] func118
def oM(C:aO):aj (Int):=(sZ C).bind λD=>bif (!D)then some 0 else some (W6 (C.cq*C.aC))
def r5:=bA xo dO (bS oM) 11 [xJ] func113
def vG(C:aO):aj (Int):=(oM C).bind λD=>some (W6 ((W6 (D*C.rows))*C.aN))
def Qq:=bA xo dO (bS vG) 11 [r5] func32
abbrev agd:=((Int×af×af×af×Int×Int×af)×((Int×Int×Int×Int×af)×(Int×af×af)×(Int×af×af)×(aa Int)×(aa Int)×af))
def Fh(x:agd):aj (agd⊕(((Int×af×af×af×Int×af)×((Int×Int×Int×Int×af)×(Int×af×af)×(Int×af×af)×(aa Int)×(aa Int)×af))⊕Empty)):=letI C:=x.2.2.2;letI D:=x.1.2.2.2.2;bif D.2.1<(W6 (x.2.1.2.2.1-x.1.1))then bif bD (C.2.2.1.length+([D.2.1]:aa Int).length)then xG ((x.1.1,(),(),(),D.1,(W6 (D.2.1+1)),()),(x.2.1,x.2.2.1,C.1,C.2.1,(C.2.2.1++([D.2.1]:aa Int)),()))else none else aA ((x.1.1,(),(),(),D.1,()),(x.2.1,x.2.2.1,C.1,C.2.1,C.2.2.1,()))
def att:KY 48 (rZ (bk f120) 0):=⟨2,lB 2 ⟨[(1,tI),(2,.aG 2 0),(4,.aG 4 0),(6,.aG 6 0),(7,tI),(8,tI)],zz9,[]⟩ [(4,WZ)] Fh,lp []⟩
abbrev agf:=((Int×af×af×af×Int×af)×((Int×Int×Int×Int×af)×(Int×af×af)×(Int×af×af)×(aa Int)×(aa Int)×af))
def Kt(x:agf):aj (agf⊕(((af×af×af)×((Int×af×af)×(Int×af×af)×(aa Int)×(aa Int)×af))⊕Empty)):=letI D:=x.2.2.2;(oM (⟨x.2.1.1,x.2.1.2.1,x.2.1.2.2.1,x.2.1.2.2.2.1⟩:aO)).bind λE=>bif x.1.2.2.2.2.1<E then bw Fh ((x.1.1,(),(),(),x.1.2.2.2.2.1,0,()),(x.2.1,x.2.2.1,D.1,D.2.1,D.2.2.1,())) λC=>xG ((C.1.1,(),(),(),(W6 (C.1.2.2.2.2.1+1)),()),(C.2.1,C.2.2.1,C.2.2.2.1,C.2.2.2.2.1,C.2.2.2.2.2.1,()))else aA (((),(),()),(x.2.2.1,D.1,D.2.1,D.2.2.1,()))
def atu:KY 48 (bk f120):=⟨0,lB 0 WZ [(2,adu)] Kt,lq [r5] [att]⟩
def Ku(C:aO)(D:Int):aj (dG×Bool):=letI E:=some ((⟨0,[]⟩:dG),false);(sZ C).bind λJ=>bif (!J)then E else (cK D 0 2).bind λL=>bif (!L)then E else bif (W6 (C.rows-D))<2 then E else bw Kt ((D,(),(),(),0,()),((C.cq,C.aC,C.rows,C.aN,()),(0,(),()),(D,(),()),([]:aa Int),([]:aa Int),())) λI=>some ((⟨I.2.2.1.1,I.2.2.2.2.1⟩:dG),true)
def agh:=cw IK [(true,.om,2),(false,.bool,0)] (bY Ku) 48 [eI,xJ] [atu] func120
def Fi(L:aO)(E:dG)(I:Int):aj (Nat×Nat):=letI J:=W6 (L.rows-E.bP);letI C:=W6 (I*J);letI D:=W6 ((W6 (I+1))*J);if 0 <= C/\C <= D/\D <= (E.map.length:Int)then some (C.toNat,D.toNat)else none
def XS:BB:=WG [(true,.fR),(true,.om),(false,.int)] 1 1 .int (λx=>Fi x.1 x.2.1 x.2.2.1)
def agi:enters Tryz.prog 121/\NK Tryz.prog 121 XS:=apA (N:=23) (fn:=f121) (code:=bk f121) (Φ:=(mH [])) (Λ:=(jP [])) (t:=.int) func121 (by kernel_rfl) (by kernel_rfl) (by kernel_rfl) (by kernel_rfl) (by kernel_rfl) (by kernel_rfl) (by kernel_rfl) (by kernel_rfl) (uh _ trivial) r3 (λx=>by kernel_rfl)
abbrev agj:=((Int×Int×(aa Int)×Int×Int×af)×(af))
def Kv(x:agj):aj (agj⊕(((Int×af)×(af))⊕Empty)):=letI C:=x.1.2.2;letI D:=C.2.2.1;bif D<C.2.1 then xI C.1 D λE=>bif (E==x.1.1)then xG ((x.1.1,(W6 (x.1.2.1+1)),C.1,C.2.1,(W6 (D+1)),()),())else xG ((x.1.1,x.1.2.1,C.1,C.2.1,(W6 (D+1)),()),())else aA ((x.1.2.1,()),())
def atv:KY 21 (bk f122):=⟨0,lB 0 ⟨[(1,tI),(5,tI),(8,.lf (.aF .int 0)),(9,tI),(10,tI)],[],[]⟩ [(2,vC)] Kv,lp []⟩
def Qr(C:aa Int)(D:Int):aj (Int):=bw Kv ((D,0,C,(C.length:Int),0,()),()) λE=>some E.1.1
def atw:=cw EF dO (bY Qr) 21 [] [atv] func122
abbrev agk:=((af×af×Int×Int×(aa Int)×(aa Int)×Int×Int×af)×((Int×Int×Int×Int×af)×(Int×(aa Int)×af)×af))
def Fj(x:agk):aj (agk⊕(((Bool×af)×(af))⊕(((af×af×Int×Int×af)×((Int×Int×Int×Int×af)×(Int×(aa Int)×af)×af))⊕Empty))):=letI D:=x.1.2.2;letI C:=D.2.2;letI E:=C.2.2.2.1;letI J:=xG (((),(),D.1,D.2.1,C.1,C.2.1,C.2.2.1,(W6 (E+1)),()),(x.2.1,x.2.2.1,()));bif E<C.2.2.1 then xI C.2.1 E λI=>bif (I != E)then (cK I D.1 (W6 (x.2.1.2.2.1-1))).bind λL=>bif (!L)then aA ((false,()),())else (Qr C.1 I).bind λO=>bif O > 1 then aA ((false,()),())else J else J else bq (((),(),D.1,D.2.1,()),(x.2.1,x.2.2.1,()))
def atx:KY 71 (rZ (bk f41) 0):=⟨2,lB 2 ⟨[(2,.aG 2 0),(3,.aG 3 0),(7,tI),(8,tI),(9,.lf (.aF .int 0)),(45,.lf (.aF .int 0)),(46,tI),(47,tI)],[(2,.aB fE),(3,.aB OJ)],[]⟩ [(1,mI),(4,W3)] Fj,lp [eI,atw]⟩
abbrev agl:=((af×af×Int×Int×af)×((Int×Int×Int×Int×af)×(Int×(aa Int)×af)×af))
def Kw(x:agl):aj (agl⊕(((Bool×af)×(af))⊕(((af)×(af))⊕Empty))):=letI I:=x.1.2.2.2.1;letI C:=x.2.2.1;letI L:=(⟨x.2.1.1,x.2.1.2.1,x.2.1.2.2.1,x.2.1.2.2.2.1⟩:aO);(oM L).bind λO=>bif I<O then (Fi L (⟨C.1,C.2.1⟩:dG) I).bind λD=>letI J:=(C.2.1.take D.2).drop D.1;bif Nat.ble D.1 D.2&&Nat.ble D.2 C.2.1.length then cc Fj (((),(),x.1.2.2.1,I,J,J,(J.length:Int),0,()),(x.2.1,C,())) (λQ=>aA ((Q.1.1,()),())) λE=>xG (((),(),E.1.2.2.1,(W6 (E.1.2.2.2.1+1)),()),(E.2.1,E.2.2.1,()))else none else bq ((),())
def aty:KY 71 (bk f41):=⟨0,lB 0 W3 [(1,mI),(2,iG)] Kw,lq [r5,⟨121,.v XS,agi⟩] [atx]⟩
def Kx(C:aO)(D:dG):aj (Bool):=(Ku C D.bP).bind λE=>bif (!E.2)then some false else bif ((D.map.length:Int) != (E.1.map.length:Int))then some false else cc Kw (((),(),(W6 (C.rows-D.bP)),0,()),((C.cq,C.aC,C.rows,C.aN,()),(D.bP,D.map,()),())) (λI=>some I.1.1) λJ=>some true
def agm:=cw Xg cB (bY Kx) 71 [agh] [aty] func41
def Fk(C:aO)(D:dG):aj (aO):=(Kx C D).bind λE=>bif (!E)then some (⟨0,0,0,0⟩:aO)else some (⟨C.cq,C.aC,(W6 (C.rows-D.bP)),C.aN⟩:aO)
def XT:=bA Xg [(true,.fR,0)] (bY Fk) 17 [agm] func33
abbrev agn:=((af×af×Int×Int×af)×(dc×(aa Int)×af))
def Fl(x:agn):aj (agn⊕(((Bool×af)×(af))⊕(((af×af)×(dc×af))⊕Empty))):=letI C:=x.1.2.2;bif C.2.1<C.1 then xL x.2.2.1 C.2.1 λD=>(cK D 1 64).bind λE=>bif (!E)then aA ((false,()),())else xG (((),(),C.1,(W6 (C.2.1+1)),()),(x.2.1,x.2.2.1,()))else bq (((),()),(x.2.1,()))
def atz:KY 75 (bk f85):=⟨0,lB 0 ⟨[(1,.aG 1 0),(39,.lf (.own 39)),(40,tI),(41,tI)],[(1,.st .lC),(39,.sl .int 2)],[]⟩ [(1,qP),(2,ad3)] Fl,lp [eI]⟩
def Fm(C:dc):aj (Bool):=letI E:=([C.jX,C.rp,C.gI,C.nE,C.jY,C.lu,C.nG,C.nH,C.jK,C.wr,C.pg,C.pn,C.sx,C.pq,C.qi,C.xp,C.xs]:aa Int);cc Fl (((),(),(E.length:Int),0,()),(C,E,())) (λI=>some I.1.1) λJ=>letI D:=J.2.1;bif D.jX <= D.gI then bif D.nE <= D.jY then bif D.nG <= D.nH then some (D.pg <= D.pn)else some false else some false else some false
def XU:=cw IS cB (bS Fm) 75 [] [atz] func85
def An(C:dc):aj (Int):=(Fm C).bind λD=>bif (!D)then some 0 else some (W6 (2*(W6 ((W6 ((W6 ((W6 ((W6 ((W6 ((W6 ((W6 ((W6 (C.qi+C.xp))+C.gI))+C.wr))+C.jK))+C.rp))+C.pq))+C.jX))+(W6 (8*C.jY))))+16))))
def atA:=bA IS dO (bS An) 35 [XU] func19
def Ky(C:ld):aj (Bool):=(cK C.order 0 2).bind λD=>some D
def ago:=bA [(true,.q9)] cB (bS Ky) 6 [eI] func196
def Qs(C:eX):aj (Bool):=(Ku C.ay C.bP).bind λD=>(sZ C.ay).bind λE=>bif E then (Fm C.cm).bind λI=>bif I then (Ky C.mapping).bind λJ=>bif J then bif D.2 then (An C.cm).bind λL=>(cK C.interval L 10000).bind λO=>bif O then (cK C.hD 1 16).bind λQ=>bif Q then (cK C.dH.bC (W6 (6*C.interval)) 100000).bind λT=>bif T then (cK C.dH.bz 0 100000).bind λU=>some U else some false else some false else some false else some false else some false else some false else some false
def atB:=bA [(true,.Config)] cB (bS Qs) 57 [atA,eI,XU,xJ,agh,ago] func115
def CC(C:gJ):aj (Bool):=bif C.low >= 0 then bif C.low<C.high then some (C.high <= 12)else some false else some false
def Qt:=bA [(true,.oq)] cB (bS CC) 18 [] func45
abbrev agp:=(((aa cz)×(aa cz)×Int×Int×af)×(af))
def Kz(x:agp):aj (agp⊕(((Bool×af)×(af))⊕((((aa cz)×af)×(af))⊕Empty))):=letI C:=x.1.2.2;bif C.2.1<C.1 then xI x.1.2.1 C.2.1 λD=>(cK D.weight 1 9).bind λE=>bif (!E)then aA ((false,()),())else (cK D.fL 0 D.weight).bind λI=>bif (!I)then aA ((false,()),())else xG ((x.1.1,x.1.2.1,C.1,(W6 (C.2.1+1)),()),())else bq ((x.1.1,()),())
def atC:KY 27 (bk f44):=⟨0,lB 0 ⟨[(0,.lf (.aF .gj 0)),(5,.lf (.aF .gj 0)),(6,tI),(7,tI)],[],[]⟩ [(1,qP),(2,ad8)] Kz,lp [eI]⟩
def Fo(C:aa cz):aj (Bool):=cc Kz ((C,C,(C.length:Int),0,()),()) (λD=>some D.1.1) λE=>(cK (E.1.1.length:Int) 1 4).bind λI=>some I
def XV:=cw [(false,(.sl .gj))] cB (bS Fo) 27 [eI] [atC] func44
abbrev agq:=((af×(aa Int)×Int×Int×af)×((aa cz)×af))
def KA(x:agq):aj (agq⊕(((af×af)×((aa cz)×af))⊕Empty)):=letI C:=x.1.2.2;bif C.2.1<C.1 then xI x.1.2.1 C.2.1 λD=>letI E:=([(⟨D,D⟩:cz)]:aa cz);bif bD (x.2.1.length+E.length)then xG (((),x.1.2.1,C.1,(W6 (C.2.1+1)),()),((x.2.1++E),()))else none else aA (((),()),(x.2.1,()))
def atD:KY 25 (bk f55):=⟨0,lB 0 ⟨[(4,.lf (.own 7)),(8,.lf (.aF .int 0)),(9,tI),(10,tI)],[(7,.sl .gj 2)],[]⟩ [(2,⟨[(4,.lf (.own 7))],[(7,.sl .gj 2)],[]⟩)] KA,lp []⟩
def Ao(C:aa Int):aj ((aa cz)×Bool):=bw KA (((),C,(C.length:Int),0,()),(([]:aa cz),())) λD=>(Fo D.2.1).bind λE=>bif (!E)then some ([],false)else some (D.2.1,true)
def agr:=cw oJ [(false,(.sl .gj),2),(false,.bool,0)] (bS Ao) 25 [XV] [atD] func55
def KB(C:og):aj (Bool):=(cK C.down 1 10000).bind λD=>bif D then bif C.sleep > C.down then some (C.sleep <= 20000)else some false else some false
def ags:=bA [(true,.sA)] cB (bS KB) 18 [eI] func197
def Qu(C:dS):aj (Bool):=(Ao C.weights).bind λE=>letI D:=(cK C.cap 0 100000).bind λI=>bif I then (cK C.eK 3 1000).bind λJ=>bif J then (CC (⟨false,C.low,C.high⟩:gJ)).bind λL=>bif L then bif ((C.weights.length:Int)==4)then bif E.2 then (KB C.eA).bind λO=>some O else some false else some false else some false else some false else some false;bif (C.eP==0)then D else bif (C.eP==1)then D else some false
def atE:=bA IQ cB (bS Qu) 51 [eI,Qt,agr,ags] func116
def Ap(C:Int):aj (Int):=(cK C 3 1000).bind λD=>bif (!D)then some 0 else some (W6 ((W6 (2*C))+2))
def atF:=bA lP dO (bS Ap) 9 [eI] func117
def s7(C:eX)(D:dS):aj (Bool):=letI E:=W6 (C.cm.gI+C.cm.rp);(Qs C).bind λI=>bif I then (Qu D).bind λJ=>bif J then (Ap D.eK).bind λL=>bif (W6 (L+2)) <= C.dH.bz then if E=0 then none else some ((W6 ((W6 (C.hD+1))*D.eK)) > (W6 ((W6 ((W6 (5*C.interval)).tdiv E))+2)))else some false else some false else some false
def atG:=bA Xd cB (bY s7) 42 [atB,atE,atF] func36
abbrev agt:=((af×(aa fC)×Int×Int×af)×((aa Int)×af))
def Fp(x:agt):aj (agt⊕(((af×af)×((aa Int)×af))⊕Empty)):=letI C:=x.1.2.2.2.1;letI D:=((),x.1.2.1,x.1.2.2.1,(W6 (C+1)),());bif C<x.1.2.2.1 then xI x.1.2.1 C λE=>bif E.open_ then bif bD (x.2.1.length+([C]:aa Int).length)then xG (D,((x.2.1++([C]:aa Int)),()))else none else xG (D,(x.2.1,()))else aA (((),()),(x.2.1,()))
def atH:KY 23 (bk f87):=⟨0,lB 0 ⟨[(3,.lf (.own 6)),(8,.lf (.aF .nI 0)),(9,tI),(10,tI)],[(6,.sl .int 2)],[]⟩ [(2,adX)] Fp,lp []⟩
def Aq(C:cM):aj ((aa Int)):=bw Fp (((),C.aC,(C.aC.length:Int),0,()),(([]:aa Int),())) λD=>some D.2.1
def Qv:=cw [(true,.iQ)] nc (bS Aq) 23 [] [atH] func87
abbrev agu:=((af×af×(aa fC)×Int×Int×af)×((Int×Int×Int×Int×af)×((aa fC)×Int×af)×af))
def KD(x:agu):aj (agu⊕(((Bool×af)×(af))⊕(((af×af)×(((aa fC)×Int×af)×af))⊕Empty))):=letI C:=x.1.2.2;letI E:=xG (((),(),C.1,C.2.1,(W6 (C.2.2.1+1)),()),(x.2.1,x.2.2.1,()));bif C.2.2.1<C.2.1 then xI C.1 C.2.2.1 λD=>(cK D.row 0 (W6 (x.2.1.2.2.1-1))).bind λI=>bif (!I)then aA ((false,()),())else bif (!D.open_)then bif (D.row != 0)then aA ((false,()),())else E else E else bq (((),()),(x.2.2.1,()))
def atI:KY 58 (bk f38):=⟨0,lB 0 ⟨[(2,.aG 2 0),(3,.aG 3 0),(25,.lf (.aF .nI 0)),(26,tI),(27,tI)],[(2,.aB fE),(3,.aB Cb)],[]⟩ [(1,mI),(2,⟨[(3,.aG 3 0)],[(3,.aB Cb)],[]⟩)] KD,lp [eI]⟩
def KE(C:aO)(D:cM):aj (Bool):=(sZ C).bind λI=>bif (!I)then some false else (oM C).bind λJ=>bif ((D.aC.length:Int) != J)then some false else (cK D.bh 0 2).bind λL=>bif (!L)then some false else cc KD (((),(),D.aC,(D.aC.length:Int),0,()),((C.cq,C.aC,C.rows,C.aN,()),(D.aC,D.bh,()),())) (λO=>some O.1.1) λE=>bif (E.2.1.2.1 != 2)then some true else (Aq (⟨E.2.1.1,E.2.1.2.1⟩:cM)).bind λQ=>some ((Q.length:Int)==0)
def agv:=cw [(true,.fR),(true,.iQ)] cB (bY KE) 58 [eI,Qv,r5,xJ] [atI] func38
def xK(C:Int):aj (Bool):=(cK C 1 5).bind λD=>some D
def Qx:=bA lP cB (bS xK) 5 [eI] func184
def CD(J:aO)(I:Int):aj (aH×Bool):=letI C:=W6 (I.tdiv 9);letI D:=W6 ((I.tmod 9)+1);(oM J).bind λE=>bif C<E then (xK D).bind λL=>some ((⟨D,C,0,0⟩:aH),((decide (C<E))==L))else (xK D).bind λO=>some ((⟨D,0,0,0⟩:aH),((decide (C<E))==O))
def agw:=bA IK [(true,.Command,0),(false,.bool,0)] (bY CD) 27 [r5,Qx] func88
abbrev agx:=((af×af×(aa Int)×Int×Int×af)×((Int×Int×Int×Int×af)×((aa Int)×(aa Int)×af)×af))
def KF(x:agx):aj (agx⊕(((Bool×af)×(af))⊕(((af×af)×(((aa Int)×(aa Int)×af)×af))⊕Empty))):=letI C:=x.1.2.2;letI D:=C.2.2.1;letI E:=xG (((),(),C.1,C.2.1,(W6 (D+1)),()),(x.2.1,x.2.2.1,()));bif D<C.2.1 then xI C.1 D λI=>(CD (⟨x.2.1.1,x.2.1.2.1,x.2.1.2.2.1,x.2.1.2.2.2.1⟩:aO) D).bind λJ=>(cK I (-1) 1000000).bind λL=>bif (!L)then aA ((false,()),())else bif (!J.2)then bif (I != (-1))then aA ((false,()),())else E else E else bq (((),()),(x.2.2.1,()))
def atJ:KY 82 (bk f39):=⟨0,lB 0 ⟨[(2,.aG 2 0),(3,.aG 3 0),(31,.lf (.aF .int 0)),(32,tI),(33,tI)],[(2,.aB fE),(3,.aB Cc)],[]⟩ [(1,mI),(2,ad4)] KF,lp [eI,agw]⟩
abbrev agy:=((af×(aa Int)×Int×Int×af)×(((aa Int)×(aa Int)×af)×af))
def KG(x:agy):aj (agy⊕(((Bool×af)×(af))⊕(((af)×(af))⊕Empty))):=letI C:=x.1.2.2.2.1;letI D:=xG (((),x.1.2.1,x.1.2.2.1,(W6 (C+1)),()),(x.2.1,()));bif C<x.1.2.2.1 then xI x.1.2.1 C λE=>(cK E 0 1000000).bind λI=>bif (!I)then aA ((false,()),())else bif C > 0 then xI x.2.1.2.1 (W6 (C-1)) λJ=>bif J >= E then aA ((false,()),())else D else D else bq ((),())
def atK:KY 82 (bk f39):=⟨2,lB 2 ⟨[(3,.aG 3 0),(57,.lf (.aF .int 0)),(58,tI),(59,tI)],[(3,.aB Cc)],[]⟩ [(1,mI),(4,iG)] KG,lp [eI]⟩
def Fq(C:aO)(D:dF):aj (Bool):=(sZ C).bind λI=>bif (!I)then some false else (oM C).bind λJ=>bif ((D.last.length:Int) != (W6 (9*(W6 (J+1)))))then some false else bif (D.bg.length:Int) > 4 then some false else cc KF (((),(),D.last,(D.last.length:Int),0,()),((C.cq,C.aC,C.rows,C.aN,()),(D.last,D.bg,()),())) (λL=>some L.1.1) λE=>cc KG (((),E.2.1.2.1,(E.2.1.2.1.length:Int),0,()),(E.2.1,())) (λO=>some O.1.1) λQ=>some true
def XW:=cw [(true,.fR),(true,.lD)] cB (bY Fq) 82 [r5,xJ] [atJ,atK] func39
def CE(C:Int):aj (Bool):=(cK C 0 15).bind λD=>some D
def XX:=bA lP cB (bS CE) 5 [eI] func198
abbrev agz:=(((aa Int)×Int×(aa Int)×Int×Int×af)×(af))
def xN(x:agz):aj (agz⊕(((Bool×af)×(af))⊕((((aa Int)×Int×af)×(af))⊕Empty))):=letI C:=x.1.2.2;bif C.2.2.1<C.2.1 then xI C.1 C.2.2.1 λD=>(CE D).bind λE=>bif (!E)then aA ((false,()),())else xG ((x.1.1,x.1.2.1,C.1,C.2.1,(W6 (C.2.2.1+1)),()),())else bq ((x.1.1,x.1.2.1,()),())
def atM:KY 21 (bk f119):=⟨0,lB 0 ⟨[(0,.lf (.aF .int 0)),(1,tI),(7,.lf (.aF .int 0)),(8,tI),(9,tI)],[],[]⟩ [(1,mI),(2,adZ)] xN,lp [XX]⟩
def vH(C:aa Int)(E:Int):aj (Bool):=cc xN ((C,E,C,(C.length:Int),0,()),()) (λI=>some I.1.1) λD=>some ((D.1.1.length:Int)==D.1.2.1)
def KH:=cw EF cB (bY vH) 21 [] [atM] func119
abbrev agA:=((af×(aa bZ)×Int×Int×af)×(((aa bZ)×(aa Int)×(aa Int)×af)×af))
def KI(x:agA):aj (agA⊕(((Bool×af)×(af))⊕(((af×af)×(((aa bZ)×(aa Int)×(aa Int)×af)×af))⊕Empty))):=letI C:=x.1.2.2;bif C.2.1<C.1 then xI x.1.2.1 C.2.1 λD=>(vH D.symbols 11).bind λE=>bif (!E)then aA ((false,()),())else xG (((),x.1.2.1,C.1,(W6 (C.2.1+1)),()),(x.2.1,()))else bq (((),()),(x.2.1,()))
def atO:KY 74 (bk f40):=⟨0,lB 0 ⟨[(3,.aG 3 0),(40,.lf (.aF .Cell 0)),(41,tI),(42,tI)],[(3,.aB OK)],[]⟩ [(1,mI),(2,⟨[(3,.aG 3 0)],[(3,.aB OK)],[]⟩)] KI,lp [KH]⟩
abbrev agB:=((af×Int×Int×af)×(((aa bZ)×(aa Int)×(aa Int)×af)×af))
def KJ(x:agB):aj (agB⊕(((Bool×af)×(af))⊕(((af)×(af))⊕Empty))):=letI C:=x.1.2.2.1;bif C<x.1.2.1 then xI x.2.1.2.1 C λD=>(cK D 0 100000).bind λE=>bif (!E)then aA ((false,()),())else xI x.2.1.2.2.1 C λI=>(cK I 0 100000).bind λJ=>bif (!J)then aA ((false,()),())else xG (((),x.1.2.1,(W6 (C+1)),()),(x.2.1,()))else bq ((),())
def atP:KY 74 (bk f40):=⟨2,lB 2 ⟨[(3,.aG 3 0),(53,tI),(54,tI)],[(3,.aB OK)],[]⟩ [(1,mI),(4,iG)] KJ,lp [eI]⟩
def Fs(D:aO)(C:dx):aj (Bool):=(oM D).bind λE=>(sZ D).bind λJ=>bif (!J)then some false else (vG D).bind λL=>bif ((C.cells.length:Int) != L)then some false else bif ((C.bC.length:Int) != (W6 (E*D.rows)))then some false else bif ((C.bz.length:Int) != (W6 (E*D.rows)))then some false else cc KI (((),C.cells,(C.cells.length:Int),0,()),((C.cells,C.bC,C.bz,()),())) (λO=>some O.1.1) λI=>cc KJ (((),(I.2.1.2.1.length:Int),0,()),(I.2.1,())) (λQ=>some Q.1.1) λT=>some true
def agC:=cw [(true,.fR),(true,.Array)] cB (bY Fs) 74 [Qq,r5,xJ] [atO,atP] func40
abbrev agD:=((af×(aa Int)×Int×Int×af)×(((aa Int)×Int×Bool×af)×af))
def KM(x:agD):aj (agD⊕(((Bool×af)×(af))⊕(((af×af)×(((aa Int)×Int×Bool×af)×af))⊕Empty))):=letI C:=x.1.2.2;bif C.2.1<C.1 then xI x.1.2.1 C.2.1 λD=>(cK D (-2) 5).bind λE=>bif (!E)then aA ((false,()),())else xG (((),x.1.2.1,C.1,(W6 (C.2.1+1)),()),(x.2.1,()))else bq (((),()),(x.2.1,()))
def atQ:KY 25 (bk f123):=⟨0,lB 0 ⟨[(1,.aG 1 0),(6,.lf (.aF .int 0)),(7,tI),(8,tI)],[(1,.aB B9)],[]⟩ [(1,qP),(2,ad5)] KM,lp [eI]⟩
def As(C:cZ):aj (Bool):=cc KM (((),C.aJ,(C.aJ.length:Int),0,()),((C.aJ,C.wait,C.dN,()),())) (λE=>some E.1.1) λD=>(cK (D.2.1.1.length:Int) 1 8).bind λI=>bif I then (cK D.2.1.2.1 1 10000).bind λJ=>some J else some false
def KN:=cw EH cB (bS As) 25 [eI] [atQ] func123
abbrev agE:=(((aa Int)×Int×Int×Int×af)×(af))
def KO(x:agE):aj (agE⊕(((Int×af)×(af))⊕(((af)×(af))⊕Empty))):=letI C:=x.1.2.2.2.1;bif C<x.1.2.2.1 then xI x.1.1 C λD=>bif (x.1.2.1==D)then aA ((C,()),())else xG ((x.1.1,x.1.2.1,x.1.2.2.1,(W6 (C+1)),()),())else bq ((),())
def atT:KY 19 (bk f199):=⟨0,lB 0 ⟨[(0,.lf (.aF .int 0)),(1,tI),(7,tI),(8,tI)],[],[]⟩ [(1,xl),(2,iG)] KO,lp []⟩
def CF(C:aa Int)(D:Int):aj (Int):=(iter KO aS ((C,D,(C.length:Int),0,()),())).bind (Sum.elim (λE=>some E.1.1) (Sum.elim (λI=>some (-1)) (λz=>nomatch z)))
def XY:=cw EF dO (bY CF) 19 [] [atT] func199
abbrev agF:=((af×(aa Int)×Int×Int×af)×(((aa Int)×(aa Int)×Int×af)×af))
def KP(x:agF):aj (agF⊕(((Bool×af)×(af))⊕(((af)×(af))⊕Empty))):=letI D:=aA ((false,()),());letI C:=x.1.2.2.2.1;letI I:=xG (((),x.1.2.1,x.1.2.2.1,(W6 (C+1)),()),(x.2.1,()));bif C<x.1.2.2.1 then xI x.1.2.1 C λE=>letI J:=bif (E != (-1))then (CF x.2.1.1 E).bind λL=>bif (L != C)then D else I else I;(cK E (-1) 15).bind λO=>bif (!O)then D else xI x.2.1.2.1 C λQ=>(cK Q x.2.1.2.2.1 100000).bind λT=>bif (!T)then D else bif (E==(-1))then xI x.2.1.2.1 C λU=>bif (U != 0)then D else J else J else bq ((),())
def atU:KY 72 (bk f124):=⟨0,lB 0 ⟨[(1,.aG 1 0),(26,.lf (.aF .int 0)),(27,tI),(28,tI)],WX,[]⟩ [(1,qP),(2,iG)] KP,lp [eI,XY]⟩
def At(C:cx):aj (Bool):=letI D:=(C.rows.length:Int);(cK D 1 16).bind λE=>bif (!E)then some false else bif ((C.counts.length:Int) != D)then some false else (cK C.c7 0 100000).bind λI=>bif (!I)then some false else cc KP (((),C.rows,D,0,()),((C.rows,C.counts,C.c7,()),())) (λJ=>some J.1.1) λL=>some true
def agG:=cw [(true,.iR)] cB (bS At) 72 [eI] [atU] func124
def CG(C:aO)(D:aL):aj (Bool):=(sZ C).bind λE=>bif E then (oM C).bind λI=>(cK D.ax 0 (W6 (I-1))).bind λJ=>bif J then (cK D.row 0 (W6 (C.rows-1))).bind λL=>bif L then (cK D.bR 0 (W6 (C.aN-1))).bind λO=>some O else some false else some false else some false
def XZ:=bA OM cB (bY CG) 31 [eI,r5,xJ] func125
abbrev agH:=(((aa aL)×af×Int×Int×af)×((Int×Int×Int×af)×af))
def KQ(x:agH):aj (agH⊕(((Int×af)×(af))⊕(((af)×(af))⊕Empty))):=letI C:=x.1.2.2.2.1;bif C<x.1.2.2.1 then xI x.1.1 C λD=>bif ((x.2.1.1==D.ax)&&((x.2.1.2.1==D.row)&&((x.2.1.2.2.1==D.bR)&&true)))then aA ((C,()),())else xG ((x.1.1,(),x.1.2.2.1,(W6 (C+1)),()),(x.2.1,()))else bq ((),())
def atV:KY 19 (bk f126):=⟨0,lB 0 ⟨[(0,.lf (.aF .Addr 0)),(3,.aG 3 0),(7,tI),(8,tI)],[(3,.aB IM)],[]⟩ [(1,xl),(2,iG)] KQ,lp []⟩
def Ft(D:aa aL)(C:aL):aj (Int):=(iter KQ aS ((D,(),(D.length:Int),0,()),((C.ax,C.row,C.bR,()),()))).bind (Sum.elim (λE=>some E.1.1) (Sum.elim (λI=>some (-1)) (λz=>nomatch z)))
def agI:=cw W8 dO (bY Ft) 19 [] [atV] func126
abbrev agJ:=((af×af×Int×Int×af)×(av×(Int×Int×Int×Int×af)×af))
def Qy(x:agJ):aj (agJ⊕(((Bool×af)×(af))⊕(((af×af×af)×(av×(Int×Int×Int×Int×af)×af))⊕Empty))):=letI C:=x.1.2.2.2.1;bif C<x.1.2.2.1 then xI x.2.1.bK C λD=>(At D).bind λE=>bif (!E)then aA ((false,()),())else xI x.2.1.guard C λI=>(cK I 3 1000).bind λJ=>bif (!J)then aA ((false,()),())else xG (((),(),x.1.2.2.1,(W6 (C+1)),()),(x.2.1,x.2.2.1,()))else bq (((),(),()),(x.2.1,x.2.2.1,()))
def atW:KY 94 (bk f42):=⟨0,lB 0 ⟨[(1,.aG 1 0),(3,.aG 3 0),(47,tI),(48,tI)],Xa,[]⟩ [(1,qP),(2,⟨[(1,.aG 1 0),(3,.aG 3 0)],Xa,[]⟩)] Qy,lp [eI,agG]⟩
abbrev agK:=((af×af×(aa aL)×Int×Int×af)×(av×(Int×Int×Int×Int×af)×af))
def Qz(x:agK):aj (agK⊕(((Bool×af)×(af))⊕(((af)×(af))⊕Empty))):=letI C:=x.2.2.1;letI I:=aA ((false,()),());letI D:=x.1.2.2;letI E:=D.2.2.1;bif E<D.2.1 then xI D.1 E λJ=>(CG (⟨C.1,C.2.1,C.2.2.1,C.2.2.2.1⟩:aO) J).bind λL=>bif (!L)then I else bif (J.bR != 0)then I else (Ft x.2.1.pending J).bind λO=>bif (O != E)then I else xG (((),(),D.1,D.2.1,(W6 (E+1)),()),(x.2.1,C,()))else bq ((),())
def atX:KY 94 (bk f42):=⟨2,lB 2 ⟨[(1,.aG 1 0),(3,.aG 3 0),(69,.lf (.aF .Addr 0)),(70,tI),(71,tI)],Xa,[]⟩ [(1,qP),(4,iG)] Qz,lp [XZ,agI]⟩
def QA(C:av):aj (Bool):=(oM C.config.ay).bind λE=>(As C.aQ).bind λI=>bif (!I)then some false else bif ((C.aQ.aJ.length:Int) != E)then some false else bif ((C.bK.length:Int) != E)then some false else bif ((C.guard.length:Int) != E)then some false else bif (C.pending.length:Int) > 128 then some false else cc Qy (((),(),(C.bK.length:Int),0,()),(C,(C.config.ay.cq,C.config.ay.aC,C.config.ay.rows,C.config.ay.aN,()),())) (λJ=>some J.1.1) λD=>cc Qz (((),(),D.2.1.pending,(D.2.1.pending.length:Int),0,()),(D.2.1,D.2.2.1,())) (λL=>some L.1.1) λO=>some true
def atY:=cw xm cB (bS QA) 94 [r5,KN] [atW,atX] func42
def QB(C D:aX):aj (Bool):=bif C.at_<D.at_ then some true else bif (C.at_==D.at_)then some (C.id<D.id)else some false
def atZ:=bA [(true,.dD),(true,.dD)] cB (bY QB) 24 [] func111
def CH(C:Int):aj (Bool):=(cK C 0 4294967295).bind λD=>some D
def X0:=bA lP cB (bS CH) 5 [eI] func200
def QC(E:Int)(C:aX):aj (Bool):=letI D:=(cK C.at_ 0 1000000).bind λI=>some I;(cK C.id 1 100000).bind λJ=>bif J then (cK C.dB 0 3).bind λL=>bif L then bif C.line >= 0 then bif C.line<E then (CH C.data).bind λO=>bif O then bif C.write then D else bif (C.data==0)then D else some false else some false else some false else some false else some false else some false
def at0:=bA [(false,.int),(true,.dD)] cB (bY QC) 43 [eI,X0] func127
end Go.Proofs.YtglnbhiaknohlaaGreat
