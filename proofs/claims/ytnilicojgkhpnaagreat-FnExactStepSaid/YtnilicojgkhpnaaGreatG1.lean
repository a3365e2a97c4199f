/-
  Functions of the program as plain functions of contents, and that the code computes them. Nothing here is a claim.
-/
import Derived.Test.YtnilicojgkhpnaaGreatVZ
import Derived.Test.YtnilicojgkhpnaaGreatRows
namespace Go.Proofs.YtnilicojgkhpnaaGreat
open Go.RowKit Go.Proofs.Tryz
set_option linter.unusedVariables false
set_option maxRecDepth 100000
abbrev KX:=KC Tryz.prog
abbrev KY:=BK Tryz.prog
abbrev fl:aa Lm:=[.int .i64,.int .i64,.int .i64,.int .i64]
abbrev bH:aa (Bool×TC×Nat):=[(false,.bool,0)]
abbrev zz2:aa (Nat×Rm):=[(1,.st .cx),(3,.az [.int .i64,.int .i64,.int .i64,.int .i64,.int .i64,.int .i64,.int .i64,.int .i64,.int .i64,.int .i64,.int .i64,.int .i64,.int .i64,.int .i64,.int .i64,.int .i64,.int .i64,.int .i64,.int .i64,.int .i64,.int .i64,.int .i64,.bool,.int .i64,.int .i64,.int .i64,.int .i64,.int .i64,.int .i64,.int .i64,.int .i64,.int .i64,.int .i64,.own 1000000000109005,.int .i64,.int .i64,.int .i64,.int .i64,.int .i64,.int .i64,.int .i64,.own 1000000000109013,.int .i64,.int .i64,.bool,.int .i64,.own 1000000000113000,.int .i64,.own 1000000000117000,.own 1000000000117001,.own 1000000000121000,.own 1000000000121001,.own 1000000000121002,.int .i64,.own 1000000000126000,.own 1000000000131000,.int .i64,.bool,.own 33,.aC .int 0,.aC .Addr 0,.aC .cQ 0,.aC .dz 0,.bool,.int .i64,.int .i64,.int .i64,.int .i64,.int .i64,.int .i64,.int .i64,.int .i64,.aC .dG 0,.aC .Event 0,.aC .fo 0]),(1000000000109005,.sl .int 2),(1000000000109013,.sl .int 2),(1000000000113000,.sl .eX 2),(1000000000117000,.sl .int 2),(1000000000117001,.sl .int 2),(1000000000121000,.sl .Cell 4),(1000000000121001,.sl .int 4),(1000000000121002,.sl .int 4),(1000000000126000,.sl .int 2),(1000000000131000,.sl .int 2),(33,.sl .dV 4)]
abbrev zz3:aa (Nat×Rm):=[(1,.az [.int .i64,.int .i64,.int .i64,.int .i64,.int .i64,.int .i64,.int .i64,.int .i64,.int .i64,.int .i64,.int .i64,.int .i64,.int .i64,.int .i64,.int .i64,.int .i64,.int .i64,.int .i64,.int .i64,.int .i64,.int .i64,.int .i64,.bool,.int .i64,.int .i64,.int .i64,.int .i64,.int .i64,.int .i64,.int .i64,.int .i64,.int .i64,.int .i64,.own 1000000000107005,.int .i64,.int .i64,.int .i64,.int .i64,.int .i64,.int .i64,.int .i64,.own 1000000000107013,.int .i64,.int .i64,.bool,.int .i64,.own 1000000000111000,.int .i64,.own 1000000000115000,.own 1000000000115001,.own 1000000000119000,.own 1000000000119001,.own 1000000000119002,.int .i64,.own 1000000000123001,.own 1000000000127000,.int .i64,.bool,.aC .dV 0,.aC .int 0,.aC .Addr 0,.aC .cQ 0,.aC .dz 0,.bool,.int .i64,.int .i64,.int .i64,.int .i64,.int .i64,.int .i64,.int .i64,.int .i64,.aC .dG 0,.aC .Event 0,.aC .fo 0]),(29,.sl .dV 4),(1000000000107005,.sl .int 2),(1000000000107013,.sl .int 2),(1000000000111000,.sl .eX 2),(1000000000115000,.sl .int 2),(1000000000115001,.sl .int 2),(1000000000119000,.sl .Cell 4),(1000000000119001,.sl .int 4),(1000000000119002,.sl .int 4),(1000000000123001,.sl .int 2),(1000000000127000,.sl .int 2)]
abbrev bS:aa (Bool×TC×Nat):=[(false,.int,0)]
abbrev oC:aa Gp:=[(20000,.cx,4,[60033,60041,60046,60048,60049,60050,60051,60052,60054,60055,60058,60059,60060,60061,60062,60072,60073,60074])]
abbrev Hp:bE:=⟨[],[],oC⟩
abbrev NN:aa Gp:=[(20000,.cx,4,[102000033,102000041,102000046,102000048,102000049,102000050,102000051,102000052,102000054,102000055,102000058,102000059,102000060,102000061,102000062,102000072,102000073,102000074])]
abbrev Wj:bE:=⟨[],[],NN⟩
abbrev DF:aa (Nat×Rm):=[(20000,.az [.own 60000,.own 60001,.int .i64]),(60000,.sl .int 2),(60001,.sl .int 2)]
abbrev aqH:aa Lm:=[.own 60000,.own 60001,.own 60002]
abbrev jo:bE:=⟨[(4,tI)],[],[]⟩
abbrev jW:aa (Bool×TC×Nat):=[(false,(.sl .int),2)]
abbrev uj:aa (Nat×Tm):=[(0,.lf (.own 20000)),(1,tI),(5,tI)]
abbrev NO:aa Lm:=[.own 90100,.own 90101,.own 90102]
abbrev adx:aa (Nat×Rm):=[(6,.az NO),(7,.az [.own 1000000000110000,.own 1000000000110001,.own 1000000000110002]),(90100,.sl .Cell 4),(90101,.sl .int 2),(90102,.sl .int 2),(1000000000110000,.sl .Cell 4),(1000000000110001,.sl .int 4),(1000000000110002,.sl .int 4)]
abbrev ady:aa Lm:=[.aC .Cell 0,.aC .int 0,.aC .int 0]
abbrev Hq:aa (Nat×Rm):=[(3,.az ady)]
abbrev Bc:aa Lm:=[.aC .int 0,.int .i64,.bool]
abbrev fJ:bE:=⟨[(4,tB)],[],[]⟩
abbrev DG:aa Lm:=[.int .i64,.int .i64,.int .i64,.int .i64,.int .i64,.aC .int 0,.int .i64,.int .i64]
abbrev NP:aa Gp:=[(2,.cx,4,[90133,90141,90146,90148,90149,90150,90151,90152,90154,90155,90158,90159,90160,90161,90162,90172,90173,90174])]
abbrev adz:aa (Nat×Rm):=[(2,.az fl),(4,.az [.int .i64,.own 90101]),(6,.az [.int .i64,.own 90201]),(90101,.sl .int 2),(90201,.sl .int 2)]
abbrev Wl:bE:=⟨[(1,tI),(2,.aG 2 0),(4,.aG 4 0),(6,.aG 6 0),(7,tI)],adz,[]⟩
abbrev adA:aa (Nat×Rm):=[(20000,.az aqH),(5,.az fl),(60000,.sl .Cell 4),(60001,.sl .int 4),(60002,.sl .int 4)]
abbrev mH:bE:=⟨[(2,tB)],[],[]⟩
abbrev lK:aa (Bool×TC):=[(false,(.sl .int))]
abbrev sj:aa (Nat×Tm):=[(1,tI)]
abbrev qN:bE:=⟨sj,[],[]⟩
abbrev Wm:aa (Nat×Rm):=[(1,.st .cx),(2,.az fl),(1000000000117000,.sl .int 2),(5,.az fl)]
abbrev yD:aa (Bool×TC):=[(false,(.sl .int)),(false,.int)]
abbrev adB:aa (Nat×Rm):=[(2,.az NO),(3,.az [.own 90200,.own 6,.own 10]),(90100,.sl .Cell 4),(90101,.sl .int 2),(90102,.sl .int 2),(90200,.sl .Cell 4),(6,.sl .int 2),(10,.sl .int 2)]
abbrev uk:bE:=⟨[(5,tI)],[],[]⟩
abbrev jX:aa (Bool×TC):=[(false,.int)]
abbrev adC:aa Gp:=[(20000,.cx,4,[60033,60041,60046,60048,60049,60050,60051,60052,60054,60055,60058,60059,1000000000141000,60061,60062,60072,60073,60074])]
abbrev Wn:aa (Nat×Rm):=[(1000000000112000,.sl .dG 2)]
abbrev adD:bE:=⟨[(1,tI),(2,tI),(8,.lf (.own 1000000000112000)),(30,.lf (.own 1000000000112000)),(31,tI),(32,tI)],Wn,[]⟩
abbrev adE:aa (Nat×Rm):=[(2,.az Bc),(4,.az [.own 90100,.int .i64,.bool]),(5,.az [.own 1000000000108000,.int .i64,.bool]),(90100,.sl .int 2),(1000000000108000,.sl .int 2)]
abbrev sk:aa (Nat×Tm):=[(3,.lf (.own 7))]
abbrev DH:aa (Bool×TC):=[(false,(.sl .cQ)),(false,.int)]
abbrev adF:aa (Nat×Rm):=[(18,.sl .int 2),(99004,.sl .int 2),(66,.sl .int 2)]
abbrev adG:bE:=⟨[(3,.lf (.own 18)),(4,.lf (.own 99004)),(8,.lf (.own 66)),(9,tI)],adF,[]⟩
abbrev eC:bE:=⟨[],[],[]⟩
abbrev adH:bE:=⟨[(4,.aG 4 0),(6,.aG 6 0)],[(4,.az [.int .i64,.own 90101]),(6,.az [.int .i64,.own 90201]),(90101,.sl .int 2),(90201,.sl .int 2)],[]⟩
abbrev Bd:aa Lm:=[.aC .int 0,.aC .int 0]
abbrev adJ:bE:=⟨[(5,.aG 5 0),(6,.aG 6 0),(7,.aG 7 0),(9,tI)],[(5,.st .iJ),(6,.az Bd),(7,.az fl)],[]⟩
abbrev pN:aa (Bool×TC):=[(true,.cx)]
abbrev DI:aa (Bool×TC):=[(false,.int),(false,.int)]
abbrev NQ:aa (Bool×TC):=[(false,(.sl .dz)),(false,(.sl .bool))]
abbrev Wo:bE:=⟨[(0,tI),(1,tI),(5,tI),(6,tI)],[],[]⟩
abbrev adK:bE:=⟨[(0,.lf (.aC .int 0)),(3,.lf (.own 10)),(12,tI),(13,tI)],[(10,.sl .int 2)],[]⟩
abbrev adL:bE:=⟨[(1,.aG 1 0),(2,.aG 2 0),(4,.lf (.own 1000000000117000)),(5,.aG 5 0)],Wm,[]⟩
abbrev Wp:bE:=⟨[(3,.lf (.own 5))],[(5,.sl .int 2)],[]⟩
abbrev adM:bE:=⟨[(0,tI),(1,.lf (.aC .cQ 0)),(9,.lf (.aC .cQ 0)),(10,tI),(11,tI)],[],[]⟩
abbrev adN:aa (Nat×Rm):=[(3,.st .cx),(6,.az fl),(8,.az DG),(81,.sl .bool 2),(142,.sl .Command 2),(146,.sl .bool 2)]
abbrev Hr:aa (Bool×TC):=[(true,.jx),(false,.int)]
abbrev Hs:aa (Bool×TC):=[(true,.en),(false,.int)]
abbrev Ht:aa PK:=[.p .cx 4 0,.v false .int]
abbrev adO:bE:=⟨[(0,.lf (.aC .int 0)),(3,.lf (.own 12)),(4,tI)],[(12,.sl .int 2)],[]⟩
abbrev NR:aa (Bool×TC):=[(false,(.sl .Addr)),(false,.int)]
abbrev adP:bE:=⟨[(0,.lf (.aC .dz 0)),(1,.lf (.aC .bool 0)),(5,tI),(6,tI)],[],[]⟩
abbrev adQ:bE:=⟨[(0,.lf (.aC .dG 0)),(7,.lf (.aC .dG 0)),(8,tI),(9,tI)],[],[]⟩
abbrev adR:aa (Nat×Rm):=[(2,.az fl),(3,.az [.int .i64,.aC .int 0])]
abbrev Wq:bE:=⟨[(2,.aG 2 0),(3,.aG 3 0),(7,tI),(8,tI)],adR,[]⟩
abbrev yE:aa Lm:=[.aC .eX 0,.int .i64]
abbrev Wr:aa (Nat×Rm):=[(1,.az [.aC .int 0,.aC .int 0,.int .i64])]
abbrev Ws:bE:=⟨[(0,.lf (.aC .int 0)),(1,tI),(5,tI)],[],[]⟩
abbrev Wt:bE:=⟨[(0,.lf (.aC .cQ 0)),(1,tI),(5,tI)],[],[]⟩
abbrev NS:aa Lm:=[.int .i64,.int .i64,.int .i64]
abbrev Wu:aa (Bool×TC):=[(false,(.sl .dG)),(false,.int),(false,.int)]
abbrev adS:aa (Nat×Tm):=[(2,.aG 20000 50),(12,tI),(75,.lf (.own 1000000000175000)),(76,tI),(77,tI)]
abbrev adT:aa (Bool×TC):=[(false,(.sl .cQ)),(false,(.sl .bool)),(false,(.sl .bool)),(false,.int),(false,.int)]
abbrev Wv:aa (Nat×Rm):=[(98000,.sl .Addr 1000002)]
abbrev adU:bE:=⟨[(0,.lf (.own 98000)),(5,tI)],Wv,[]⟩
abbrev adV:aa (Nat×Rm):=[(2,.az fl),(1000000000116000,.sl .Addr 2),(19,.sl .bool 2),(20,.sl .bool 2)]
abbrev adW:bE:=⟨[(1,.lf (.aC .bool 0)),(6,.lf (.own 9))],[(9,.sl .dz 2)],[]⟩
abbrev adX:bE:=⟨[(1,tI),(2,tI),(8,.lf (.own 1000000000112000))],Wn,[]⟩
abbrev NT:aa (Bool×TC):=[(true,.gG),(false,.int)]
abbrev NU:aa (Bool×TC):=[(true,.en),(true,.jf)]
abbrev NV:aa (Bool×TC):=[(true,.en),(true,.Addr)]
abbrev adY:aa PK:=[.v true .en,.v true .kY,.p .cx 4 50,.v false .int,.v false .int]
abbrev aqI:aa (Nat×Tm):=[(0,.aG 20000 0),(1,tI),(4,tI)]
abbrev adZ:aa (Nat×Rm):=[(11,.sl .Command 2),(1000000000113000,.sl .Addr 2),(14,.sl .bool 2)]
abbrev ad0:bE:=⟨[(0,.lf (.aC .Cell 0)),(1,tI),(5,tI)],[],[]⟩
abbrev ad1:bE:=⟨[(0,.lf (.aC .dV 0)),(1,tI),(5,tI)],[],[]⟩
abbrev ad2:bE:=⟨[(0,.lf (.aC .Addr 0)),(1,tI),(5,tI)],[],[]⟩
abbrev Be:aa (Bool×TC):=[(true,.jx)]
abbrev Hu:bE:=⟨[(6,tI)],[],[]⟩
abbrev ad3:bE:=⟨[(6,.lf (.own 1000000000112000)),(7,tB)],Wn,[]⟩
abbrev Bf:aa (Bool×TC):=[(true,.en)]
abbrev Ww:aa (Bool×TC):=[(false,(.sl .Addr)),(true,.Addr)]
abbrev DJ:aa (Bool×TC×Nat):=[(true,.Command,0)]
abbrev ad4:aa (Nat×Rm):=[(3,.st .cx),(6,.az fl),(8,.az DG),(38,.sl .bool 2)]
abbrev ad5:aa (Nat×Rm):=[(4,.st .cx),(7,.az fl),(8,.az fl),(16,.sl .bool 2)]
abbrev ad6:bE:=⟨[(2,.aG 2 0),(3,tI)],[(2,.az fl)],[]⟩
abbrev ad7:aa (Nat×Rm):=[(4,.az fl),(5,.st .iJ),(6,.az Bd),(7,.az fl)]
abbrev ad8:bE:=⟨[(3,.lf (.own 6))],[(6,.sl .int 2)],[]⟩
abbrev ad9:bE:=⟨[(0,.lf (.aC .int 0)),(1,tI)],[],[]⟩
abbrev Wx:aa PK:=[.p .cx 4 50,.v false .int]
abbrev Wy:aa (Nat×Rm):=[(1,.st .cx),(3,.az fl)]
abbrev DK:aa (Bool×TC):=[(true,.iJ)]
abbrev Wz:aa (Bool×TC×Nat):=[(true,.Addr,0),(false,.bool,0)]
abbrev aea:aa (Bool×TC):=[(true,.iJ),(false,.int),(false,.int),(false,.bool)]
abbrev aeb:aa (Bool×TC):=[(true,.en),(true,.iJ),(true,.Command),(true,.Command)]
abbrev aec:aa (Bool×TC):=[(true,.en),(true,.iJ),(true,.je),(true,.Command)]
abbrev aed:bE:=⟨[(1,.aG 1 0)],[(1,.st .iJ)],[]⟩
abbrev aee:bE:=⟨[(3,.aG 3 0)],[(3,.az Bd)],[]⟩
abbrev aef:bE:=⟨[(1,.aG 1 0)],[(1,.az Bc)],[]⟩
abbrev NW:aa (Bool×TC):=[(false,(.sl .dG))]
abbrev WA:aa (Bool×TC):=[(true,.cQ),(true,.cQ)]
abbrev WB:aa (Bool×TC):=[(true,.en),(true,.Command)]
abbrev aeg:bE:=⟨[(1,.aG 1 0),(3,tI)],Wr,[]⟩
abbrev Hv:aa (Bool×TC×Nat):=[(true,.je,2)]
abbrev aeh:bE:=⟨[(0,.lf (.aC .dz 0))],[],[]⟩
abbrev aei:aa (Bool×TC):=[(true,.gG),(false,.int),(false,(.sl .Addr))]
abbrev aej:aa PK:=[.p .cx 4 0,.v false .int,.v false .int]
abbrev WC:aa (Nat×Rm):=[(3,.az yE),(1000000000115000,.sl .int 2)]
abbrev WD:aa (Bool×TC):=[(true,.cx),(false,.int)]
abbrev aek:aa PK:=[.p .cx 4 0,.v true .Command,.v false .int]
abbrev Hw:aa (Bool×TC):=[(true,.kj)]
abbrev Hx:aa (Bool×TC):=[(true,.gG)]
abbrev Hy:aa (Bool×TC):=[(true,.dV)]
abbrev NX:aa (Nat×Rm):=[(7,.sl .Command 2)]
abbrev NY:aa (Nat×Rm):=[(7,.sl .dz 2)]
abbrev ael:bE:=⟨[(0,tI),(3,tI)],[],[]⟩
abbrev aem:aa (Nat×Tm):=[(1,.aG 1 0),(3,.lf (.own 5)),(4,tI)]
abbrev aen:bE:=⟨[(3,.aG 3 0)],Hq,[]⟩
def pO(D:aa Int)(E:Int):ah (Int):=letI C:=W6 (E-(D.length:Int));bif C<0 then some (-1)else some C
def yF:=aJ yD bS (aY pO) 12 [] func43
def Hz(D:eE)(E:Int):ah (Int):=(pO D.weights E).bind λC=>bif C<0 then some (-1)else some C
def aqJ:=aJ [(true,.kj),(false,.int)] bS (aY Hz) 12 [yF] func19
def NZ(C:fP)(L:Int):ah (Int):=(Hz C.bz L).bind λD=>bif D<0 then some (-1)else (Hz C.next D).bind λE=>bif E<0 then some (-1)else some E
def aqK:=aJ [(true,.iK),(false,.int)] bS (aY NZ) 18 [aqJ] func36
def WE(D:aa cC)(E:Int):ah (Int):=letI C:=W6 (E-(D.length:Int));bif C<0 then some (-1)else some C
def aqL:=aJ [(false,(.sl .eX)),(false,.int)] bS (aY WE) 12 [] func155
def N0(D:bV)(E:Int):ah (Int):=(WE D.ay E).bind λC=>bif C<0 then some (-1)else some C
def aqM:=aJ NT bS (aY N0) 12 [aqL] func37
def N1(C:cP)(L:Int):ah (Int):=(pO C.last L).bind λD=>bif D<0 then some (-1)else (pO C.bg D).bind λE=>bif E<0 then some (-1)else some E
def aqN:=aJ [(true,.je),(false,.int)] bS (aY N1) 18 [yF] func38
def HA(D:bC)(E:Int):ah (Int):=(pO D.symbols E).bind λC=>bif C<0 then some (-1)else some C
def aqO:=aJ [(true,.Cell),(false,.int)] bS (aY HA) 12 [yF] func287
abbrev aeo:=(((aa bC)×Int×Int×af)×(af))
def aep(x:aeo):ah (aeo⊕(((Int×af)×(af))⊕(((Int×af)×(af))⊕Empty))):=bif x.1.2.2.1<(x.1.1.length:Int)then xI x.1.1 x.1.2.2.1 λD=>(HA D x.1.2.1).bind λC=>bif C<0 then aq (((-1),()),())else xG ((x.1.1,C,(W6 (x.1.2.2.1+1)),()),())else aM ((x.1.2.1,()),())
def aqP:KY 27 (aN f156):=⟨0,lB 0 ad0 [(1,jo),(2,qN)] aep,lp [aqO]⟩
def N2(C:aa bC)(E:Int):ah (Int):=letI D:=W6 (E-(C.length:Int));bif D<0 then some (-1)else br aep ((C,D,0,()),()) (λL=>some L.1.1) λO=>some O.1.1
def aqQ:=bJ [(false,(.sl .Cell)),(false,.int)] bS (aY N2) 27 [] [aqP] func156
def N3(C:cF)(O:Int):ah (Int):=(N2 C.cells O).bind λD=>bif D<0 then some (-1)else (pO C.bh D).bind λE=>bif E<0 then some (-1)else (pO C.aZ E).bind λL=>bif L<0 then some (-1)else some L
def aqR:=aJ [(true,.Array),(false,.int)] bS (aY N3) 24 [yF,aqQ] func39
def N4(D:eg)(E:Int):ah (Int):=(pO D.map E).bind λC=>bif C<0 then some (-1)else some C
def aqS:=aJ [(true,.jf),(false,.int)] bS (aY N4) 12 [yF] func40
def N5(D:cK)(E:Int):ah (Int):=(pO D.aE E).bind λC=>bif C<0 then some (-1)else some C
def aqT:=aJ Hr bS (aY N5) 12 [yF] func41
def HB(C:bI)(L:Int):ah (Int):=(pO C.rows L).bind λD=>bif D<0 then some (-1)else (pO C.counts D).bind λE=>bif E<0 then some (-1)else some E
def aqU:=aJ [(true,.dV),(false,.int)] bS (aY HB) 18 [yF] func157
abbrev aeq:=(((aa bI)×Int×Int×af)×(af))
def aer(x:aeq):ah (aeq⊕(((Int×af)×(af))⊕(((Int×af)×(af))⊕Empty))):=bif x.1.2.2.1<(x.1.1.length:Int)then xI x.1.1 x.1.2.2.1 λD=>(HB D x.1.2.1).bind λC=>bif C<0 then aq (((-1),()),())else xG ((x.1.1,C,(W6 (x.1.2.2.1+1)),()),())else aM ((x.1.2.1,()),())
def aqV:KY 27 (aN f42):=⟨0,lB 0 ad1 [(1,jo),(2,qN)] aer,lp [aqU]⟩
def N6(C:aa bI)(E:Int):ah (Int):=letI D:=W6 (E-(C.length:Int));bif D<0 then some (-1)else br aer ((C,D,0,()),()) (λL=>some L.1.1) λO=>some O.1.1
def aqW:=bJ [(false,(.sl .dV)),(false,.int)] bS (aY N6) 27 [] [aqV] func42
def WG(D:aa aF)(E:Int):ah (Int):=letI C:=W6 (E-(D.length:Int));bif C<0 then some (-1)else some C
def aqX:=aJ NR bS (aY WG) 12 [] func44
def WH(D:aa bk)(E:Int):ah (Int):=letI C:=W6 (E-(D.length:Int));bif C<0 then some (-1)else some C
def aqY:=aJ DH bS (aY WH) 12 [] func45
def WI(D:aa bM)(E:Int):ah (Int):=letI C:=W6 (E-(D.length:Int));bif C<0 then some (-1)else some C
def aqZ:=aJ [(false,(.sl .dz)),(false,.int)] bS (aY WI) 12 [] func46
def WJ(D:aa bK)(E:Int):ah (Int):=letI C:=W6 (E-(D.length:Int));bif C<0 then some (-1)else some C
def aq0:=aJ [(false,(.sl .dG)),(false,.int)] bS (aY WJ) 12 [] func47
def WK(D:aa cz)(E:Int):ah (Int):=letI C:=W6 (E-(D.length:Int));bif C<0 then some (-1)else some C
def aq1:=aJ [(false,(.sl .Event)),(false,.int)] bS (aY WK) 12 [] func48
def WL(D:aa cG)(E:Int):ah (Int):=letI C:=W6 (E-(D.length:Int));bif C<0 then some (-1)else some C
def aq2:=aJ [(false,(.sl .fo)),(false,.int)] bS (aY WL) 12 [] func49
def N7(C:av)(x1:Int):ah (Int):=(NZ C.box x1).bind λD=>bif D<0 then some (-1)else (N0 C.aX D).bind λE=>bif E<0 then some (-1)else (N1 C.ready E).bind λL=>bif L<0 then some (-1)else (N3 C.array L).bind λO=>bif O<0 then some (-1)else (N4 C.spare O).bind λT=>bif T<0 then some (-1)else (N5 C.aL T).bind λU=>bif U<0 then some (-1)else (N6 C.bx U).bind λY=>bif Y<0 then some (-1)else (pO C.guard Y).bind λZ=>bif Z<0 then some (-1)else (WG C.pending Z).bind λy9=>bif y9<0 then some (-1)else (WH C.queue y9).bind λfW=>bif fW<0 then some (-1)else (WI C.shares fW).bind λdQ=>bif dQ<0 then some (-1)else (WJ C.errors dQ).bind λfK=>bif fK<0 then some (-1)else (WK C.trace fK).bind λfX=>bif fX<0 then some (-1)else (WL C.cA fX).bind λiB=>bif iB<0 then some (-1)else some iB
def aq3:=aJ WD bS (aY N7) 90 [aqK,aqM,aqN,aqR,aqS,aqT,aqW,yF,aqX,aqY,aqZ,aq0,aq1,aq2] func8
def HC(C:eE):ah (eE):=bif xZ C.weights then some (⟨C.dR,C.cap,C.eI,C.low,C.high,(xA C.weights),C.dO⟩:eE)else none
def aes:=aJ Hw [(true,.kj,2)] (bu HC) 9 [] func288
def N8(C:fP):ah (fP):=(HC C.bz).bind λD=>(HC C.next).bind λE=>some (⟨D,E,C.waits⟩:fP)
def aet:=aJ [(true,.iK)] [(true,.iK,2)] (bu N8) 12 [aes] func158
def WM(C:bV):ah (bV):=bif xZ C.ay then some (⟨(xA C.ay),C.aS⟩:bV)else none
def aq4:=aJ Hx [(true,.gG,2)] (bu WM) 10 [] func159
def sn(C:cP):ah (cP):=bif xZ C.last then bif xZ C.bg then some (⟨(xA C.last),(xA C.bg)⟩:cP)else none else none
def aeu:=aJ [(true,.je)] Hv (bu sn) 12 [] func160
def N9(C:bC):ah (bC):=bif xZ C.symbols then some (⟨(xA C.symbols),C.gx⟩:bC)else none
def aq5:=aJ [(true,.Cell)] [(true,.Cell,2)] (bu N9) 9 [] func289
def aq6:bE:=⟨[(1,.aG 1 0),(2,.aG 2 0),(3,.aG 3 0),(4,tI)],[(1,.az ady),(2,.az NO),(3,.az [.own 90200,.own 5,.own 9]),(90100,.sl .Cell 4),(90101,.sl .int 2),(90102,.sl .int 2),(90200,.sl .Cell 4),(5,.sl .int 2),(9,.sl .int 2)],[]⟩
def aq7:aa (Nat×bE):=[(2,⟨[(2,.aG 2 0),(3,.aG 3 0)],[(2,.az NO),(3,.az [.own 90200,.own 5,.own 9]),(90100,.sl .Cell 4),(90101,.sl .int 2),(90102,.sl .int 2),(90200,.sl .Cell 4),(5,.sl .int 2),(9,.sl .int 2)],[]⟩)]
abbrev aev:=((af×af×af×Int×af)×(((aa bC)×(aa Int)×(aa Int)×af)×(af×af×af×af)×(af×af×af×af)×(aa bC)×(aa Int)×(aa Int)×(aa bC)×(aa Int)×(aa Int)×af))
def HD(x:aev):ah (aev⊕(((af×af×af)×((af×af×af×af)×(af×af×af×af)×(aa bC)×(aa Int)×(aa Int)×(aa bC)×(aa Int)×(aa Int)×af))⊕Empty)):=letI L:=x.1.2.2.2.1;letI E:=((),(),(),());letI D:=x.2.2.2.2.2;letI C:=D.2.2;bif L<(x.2.1.1.length:Int)then xI x.2.1.1 L λT=>(N9 T).bind λO=>bif bD (C.1.length+[O].length)then xG (((),(),(),(W6 (L+1)),()),(x.2.1,E,E,x.2.2.2.2.1,D.1,D.2.1,(C.1++[O]),C.2.1,C.2.2.1,()))else none else aq (((),(),()),(E,E,x.2.2.2.2.1,D.1,D.2.1,C.1,C.2.1,C.2.2.1,()))
def aq8:KY 33 (aN f161):=⟨0,lB 0 aq6 aq7 HD,lp [aq5]⟩
def Oa(C:cF):ah (cF):=bif xZ C.bh then bif xZ C.aZ then aW HD (((),(),(),0,()),((C.cells,C.bh,C.aZ,()),((),(),(),()),((),(),(),()),([]:aa bC),([]:aa Int),([]:aa Int),([]:aa bC),(xA C.bh),(xA C.aZ),())) λE=>letI D:=E.2.2.2.2.2.2;some (⟨D.1,D.2.1,D.2.2.1⟩:cF)else none else none
def aq9:=bJ [(true,.Array)] [(true,.Array,4)] (bu Oa) 33 [] [aq8] func161
def WN(C:eg):ah (eg):=bif xZ C.map then some (⟨C.bT,(xA C.map)⟩:eg)else none
def ara:=aJ [(true,.jf)] [(true,.jf,2)] (bu WN) 10 [] func162
def HE(C:cK):ah (cK):=bif xZ C.aE then some (⟨(xA C.aE),C.wait,C.dj⟩:cK)else none
def aew:=aJ Be [(true,.jx,2)] (bu HE) 9 [] func163
def HF(C:bI):ah (bI):=bif xZ C.rows then bif xZ C.counts then some (⟨(xA C.rows),(xA C.counts),C.cE⟩:bI)else none else none
def aex:=aJ Hy [(true,.dV,2)] (bu HF) 14 [] func164
def arb:bE:=⟨[(1,.aG 1 0),(2,.aG 2 0),(3,.lf (.own 29)),(4,tI)],zz3,NP⟩
def arc:aa (Nat×bE):=[(2,⟨[(1,.aG 1 0),(2,.aG 2 0),(3,.lf (.own 29))],zz3,NP⟩)]
abbrev aey:=((af×af×af×Int×af)×(av×(Int×Int×Int×Int×Int×Int×Int×Int×Int×Int×Int×Int×Int×Int×Int×Int×Int×Int×Int×Int×Int×Int×Bool×Int×Int×Int×Int×Int×Int×Int×Int×Int×Int×af×Int×Int×Int×Int×Int×Int×Int×af×Int×Int×Bool×Int×af×Int×af×af×af×af×af×Int×af×af×Int×Bool×(aa bI)×(aa Int)×(aa aF)×(aa bk)×(aa bM)×Bool×Int×Int×Int×Int×Int×Int×Int×Int×(aa bK)×(aa cz)×(aa cG)×af)×(aa bI)×(aa Int)×(aa Int)×(aa cC)×(aa Int)×(aa Int)×(aa bC)×(aa Int)×(aa Int)×(aa Int)×(aa Int)×af))
def DL(x:aey):ah (aey⊕(((af×af×af×af)×(av×(Int×Int×Int×Int×Int×Int×Int×Int×Int×Int×Int×Int×Int×Int×Int×Int×Int×Int×Int×Int×Int×Int×Bool×Int×Int×Int×Int×Int×Int×Int×Int×Int×Int×af×Int×Int×Int×Int×Int×Int×Int×af×Int×Int×Bool×Int×af×Int×af×af×af×af×af×Int×af×af×Int×Bool×(aa bI)×(aa Int)×(aa aF)×(aa bk)×(aa bM)×Bool×Int×Int×Int×Int×Int×Int×Int×Int×(aa bK)×(aa cz)×(aa cG)×af)×(aa bI)×(aa Int)×(aa Int)×(aa cC)×(aa Int)×(aa Int)×(aa bC)×(aa Int)×(aa Int)×(aa Int)×(aa Int)×af))⊕Empty)):=letI L:=x.1.2.2.2.1;letI C:=x.2.2.2;letI O:=x.2.2.1.2.2.2.2.2.2.2.2.2.2.2.2.2.2.2.2.2.2.2.2.2.2.2.2.2.2.2.2.2.2.2.2.2.2.2.2.2.2.2.2.2.2.2.2.2.2.2.2.2.2.2.2.2.2.2.2.2.2.1;letI E:=C.2.2.2.2;letI D:=E.2.2.2;bif L<(O.length:Int)then xI O L λU=>(HF U).bind λT=>bif bD (C.1.length+[T].length)then xG (((),(),(),(W6 (L+1)),()),(x.2.1,x.2.2.1,(C.1++[T]),C.2.1,C.2.2.1,C.2.2.2.1,E.1,E.2.1,E.2.2.1,D.1,D.2.1,D.2.2.1,D.2.2.2.1,()))else none else aq (((),(),(),()),(x.2.1,x.2.2.1,C.1,C.2.1,C.2.2.1,C.2.2.2.1,E.1,E.2.1,E.2.2.1,D.1,D.2.1,D.2.2.1,D.2.2.2.1,()))
def ard:KY 84 (aN f50):=⟨0,lB 0 arb arc DL,lp [aex]⟩
def HG(C:av):ah (av):=(N8 C.box).bind λD=>(WM C.aX).bind λy2=>(sn C.ready).bind λy3=>(Oa C.array).bind λy4=>(WN C.spare).bind λy5=>(HE C.aL).bind λy6=>aW DL (((),(),(),0,()),((⟨⟨⟨0,0,0,0⟩,⟨0,0,0,0,0,0,0,0,0,0,0,0,0,0,0,0,0⟩,⟨0,false⟩,0,0,0,⟨0,0⟩⟩,⟨⟨0,0,0,0,0,([]:aa Int),⟨0,0⟩⟩,⟨0,0,0,0,0,([]:aa Int),⟨0,0⟩⟩,false⟩,0,⟨([]:aa cC),0⟩,⟨([]:aa Int),([]:aa Int)⟩,⟨([]:aa bC),([]:aa Int),([]:aa Int)⟩,⟨0,([]:aa Int)⟩,⟨([]:aa Int),0,false⟩,([]:aa bI),([]:aa Int),([]:aa aF),([]:aa bk),([]:aa bM),⟨false,0,0⟩,⟨0,0,0⟩,⟨0,0,0⟩,([]:aa bK),([]:aa cz),([]:aa cG)⟩:av),(C.config.aB.cg,C.config.aB.ay,C.config.aB.rows,C.config.aB.aO,C.config.bQ.iG,C.config.bQ.rp,C.config.bQ.fO,C.config.bQ.kS,C.config.bQ.iH,C.config.bQ.iI,C.config.bQ.kT,C.config.bQ.kU,C.config.bQ.hD,C.config.bQ.wr,C.config.bQ.kV,C.config.bQ.kW,C.config.bQ.n6,C.config.bQ.kX,C.config.bQ.lY,C.config.bQ.xp,C.config.bQ.xs,C.config.mapping.order,C.config.mapping.hash,C.config.bT,C.config.interval,C.config.gy,C.config.dg.bh,C.config.dg.aZ,D.bz.dR,D.bz.cap,D.bz.eI,D.bz.low,D.bz.high,(),D.bz.dO.down,D.bz.dO.sleep,D.next.dR,D.next.cap,D.next.eI,D.next.low,D.next.high,(),D.next.dO.down,D.next.dO.sleep,D.waits,C.now,(),y2.aS,(),(),(),(),(),y5.bT,(),(),y6.wait,y6.dj,C.bx,C.guard,C.pending,C.queue,C.shares,C.drain.on,C.drain.low,C.drain.high,C.aS.state,C.aS.since,C.aS.idle,C.cu.next,C.cu.every,C.cu.wait,C.errors,C.trace,C.cA,()),([]:aa bI),D.bz.weights,D.next.weights,y2.ay,y3.last,y3.bg,y4.cells,y4.bh,y4.aZ,y5.map,y6.aE,())) λgW=>letI E:=gW.2.2;letI O:=E.1.2.2.2.2;letI lM:=E.2.2.2.2.2;letI Bg:=lM.2.2.2;letI u3:=O.2.2.2.2.2;letI wo:=u3.2.2.2;letI u7:=wo.2.2.2;letI yG:=u7.2.2.2;letI u1:=yG.2.2.2;letI wq:=u1.2.2.2;letI u8:=wq.2.2.2;letI Ob:=u8.2.2.2;letI u2:=Ob.2.2.2.2;letI Y:=u2.2.2.2;letI T:=Y.2.2.2.2.2;letI u14:=T.2.2.2.2.2.2.2.2.2.2.2;letI Z:=u14.2.2.2;letI u9:=Z.2.2.2.2;letI u16:=u9.2.2;letI U:=u16.2.2.2.2;letI L:=U.2.2.2.2.2;bif xZ Z.2.2.2.1 then bif xZ u9.1 then bif xZ u9.2.1 then bif xZ u16.1 then bif xZ L.2.1 then bif xZ L.2.2.1 then bif xZ L.2.2.2.1 then some (⟨⟨⟨E.1.1,E.1.2.1,E.1.2.2.1,E.1.2.2.2.1⟩,⟨O.1,O.2.1,O.2.2.1,O.2.2.2.1,O.2.2.2.2.1,u3.1,u3.2.1,u3.2.2.1,wo.1,wo.2.1,wo.2.2.1,u7.1,u7.2.1,u7.2.2.1,yG.1,yG.2.1,yG.2.2.1⟩,⟨u1.1,u1.2.1⟩,u1.2.2.1,wq.1,wq.2.1,⟨wq.2.2.1,u8.1⟩⟩,⟨⟨u8.2.1,u8.2.2.1,Ob.1,Ob.2.1,Ob.2.2.1,E.2.2.1,⟨u2.1,u2.2.1⟩⟩,⟨u2.2.2.1,Y.1,Y.2.1,Y.2.2.1,Y.2.2.2.1,E.2.2.2.1,⟨T.1,T.2.1⟩⟩,T.2.2.1⟩,T.2.2.2.1,⟨E.2.2.2.2.1,T.2.2.2.2.2.1⟩,⟨lM.1,lM.2.1⟩,⟨lM.2.2.1,Bg.1,Bg.2.1⟩,⟨u14.1,Bg.2.2.1⟩,⟨Bg.2.2.2.1,Z.1,Z.2.1⟩,E.2.1,(xA Z.2.2.2.1),(xA u9.1),(xA u9.2.1),(xA u16.1),⟨u16.2.1,u16.2.2.1,u16.2.2.2.1⟩,⟨U.1,U.2.1,U.2.2.1⟩,⟨U.2.2.2.1,U.2.2.2.2.1,L.1⟩,(xA L.2.1),(xA L.2.2.1),(xA L.2.2.2.1)⟩:av)else none else none else none else none else none else none else none
def arf:=bJ pN [(true,.cx,4)] (bu HG) 84 [aet,aq4,aeu,aq9,ara,aew] [ard] func50
def ck(C D E:Int):ah (Bool):=bif C >= D then some (C <= E)else some false
def dS:=aJ [(false,.int),(false,.int),(false,.int)] bH (eZ ck) 15 [] func132
def wu(C:aP):ah (Bool):=(ck C.cg 1 2).bind λD=>bif D then (ck C.ay 1 4).bind λE=>bif E then (ck C.rows 2 16).bind λL=>bif L then (ck C.aO 1 8).bind λO=>some O else some false else some false else some false
def DM:=aJ Bf bH (bu wu) 21 [dS] func293
def oD(C:aP):ah (Int):=(wu C).bind λD=>bif (!D)then some 0 else some (W6 (C.cg*C.ay))
def nM:=aJ Bf bS (bu oD) 11 [DM] func255
abbrev aez:=((Int×af×af×af×Int×af)×((Int×Int×Int×Int×af)×(Int×af×af)×(Int×af×af)×(aa Int)×(aa Int)×af))
def HH(x:aez):ah (aez⊕(((af×af×af)×((Int×af×af)×(Int×af×af)×(aa Int)×(aa Int)×af))⊕Empty)):=letI C:=x.2.2.2;letI D:=x.1.2.2.2.2.1;letI E:=W6 (x.2.1.2.2.1-x.1.1);letI L:=([(D.tmod E)]:aa Int);(oD (⟨x.2.1.1,x.2.1.2.1,x.2.1.2.2.1,x.2.1.2.2.2.1⟩:aP)).bind λO=>bif D<(W6 (O*E))then if E=0 then none else bif bD (C.2.2.1.length+L.length)then xG ((x.1.1,(),(),(),(W6 (D+1)),()),(x.2.1,x.2.2.1,C.1,C.2.1,(C.2.2.1++L),()))else none else aq (((),(),()),(x.2.2.1,C.1,C.2.1,C.2.2.1,()))
def arh:KY 49 (aN f257):=⟨0,lB 0 Wl [(2,adH)] HH,lp [nM]⟩
def HI(C:aP)(D:Int):ah (eg×Bool):=letI E:=some ((⟨0,[]⟩:eg),false);(wu C).bind λO=>bif (!O)then E else (ck D 0 2).bind λT=>bif (!T)then E else bif (W6 (C.rows-D))<2 then E else aW HH ((D,(),(),(),0,()),((C.cg,C.ay,C.rows,C.aO,()),(0,(),()),(D,(),()),([]:aa Int),([]:aa Int),())) λL=>some ((⟨L.2.2.1.1,L.2.2.2.2.1⟩:eg),true)
def aeA:=bJ Hs [(true,.jf,2),(false,.bool,0)] (aY HI) 49 [dS,DM] [arh] func257
def WO(C:cI):ah ((aa Int)):=some ([C.iG,C.rp,C.fO,C.kS,C.iH,C.iI,C.kT,C.kU,C.hD,C.wr,C.kV,C.kW,C.n6,C.kX,C.lY,C.xp,C.xs]:aa Int)
def ari:=aJ DK jW (bu WO) 38 [] func441
abbrev aeB:=((af×af×Int×af)×(cI×(aa Int)×af))
def DN(x:aeB):ah (aeB⊕(((Bool×af)×(af))⊕(((af×af)×(cI×af))⊕Empty))):=bif x.1.2.2.1<(x.2.2.1.length:Int)then xL x.2.2.1 x.1.2.2.1 λC=>(ck C 1 64).bind λD=>bif (!D)then aq ((false,()),())else xG (((),(),(W6 (x.1.2.2.1+1)),()),(x.2.1,x.2.2.1,()))else aM (((),()),(x.2.1,()))
def arj:KY 45 (aN f381):=⟨0,lB 0 ⟨[(1,.aG 1 0),(3,.lf (.own 1000000000106000)),(4,tI)],[(1,.st .iJ),(1000000000106000,.sl .int 2)],[]⟩ [(1,mH),(2,aed)] DN,lp [dS]⟩
def Bh(D:cI):ah (Bool):=(WO D).bind λE=>br DN (((),(),0,()),(D,E,())) (λL=>some L.1.1) λO=>letI C:=O.2.1;bif C.iG <= C.fO then bif C.kS <= C.iH then bif C.kT <= C.kU then some (C.kV <= C.kW)else some false else some false else some false
def Oc:=bJ DK bH (bu Bh) 45 [ari] [arj] func381
def DO(C:iF):ah (Bool):=(ck C.order 0 2).bind λD=>some D
def aeC:=aJ [(true,.lZ)] bH (bu DO) 6 [dS] func382
def HJ(C:cI):ah (Int):=(Bh C).bind λD=>bif (!D)then some 0 else some (W6 (2*(W6 ((W6 ((W6 ((W6 ((W6 ((W6 ((W6 ((W6 ((W6 (C.lY+C.xp))+C.fO))+C.wr))+C.hD))+C.rp))+C.kX))+C.iG))+(W6 (8*C.iH))))+16))))
def ark:=aJ DK bS (bu HJ) 35 [Oc] func383
def Od(C:gp):ah (Bool):=(HI C.aB C.bT).bind λD=>bif (!D.2)then some false else (Bh C.bQ).bind λE=>bif (!E)then some false else (DO C.mapping).bind λL=>bif (!L)then some false else (HJ C.bQ).bind λO=>(ck C.interval O 10000).bind λT=>bif (!T)then some false else (ck C.gy 1 16).bind λU=>bif U then (ck C.dg.bh (W6 (6*C.interval)) 100000).bind λY=>bif Y then (ck C.dg.aZ 0 100000).bind λZ=>some Z else some false else some false
def arl:=aJ [(true,.Config)] bH (bu Od) 54 [dS,aeA,Oc,aeC,ark] func290
def Bi(C:fI):ah (Bool):=bif C.low >= 0 then bif C.high <= 12 then some (C.low<C.high)else some false else some false
def Oe:=aJ [(true,.jy)] bH (bu Bi) 18 [] func176
end Go.Proofs.YtnilicojgkhpnaaGreat
