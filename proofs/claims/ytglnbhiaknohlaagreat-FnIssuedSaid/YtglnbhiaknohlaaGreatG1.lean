/-
  Functions of the program as plain functions of contents, and that the code computes them. Nothing here is a claim.
-/
import Derived.Test.YtglnbhiaknohlaaGreatVZ
import Derived.Test.YtglnbhiaknohlaaGreatRows
namespace Go.Proofs.YtglnbhiaknohlaaGreat
set_option linter.defProp false
open Go.RowKit Go.Proofs.Tryz
set_option linter.unusedVariables false
set_option maxRecDepth 100000
abbrev KX:=KC Tryz.prog
abbrev KY:=BK Tryz.prog
abbrev lK:aa Gp:=[(20000,.de,4,[60033,60041,60046,60048,60049,60050,60051,60052,60054,60055,60058,60059,60060,60061,60062,60072,60073,60074])]
abbrev zz1:aa (Nat×Rm):=[(1,.st .de),(3,.aC [.int .i64,.int .i64,.int .i64,.int .i64,.int .i64,.int .i64,.int .i64,.int .i64,.int .i64,.int .i64,.int .i64,.int .i64,.int .i64,.int .i64,.int .i64,.int .i64,.int .i64,.int .i64,.int .i64,.int .i64,.int .i64,.int .i64,.bool,.int .i64,.int .i64,.int .i64,.int .i64,.int .i64,.int .i64,.int .i64,.int .i64,.int .i64,.int .i64,.own 1000000000109005,.int .i64,.int .i64,.int .i64,.int .i64,.int .i64,.int .i64,.int .i64,.own 1000000000109013,.int .i64,.int .i64,.bool,.int .i64,.own 1000000000113000,.int .i64,.own 1000000000117000,.own 1000000000117001,.own 1000000000121000,.own 1000000000121001,.own 1000000000121002,.int .i64,.own 1000000000126000,.own 1000000000131000,.int .i64,.bool,.own 33,.aI .int 0,.aI .Addr 0,.aI .dV 0,.aI .fU 0,.bool,.int .i64,.int .i64,.int .i64,.int .i64,.int .i64,.int .i64,.int .i64,.int .i64,.aI .gw 0,.aI .Event 0,.aI .mC 0]),(1000000000109005,.sl .int 2),(1000000000109013,.sl .int 2),(1000000000113000,.sl .ld 2),(1000000000117000,.sl .int 2),(1000000000117001,.sl .int 2),(1000000000121000,.sl .Cell 4),(1000000000121001,.sl .int 4),(1000000000121002,.sl .int 4),(1000000000126000,.sl .int 2),(1000000000131000,.sl .int 2),(33,.sl .hD 4)]
abbrev zz2:aa (Nat×Rm):=[(1,.aC [.int .i64,.int .i64,.int .i64,.int .i64,.int .i64,.int .i64,.int .i64,.int .i64,.int .i64,.int .i64,.int .i64,.int .i64,.int .i64,.int .i64,.int .i64,.int .i64,.int .i64,.int .i64,.int .i64,.int .i64,.int .i64,.int .i64,.bool,.int .i64,.int .i64,.int .i64,.int .i64,.int .i64,.int .i64,.int .i64,.int .i64,.int .i64,.int .i64,.own 1000000000107005,.int .i64,.int .i64,.int .i64,.int .i64,.int .i64,.int .i64,.int .i64,.own 1000000000107013,.int .i64,.int .i64,.bool,.int .i64,.own 1000000000111000,.int .i64,.own 1000000000115000,.own 1000000000115001,.own 1000000000119000,.own 1000000000119001,.own 1000000000119002,.int .i64,.own 1000000000123001,.own 1000000000127000,.int .i64,.bool,.aI .hD 0,.aI .int 0,.aI .Addr 0,.aI .dV 0,.aI .fU 0,.bool,.int .i64,.int .i64,.int .i64,.int .i64,.int .i64,.int .i64,.int .i64,.int .i64,.aI .gw 0,.aI .Event 0,.aI .mC 0]),(29,.sl .hD 4),(1000000000107005,.sl .int 2),(1000000000107013,.sl .int 2),(1000000000111000,.sl .ld 2),(1000000000115000,.sl .int 2),(1000000000115001,.sl .int 2),(1000000000119000,.sl .Cell 4),(1000000000119001,.sl .int 4),(1000000000119002,.sl .int 4),(1000000000123001,.sl .int 2),(1000000000127000,.sl .int 2)]
abbrev cg:aa (Bool×TC×Nat):=[(false,.bool,0)]
abbrev N1:aa Gp:=[(20000,.de,4,[102000033,102000041,102000046,102000048,102000049,102000050,102000051,102000052,102000054,102000055,102000058,102000059,102000060,102000061,102000062,102000072,102000073,102000074])]
abbrev en:aa (Bool×TC×Nat):=[(false,.int,0)]
abbrev gW:bU:=⟨[(4,tB)],[],[]⟩
abbrev V8:aa Nat:=[90133,90141,90146,90148,90149,90150,90151,90152,90154,90155,90158,90159,90160,90161,90162,90172,90173,90174]
abbrev zz7:aa Gp:=[(6,.de,4,V8),(8,.de,4,[1000000000115033,1000000000115041,1000000000115046,1000000000115048,1000000000115049,1000000000115050,1000000000115051,1000000000115052,1000000000115054,1000000000115055,1000000000115058,1000000000115059,1000000000115060,1000000000115061,1000000000115062,1000000000115072,1000000000115073,1000000000115074])]
abbrev ia:aa Lm:=[.int .i64,.int .i64,.int .i64,.int .i64]
abbrev N2:aa Lm:=[.int .i64,.own 90101]
abbrev zz9:aa (Nat×Rm):=[(2,.aC ia),(4,.aC N2),(6,.aC [.int .i64,.own 90201]),(90101,.sl .int 2),(90201,.sl .int 2)]
abbrev Eb:aa (Nat×Rm):=[(20000,.aC [.own 60000,.own 60001,.int .i64]),(60000,.sl .int 2),(60001,.sl .int 2)]
abbrev adk:aa Gp:=[(4,.de,4,V8),(6,.de,4,[1000000000137005,1000000000137013,1000000000119000,1000000000122000,1000000000122001,1000000000125000,1000000000125001,1000000000125002,1000000000146001,1000000000154000,90258,90259,90260,90261,90262,90272,90273,90274])]
abbrev n7:bU:=⟨[(2,tB)],[],[]⟩
abbrev nG:aa (Bool×TC×Nat):=[(false,(.sl .int),2)]
abbrev N3:aa Lm:=[.own 90100,.own 90101,.own 90102]
abbrev adl:aa (Nat×Rm):=[(1,.aC ia),(2,.aC N3),(3,.aC [.own 90200,.own 90201,.own 90202]),(90100,.sl .Cell 4),(90101,.sl .int 2),(90102,.sl .int 2),(90200,.sl .Cell 4),(90201,.sl .int 2),(90202,.sl .int 2)]
abbrev adm:aa (Nat×Rm):=[(2,.aC N3),(3,.aC [.own 90200,.own 6,.own 10]),(90100,.sl .Cell 4),(90101,.sl .int 2),(90102,.sl .int 2),(90200,.sl .Cell 4),(6,.sl .int 2),(10,.sl .int 2)]
abbrev N4:aa Lm:=[.aI .Cell 0,.aI .int 0,.aI .int 0]
abbrev n8:aa (Bool×TC):=[(false,(.sl .int))]
abbrev lM:aa (Bool×TC):=[(false,.int)]
abbrev HP:aa (Bool×TC):=[(true,.fH),(true,.oA),(false,.int),(false,.int)]
abbrev xg:bU:=⟨[(5,tI)],[],[]⟩
abbrev V9:aa (Nat×Rm):=[(1000000000112000,.sl .gw 2)]
abbrev adn:bU:=⟨[(1,tI),(2,tI),(8,.lf (.own 1000000000112000)),(30,.lf (.own 1000000000112000)),(31,tI),(32,tI)],V9,[]⟩
abbrev ado:bU:=⟨[(4,.aO 4 0),(6,.aO 6 0)],[(4,.aC N2),(6,.aC [.int .i64,.own 90201]),(90101,.sl .int 2),(90201,.sl .int 2)],[]⟩
abbrev zN:bU:=⟨[(4,tI)],[],[]⟩
abbrev adp:aa (Nat×Rm):=[(18,.sl .int 2),(99004,.sl .int 2),(66,.sl .int 2)]
abbrev adq:bU:=⟨[(3,.lf (.own 18)),(4,.lf (.own 99004)),(8,.lf (.own 66)),(9,tI)],adp,[]⟩
abbrev BU:aa (Bool×TC):=[(false,.int),(false,.int)]
abbrev HQ:aa Lm:=[.aI .int 0,.int .i64,.bool]
abbrev Wa:aa (Nat×Rm):=[(1,.aC [.aI .int 0,.aI .int 0,.int .i64])]
abbrev HR:aa (Bool×TC):=[(false,(.sl .int)),(false,.int)]
abbrev qY:aa PK:=[.p .rK 0 0]
abbrev fN:bU:=⟨[],[],[]⟩
abbrev HS:aa Lm:=[.int .i64,.int .i64,.int .i64,.bool,.int .i64,.int .i64]
abbrev adr:aa Gp:=[(20000,.de,4,[60033,60041,60046,60048,60049,60050,60051,60052,60054,60055,60058,60059,1000000000141000,60061,60062,60072,60073,60074])]
abbrev Wb:bU:=⟨[(1,tI),(2,.aO 2 0),(4,.aO 4 0),(6,.aO 6 0),(7,tI)],zz9,[]⟩
abbrev BV:aa Lm:=[.aI .int 0,.aI .int 0]
abbrev ads:bU:=⟨[(5,.aO 5 0),(6,.aO 6 0),(7,.aO 7 0),(9,tI)],[(5,.st .kf),(6,.aC BV),(7,.aC ia)],[]⟩
abbrev N5:aa (Bool×TC):=[(false,(.sl .fU)),(false,(.sl .bool))]
abbrev Wc:bU:=⟨[(0,tI),(1,tI),(5,tI),(6,tI)],[],[]⟩
abbrev adt:bU:=⟨[(0,.lf (.aI .int 0)),(3,.lf (.own 10)),(12,tI),(13,tI)],[(10,.sl .int 2)],[]⟩
abbrev We:bU:=⟨[(3,.lf (.own 5))],[(5,.sl .int 2)],[]⟩
abbrev vf:aa (Bool×TC):=[(true,.fH)]
abbrev HT:aa (Bool×TC):=[(true,.fH),(false,.int)]
abbrev adu:aa Lm:=[.int .i64,.int .i64,.int .i64,.int .i64,.int .i64,.aI .int 0,.int .i64,.int .i64]
abbrev HU:aa PK:=[.p .de 4 0,.v false .int]
abbrev adv:bU:=⟨[(0,.lf (.aI .int 0)),(3,.lf (.own 12)),(4,tI)],[(12,.sl .int 2)],[]⟩
abbrev adw:bU:=⟨[(0,.lf (.aI .fU 0)),(1,.lf (.aI .bool 0)),(5,tI),(6,tI)],[],[]⟩
abbrev adx:bU:=⟨[(0,.lf (.aI .gw 0)),(7,.lf (.aI .gw 0)),(8,tI),(9,tI)],[],[]⟩
abbrev Wf:aa (Bool×TC):=[(false,(.sl .gw)),(false,.int),(false,.int)]
abbrev ady:aa (Nat×Tm):=[(2,.aO 20000 50),(12,tI),(75,.lf (.own 1000000000175000)),(76,tI),(77,tI)]
abbrev Ec:bU:=⟨[],[],lK⟩
abbrev Wg:aa (Nat×Rm):=[(98000,.sl .Addr 1000002)]
abbrev adz:bU:=⟨[(0,.lf (.own 98000)),(5,tI)],Wg,[]⟩
abbrev adA:aa (Nat×Rm):=[(2,.aC ia),(1000000000116000,.sl .Addr 2),(19,.sl .bool 2),(20,.sl .bool 2)]
abbrev N6:aa Lm:=[.int .i64,.aI .int 0]
abbrev Wh:bU:=⟨[(2,.aO 2 0),(3,.aO 3 0),(7,tI),(8,tI)],[(2,.aC ia),(3,.aC N6)],[]⟩
abbrev BW:aa Lm:=[.aI .ld 0,.int .i64]
abbrev HV:aa Lm:=[.int .i64,.int .i64,.int .i64]
abbrev adB:bU:=⟨[(0,tI),(1,.lf (.aI .dV 0)),(9,.lf (.aI .dV 0)),(10,tI),(11,tI)],[],[]⟩
abbrev adC:bU:=⟨[(1,.lf (.aI .bool 0)),(6,.lf (.own 9))],[(9,.sl .fU 2)],[]⟩
abbrev adD:bU:=⟨[(1,tI),(2,tI),(8,.lf (.own 1000000000112000))],V9,[]⟩
abbrev Wi:aa Lm:=[.int .i64,.own 1000000000114001]
abbrev N7:aa PK:=[.p .rK 0 0,.v false .int]
abbrev N8:aa (Bool×TC):=[(true,.fH),(true,.Addr)]
abbrev N9:aa (Bool×TC):=[(true,.fH),(true,.oA)]
abbrev adE:aa PK:=[.v true .fH,.v true .sQ,.p .de 4 50,.v false .int,.v false .int]
abbrev aq9:aa (Nat×Tm):=[(0,.aO 20000 0),(1,tI),(4,tI)]
abbrev adF:aa (Nat×Rm):=[(11,.sl .Command 2),(1000000000113000,.sl .Addr 2),(14,.sl .bool 2)]
abbrev adG:bU:=⟨[(0,.lf (.aI .dV 0)),(1,tI),(5,tI)],[],[]⟩
abbrev adH:bU:=⟨[(0,.lf (.aI .int 0)),(1,tI),(5,tI)],[],[]⟩
abbrev BX:aa (Bool×TC):=[(true,.de)]
abbrev HW:aa (Nat×Rm):=[(3,.aC N4)]
abbrev Wj:aa (Bool×TC):=[(false,(.sl .dV)),(false,.int)]
abbrev Wl:aa (Bool×TC):=[(false,(.sl .Addr)),(true,.Addr)]
abbrev adJ:bU:=⟨[(3,.lf (.own 6))],[(6,.sl .int 2)],[]⟩
abbrev Oa:aa Gp:=[(2,.de,4,V8)]
abbrev Wm:aa PK:=[.p .de 4 50,.v false .int]
abbrev Wn:aa (Nat×Rm):=[(1,.st .de),(3,.aC ia)]
abbrev adK:bU:=⟨[(6,.lf (.own 1000000000112000)),(7,tB)],V9,[]⟩
abbrev Wo:aa (Nat×Tm):=[(2,.aO 2 0),(3,.aO 3 0),(5,tI)]
abbrev adL:aa (Nat×Rm):=[(4,.aC ia),(5,.st .kf),(6,.aC BV),(7,.aC ia)]
abbrev adM:bU:=⟨[(0,.lf (.aI .int 0)),(1,tI)],[],[]⟩
abbrev Wp:bU:=⟨[(6,tI)],[],[]⟩
abbrev Wq:aa (Bool×TC×Nat):=[(true,.pz,2),(false,.bool,0)]
abbrev Wr:aa (Bool×TC×Nat):=[(true,.de,4),(false,.bool,0)]
abbrev Ws:aa (Bool×TC×Nat):=[(true,.Addr,0),(false,.bool,0)]
abbrev Wt:aa PK:=[.p .rK 0 0,.v true .fH]
abbrev adN:aa (Bool×TC):=[(true,.kf),(false,.int),(false,.int),(false,.bool)]
abbrev adO:aa (Bool×TC):=[(true,.fH),(true,.kf),(true,.Command),(true,.Command)]
abbrev adP:aa (Bool×TC):=[(true,.fH),(true,.kf),(true,.lU),(true,.Command)]
abbrev adQ:bU:=⟨[(1,.aO 1 0)],[(1,.st .kf)],[]⟩
abbrev adR:bU:=⟨[(1,.aO 1 0)],[(1,.aC HQ)],[]⟩
abbrev adS:aa (Nat×Tm):=[(1,.aO 1 0),(2,.aO 2 0),(3,.aO 3 0),(4,tI)]
abbrev Wu:aa (Bool×TC):=[(true,.fH),(true,.Command)]
abbrev adT:bU:=⟨[(1,.aO 1 0),(3,tI)],Wa,[]⟩
abbrev adU:bU:=⟨[(0,.lf (.aI .fU 0))],[],[]⟩
abbrev adV:aa PK:=[.p .de 4 0,.v false .int,.v false .int]
abbrev adW:aa PK:=[.p .de 4 0,.v true .Command,.v false .int]
abbrev adX:aa PK:=[.p .rK 0 0,.v true .Config,.v false .int]
abbrev HX:aa (Bool×TC):=[(true,.mA)]
abbrev HY:aa (Bool×TC):=[(true,.kf)]
abbrev adY:aa Lm:=[.int .i64,.own 1000000000138001]
abbrev Ob:aa (Nat×Rm):=[(7,.sl .Command 2)]
abbrev adZ:bU:=⟨[(0,tI),(3,tI)],[],[]⟩
abbrev ad0:aa Lm:=[.own 20001,.int .i64,.int .i64]
abbrev ad1:bU:=⟨[(3,.aO 3 0)],[(3,.aC BV)],[]⟩
abbrev Wv:aa (Bool×TC):=[(true,.Config),(true,.mB)]
abbrev HZ:aa (Bool×TC):=[(true,.mB)]
abbrev Ww:bU:=⟨[],[],N1⟩
abbrev ad2:aa (Nat×Tm):=[(1,.aO 1 0),(2,.aO 2 0),(3,.aO 3 0)]
abbrev ad3:aa (Nat×Tm):=[(1,.aO 1 0),(3,.lf (.own 5)),(4,tI)]
abbrev ad4:bU:=⟨[(3,.aO 3 0)],HW,[]⟩
def Oc(C:aa Int):ah (Bool):=some ((C.length:Int) > 1048576)
def ara:=bD [(false,(.sl .u8))] cg (bP Oc) 6 [] func7
abbrev ad5:=((af×Int×Int×af)×((aa Int)×af))
def H6(x:ad5):ah (ad5⊕(((af×Int×af)×((aa Int)×af))⊕Empty)):=letI C:=x.1.2.2.1;letI D:=az (((),x.1.2.1,()),(x.2.1,()));bif C<(x.2.1.length:Int)then bif C<4000 then xI x.2.1 C λE=>xG (((),(bits .and .i64 (W6 ((W6 ((W6 (x.1.2.1*131))+(W6 E)))+7)) 1073741823),(W6 (C+1)),()),(x.2.1,()))else D else D
def ad6:KY 32 (bw f25):=⟨0,lB 0 ⟨[(0,.lf (.own 20000)),(3,tI),(4,tI)],[(20000,.sl .u8 0)],[]⟩ [(2,⟨[(0,.lf (.own 20000)),(3,tI)],[(20000,.sl .u8 0)],[]⟩)] H6,lp []⟩
def BY(C:aa Int):ah Int:=bA H6 (((),(W6 (97301+(C.length:Int))),0,()),(C,())) λD=>some D.1.2.1
def arb:enters Tryz.prog 25/\M5 Tryz.prog 25 BY:=aqC (N:=32) (fn:=f25) (code:=bw f25) (Φ:=(me [])) (Λ:=(jV [(0,ad6.b)])) func25 (by kernel_rfl) (by kernel_rfl) (by kernel_rfl) (by kernel_rfl) (by kernel_rfl) (tK _ trivial) (V4 (by kernel_rfl) _ ⟨⟨_,by kernel_rfl,ad6.ok⟩,trivial⟩) (λl=>by kernel_rfl)
def zO(C:aX):ah ((Int)×(aX×af)):=letI D:=W6 ((W6 (C.h*6364136223846793005))+1442695040888963407);letI E:=bits .and .i64 (bits .xor .i64 (D.fdiv (2 ^ (min (33:Int).toNat IntKind.i64.bits))) (D.fdiv (2 ^ (min (45:Int).toNat IntKind.i64.bits)))) 255;bif C.i<(C.b.length:Int)then xI C.b C.i λI=>some ((bits .and .i64 (W6 (E+(W6 I))) 255),((⟨C.b,(W6 (C.i+1)),D⟩:aX),()))else some (E,((⟨C.b,C.i,D⟩:aX),()))
def arc:=gV qY en (bP zO) 58 [] func94
def cX(C:aX)(D:Int):ah ((Int)×(aX×af)):=bif D <= 0 then some (0,(C,()))else bif D <= 256 then (zO C).bind λE=>if D=0 then none else some ((E.1.tmod D),((⟨C.b,E.2.1.i,E.2.1.h⟩:aX),()))else (zO C).bind λI=>(zO (⟨C.b,I.2.1.i,I.2.1.h⟩:aX)).bind λL=>(zO (⟨C.b,L.2.1.i,L.2.1.h⟩:aX)).bind λO=>(zO (⟨C.b,O.2.1.i,O.2.1.h⟩:aX)).bind λT=>if D=0 then none else some (((W6 ((W6 ((W6 ((W6 (I.1*16777216))+(W6 (L.1*65536))))+(W6 (O.1*256))))+T.1)).tmod D),((⟨C.b,T.2.1.i,T.2.1.h⟩:aX),()))
def iJ:=gV N7 en (bV cX) 37 [arc] func26
def qZ(D:aX)(E:Int):ah ((Bool)×(aX×af)):=(cX D E).bind λC=>some ((C.1==0),((⟨D.b,C.2.1.i,C.2.1.h⟩:aX),()))
def tM:=gV N7 cg (bV qZ) 9 [iJ] func61
def Od(C:aX):ah ((aN)×(aX×af)):=(cX C 2).bind λD=>(cX (⟨C.b,D.2.1.i,D.2.1.h⟩:aX) 3).bind λE=>(cX (⟨C.b,E.2.1.i,E.2.1.h⟩:aX) 2).bind λI=>some ((⟨1,(W6 (1+D.1)),(W6 (2+E.1)),(W6 (1+I.1))⟩:aN),((⟨C.b,I.2.1.i,I.2.1.h⟩:aX),()))
def ard:=gV qY [(true,.fH,0)] (bP Od) 13 [iJ] func188
def Oe  : ah (cP):=some (⟨3,3,7,2,3,10,2,3,3,6,4,5,4,12,3,4,16⟩:cP)
def ad7:=bD [] [(true,.kf,0)] (V5 Oe) 2 [] func189
def Of(C:aX):ah ((m9)×(aX×af)):=(cX C 3).bind λD=>(qZ (⟨C.b,D.2.1.i,D.2.1.h⟩:aX) 2).bind λE=>some ((⟨D.1,E.1⟩:m9),((⟨C.b,E.2.1.i,E.2.1.h⟩:aX),()))
def arf:=gV qY [(true,.rI,0)] (bP Of) 8 [iJ,tM] func190
def H7(D:aX):ah ((eB)×(aX×af)):=(Od D).bind λE=>(Oe).bind λC=>(Of (⟨D.b,E.2.1.i,E.2.1.h⟩:aX)).bind λI=>(cX (⟨D.b,I.2.1.i,I.2.1.h⟩:aX) 60).bind λY=>letI L:=W6 (200+Y.1);(cX (⟨D.b,Y.2.1.i,Y.2.1.h⟩:aX) 3).bind λO=>(cX (⟨D.b,O.2.1.i,O.2.1.h⟩:aX) 2).bind λT=>(cX (⟨D.b,T.2.1.i,T.2.1.h⟩:aX) 3).bind λU=>(qZ (⟨D.b,U.2.1.i,U.2.1.h⟩:aX) 3).bind λZ=>letI u1:=(⟨D.b,Z.2.1.i,Z.2.1.h⟩:aX);bif Z.1 then (cX u1 5).bind λy9=>(cX (⟨D.b,y9.2.1.i,y9.2.1.h⟩:aX) 4).bind λji=>some ((⟨⟨(W6 (1+T.1)),E.1.aB,(W6 (4+O.1)),E.1.aM⟩,⟨C.fB,C.rp,C.ef,C.gn,C.fo,C.fC,C.gp,C.ga,(W6 (1+ji.1)),(W6 (4+y9.1)),C.gd,C.gq,C.gO,C.gu,C.gv,C.xp,C.xs⟩,I.1,U.1,L,16,⟨(W6 (6*L)),40⟩⟩:eB),((⟨D.b,ji.2.1.i,ji.2.1.h⟩:aX),()))else some ((⟨⟨(W6 (1+T.1)),E.1.aB,(W6 (4+O.1)),E.1.aM⟩,C,I.1,U.1,L,16,⟨(W6 (6*L)),40⟩⟩:eB),(u1,()))
def ad8:=gV qY [(true,.Config,0)] (bP H7) 44 [iJ,tM,ard,ad7,arf] func90
def vg(C:dM):ah (dM):=bif xZ C.weights then some (⟨C.dz,C.cap,C.dK,C.low,C.high,(xA C.weights),C.cN⟩:dM)else none
def Og:=bD HZ [(true,.mB,2)] (bP vg) 9 [] func240
def H8(C:iR):ah (iR):=(vg C.bz).bind λD=>(vg C.next).bind λE=>some (⟨D,E,C.waits⟩:iR)
def Wx:=bD [(true,.pz)] [(true,.pz,2)] (bP H8) 12 [Og] func152
def Wy(C:cD):ah (cD):=bif xZ C.aB then some (⟨(xA C.aB),C.aR⟩:cD)else none
def arh:=bD [(true,.iS)] [(true,.iS,2)] (bP Wy) 10 [] func153
def tN(C:dy):ah (dy):=bif xZ C.last then bif xZ C.bf then some (⟨(xA C.last),(xA C.bf)⟩:dy)else none else none
def ad9:=bD [(true,.lU)] [(true,.lU,2)] (bP tN) 12 [] func154
def H9(C:bX):ah (bX):=bif xZ C.symbols then some (⟨(xA C.symbols),C.jb⟩:bX)else none
def aea:=bD [(true,.Cell)] [(true,.Cell,2)] (bP H9) 9 [] func241
def ari:bU:=⟨adS,[(1,.aC N4),(2,.aC N3),(3,.aC [.own 90200,.own 5,.own 9]),(90100,.sl .Cell 4),(90101,.sl .int 2),(90102,.sl .int 2),(90200,.sl .Cell 4),(5,.sl .int 2),(9,.sl .int 2)],[]⟩
def arj:aa (Nat×bU):=[(2,⟨[(2,.aO 2 0),(3,.aO 3 0)],[(2,.aC N3),(3,.aC [.own 90200,.own 5,.own 9]),(90100,.sl .Cell 4),(90101,.sl .int 2),(90102,.sl .int 2),(90200,.sl .Cell 4),(5,.sl .int 2),(9,.sl .int 2)],[]⟩)]
abbrev aeb:=((af×af×af×Int×af)×(((aa bX)×(aa Int)×(aa Int)×af)×(af×af×af×af)×(af×af×af×af)×(aa bX)×(aa Int)×(aa Int)×(aa bX)×(aa Int)×(aa Int)×af))
def Ia(x:aeb):ah (aeb⊕(((af×af×af)×((af×af×af×af)×(af×af×af×af)×(aa bX)×(aa Int)×(aa Int)×(aa bX)×(aa Int)×(aa Int)×af))⊕Empty)):=letI I:=x.1.2.2.2.1;letI E:=((),(),(),());letI D:=x.2.2.2.2.2;letI C:=D.2.2;bif I<(x.2.1.1.length:Int)then xI x.2.1.1 I λO=>(H9 O).bind λL=>bif bF (C.1.length+[L].length)then xG (((),(),(),(W6 (I+1)),()),(x.2.1,E,E,x.2.2.2.2.1,D.1,D.2.1,(C.1++[L]),C.2.1,C.2.2.1,()))else none else az (((),(),()),(E,E,x.2.2.2.2.1,D.1,D.2.1,C.1,C.2.1,C.2.2.1,()))
def ark:KY 33 (bw f155):=⟨0,lB 0 ari arj Ia,lp [aea]⟩
def Oh(C:dU):ah (dU):=bif xZ C.br then bif xZ C.bh then bA Ia (((),(),(),0,()),((C.cells,C.br,C.bh,()),((),(),(),()),((),(),(),()),([]:aa bX),([]:aa Int),([]:aa Int),([]:aa bX),(xA C.br),(xA C.bh),())) λE=>letI D:=E.2.2.2.2.2.2;some (⟨D.1,D.2.1,D.2.2.1⟩:dU)else none else none
def arl:=cu [(true,.Array)] [(true,.Array,4)] (bP Oh) 33 [] [ark] func155
def Ib(C:dG):ah (dG):=bif xZ C.map then some (⟨C.bB,(xA C.map)⟩:dG)else none
def aec:=bD [(true,.oA)] [(true,.oA,2)] (bP Ib) 10 [] func156
def BZ(C:dn):ah (dn):=bif xZ C.aH then some (⟨(xA C.aH),C.wait,C.dL⟩:dn)else none
def Wz:=bD HX [(true,.mA,2)] (bP BZ) 9 [] func157
def Ic(C:ck):ah (ck):=bif xZ C.rows then bif xZ C.counts then some (⟨(xA C.rows),(xA C.counts),C.c9⟩:ck)else none else none
def aed:=bD [(true,.hD)] [(true,.hD,2)] (bP Ic) 14 [] func158
def arn:bU:=⟨[(1,.aO 1 0),(2,.aO 2 0),(3,.lf (.own 29)),(4,tI)],zz2,Oa⟩
def aro:aa (Nat×bU):=[(2,⟨[(1,.aO 1 0),(2,.aO 2 0),(3,.lf (.own 29))],zz2,Oa⟩)]
abbrev aee:=((af×af×af×Int×af)×(av×(Int×Int×Int×Int×Int×Int×Int×Int×Int×Int×Int×Int×Int×Int×Int×Int×Int×Int×Int×Int×Int×Int×Bool×Int×Int×Int×Int×Int×Int×Int×Int×Int×Int×af×Int×Int×Int×Int×Int×Int×Int×af×Int×Int×Bool×Int×af×Int×af×af×af×af×af×Int×af×af×Int×Bool×(aa ck)×(aa Int)×(aa aJ)×(aa aU)×(aa cw)×Bool×Int×Int×Int×Int×Int×Int×Int×Int×(aa cq)×(aa fk)×(aa eR)×af)×(aa ck)×(aa Int)×(aa Int)×(aa eP)×(aa Int)×(aa Int)×(aa bX)×(aa Int)×(aa Int)×(aa Int)×(aa Int)×af))
def Ed(x:aee):ah (aee⊕(((af×af×af×af)×(av×(Int×Int×Int×Int×Int×Int×Int×Int×Int×Int×Int×Int×Int×Int×Int×Int×Int×Int×Int×Int×Int×Int×Bool×Int×Int×Int×Int×Int×Int×Int×Int×Int×Int×af×Int×Int×Int×Int×Int×Int×Int×af×Int×Int×Bool×Int×af×Int×af×af×af×af×af×Int×af×af×Int×Bool×(aa ck)×(aa Int)×(aa aJ)×(aa aU)×(aa cw)×Bool×Int×Int×Int×Int×Int×Int×Int×Int×(aa cq)×(aa fk)×(aa eR)×af)×(aa ck)×(aa Int)×(aa Int)×(aa eP)×(aa Int)×(aa Int)×(aa bX)×(aa Int)×(aa Int)×(aa Int)×(aa Int)×af))⊕Empty)):=letI I:=x.1.2.2.2.1;letI C:=x.2.2.2;letI L:=x.2.2.1.2.2.2.2.2.2.2.2.2.2.2.2.2.2.2.2.2.2.2.2.2.2.2.2.2.2.2.2.2.2.2.2.2.2.2.2.2.2.2.2.2.2.2.2.2.2.2.2.2.2.2.2.2.2.2.2.2.2.1;letI E:=C.2.2.2.2;letI D:=E.2.2.2;bif I<(L.length:Int)then xI L I λT=>(Ic T).bind λO=>bif bF (C.1.length+[O].length)then xG (((),(),(),(W6 (I+1)),()),(x.2.1,x.2.2.1,(C.1++[O]),C.2.1,C.2.2.1,C.2.2.2.1,E.1,E.2.1,E.2.2.1,D.1,D.2.1,D.2.2.1,D.2.2.2.1,()))else none else az (((),(),(),()),(x.2.1,x.2.2.1,C.1,C.2.1,C.2.2.1,C.2.2.2.1,E.1,E.2.1,E.2.2.1,D.1,D.2.1,D.2.2.1,D.2.2.2.1,()))
def arp:KY 84 (bw f70):=⟨0,lB 0 arn aro Ed,lp [aed]⟩
def Ee(C:av):ah (av):=(H8 C.box).bind λD=>(Wy C.bk).bind λy2=>(tN C.ready).bind λy3=>(Oh C.array).bind λy4=>(Ib C.spare).bind λy5=>(BZ C.aL).bind λy6=>bA Ed (((),(),(),0,()),((⟨⟨⟨0,0,0,0⟩,⟨0,0,0,0,0,0,0,0,0,0,0,0,0,0,0,0,0⟩,⟨0,false⟩,0,0,0,⟨0,0⟩⟩,⟨⟨0,0,0,0,0,([]:aa Int),⟨0,0⟩⟩,⟨0,0,0,0,0,([]:aa Int),⟨0,0⟩⟩,false⟩,0,⟨([]:aa eP),0⟩,⟨([]:aa Int),([]:aa Int)⟩,⟨([]:aa bX),([]:aa Int),([]:aa Int)⟩,⟨0,([]:aa Int)⟩,⟨([]:aa Int),0,false⟩,([]:aa ck),([]:aa Int),([]:aa aJ),([]:aa aU),([]:aa cw),⟨false,0,0⟩,⟨0,0,0⟩,⟨0,0,0⟩,([]:aa cq),([]:aa fk),([]:aa eR)⟩:av),(C.config.ax.bR,C.config.ax.aB,C.config.ax.rows,C.config.ax.aM,C.config.aE.fB,C.config.aE.rp,C.config.aE.ef,C.config.aE.gn,C.config.aE.fo,C.config.aE.fC,C.config.aE.gp,C.config.aE.ga,C.config.aE.eT,C.config.aE.wr,C.config.aE.gd,C.config.aE.gq,C.config.aE.gO,C.config.aE.gu,C.config.aE.gv,C.config.aE.xp,C.config.aE.xs,C.config.mapping.order,C.config.mapping.hash,C.config.bB,C.config.interval,C.config.eD,C.config.cA.br,C.config.cA.bh,D.bz.dz,D.bz.cap,D.bz.dK,D.bz.low,D.bz.high,(),D.bz.cN.down,D.bz.cN.sleep,D.next.dz,D.next.cap,D.next.dK,D.next.low,D.next.high,(),D.next.cN.down,D.next.cN.sleep,D.waits,C.now,(),y2.aR,(),(),(),(),(),y5.bB,(),(),y6.wait,y6.dL,C.bH,C.guard,C.pending,C.queue,C.shares,C.drain.on,C.drain.low,C.drain.high,C.aR.state,C.aR.since,C.aR.idle,C.bY.next,C.bY.every,C.bY.wait,C.errors,C.trace,C.cr,()),([]:aa ck),D.bz.weights,D.next.weights,y2.aB,y3.last,y3.bf,y4.cells,y4.br,y4.bh,y5.map,y6.aH,())) λfq=>letI E:=fq.2.2;letI L:=E.1.2.2.2.2;letI kB:=E.2.2.2.2.2;letI B0:=kB.2.2.2;letI u3:=L.2.2.2.2.2;letI sk:=u3.2.2.2;letI u7:=sk.2.2.2;letI tO:=u7.2.2.2;letI u1:=tO.2.2.2;letI sn:=u1.2.2.2;letI u8:=sn.2.2.2;letI Oi:=u8.2.2.2;letI u2:=Oi.2.2.2.2;letI U:=u2.2.2.2;letI O:=U.2.2.2.2.2;letI B1:=O.2.2.2.2.2.2.2.2.2.2.2;letI Y:=B1.2.2.2;letI Z:=Y.2.2.2.2;letI u16:=Z.2.2;letI T:=u16.2.2.2.2;letI I:=T.2.2.2.2.2;bif xZ Y.2.2.2.1 then bif xZ Z.1 then bif xZ Z.2.1 then bif xZ u16.1 then bif xZ I.2.1 then bif xZ I.2.2.1 then bif xZ I.2.2.2.1 then some (⟨⟨⟨E.1.1,E.1.2.1,E.1.2.2.1,E.1.2.2.2.1⟩,⟨L.1,L.2.1,L.2.2.1,L.2.2.2.1,L.2.2.2.2.1,u3.1,u3.2.1,u3.2.2.1,sk.1,sk.2.1,sk.2.2.1,u7.1,u7.2.1,u7.2.2.1,tO.1,tO.2.1,tO.2.2.1⟩,⟨u1.1,u1.2.1⟩,u1.2.2.1,sn.1,sn.2.1,⟨sn.2.2.1,u8.1⟩⟩,⟨⟨u8.2.1,u8.2.2.1,Oi.1,Oi.2.1,Oi.2.2.1,E.2.2.1,⟨u2.1,u2.2.1⟩⟩,⟨u2.2.2.1,U.1,U.2.1,U.2.2.1,U.2.2.2.1,E.2.2.2.1,⟨O.1,O.2.1⟩⟩,O.2.2.1⟩,O.2.2.2.1,⟨E.2.2.2.2.1,O.2.2.2.2.2.1⟩,⟨kB.1,kB.2.1⟩,⟨kB.2.2.1,B0.1,B0.2.1⟩,⟨B1.1,B0.2.2.1⟩,⟨B0.2.2.2.1,Y.1,Y.2.1⟩,E.2.1,(xA Y.2.2.2.1),(xA Z.1),(xA Z.2.1),(xA u16.1),⟨u16.2.1,u16.2.2.1,u16.2.2.2.1⟩,⟨T.1,T.2.1,T.2.2.1⟩,⟨T.2.2.2.1,T.2.2.2.2.1,I.1⟩,(xA I.2.1),(xA I.2.2.1),(xA I.2.2.2.1)⟩:av)else none else none else none else none else none else none else none
def aef:=cu BX [(true,.de,4)] (bP Ee) 84 [Wx,arh,ad9,arl,aec,Wz] [arp] func70
def cx(C D E:Int):ah (Bool):=bif C >= D then some (C <= E)else some false
def eH:=bD [(false,.int),(false,.int),(false,.int)] cg (gA cx) 15 [] func95
def sq(C:aN):ah (Bool):=(cx C.bR 1 2).bind λD=>bif D then (cx C.aB 1 4).bind λE=>bif E then (cx C.rows 2 16).bind λI=>bif I then (cx C.aM 1 8).bind λL=>some L else some false else some false else some false
def xh:=bD vf cg (bP sq) 21 [eH] func27
def kQ(C:aN):ah (Int):=(sq C).bind λD=>bif (!D)then some 0 else some (W6 (C.bR*C.aB))
def kC:=bD vf en (bP kQ) 11 [xh] func28
abbrev aeg:=((Int×af×af×af×Int×af)×((Int×Int×Int×Int×af)×(Int×af×af)×(Int×af×af)×(aa Int)×(aa Int)×af))
def Ie(x:aeg):ah (aeg⊕(((af×af×af)×((Int×af×af)×(Int×af×af)×(aa Int)×(aa Int)×af))⊕Empty)):=letI C:=x.2.2.2;letI D:=x.1.2.2.2.2.1;letI E:=W6 (x.2.1.2.2.1-x.1.1);letI I:=([(D.tmod E)]:aa Int);(kQ (⟨x.2.1.1,x.2.1.2.1,x.2.1.2.2.1,x.2.1.2.2.2.1⟩:aN)).bind λL=>bif D<(W6 (L*E))then if E=0 then none else bif bF (C.2.2.1.length+I.length)then xG ((x.1.1,(),(),(),(W6 (D+1)),()),(x.2.1,x.2.2.1,C.1,C.2.1,(C.2.2.1++I),()))else none else az (((),(),()),(x.2.2.1,C.1,C.2.1,C.2.2.1,()))
def arq:KY 49 (bw f96):=⟨0,lB 0 Wb [(2,ado)] Ie,lp [kC]⟩
def Ef(C:aN)(D:Int):ah (dG×Bool):=letI E:=some ((⟨0,[]⟩:dG),false);(sq C).bind λL=>bif (!L)then E else (cx D 0 2).bind λO=>bif (!O)then E else bif (W6 (C.rows-D))<2 then E else bA Ie ((D,(),(),(),0,()),((C.bR,C.aB,C.rows,C.aM,()),(0,(),()),(D,(),()),([]:aa Int),([]:aa Int),())) λI=>some ((⟨I.2.2.1.1,I.2.2.2.2.1⟩:dG),true)
def WA:=cu HT [(true,.oA,2),(false,.bool,0)] (bV Ef) 49 [xh,eH] [arq] func96
def Eg(D:aN):ah (cD):=(kQ D).bind λC=>if 0 <= C/\C <= C/\C<1073741824 then some (⟨(List.replicate C.toNat (⟨false,0⟩:eP)),0⟩:cD)else none
def vh:=bD vf [(true,.iS,2)] (bP Eg) 7 [kC] func134
def WB(C:cP):ah ((aa Int)):=some ([C.fB,C.rp,C.ef,C.gn,C.fo,C.fC,C.gp,C.ga,C.eT,C.wr,C.gd,C.gq,C.gO,C.gu,C.gv,C.xp,C.xs]:aa Int)
def ars:=bD HY nG (bP WB) 38 [] func345
abbrev aeh:=((af×af×Int×af)×(cP×(aa Int)×af))
def Eh(x:aeh):ah (aeh⊕(((Bool×af)×(af))⊕(((af×af)×(cP×af))⊕Empty))):=bif x.1.2.2.1<(x.2.2.1.length:Int)then xL x.2.2.1 x.1.2.2.1 λC=>(cx C 1 64).bind λD=>bif (!D)then az ((false,()),())else xG (((),(),(W6 (x.1.2.2.1+1)),()),(x.2.1,x.2.2.1,()))else aT (((),()),(x.2.1,()))
def art:KY 45 (bw f317):=⟨0,lB 0 ⟨[(1,.aO 1 0),(3,.lf (.own 1000000000106000)),(4,tI)],[(1,.st .kf),(1000000000106000,.sl .int 2)],[]⟩ [(1,n7),(2,adQ)] Eh,lp [eH]⟩
def B2(D:cP):ah (Bool):=(WB D).bind λE=>bM Eh (((),(),0,()),(D,E,())) (λI=>some I.1.1) λL=>letI C:=L.2.1;bif C.fB <= C.ef then bif C.gn <= C.fo then bif C.gp <= C.ga then some (C.gd <= C.gq)else some false else some false else some false
def Oj:=cu HY cg (bP B2) 45 [ars] [art] func317
def Ei(C:m9):ah (Bool):=(cx C.order 0 2).bind λD=>some D
def aei:=bD [(true,.rI)] cg (bP Ei) 6 [eH] func318
def Ig(C:cP):ah (Int):=(B2 C).bind λD=>bif (!D)then some 0 else some (W6 (2*(W6 ((W6 ((W6 ((W6 ((W6 ((W6 ((W6 ((W6 ((W6 (C.gv+C.xp))+C.ef))+C.wr))+C.eT))+C.rp))+C.gu))+C.fB))+(W6 (8*C.fo))))+16))))
def aru:=bD HY en (bP Ig) 35 [Oj] func319
def Ok(C:eB):ah (Bool):=(Ef C.ax C.bB).bind λD=>bif (!D.2)then some false else (B2 C.aE).bind λE=>bif (!E)then some false else (Ei C.mapping).bind λI=>bif (!I)then some false else (Ig C.aE).bind λL=>(cx C.interval L 10000).bind λO=>bif (!O)then some false else (cx C.eD 1 16).bind λT=>bif T then (cx C.cA.br (W6 (6*C.interval)) 100000).bind λU=>bif U then (cx C.cA.bh 0 100000).bind λY=>some Y else some false else some false
def arv:=bD [(true,.Config)] cg (bP Ok) 54 [eH,WA,Oj,aei,aru] func242
def B3(C:jn):ah (Bool):=bif C.low >= 0 then bif C.high <= 12 then some (C.low<C.high)else some false else some false
def Ol:=bD [(true,.rJ)] cg (bP B3) 18 [] func167
abbrev aej:=(((aa cw)×Int×af)×(af))
def Ih(x:aej):ah (aej⊕(((Bool×af)×(af))⊕((((aa cw)×af)×(af))⊕Empty))):=letI C:=x.1.2.1;bif C<(x.1.1.length:Int)then xI x.1.1 C λD=>(cx D.weight 1 9).bind λE=>bif (!E)then az ((false,()),())else xI x.1.1 C λI=>xI x.1.1 C λL=>(cx I.fD 0 L.weight).bind λO=>bif (!O)then az ((false,()),())else xG ((x.1.1,(W6 (C+1)),()),())else aT ((x.1.1,()),())
def arw:KY 34 (bw f166):=⟨0,lB 0 ⟨[(0,.lf (.aI .fU 0)),(3,tI)],[],[]⟩ [(1,n7),(2,adU)] Ih,lp [eH]⟩
def Ej(C:aa cw):ah (Bool):=bM Ih ((C,0,()),()) (λD=>some D.1.1) λE=>(cx (E.1.1.length:Int) 1 4).bind λI=>some I
def WC:=cu [(false,(.sl .fU))] cg (bP Ej) 34 [eH] [arw] func166
abbrev aek:=(((aa Int)×af×Int×af)×((aa cw)×af))
def Ii(x:aek):ah (aek⊕(((af×af)×((aa cw)×af))⊕Empty)):=letI D:=az (((),()),(x.2.1,()));letI C:=x.1.2.2.1;bif C<(x.1.1.length:Int)then bif C <= 4 then xI x.1.1 C λI=>xI x.1.1 C λL=>letI E:=([(⟨I,L⟩:cw)]:aa cw);bif bF (x.2.1.length+E.length)then xG ((x.1.1,(),(W6 (C+1)),()),((x.2.1++E),()))else none else D else D
def arx:KY 34 (bw f279):=⟨0,lB 0 ⟨[(0,.lf (.aI .int 0)),(4,.lf (.own 6)),(5,tI)],[(6,.sl .fU 2)],[]⟩ [(2,⟨[(4,.lf (.own 6))],[(6,.sl .fU 2)],[]⟩)] Ii,lp []⟩
def zP(D:aa Int):ah ((aa cw)×Bool):=bA Ii ((D,(),0,()),(([]:aa cw),())) λC=>(Ej C.2.1).bind λE=>bif (!E)then some (([]:aa cw),false)else some (C.2.1,true)
def WD:=cu n8 [(false,(.sl .fU),2),(false,.bool,0)] (bP zP) 34 [WC] [arx] func279
def Ij(C:qx):ah (Bool):=(cx C.down 1 10000).bind λD=>bif D then bif C.sleep > C.down then some (C.sleep <= 20000)else some false else some false
def ael:=bD [(true,.uB)] cg (bP Ij) 18 [eH] func299
def El(C:dM):ah (Bool):=(zP C.weights).bind λD=>(cx C.dz 0 1).bind λE=>bif E then (cx C.cap 0 100000).bind λI=>bif I then (cx C.dK 3 1000).bind λL=>bif L then (B3 (⟨false,C.low,C.high⟩:jn)).bind λO=>bif O then bif D.2 then bif ((C.weights.length:Int)==4)then (Ij C.cN).bind λT=>some T else some false else some false else some false else some false else some false else some false
def WE:=bD HZ cg (bP El) 46 [eH,Ol,WD,ael] func243
def Om(C:Int):ah (Int):=(cx C 3 1000).bind λD=>bif (!D)then some 0 else some (W6 ((W6 (2*C))+2))
def ary:=bD lM en (bP Om) 9 [eH] func244
def xj(C:eB)(D:dM):ah (Bool):=letI E:=W6 (C.aE.ef+C.aE.rp);(Ok C).bind λI=>bif (!I)then some false else (El D).bind λL=>bif (!L)then some false else (Om D.dK).bind λO=>bif (W6 (O+2)) <= C.cA.bh then if E=0 then none else some ((W6 ((W6 (C.eD+1))*D.dK)) > (W6 ((W6 ((W6 (5*C.interval)).tdiv E))+2)))else some false
def WG:=bD Wv cg (bV xj) 42 [arv,WE,ary] func159
abbrev aem:=((Int×af×Int×af)×((aa Int)×af))
def Ik(x:aem):ah (aem⊕(((af×af)×((aa Int)×af))⊕Empty)):=letI C:=x.1.2.2.1;bif C<x.1.1 then xL x.2.1 C λD=>xG ((x.1.1,(),(W6 (C+1)),()),((x.2.1.set C.toNat (-1:Int)),()))else az (((),()),(x.2.1,()))
def arz:KY 16 (bw f324):=⟨0,lB 0 ⟨[(0,tI),(3,.lf (.own 6)),(4,tI)],[(6,.sl .int 2)],[]⟩ [(2,adJ)] Ik,lp []⟩
def Il(C:Int):ah ((aa Int)):=if 0 <= C/\C <= C/\C<1073741824 then bA Ik ((C,(),0,()),((List.replicate C.toNat (0:Int)),())) λD=>some D.2.1 else none
def aen:=cu lM nG (bP Il) 16 [] [arz] func324
def Em(C:Int):ah (ck×Bool):=(cx C 1 16).bind λD=>bif (!D)then some ((⟨[],[],0⟩:ck),false)else (Il C).bind λE=>if 0 <= C/\C <= C/\C<1073741824 then some ((⟨E,(List.replicate C.toNat (0:Int)),0⟩:ck),true)else none
def aeo:=bD lM [(true,.hD,2),(false,.bool,0)] (bP Em) 13 [eH,aen] func264
def On(C:aN):ah (dy):=(sq C).bind λD=>bif (!D)then some (⟨[],[]⟩:dy)else (kQ C).bind λE=>(Il (W6 (9*(W6 (E+1))))).bind λI=>some (⟨I,[]⟩:dy)
def arB:=bD vf [(true,.lU,2)] (bP On) 13 [xh,kC,aen] func275
def pW(C:aN):ah (Int):=(sq C).bind λD=>bif (!D)then some 0 else (kQ C).bind λE=>some (W6 ((W6 (E*C.rows))*C.aM))
def B4:=bD vf en (bP pW) 14 [xh,kC] func10
end Go.Proofs.YtglnbhiaknohlaaGreat
