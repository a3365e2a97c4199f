/-
  Functions of the program as plain functions of contents, and that the code computes them. Nothing here is a claim.
-/
import Derived.Test.YtglnbhiaknohlaaGreatVZ
import Derived.Test.YtglnbhiaknohlaaGreatRows
namespace Go.Proofs.YtglnbhiaknohlaaGreat
open Go.RowKit Go.Proofs.Tryz
set_option linter.unusedVariables false
set_option maxRecDepth 100000
abbrev KX:=KC Tryz.prog
abbrev KY:=BK Tryz.prog
abbrev lO:aa Gp:=[(20000,.cV,4,[60033,60041,60046,60048,60049,60050,60051,60052,60054,60055,60058,60059,60060,60061,60062,60072,60073,60074])]
abbrev zz1:aa (Nat×Rm):=[(1,.st .cV),(3,.aB [.int .i64,.int .i64,.int .i64,.int .i64,.int .i64,.int .i64,.int .i64,.int .i64,.int .i64,.int .i64,.int .i64,.int .i64,.int .i64,.int .i64,.int .i64,.int .i64,.int .i64,.int .i64,.int .i64,.int .i64,.int .i64,.int .i64,.bool,.int .i64,.int .i64,.int .i64,.int .i64,.int .i64,.int .i64,.int .i64,.int .i64,.int .i64,.int .i64,.own 1000000000109005,.int .i64,.int .i64,.int .i64,.int .i64,.int .i64,.int .i64,.int .i64,.own 1000000000109013,.int .i64,.int .i64,.bool,.int .i64,.own 1000000000113000,.int .i64,.own 1000000000117000,.own 1000000000117001,.own 1000000000121000,.own 1000000000121001,.own 1000000000121002,.int .i64,.own 1000000000126000,.own 1000000000131000,.int .i64,.bool,.own 33,.aF .int 0,.aF .Addr 0,.aF .dD 0,.aF .gj 0,.bool,.int .i64,.int .i64,.int .i64,.int .i64,.int .i64,.int .i64,.int .i64,.int .i64,.aF .gK 0,.aF .Event 0,.aF .pz 0]),(1000000000109005,.sl .int 2),(1000000000109013,.sl .int 2),(1000000000113000,.sl .nI 2),(1000000000117000,.sl .int 2),(1000000000117001,.sl .int 2),(1000000000121000,.sl .Cell 4),(1000000000121001,.sl .int 4),(1000000000121002,.sl .int 4),(1000000000126000,.sl .int 2),(1000000000131000,.sl .int 2),(33,.sl .iR 4)]
abbrev zz2:aa (Nat×Rm):=[(1,.aB [.int .i64,.int .i64,.int .i64,.int .i64,.int .i64,.int .i64,.int .i64,.int .i64,.int .i64,.int .i64,.int .i64,.int .i64,.int .i64,.int .i64,.int .i64,.int .i64,.int .i64,.int .i64,.int .i64,.int .i64,.int .i64,.int .i64,.bool,.int .i64,.int .i64,.int .i64,.int .i64,.int .i64,.int .i64,.int .i64,.int .i64,.int .i64,.int .i64,.own 1000000000107005,.int .i64,.int .i64,.int .i64,.int .i64,.int .i64,.int .i64,.int .i64,.own 1000000000107013,.int .i64,.int .i64,.bool,.int .i64,.own 1000000000111000,.int .i64,.own 1000000000115000,.own 1000000000115001,.own 1000000000119000,.own 1000000000119001,.own 1000000000119002,.int .i64,.own 1000000000123001,.own 1000000000127000,.int .i64,.bool,.aF .iR 0,.aF .int 0,.aF .Addr 0,.aF .dD 0,.aF .gj 0,.bool,.int .i64,.int .i64,.int .i64,.int .i64,.int .i64,.int .i64,.int .i64,.int .i64,.aF .gK 0,.aF .Event 0,.aF .pz 0]),(29,.sl .iR 4),(1000000000107005,.sl .int 2),(1000000000107013,.sl .int 2),(1000000000111000,.sl .nI 2),(1000000000115000,.sl .int 2),(1000000000115001,.sl .int 2),(1000000000119000,.sl .Cell 4),(1000000000119001,.sl .int 4),(1000000000119002,.sl .int 4),(1000000000123001,.sl .int 2),(1000000000127000,.sl .int 2)]
abbrev OF:aa Gp:=[(20000,.cV,4,[102000033,102000041,102000046,102000048,102000049,102000050,102000051,102000052,102000054,102000055,102000058,102000059,102000060,102000061,102000062,102000072,102000073,102000074])]
abbrev cB:aa (Bool×TC×Nat):=[(false,.bool,0)]
abbrev zY:aa Lm:=[.int .i64,.int .i64,.int .i64,.int .i64,.int .i64,.aF .int 0,.int .i64,.int .i64]
abbrev dO:aa (Bool×TC×Nat):=[(false,.int,0)]
abbrev WU:aa Nat:=[90133,90141,90146,90148,90149,90150,90151,90152,90154,90155,90158,90159,90160,90161,90162,90172,90173,90174]
abbrev zz7:aa Gp:=[(6,.cV,4,WU),(8,.cV,4,[1000000000115033,1000000000115041,1000000000115046,1000000000115048,1000000000115049,1000000000115050,1000000000115051,1000000000115052,1000000000115054,1000000000115055,1000000000115058,1000000000115059,1000000000115060,1000000000115061,1000000000115062,1000000000115072,1000000000115073,1000000000115074])]
abbrev fE:aa Lm:=[.int .i64,.int .i64,.int .i64,.int .i64]
abbrev OG:aa Lm:=[.int .i64,.own 90101]
abbrev zz9:aa (Nat×Rm):=[(2,.aB fE),(4,.aB OG),(6,.aB [.int .i64,.own 90201]),(90101,.sl .int 2),(90201,.sl .int 2)]
abbrev WV:aa (Nat×Rm):=[(1,.st .cV),(2,.aB fE),(1000000000117000,.sl .int 2),(5,.aB fE)]
abbrev EE:aa (Nat×Rm):=[(20000,.aB [.own 60000,.own 60001,.int .i64]),(60000,.sl .int 2),(60001,.sl .int 2)]
abbrev mI:bJ:=⟨[(4,tB)],[],[]⟩
abbrev nc:aa (Bool×TC×Nat):=[(false,(.sl .int),2)]
abbrev IG:aa Lm:=[.own 90100,.own 90101,.own 90102]
abbrev adq:aa (Nat×Rm):=[(6,.aB IG),(7,.aB [.own 1000000000110000,.own 1000000000110001,.own 1000000000110002]),(90100,.sl .Cell 4),(90101,.sl .int 2),(90102,.sl .int 2),(1000000000110000,.sl .Cell 4),(1000000000110001,.sl .int 4),(1000000000110002,.sl .int 4)]
abbrev qP:bJ:=⟨[(2,tB)],[],[]⟩
abbrev adr:aa (Nat×Rm):=[(1,.aB fE),(2,.aB IG),(3,.aB [.own 90200,.own 90201,.own 90202]),(90100,.sl .Cell 4),(90101,.sl .int 2),(90102,.sl .int 2),(90200,.sl .Cell 4),(90201,.sl .int 2),(90202,.sl .int 2)]
abbrev oJ:aa (Bool×TC):=[(false,(.sl .int))]
abbrev B9:aa Lm:=[.aF .int 0,.int .i64,.bool]
abbrev ads:aa (Nat×Rm):=[(2,.aB IG),(3,.aB [.own 90200,.own 6,.own 10]),(90100,.sl .Cell 4),(90101,.sl .int 2),(90102,.sl .int 2),(90200,.sl .Cell 4),(6,.sl .int 2),(10,.sl .int 2)]
abbrev lP:aa (Bool×TC):=[(false,.int)]
abbrev II:aa (Bool×TC):=[(true,.fR),(true,.om),(false,.int),(false,.int)]
abbrev vC:bJ:=⟨[(5,tI)],[],[]⟩
abbrev xl:bJ:=⟨[(4,tI)],[],[]⟩
abbrev WW:aa (Nat×Rm):=[(1000000000112000,.sl .gK 2)]
abbrev adt:bJ:=⟨[(1,tI),(2,tI),(8,.lf (.own 1000000000112000)),(30,.lf (.own 1000000000112000)),(31,tI),(32,tI)],WW,[]⟩
abbrev adu:bJ:=⟨[(4,.aG 4 0),(6,.aG 6 0)],[(4,.aB OG),(6,.aB [.int .i64,.own 90201]),(90101,.sl .int 2),(90201,.sl .int 2)],[]⟩
abbrev EF:aa (Bool×TC):=[(false,(.sl .int)),(false,.int)]
abbrev adv:aa (Nat×Rm):=[(18,.sl .int 2),(99004,.sl .int 2),(66,.sl .int 2)]
abbrev adw:bJ:=⟨[(3,.lf (.own 18)),(4,.lf (.own 99004)),(8,.lf (.own 66)),(9,tI)],adv,[]⟩
abbrev Ca:aa (Bool×TC):=[(false,.int),(false,.int)]
abbrev WX:aa (Nat×Rm):=[(1,.aB [.aF .int 0,.aF .int 0,.int .i64])]
abbrev Cb:aa Lm:=[.aF .nI 0,.int .i64]
abbrev WY:aa (Nat×Rm):=[(3,.aB Cb),(1000000000115000,.sl .int 2)]
abbrev iG:bJ:=⟨[],[],[]⟩
abbrev adx:aa Gp:=[(4,.cV,4,WU),(6,.cV,4,[1000000000137005,1000000000137013,1000000000119000,1000000000122000,1000000000122001,1000000000125000,1000000000125001,1000000000125002,1000000000146001,1000000000154000,90258,90259,90260,90261,90262,90272,90273,90274])]
abbrev IJ:aa Lm:=[.int .i64,.int .i64,.int .i64,.bool,.int .i64,.int .i64]
abbrev ady:aa Gp:=[(20000,.cV,4,[60033,60041,60046,60048,60049,60050,60051,60052,60054,60055,60058,60059,1000000000141000,60061,60062,60072,60073,60074])]
abbrev adz:aa (Nat×Rm):=[(2,.aB B9),(4,.aB [.own 90100,.int .i64,.bool]),(5,.aB [.own 1000000000108000,.int .i64,.bool]),(90100,.sl .int 2),(1000000000108000,.sl .int 2)]
abbrev WZ:bJ:=⟨[(1,tI),(2,.aG 2 0),(4,.aG 4 0),(6,.aG 6 0),(7,tI)],zz9,[]⟩
abbrev Cc:aa Lm:=[.aF .int 0,.aF .int 0]
abbrev adA:bJ:=⟨[(5,.aG 5 0),(6,.aG 6 0),(7,.aG 7 0),(9,tI)],[(5,.st .lC),(6,.aB Cc),(7,.aB fE)],[]⟩
abbrev OH:aa (Bool×TC):=[(false,(.sl .gj)),(false,(.sl .bool))]
abbrev W0:bJ:=⟨[(0,tI),(1,tI),(5,tI),(6,tI)],[],[]⟩
abbrev adB:bJ:=⟨[(0,.lf (.aF .int 0)),(3,.lf (.own 10)),(12,tI),(13,tI)],[(10,.sl .int 2)],[]⟩
abbrev adC:bJ:=⟨[(1,.aG 1 0),(2,.aG 2 0),(4,.lf (.own 1000000000117000)),(5,.aG 5 0)],WV,[]⟩
abbrev W2:bJ:=⟨[(3,.lf (.own 5))],[(5,.sl .int 2)],[]⟩
abbrev adD:aa (Nat×Rm):=[(3,.st .cV),(6,.aB fE),(8,.aB zY),(81,.sl .bool 2),(142,.sl .Command 2),(146,.sl .bool 2)]
abbrev IK:aa (Bool×TC):=[(true,.fR),(false,.int)]
abbrev IL:aa PK:=[.p .cV 4 0,.v false .int]
abbrev adE:bJ:=⟨[(0,.lf (.aF .int 0)),(3,.lf (.own 12)),(4,tI)],[(12,.sl .int 2)],[]⟩
abbrev OI:aa (Bool×TC):=[(false,(.sl .dD)),(false,.int)]
abbrev adF:bJ:=⟨[(0,.lf (.aF .gj 0)),(1,.lf (.aF .bool 0)),(5,tI),(6,tI)],[],[]⟩
abbrev adG:bJ:=⟨[(0,.lf (.aF .gK 0)),(7,.lf (.aF .gK 0)),(8,tI),(9,tI)],[],[]⟩
abbrev OJ:aa Lm:=[.int .i64,.aF .int 0]
abbrev W3:bJ:=⟨[(2,.aG 2 0),(3,.aG 3 0),(7,tI),(8,tI)],[(2,.aB fE),(3,.aB OJ)],[]⟩
abbrev IM:aa Lm:=[.int .i64,.int .i64,.int .i64]
abbrev OK:aa Lm:=[.aF .Cell 0,.aF .int 0,.aF .int 0]
abbrev adH:bJ:=⟨[(0,tI),(1,.lf (.aF .dD 0)),(9,.lf (.aF .dD 0)),(10,tI),(11,tI)],[],[]⟩
abbrev W4:aa (Bool×TC):=[(false,(.sl .gK)),(false,.int),(false,.int)]
abbrev xm:aa (Bool×TC):=[(true,.cV)]
abbrev xo:aa (Bool×TC):=[(true,.fR)]
abbrev adJ:aa (Nat×Tm):=[(2,.aG 20000 50),(12,tI),(75,.lf (.own 1000000000175000)),(76,tI),(77,tI)]
abbrev EG:bJ:=⟨[],[],lO⟩
abbrev adK:aa (Bool×TC):=[(false,(.sl .dD)),(false,(.sl .bool)),(false,(.sl .bool)),(false,.int),(false,.int)]
abbrev OL:aa (Bool×TC×Nat):=[(true,.ot,2),(false,.bool,0)]
abbrev W5:aa (Nat×Rm):=[(98000,.sl .Addr 1000002)]
abbrev adL:bJ:=⟨[(0,.lf (.own 98000)),(5,tI)],W5,[]⟩
abbrev adM:aa (Nat×Rm):=[(2,.aB fE),(1000000000116000,.sl .Addr 2),(19,.sl .bool 2),(20,.sl .bool 2)]
abbrev adN:bJ:=⟨[(1,.lf (.aF .bool 0)),(6,.lf (.own 9))],[(9,.sl .gj 2)],[]⟩
abbrev adO:bJ:=⟨[(1,tI),(2,tI),(8,.lf (.own 1000000000112000))],WW,[]⟩
abbrev W7:aa Lm:=[.int .i64,.own 1000000000114001]
abbrev zZ:aa PK:=[.p .rj 0 0]
abbrev OM:aa (Bool×TC):=[(true,.fR),(true,.Addr)]
abbrev adP:aa PK:=[.v true .fR,.v true .sy,.p .cV 4 50,.v false .int,.v false .int]
abbrev adQ:aa (Nat×Rm):=[(11,.sl .Command 2),(1000000000113000,.sl .Addr 2),(14,.sl .bool 2)]
abbrev adR:bJ:=⟨[(0,.lf (.aF .dD 0)),(1,tI),(5,tI)],[],[]⟩
abbrev adS:bJ:=⟨[(0,.lf (.aF .int 0)),(1,tI),(5,tI)],[],[]⟩
abbrev IN:bJ:=⟨[(6,tI)],[],[]⟩
abbrev adT:bJ:=⟨[(6,.lf (.own 1000000000112000)),(7,tB)],WW,[]⟩
abbrev ap6:aa (Nat×Tm):=[(0,.aG 20000 0),(1,tI),(4,tI)]
abbrev W8:aa (Bool×TC):=[(false,(.sl .Addr)),(true,.Addr)]
abbrev adU:aa (Nat×Rm):=[(3,.st .cV),(6,.aB fE),(8,.aB zY),(38,.sl .bool 2)]
abbrev adV:aa (Nat×Rm):=[(4,.st .cV),(7,.aB fE),(8,.aB fE),(16,.sl .bool 2)]
abbrev adW:bJ:=⟨[(2,.aG 2 0),(3,tI)],[(2,.aB fE)],[]⟩
abbrev adX:bJ:=⟨[(3,.lf (.own 6))],[(6,.sl .int 2)],[]⟩
abbrev adY:aa (Nat×Rm):=[(4,.aB fE),(5,.st .lC),(6,.aB Cc),(7,.aB fE)]
abbrev ON:aa Gp:=[(2,.cV,4,WU)]
abbrev adZ:bJ:=⟨[(0,.lf (.aF .int 0)),(1,tI)],[],[]⟩
abbrev W9:aa PK:=[.p .cV 4 50,.v false .int]
abbrev Xa:aa (Nat×Rm):=[(1,.st .cV),(3,.aB fE)]
abbrev EH:aa (Bool×TC):=[(true,.lE)]
abbrev Xb:aa (Bool×TC×Nat):=[(true,.Addr,0),(false,.bool,0)]
abbrev Xc:aa PK:=[.p .rj 0 0,.v false .int]
abbrev ad0:aa (Bool×TC):=[(true,.lC),(false,.int),(false,.int),(false,.bool)]
abbrev ad1:aa (Bool×TC):=[(true,.fR),(true,.lC),(true,.Command),(true,.Command)]
abbrev ad2:aa (Bool×TC):=[(true,.fR),(true,.lC),(true,.lD),(true,.Command)]
abbrev ad3:bJ:=⟨[(1,.aG 1 0)],[(1,.st .lC)],[]⟩
abbrev ad4:bJ:=⟨[(3,.aG 3 0)],[(3,.aB Cc)],[]⟩
abbrev ad5:bJ:=⟨[(1,.aG 1 0)],[(1,.aB B9)],[]⟩
abbrev ad6:aa (Nat×Tm):=[(1,.aG 1 0),(2,.aG 2 0),(3,.aG 3 0),(4,tI)]
abbrev Xd:aa (Bool×TC):=[(true,.Config),(true,.nJ)]
abbrev Xe:aa (Bool×TC):=[(true,.fR),(true,.Command)]
abbrev Xf:aa (Bool×TC):=[(true,.lE),(false,.int)]
abbrev Xg:aa (Bool×TC):=[(true,.fR),(true,.om)]
abbrev ad7:bJ:=⟨[(1,.aG 1 0),(3,tI)],WX,[]⟩
abbrev IP:aa (Bool×TC×Nat):=[(true,.Command,0)]
abbrev ad8:bJ:=⟨[(0,.lf (.aF .gj 0))],[],[]⟩
abbrev ad9:aa (Bool×TC):=[(true,.iQ),(false,.int),(false,(.sl .Addr))]
abbrev aea:aa PK:=[.p .cV 4 0,.v false .int,.v false .int]
abbrev aeb:aa PK:=[.p .cV 4 0,.v true .Command,.v false .int]
abbrev aec:aa PK:=[.p .rj 0 0,.v true .Config,.v false .int]
abbrev IQ:aa (Bool×TC):=[(true,.nJ)]
abbrev IS:aa (Bool×TC):=[(true,.lC)]
abbrev aed:aa Lm:=[.int .i64,.own 1000000000138001]
abbrev OO:aa (Nat×Rm):=[(7,.sl .Command 2)]
abbrev aee:bJ:=⟨[(0,tI),(3,tI)],[],[]⟩
abbrev aef:aa Lm:=[.own 20001,.int .i64,.int .i64]
abbrev Xh:bJ:=⟨[],[],OF⟩
abbrev aeg:aa (Nat×Tm):=[(1,.aG 1 0),(2,.aG 2 0),(3,.aG 3 0)]
abbrev aeh:aa (Nat×Tm):=[(1,.aG 1 0),(3,.lf (.own 5)),(4,tI)]
def Xi(C:aa Int):aj (Bool):=some ((C.length:Int) > 1048576)
def ap7:=bA [(false,(.sl .u8))] cB (bS Xi) 6 [] func7
def z0(C:bN):aj ((Int)×(bN×af)):=letI D:=W6 ((W6 (C.h*6364136223846793005))+1442695040888963407);letI E:=bits .and .i64 (bits .xor .i64 (D.fdiv (2 ^ (min (33:Int).toNat IntKind.i64.bits))) (D.fdiv (2 ^ (min (45:Int).toNat IntKind.i64.bits)))) 255;bif C.i<(C.b.length:Int)then xI C.b C.i λI=>some ((bits .and .i64 (W6 (E+(W6 I))) 255),((⟨C.b,(W6 (C.i+1)),D⟩:bN),()))else some (E,((⟨C.b,C.i,D⟩:bN),()))
def ap8:=jQ zZ dO (bS z0) 58 [] func94
def fh(C:bN)(D:Int):aj ((Int)×(bN×af)):=bif D <= 0 then some (0,(C,()))else bif D <= 256 then (z0 C).bind λE=>if D=0 then none else some ((E.1.tmod D),((⟨C.b,E.2.1.i,E.2.1.h⟩:bN),()))else (z0 C).bind λI=>(z0 (⟨C.b,I.2.1.i,I.2.1.h⟩:bN)).bind λJ=>(z0 (⟨C.b,J.2.1.i,J.2.1.h⟩:bN)).bind λL=>(z0 (⟨C.b,L.2.1.i,L.2.1.h⟩:bN)).bind λO=>if D=0 then none else some (((W6 ((W6 ((W6 ((W6 (I.1*16777216))+(W6 (J.1*65536))))+(W6 (L.1*256))))+O.1)).tmod D),((⟨C.b,O.2.1.i,O.2.1.h⟩:bN),()))
def sY:=jQ Xc dO (bY fh) 37 [ap8] func26
def Cd(D:bN)(E:Int):aj ((Bool)×(bN×af)):=(fh D E).bind λC=>some ((C.1==0),((⟨D.b,C.2.1.i,C.2.1.h⟩:bN),()))
def OP:=jQ Xc cB (bY Cd) 9 [sY] func61
def OQ(C:bN):aj ((aO)×(bN×af)):=(fh C 2).bind λD=>(fh (⟨C.b,D.2.1.i,D.2.1.h⟩:bN) 3).bind λE=>(fh (⟨C.b,E.2.1.i,E.2.1.h⟩:bN) 2).bind λI=>some ((⟨1,(W6 (1+D.1)),(W6 (2+E.1)),(W6 (1+I.1))⟩:aO),((⟨C.b,I.2.1.i,I.2.1.h⟩:bN),()))
def ap9:=jQ zZ [(true,.fR,0)] (bS OQ) 13 [sY] func188
def aei  : aj (dc):=some (⟨3,3,7,2,3,10,2,3,3,6,4,5,4,12,3,4,16⟩:dc)
def aqa:=bA [] [(true,.lC,0)] (xU0 aei) 2 [] func189
def OR(C:bN):aj ((ld)×(bN×af)):=(fh C 3).bind λD=>(Cd (⟨C.b,D.2.1.i,D.2.1.h⟩:bN) 2).bind λE=>some ((⟨D.1,E.1⟩:ld),((⟨C.b,E.2.1.i,E.2.1.h⟩:bN),()))
def aqb:=jQ zZ [(true,.q9,0)] (bS OR) 8 [sY,OP] func190
def OS(D:bN):aj ((eX)×(bN×af)):=(OQ D).bind λE=>(aei).bind λC=>(OR (⟨D.b,E.2.1.i,E.2.1.h⟩:bN)).bind λI=>(fh (⟨D.b,I.2.1.i,I.2.1.h⟩:bN) 60).bind λT=>letI J:=W6 (200+T.1);(fh (⟨D.b,T.2.1.i,T.2.1.h⟩:bN) 3).bind λL=>(fh (⟨D.b,L.2.1.i,L.2.1.h⟩:bN) 2).bind λO=>(fh (⟨D.b,O.2.1.i,O.2.1.h⟩:bN) 3).bind λQ=>(Cd (⟨D.b,Q.2.1.i,Q.2.1.h⟩:bN) 3).bind λU=>letI u1:=(⟨D.b,U.2.1.i,U.2.1.h⟩:bN);bif U.1 then (fh u1 5).bind λY=>(fh (⟨D.b,Y.2.1.i,Y.2.1.h⟩:bN) 4).bind λZ=>some ((⟨⟨(W6 (1+O.1)),E.1.aC,(W6 (4+L.1)),E.1.aN⟩,⟨C.jX,C.rp,C.gI,C.nE,C.jY,C.lu,C.nG,C.nH,(W6 (1+Z.1)),(W6 (4+Y.1)),C.pg,C.pn,C.sx,C.pq,C.qi,C.xp,C.xs⟩,I.1,Q.1,J,16,⟨(W6 (6*J)),40⟩⟩:eX),((⟨D.b,Z.2.1.i,Z.2.1.h⟩:bN),()))else some ((⟨⟨(W6 (1+O.1)),E.1.aC,(W6 (4+L.1)),E.1.aN⟩,C,I.1,Q.1,J,16,⟨(W6 (6*J)),40⟩⟩:eX),(u1,()))
def aqc:=jQ zZ [(true,.Config,0)] (bS OS) 44 [sY,OP,ap9,aqa,aqb] func90
def vD(C:dS):aj (dS):=bif xZ C.weights then some (⟨C.eP,C.cap,C.eK,C.low,C.high,(xA C.weights),C.eA⟩:dS)else none
def OT:=bA IQ [(true,.nJ,2)] (bS vD) 9 [] func240
def IT(C:gi):aj (gi):=(vD C.bU).bind λD=>(vD C.next).bind λE=>some (⟨D,E,C.waits⟩:gi)
def Xj:=bA [(true,.ot)] [(true,.ot,2)] (bS IT) 12 [OT] func152
def Xk(C:cM):aj (cM):=bif xZ C.aC then some (⟨(xA C.aC),C.bh⟩:cM)else none
def aqd:=bA [(true,.iQ)] [(true,.iQ,2)] (bS Xk) 10 [] func153
def uk(C:dF):aj (dF):=bif xZ C.last then bif xZ C.bg then some (⟨(xA C.last),(xA C.bg)⟩:dF)else none else none
def aej:=bA [(true,.lD)] [(true,.lD,2)] (bS uk) 12 [] func154
def IU(C:bZ):aj (bZ):=bif xZ C.symbols then some (⟨(xA C.symbols),C.iX⟩:bZ)else none
def aek:=bA [(true,.Cell)] [(true,.Cell,2)] (bS IU) 9 [] func241
def aqe:bJ:=⟨ad6,[(1,.aB OK),(2,.aB IG),(3,.aB [.own 90200,.own 5,.own 9]),(90100,.sl .Cell 4),(90101,.sl .int 2),(90102,.sl .int 2),(90200,.sl .Cell 4),(5,.sl .int 2),(9,.sl .int 2)],[]⟩
def aqf:aa (Nat×bJ):=[(2,⟨[(2,.aG 2 0),(3,.aG 3 0)],[(2,.aB IG),(3,.aB [.own 90200,.own 5,.own 9]),(90100,.sl .Cell 4),(90101,.sl .int 2),(90102,.sl .int 2),(90200,.sl .Cell 4),(5,.sl .int 2),(9,.sl .int 2)],[]⟩)]
abbrev ael:=((af×af×af×Int×af)×(((aa bZ)×(aa Int)×(aa Int)×af)×(af×af×af×af)×(af×af×af×af)×(aa bZ)×(aa Int)×(aa Int)×(aa bZ)×(aa Int)×(aa Int)×af))
def IV(x:ael):aj (ael⊕(((af×af×af)×((af×af×af×af)×(af×af×af×af)×(aa bZ)×(aa Int)×(aa Int)×(aa bZ)×(aa Int)×(aa Int)×af))⊕Empty)):=letI I:=x.1.2.2.2.1;letI E:=((),(),(),());letI D:=x.2.2.2.2.2;letI C:=D.2.2;bif I<(x.2.1.1.length:Int)then xI x.2.1.1 I λL=>(IU L).bind λJ=>bif bD (C.1.length+[J].length)then xG (((),(),(),(W6 (I+1)),()),(x.2.1,E,E,x.2.2.2.2.1,D.1,D.2.1,(C.1++[J]),C.2.1,C.2.2.1,()))else none else aA (((),(),()),(E,E,x.2.2.2.2.1,D.1,D.2.1,C.1,C.2.1,C.2.2.1,()))
def aqg:KY 33 (bk f155):=⟨0,lB 0 aqe aqf IV,lp [aek]⟩
def OU(C:dx):aj (dx):=bif xZ C.bC then bif xZ C.bz then bw IV (((),(),(),0,()),((C.cells,C.bC,C.bz,()),((),(),(),()),((),(),(),()),([]:aa bZ),([]:aa Int),([]:aa Int),([]:aa bZ),(xA C.bC),(xA C.bz),())) λE=>letI D:=E.2.2.2.2.2.2;some (⟨D.1,D.2.1,D.2.2.1⟩:dx)else none else none
def aqh:=cw [(true,.Array)] [(true,.Array,4)] (bS OU) 33 [] [aqg] func155
def IW(C:dG):aj (dG):=bif xZ C.map then some (⟨C.bP,(xA C.map)⟩:dG)else none
def aem:=bA [(true,.om)] [(true,.om,2)] (bS IW) 10 [] func156
def Ce(C:cZ):aj (cZ):=bif xZ C.aJ then some (⟨(xA C.aJ),C.wait,C.dN⟩:cZ)else none
def Xl:=bA EH [(true,.lE,2)] (bS Ce) 9 [] func157
def IX(C:cx):aj (cx):=bif xZ C.rows then bif xZ C.counts then some (⟨(xA C.rows),(xA C.counts),C.c7⟩:cx)else none else none
def aen:=bA [(true,.iR)] [(true,.iR,2)] (bS IX) 14 [] func158
def aqi:bJ:=⟨[(1,.aG 1 0),(2,.aG 2 0),(3,.lf (.own 29)),(4,tI)],zz2,ON⟩
def aqj:aa (Nat×bJ):=[(2,⟨[(1,.aG 1 0),(2,.aG 2 0),(3,.lf (.own 29))],zz2,ON⟩)]
abbrev aeo:=((af×af×af×Int×af)×(av×(Int×Int×Int×Int×Int×Int×Int×Int×Int×Int×Int×Int×Int×Int×Int×Int×Int×Int×Int×Int×Int×Int×Bool×Int×Int×Int×Int×Int×Int×Int×Int×Int×Int×af×Int×Int×Int×Int×Int×Int×Int×af×Int×Int×Bool×Int×af×Int×af×af×af×af×af×Int×af×af×Int×Bool×(aa cx)×(aa Int)×(aa aL)×(aa aX)×(aa cz)×Bool×Int×Int×Int×Int×Int×Int×Int×Int×(aa cv)×(aa fG)×(aa fe)×af)×(aa cx)×(aa Int)×(aa Int)×(aa fC)×(aa Int)×(aa Int)×(aa bZ)×(aa Int)×(aa Int)×(aa Int)×(aa Int)×af))
def EI(x:aeo):aj (aeo⊕(((af×af×af×af)×(av×(Int×Int×Int×Int×Int×Int×Int×Int×Int×Int×Int×Int×Int×Int×Int×Int×Int×Int×Int×Int×Int×Int×Bool×Int×Int×Int×Int×Int×Int×Int×Int×Int×Int×af×Int×Int×Int×Int×Int×Int×Int×af×Int×Int×Bool×Int×af×Int×af×af×af×af×af×Int×af×af×Int×Bool×(aa cx)×(aa Int)×(aa aL)×(aa aX)×(aa cz)×Bool×Int×Int×Int×Int×Int×Int×Int×Int×(aa cv)×(aa fG)×(aa fe)×af)×(aa cx)×(aa Int)×(aa Int)×(aa fC)×(aa Int)×(aa Int)×(aa bZ)×(aa Int)×(aa Int)×(aa Int)×(aa Int)×af))⊕Empty)):=letI I:=x.1.2.2.2.1;letI C:=x.2.2.2;letI J:=x.2.2.1.2.2.2.2.2.2.2.2.2.2.2.2.2.2.2.2.2.2.2.2.2.2.2.2.2.2.2.2.2.2.2.2.2.2.2.2.2.2.2.2.2.2.2.2.2.2.2.2.2.2.2.2.2.2.2.2.2.2.1;letI E:=C.2.2.2.2;letI D:=E.2.2.2;bif I<(J.length:Int)then xI J I λO=>(IX O).bind λL=>bif bD (C.1.length+[L].length)then xG (((),(),(),(W6 (I+1)),()),(x.2.1,x.2.2.1,(C.1++[L]),C.2.1,C.2.2.1,C.2.2.2.1,E.1,E.2.1,E.2.2.1,D.1,D.2.1,D.2.2.1,D.2.2.2.1,()))else none else aA (((),(),(),()),(x.2.1,x.2.2.1,C.1,C.2.1,C.2.2.1,C.2.2.2.1,E.1,E.2.1,E.2.2.1,D.1,D.2.1,D.2.2.1,D.2.2.2.1,()))
def aqk:KY 84 (bk f70):=⟨0,lB 0 aqi aqj EI,lp [aen]⟩
def OV(C:av):aj (av):=(IT C.box).bind λD=>(Xk C.aY).bind λy2=>(uk C.ready).bind λy3=>(OU C.array).bind λy4=>(IW C.spare).bind λy5=>(Ce C.aQ).bind λy6=>bw EI (((),(),(),0,()),((⟨⟨⟨0,0,0,0⟩,⟨0,0,0,0,0,0,0,0,0,0,0,0,0,0,0,0,0⟩,⟨0,false⟩,0,0,0,⟨0,0⟩⟩,⟨⟨0,0,0,0,0,([]:aa Int),⟨0,0⟩⟩,⟨0,0,0,0,0,([]:aa Int),⟨0,0⟩⟩,false⟩,0,⟨([]:aa fC),0⟩,⟨([]:aa Int),([]:aa Int)⟩,⟨([]:aa bZ),([]:aa Int),([]:aa Int)⟩,⟨0,([]:aa Int)⟩,⟨([]:aa Int),0,false⟩,([]:aa cx),([]:aa Int),([]:aa aL),([]:aa aX),([]:aa cz),⟨false,0,0⟩,⟨0,0,0⟩,⟨0,0,0⟩,([]:aa cv),([]:aa fG),([]:aa fe)⟩:av),(C.config.ay.cq,C.config.ay.aC,C.config.ay.rows,C.config.ay.aN,C.config.cm.jX,C.config.cm.rp,C.config.cm.gI,C.config.cm.nE,C.config.cm.jY,C.config.cm.lu,C.config.cm.nG,C.config.cm.nH,C.config.cm.jK,C.config.cm.wr,C.config.cm.pg,C.config.cm.pn,C.config.cm.sx,C.config.cm.pq,C.config.cm.qi,C.config.cm.xp,C.config.cm.xs,C.config.mapping.order,C.config.mapping.hash,C.config.bP,C.config.interval,C.config.hD,C.config.dH.bC,C.config.dH.bz,D.bU.eP,D.bU.cap,D.bU.eK,D.bU.low,D.bU.high,(),D.bU.eA.down,D.bU.eA.sleep,D.next.eP,D.next.cap,D.next.eK,D.next.low,D.next.high,(),D.next.eA.down,D.next.eA.sleep,D.waits,C.now,(),y2.bh,(),(),(),(),(),y5.bP,(),(),y6.wait,y6.dN,C.bK,C.guard,C.pending,C.queue,C.shares,C.drain.on,C.drain.low,C.drain.high,C.bh.state,C.bh.since,C.bh.idle,C.cU.next,C.cU.every,C.cU.wait,C.errors,C.trace,C.cy,()),([]:aa cx),D.bU.weights,D.next.weights,y2.aC,y3.last,y3.bg,y4.cells,y4.bC,y4.bz,y5.map,y6.aJ,())) λiq=>letI E:=iq.2.2;letI J:=E.1.2.2.2.2;letI Y:=E.2.2.2.2.2;letI Z:=Y.2.2.2;letI u3:=J.2.2.2.2.2;letI xq:=u3.2.2.2;letI u7:=xq.2.2.2;letI Aa:=u7.2.2.2;letI u1:=Aa.2.2.2;letI xu:=u1.2.2.2;letI u8:=xu.2.2.2;letI OW:=u8.2.2.2;letI u2:=OW.2.2.2.2;letI Q:=u2.2.2.2;letI L:=Q.2.2.2.2.2;letI u14:=L.2.2.2.2.2.2.2.2.2.2.2;letI T:=u14.2.2.2;letI U:=T.2.2.2.2;letI u16:=U.2.2;letI O:=u16.2.2.2.2;letI I:=O.2.2.2.2.2;bif xZ T.2.2.2.1 then bif xZ U.1 then bif xZ U.2.1 then bif xZ u16.1 then bif xZ I.2.1 then bif xZ I.2.2.1 then bif xZ I.2.2.2.1 then some (⟨⟨⟨E.1.1,E.1.2.1,E.1.2.2.1,E.1.2.2.2.1⟩,⟨J.1,J.2.1,J.2.2.1,J.2.2.2.1,J.2.2.2.2.1,u3.1,u3.2.1,u3.2.2.1,xq.1,xq.2.1,xq.2.2.1,u7.1,u7.2.1,u7.2.2.1,Aa.1,Aa.2.1,Aa.2.2.1⟩,⟨u1.1,u1.2.1⟩,u1.2.2.1,xu.1,xu.2.1,⟨xu.2.2.1,u8.1⟩⟩,⟨⟨u8.2.1,u8.2.2.1,OW.1,OW.2.1,OW.2.2.1,E.2.2.1,⟨u2.1,u2.2.1⟩⟩,⟨u2.2.2.1,Q.1,Q.2.1,Q.2.2.1,Q.2.2.2.1,E.2.2.2.1,⟨L.1,L.2.1⟩⟩,L.2.2.1⟩,L.2.2.2.1,⟨E.2.2.2.2.1,L.2.2.2.2.2.1⟩,⟨Y.1,Y.2.1⟩,⟨Y.2.2.1,Z.1,Z.2.1⟩,⟨u14.1,Z.2.2.1⟩,⟨Z.2.2.2.1,T.1,T.2.1⟩,E.2.1,(xA T.2.2.2.1),(xA U.1),(xA U.2.1),(xA u16.1),⟨u16.2.1,u16.2.2.1,u16.2.2.2.1⟩,⟨O.1,O.2.1,O.2.2.1⟩,⟨O.2.2.2.1,O.2.2.2.2.1,I.1⟩,(xA I.2.1),(xA I.2.2.1),(xA I.2.2.2.1)⟩:av)else none else none else none else none else none else none else none
def aql:=cw xm [(true,.cV,4)] (bS OV) 84 [Xj,aqd,aej,aqh,aem,Xl] [aqk] func70
def cN(C D E:Int):aj (Bool):=bif C >= D then some (C <= E)else some false
def fj:=bA [(false,.int),(false,.int),(false,.int)] cB (fD cN) 15 [] func95
def xw(C:aO):aj (Bool):=(cN C.cq 1 2).bind λD=>bif D then (cN C.aC 1 4).bind λE=>bif E then (cN C.rows 2 16).bind λI=>bif I then (cN C.aN 1 8).bind λJ=>some J else some false else some false else some false
def EJ:=bA xo cB (bS xw) 21 [fj] func27
def ng(C:aO):aj (Int):=(xw C).bind λD=>bif (!D)then some 0 else some (W6 (C.cq*C.aC))
def mJ:=bA xo dO (bS ng) 11 [EJ] func28
abbrev aep:=((Int×af×af×af×Int×af)×((Int×Int×Int×Int×af)×(Int×af×af)×(Int×af×af)×(aa Int)×(aa Int)×af))
def IY(x:aep):aj (aep⊕(((af×af×af)×((Int×af×af)×(Int×af×af)×(aa Int)×(aa Int)×af))⊕Empty)):=letI C:=x.2.2.2;letI D:=x.1.2.2.2.2.1;letI E:=W6 (x.2.1.2.2.1-x.1.1);letI I:=([(D.tmod E)]:aa Int);(ng (⟨x.2.1.1,x.2.1.2.1,x.2.1.2.2.1,x.2.1.2.2.2.1⟩:aO)).bind λJ=>bif D<(W6 (J*E))then if E=0 then none else bif bD (C.2.2.1.length+I.length)then xG ((x.1.1,(),(),(),(W6 (D+1)),()),(x.2.1,x.2.2.1,C.1,C.2.1,(C.2.2.1++I),()))else none else aA (((),(),()),(x.2.2.1,C.1,C.2.1,C.2.2.1,()))
def aqm:KY 49 (bk f96):=⟨0,lB 0 WZ [(2,adu)] IY,lp [mJ]⟩
def EK(C:aO)(D:Int):aj (dG×Bool):=letI E:=some ((⟨0,[]⟩:dG),false);(xw C).bind λJ=>bif (!J)then E else (cN D 0 2).bind λL=>bif (!L)then E else bif (W6 (C.rows-D))<2 then E else bw IY ((D,(),(),(),0,()),((C.cq,C.aC,C.rows,C.aN,()),(0,(),()),(D,(),()),([]:aa Int),([]:aa Int),())) λI=>some ((⟨I.2.2.1.1,I.2.2.2.2.1⟩:dG),true)
def Xm:=cw IK [(true,.om,2),(false,.bool,0)] (bY EK) 49 [EJ,fj] [aqm] func96
def OX(D:aO):aj (cM):=(ng D).bind λC=>if 0 <= C/\C <= C/\C<1073741824 then some (⟨(List.replicate C.toNat (⟨false,0⟩:fC)),0⟩:cM)else none
def aqn:=bA xo [(true,.iQ,2)] (bS OX) 7 [mJ] func134
def Xn(C:dc):aj ((aa Int)):=some ([C.jX,C.rp,C.gI,C.nE,C.jY,C.lu,C.nG,C.nH,C.jK,C.wr,C.pg,C.pn,C.sx,C.pq,C.qi,C.xp,C.xs]:aa Int)
def aqo:=bA IS nc (bS Xn) 38 [] func345
abbrev aeq:=((af×af×Int×af)×(dc×(aa Int)×af))
def EL(x:aeq):aj (aeq⊕(((Bool×af)×(af))⊕(((af×af)×(dc×af))⊕Empty))):=bif x.1.2.2.1<(x.2.2.1.length:Int)then xL x.2.2.1 x.1.2.2.1 λC=>(cN C 1 64).bind λD=>bif (!D)then aA ((false,()),())else xG (((),(),(W6 (x.1.2.2.1+1)),()),(x.2.1,x.2.2.1,()))else bq (((),()),(x.2.1,()))
def aqp:KY 45 (bk f317):=⟨0,lB 0 ⟨[(1,.aG 1 0),(3,.lf (.own 1000000000106000)),(4,tI)],[(1,.st .lC),(1000000000106000,.sl .int 2)],[]⟩ [(1,qP),(2,ad3)] EL,lp [fj]⟩
def Cf(D:dc):aj (Bool):=(Xn D).bind λE=>cc EL (((),(),0,()),(D,E,())) (λI=>some I.1.1) λJ=>letI C:=J.2.1;bif C.jX <= C.gI then bif C.nE <= C.jY then bif C.nG <= C.nH then some (C.pg <= C.pn)else some false else some false else some false
def OY:=cw IS cB (bS Cf) 45 [aqo] [aqp] func317
def EM(C:ld):aj (Bool):=(cN C.order 0 2).bind λD=>some D
def aer:=bA [(true,.q9)] cB (bS EM) 6 [fj] func318
def IZ(C:dc):aj (Int):=(Cf C).bind λD=>bif (!D)then some 0 else some (W6 (2*(W6 ((W6 ((W6 ((W6 ((W6 ((W6 ((W6 ((W6 ((W6 (C.qi+C.xp))+C.gI))+C.wr))+C.jK))+C.rp))+C.pq))+C.jX))+(W6 (8*C.jY))))+16))))
def aqq:=bA IS dO (bS IZ) 35 [OY] func319
def OZ(C:eX):aj (Bool):=(EK C.ay C.bP).bind λD=>bif (!D.2)then some false else (Cf C.cm).bind λE=>bif (!E)then some false else (EM C.mapping).bind λI=>bif (!I)then some false else (IZ C.cm).bind λJ=>(cN C.interval J 10000).bind λL=>bif (!L)then some false else (cN C.hD 1 16).bind λO=>bif O then (cN C.dH.bC (W6 (6*C.interval)) 100000).bind λQ=>bif Q then (cN C.dH.bz 0 100000).bind λT=>some T else some false else some false
def aqr:=bA [(true,.Config)] cB (bS OZ) 54 [fj,Xm,OY,aer,aqq] func242
def EN(C:gJ):aj (Bool):=bif C.low >= 0 then bif C.high <= 12 then some (C.low<C.high)else some false else some false
def Xo:=bA [(true,.oq)] cB (bS EN) 18 [] func167
abbrev aes:=(((aa cz)×Int×af)×(af))
def I0(x:aes):aj (aes⊕(((Bool×af)×(af))⊕((((aa cz)×af)×(af))⊕Empty))):=letI C:=x.1.2.1;bif C<(x.1.1.length:Int)then xI x.1.1 C λD=>(cN D.weight 1 9).bind λE=>bif (!E)then aA ((false,()),())else xI x.1.1 C λI=>xI x.1.1 C λJ=>(cN I.fL 0 J.weight).bind λL=>bif (!L)then aA ((false,()),())else xG ((x.1.1,(W6 (C+1)),()),())else bq ((x.1.1,()),())
def aqs:KY 34 (bk f166):=⟨0,lB 0 ⟨[(0,.lf (.aF .gj 0)),(3,tI)],[],[]⟩ [(1,qP),(2,ad8)] I0,lp [fj]⟩
def I1(C:aa cz):aj (Bool):=cc I0 ((C,0,()),()) (λD=>some D.1.1) λE=>(cN (E.1.1.length:Int) 1 4).bind λI=>some I
def aet:=cw [(false,(.sl .gj))] cB (bS I1) 34 [fj] [aqs] func166
abbrev aeu:=(((aa Int)×af×Int×af)×((aa cz)×af))
def I2(x:aeu):aj (aeu⊕(((af×af)×((aa cz)×af))⊕Empty)):=letI D:=aA (((),()),(x.2.1,()));letI C:=x.1.2.2.1;bif C<(x.1.1.length:Int)then bif C <= 4 then xI x.1.1 C λI=>xI x.1.1 C λJ=>letI E:=([(⟨I,J⟩:cz)]:aa cz);bif bD (x.2.1.length+E.length)then xG ((x.1.1,(),(W6 (C+1)),()),((x.2.1++E),()))else none else D else D
def aqt:KY 34 (bk f279):=⟨0,lB 0 ⟨[(0,.lf (.aF .int 0)),(4,.lf (.own 6)),(5,tI)],[(6,.sl .gj 2)],[]⟩ [(2,⟨[(4,.lf (.own 6))],[(6,.sl .gj 2)],[]⟩)] I2,lp []⟩
def Ab(D:aa Int):aj ((aa cz)×Bool):=bw I2 ((D,(),0,()),(([]:aa cz),())) λC=>(I1 C.2.1).bind λE=>bif (!E)then some (([]:aa cz),false)else some (C.2.1,true)
def Xp:=cw oJ [(false,(.sl .gj),2),(false,.bool,0)] (bS Ab) 34 [aet] [aqt] func279
def I3(C:og):aj (Bool):=(cN C.down 1 10000).bind λD=>bif D then bif C.sleep > C.down then some (C.sleep <= 20000)else some false else some false
def aev:=bA [(true,.sA)] cB (bS I3) 18 [fj] func299
def EO(C:dS):aj (Bool):=(Ab C.weights).bind λD=>(cN C.eP 0 1).bind λE=>bif E then (cN C.cap 0 100000).bind λI=>bif I then (cN C.eK 3 1000).bind λJ=>bif J then (EN (⟨false,C.low,C.high⟩:gJ)).bind λL=>bif L then bif D.2 then bif ((C.weights.length:Int)==4)then (I3 C.eA).bind λO=>some O else some false else some false else some false else some false else some false else some false
def Xq:=bA IQ cB (bS EO) 46 [fj,Xo,Xp,aev] func243
def O0(C:Int):aj (Int):=(cN C 3 1000).bind λD=>bif (!D)then some 0 else some (W6 ((W6 (2*C))+2))
def aqu:=bA lP dO (bS O0) 9 [fj] func244
def Cg(C:eX)(D:dS):aj (Bool):=letI E:=W6 (C.cm.gI+C.cm.rp);(OZ C).bind λI=>bif (!I)then some false else (EO D).bind λJ=>bif (!J)then some false else (O0 D.eK).bind λL=>bif (W6 (L+2)) <= C.dH.bz then if E=0 then none else some ((W6 ((W6 (C.hD+1))*D.eK)) > (W6 ((W6 ((W6 (5*C.interval)).tdiv E))+2)))else some false
def aew:=bA Xd cB (bY Cg) 42 [aqr,Xq,aqu] func159
abbrev aex:=((Int×af×Int×af)×((aa Int)×af))
def I4(x:aex):aj (aex⊕(((af×af)×((aa Int)×af))⊕Empty)):=letI C:=x.1.2.2.1;bif C<x.1.1 then xL x.2.1 C λD=>xG ((x.1.1,(),(W6 (C+1)),()),((x.2.1.set C.toNat (-1:Int)),()))else aA (((),()),(x.2.1,()))
def aqv:KY 16 (bk f324):=⟨0,lB 0 ⟨[(0,tI),(3,.lf (.own 6)),(4,tI)],[(6,.sl .int 2)],[]⟩ [(2,adX)] I4,lp []⟩
def I5(C:Int):aj ((aa Int)):=if 0 <= C/\C <= C/\C<1073741824 then bw I4 ((C,(),0,()),((List.replicate C.toNat (0:Int)),())) λD=>some D.2.1 else none
def aey:=cw lP nc (bS I5) 16 [] [aqv] func324
def EP(C:Int):aj (cx×Bool):=(cN C 1 16).bind λD=>bif (!D)then some ((⟨[],[],0⟩:cx),false)else (I5 C).bind λE=>if 0 <= C/\C <= C/\C<1073741824 then some ((⟨E,(List.replicate C.toNat (0:Int)),0⟩:cx),true)else none
def aez:=bA lP [(true,.iR,2),(false,.bool,0)] (bS EP) 13 [fj,aey] func264
def O1(C:aO):aj (dF):=(xw C).bind λD=>bif (!D)then some (⟨[],[]⟩:dF)else (ng C).bind λE=>(I5 (W6 (9*(W6 (E+1))))).bind λI=>some (⟨I,[]⟩:dF)
def aqw:=bA xo [(true,.lD,2)] (bS O1) 13 [EJ,mJ,aey] func275
def um(C:aO):aj (Int):=(xw C).bind λD=>bif (!D)then some 0 else (ng C).bind λE=>some (W6 ((W6 (E*C.rows))*C.aN))
def I6:=bA xo dO (bS um) 14 [EJ,mJ] func10
def aqx:bJ:=⟨ad6,adr,[]⟩
def aqy:aa (Nat×bJ):=[(2,⟨aeg,adr,[]⟩)]
abbrev aeA:=((af×af×af×Int×af)×((Int×Int×Int×Int×af)×(af×af×af×af)×(af×af×af×af)×(aa bZ)×(aa Int)×(aa Int)×(aa bZ)×(aa Int)×(aa Int)×af))
def I7(x:aeA):aj (aeA⊕(((af×af×af×af)×((Int×Int×Int×Int×af)×(af×af×af×af)×(af×af×af×af)×(aa bZ)×(aa Int)×(aa Int)×(aa bZ)×(aa Int)×(aa Int)×af))⊕Empty)):=letI I:=(11:Int);letI J:=(⟨(List.replicate I.toNat (0:Int)),false⟩:bZ);letI D:=((),(),(),());letI E:=x.2.2.2.2.2;letI C:=E.2.2;(um (⟨x.2.1.1,x.2.1.2.1,x.2.1.2.2.1,x.2.1.2.2.2.1⟩:aO)).bind λL=>bif x.1.2.2.2.1<L then if 0 <= I/\I <= 11/\I<1073741824 then bif bD (C.1.length+[J].length)then xG (((),(),(),(W6 (x.1.2.2.2.1+1)),()),(x.2.1,D,D,x.2.2.2.2.1,E.1,E.2.1,(C.1++[J]),C.2.1,C.2.2.1,()))else none else none else aA (D,(x.2.1,D,D,x.2.2.2.2.1,E.1,E.2.1,C.1,C.2.1,C.2.2.1,()))
def aqz:KY 39 (bk f276):=⟨0,lB 0 aqx aqy I7,lp [I6]⟩
def O2(E:aO):aj (dx):=letI C:=(0:Int);bw I7 (((),(),(),0,()),((E.cq,E.aC,E.rows,E.aN,()),((),(),(),()),((),(),(),()),([]:aa bZ),([]:aa Int),([]:aa Int),([]:aa bZ),([]:aa Int),([]:aa Int),())) λI=>letI J:=I.2.1.2;letI L:=(⟨I.2.1.1,J.1,J.2.1,J.2.2.1⟩:aO);letI O:=if 0 <= C/\C <= 0/\C<1073741824 then if 0 <= C/\C <= 0/\C<1073741824 then some (⟨I.2.2.2.2.2.2.2.1,(List.replicate C.toNat C),(List.replicate C.toNat C)⟩:dx)else none else none;(ng L).bind λQ=>letI D:=W6 (Q*J.2.1);bif D<0 then O else (xw L).bind λT=>bif (!T)then O else if 0 <= D/\D <= D/\D<1073741824 then if 0 <= D/\D <= D/\D<1073741824 then some (⟨I.2.2.2.2.2.2.2.1,(List.replicate D.toNat C),(List.replicate D.toNat C)⟩:dx)else none else none
def aqA:=cw xo [(true,.Array,4)] (bS O2) 39 [EJ,mJ] [aqz] func276
end Go.Proofs.YtglnbhiaknohlaaGreat
