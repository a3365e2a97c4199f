/-
  Functions of the program as plain functions of contents, and that the code computes them. Nothing here is a claim.
-/
import Derived.Test.YtnilicojgkhpnaaGreatVZ
import Derived.Test.YtnilicojgkhpnaaGreatRows
namespace Go.Proofs.YtnilicojgkhpnaaGreat
open Go.RowKit Go.Proofs.Tryz
set_option linter.unusedVariables false
set_option maxRecDepth 100000
abbrev KX:=KC Tryz.prog
abbrev KY:=BK Tryz.prog
abbrev fZ:aa Lm:=[.int .i64,.int .i64,.int .i64,.int .i64]
abbrev bS:aa (Bool×TC×Nat):=[(false,.bool,0)]
abbrev aes:aa Nat:=[90133,90141,90146,90148,90149,90150,90151,90152,90154,90155,90158,90159,90160,90161,90162,90172,90173,90174]
abbrev OQ:aa Gp:=[(2,.cN,4,aes),(3,.cN,4,[1000000000106033,1000000000106041,1000000000106046,1000000000106048,1000000000106049,1000000000106050,1000000000106051,1000000000106052,1000000000106054,1000000000106055,1000000000106058,1000000000106059,1000000000106060,1000000000106061,1000000000106062,1000000000106072,1000000000106073,1000000000106074])]
abbrev zz3:aa (Nat×Rm):=[(1,.st .cN),(3,.aC [.int .i64,.int .i64,.int .i64,.int .i64,.int .i64,.int .i64,.int .i64,.int .i64,.int .i64,.int .i64,.int .i64,.int .i64,.int .i64,.int .i64,.int .i64,.int .i64,.int .i64,.int .i64,.int .i64,.int .i64,.int .i64,.int .i64,.bool,.int .i64,.int .i64,.int .i64,.int .i64,.int .i64,.int .i64,.int .i64,.int .i64,.int .i64,.int .i64,.own 1000000000109005,.int .i64,.int .i64,.int .i64,.int .i64,.int .i64,.int .i64,.int .i64,.own 1000000000109013,.int .i64,.int .i64,.bool,.int .i64,.own 1000000000113000,.int .i64,.own 1000000000117000,.own 1000000000117001,.own 1000000000121000,.own 1000000000121001,.own 1000000000121002,.int .i64,.own 1000000000126000,.own 1000000000131000,.int .i64,.bool,.own 33,.aF .int 0,.aF .Addr 0,.aF .dw 0,.aF .ef 0,.bool,.int .i64,.int .i64,.int .i64,.int .i64,.int .i64,.int .i64,.int .i64,.int .i64,.aF .eo 0,.aF .Event 0,.aF .gd 0]),(1000000000109005,.sl .int 2),(1000000000109013,.sl .int 2),(1000000000113000,.sl .fQ 2),(1000000000117000,.sl .int 2),(1000000000117001,.sl .int 2),(1000000000121000,.sl .Cell 4),(1000000000121001,.sl .int 4),(1000000000121002,.sl .int 4),(1000000000126000,.sl .int 2),(1000000000131000,.sl .int 2),(33,.sl .eR 4)]
abbrev zz4:aa (Nat×Rm):=[(1,.aC [.int .i64,.int .i64,.int .i64,.int .i64,.int .i64,.int .i64,.int .i64,.int .i64,.int .i64,.int .i64,.int .i64,.int .i64,.int .i64,.int .i64,.int .i64,.int .i64,.int .i64,.int .i64,.int .i64,.int .i64,.int .i64,.int .i64,.bool,.int .i64,.int .i64,.int .i64,.int .i64,.int .i64,.int .i64,.int .i64,.int .i64,.int .i64,.int .i64,.own 1000000000107005,.int .i64,.int .i64,.int .i64,.int .i64,.int .i64,.int .i64,.int .i64,.own 1000000000107013,.int .i64,.int .i64,.bool,.int .i64,.own 1000000000111000,.int .i64,.own 1000000000115000,.own 1000000000115001,.own 1000000000119000,.own 1000000000119001,.own 1000000000119002,.int .i64,.own 1000000000123001,.own 1000000000127000,.int .i64,.bool,.aF .eR 0,.aF .int 0,.aF .Addr 0,.aF .dw 0,.aF .ef 0,.bool,.int .i64,.int .i64,.int .i64,.int .i64,.int .i64,.int .i64,.int .i64,.int .i64,.aF .eo 0,.aF .Event 0,.aF .gd 0]),(29,.sl .eR 4),(1000000000107005,.sl .int 2),(1000000000107013,.sl .int 2),(1000000000111000,.sl .fQ 2),(1000000000115000,.sl .int 2),(1000000000115001,.sl .int 2),(1000000000119000,.sl .Cell 4),(1000000000119001,.sl .int 4),(1000000000119002,.sl .int 4),(1000000000123001,.sl .int 2),(1000000000127000,.sl .int 2)]
abbrev cq:aa (Bool×TC×Nat):=[(false,.int,0)]
abbrev p9:aa Gp:=[(20000,.cN,4,[60033,60041,60046,60048,60049,60050,60051,60052,60054,60055,60058,60059,60060,60061,60062,60072,60073,60074])]
abbrev Ix:bM:=⟨[],[],p9⟩
abbrev OR:aa Gp:=[(20000,.cN,4,[102000033,102000041,102000046,102000048,102000049,102000050,102000051,102000052,102000054,102000055,102000058,102000059,102000060,102000061,102000062,102000072,102000073,102000074])]
abbrev Xq:bM:=⟨[],[],OR⟩
abbrev EE:aa (Nat×Rm):=[(20000,.aC [.own 60000,.own 60001,.int .i64]),(60000,.sl .int 2),(60001,.sl .int 2)]
abbrev arI:aa Lm:=[.own 60000,.own 60001,.own 60002]
abbrev kE:bM:=⟨[(4,tI)],[],[]⟩
abbrev lK:aa (Bool×TC×Nat):=[(false,(.sl .int),2)]
abbrev vG:aa (Nat×Tm):=[(0,.lf (.own 20000)),(1,tI),(5,tI)]
abbrev OS:aa Lm:=[.own 90100,.own 90101,.own 90102]
abbrev aet:aa (Nat×Rm):=[(6,.aC OS),(7,.aC [.own 1000000000110000,.own 1000000000110001,.own 1000000000110002]),(90100,.sl .Cell 4),(90101,.sl .int 2),(90102,.sl .int 2),(1000000000110000,.sl .Cell 4),(1000000000110001,.sl .int 4),(1000000000110002,.sl .int 4)]
abbrev gC:bM:=⟨[(4,tB)],[],[]⟩
abbrev EF:aa Lm:=[.int .i64,.int .i64,.int .i64,.int .i64,.int .i64,.aF .int 0,.int .i64,.int .i64]
abbrev aeu:aa (Nat×Rm):=[(2,.aC fZ),(4,.aC [.int .i64,.own 90101]),(6,.aC [.int .i64,.own 90201]),(90101,.sl .int 2),(90201,.sl .int 2)]
abbrev Xr:bM:=⟨[(1,tI),(2,.aJ 2 0),(4,.aJ 4 0),(6,.aJ 6 0),(7,tI)],aeu,[]⟩
abbrev aev:aa (Nat×Rm):=[(20000,.aC arI),(5,.aC fZ),(60000,.sl .Cell 4),(60001,.sl .int 4),(60002,.sl .int 4)]
abbrev n8:bM:=⟨[(2,tB)],[],[]⟩
abbrev nh:aa (Bool×TC):=[(false,(.sl .int))]
abbrev tP:aa (Nat×Tm):=[(1,tI)]
abbrev sx:bM:=⟨tP,[],[]⟩
abbrev Xs:aa (Nat×Rm):=[(1,.st .cN),(2,.aC fZ),(1000000000117000,.sl .int 2),(5,.aC fZ)]
abbrev zP:aa (Bool×TC):=[(false,(.sl .int)),(false,.int)]
abbrev aew:aa (Nat×Rm):=[(2,.aC OS),(3,.aC [.own 90200,.own 6,.own 10]),(90100,.sl .Cell 4),(90101,.sl .int 2),(90102,.sl .int 2),(90200,.sl .Cell 4),(6,.sl .int 2),(10,.sl .int 2)]
abbrev vH:bM:=⟨[(5,tI)],[],[]⟩
abbrev lM:aa (Bool×TC):=[(false,.int)]
abbrev Ce:aa Lm:=[.aF .int 0,.int .i64,.bool]
abbrev aex:aa (Nat×Rm):=[(2,.aC Ce),(4,.aC [.own 90100,.int .i64,.bool]),(5,.aC [.own 1000000000108000,.int .i64,.bool]),(90100,.sl .int 2),(1000000000108000,.sl .int 2)]
abbrev aey:aa Gp:=[(20000,.cN,4,[60033,60041,60046,60048,60049,60050,60051,60052,60054,60055,60058,60059,1000000000141000,60061,60062,60072,60073,60074])]
abbrev Xt:aa (Nat×Rm):=[(1000000000112000,.sl .eo 2)]
abbrev aez:bM:=⟨[(1,tI),(2,tI),(8,.lf (.own 1000000000112000)),(30,.lf (.own 1000000000112000)),(31,tI),(32,tI)],Xt,[]⟩
abbrev tQ:aa (Nat×Tm):=[(3,.lf (.own 7))]
abbrev EG:aa (Bool×TC):=[(false,(.sl .dw)),(false,.int)]
abbrev aeA:aa (Nat×Rm):=[(18,.sl .int 2),(99004,.sl .int 2),(66,.sl .int 2)]
abbrev aeB:bM:=⟨[(3,.lf (.own 18)),(4,.lf (.own 99004)),(8,.lf (.own 66)),(9,tI)],aeA,[]⟩
abbrev fq:bM:=⟨[],[],[]⟩
abbrev aeC:bM:=⟨[(4,.aJ 4 0),(6,.aJ 6 0)],[(4,.aC [.int .i64,.own 90101]),(6,.aC [.int .i64,.own 90201]),(90101,.sl .int 2),(90201,.sl .int 2)],[]⟩
abbrev Cf:aa Lm:=[.aF .int 0,.aF .int 0]
abbrev aeD:bM:=⟨[(5,.aJ 5 0),(6,.aJ 6 0),(7,.aJ 7 0),(9,tI)],[(5,.st .jI),(6,.aC Cf),(7,.aC fZ)],[]⟩
abbrev qa:aa (Bool×TC):=[(true,.cN)]
abbrev EH:aa (Bool×TC):=[(false,.int),(false,.int)]
abbrev OT:aa (Bool×TC):=[(false,(.sl .ef)),(false,(.sl .bool))]
abbrev Xu:bM:=⟨[(0,tI),(1,tI),(5,tI),(6,tI)],[],[]⟩
abbrev aeE:bM:=⟨[(0,.lf (.aF .int 0)),(3,.lf (.own 10)),(12,tI),(13,tI)],[(10,.sl .int 2)],[]⟩
abbrev aeF:bM:=⟨[(1,.aJ 1 0),(2,.aJ 2 0),(4,.lf (.own 1000000000117000)),(5,.aJ 5 0)],Xs,[]⟩
abbrev aeG:bM:=⟨[(0,tI),(1,.lf (.aF .dw 0)),(9,.lf (.aF .dw 0)),(10,tI),(11,tI)],[],[]⟩
abbrev aeH:aa (Nat×Rm):=[(3,.st .cN),(6,.aC fZ),(8,.aC EF),(81,.sl .bool 2),(142,.sl .Command 2),(146,.sl .bool 2)]
abbrev Iy:aa (Bool×TC):=[(true,.kM),(false,.int)]
abbrev Iz:aa (Bool×TC):=[(true,.fe),(false,.int)]
abbrev IA:aa PK:=[.p .cN 4 0,.v false .int]
abbrev aeI:aa Lm:=[.aF .Cell 0,.aF .int 0,.aF .int 0]
abbrev IB:aa (Nat×Rm):=[(3,.aC aeI)]
abbrev aeJ:aa (Nat×Rm):=[(2,.aC fZ),(3,.aC [.int .i64,.aF .int 0])]
abbrev Xv:bM:=⟨[(2,.aJ 2 0),(3,.aJ 3 0),(7,tI),(8,tI)],aeJ,[]⟩
abbrev zR:aa Lm:=[.aF .fQ 0,.int .i64]
abbrev Xw:aa (Nat×Rm):=[(1,.aC [.aF .int 0,.aF .int 0,.int .i64])]
abbrev Xx:bM:=⟨[(0,.lf (.aF .int 0)),(1,tI),(5,tI)],[],[]⟩
abbrev Xy:bM:=⟨[(0,.lf (.aF .dw 0)),(1,tI),(5,tI)],[],[]⟩
abbrev OU:aa Lm:=[.int .i64,.int .i64,.int .i64]
abbrev aeK:bM:=⟨[(0,.lf (.aF .int 0)),(3,.lf (.own 12)),(4,tI)],[(12,.sl .int 2)],[]⟩
abbrev OV:aa (Bool×TC):=[(false,(.sl .Addr)),(false,.int)]
abbrev aeL:bM:=⟨[(0,.lf (.aF .ef 0)),(1,.lf (.aF .bool 0)),(5,tI),(6,tI)],[],[]⟩
abbrev Xz:aa (Bool×TC):=[(false,(.sl .eo)),(false,.int),(false,.int)]
abbrev aeM:aa (Nat×Tm):=[(2,.aJ 20000 50),(12,tI),(75,.lf (.own 1000000000175000)),(76,tI),(77,tI)]
abbrev aeN:aa (Bool×TC):=[(false,(.sl .dw)),(false,(.sl .bool)),(false,(.sl .bool)),(false,.int),(false,.int)]
abbrev XA:aa (Nat×Rm):=[(98000,.sl .Addr 1000002)]
abbrev aeO:bM:=⟨[(0,.lf (.own 98000)),(5,tI)],XA,[]⟩
abbrev aeP:aa (Nat×Rm):=[(2,.aC fZ),(1000000000116000,.sl .Addr 2),(19,.sl .bool 2),(20,.sl .bool 2)]
abbrev aeQ:bM:=⟨[(1,.lf (.aF .bool 0)),(6,.lf (.own 9))],[(9,.sl .ef 2)],[]⟩
abbrev aeR:bM:=⟨[(1,tI),(2,tI),(8,.lf (.own 1000000000112000))],Xt,[]⟩
abbrev OW:aa (Nat×Tm):=[(2,.aJ 2 0),(3,.aJ 3 0)]
abbrev OX:aa (Bool×TC):=[(true,.iI),(false,.int)]
abbrev OY:aa (Bool×TC):=[(true,.fe),(true,.kj)]
abbrev OZ:aa (Bool×TC):=[(true,.fe),(true,.Addr)]
abbrev XB:bM:=⟨[(3,.lf (.own 5))],[(5,.sl .int 2)],[]⟩
abbrev IC:bM:=⟨[(6,tI)],[],[]⟩
abbrev aeS:bM:=⟨[(0,.lf (.aF .eo 0)),(7,.lf (.aF .eo 0)),(8,tI),(9,tI)],[],[]⟩
abbrev aeT:aa PK:=[.v true .fe,.v true .mO,.p .cN 4 50,.v false .int,.v false .int]
abbrev aeU:bM:=⟨[(6,.lf (.own 1000000000112000)),(7,tB)],Xt,[]⟩
abbrev arJ:aa (Nat×Tm):=[(0,.aJ 20000 0),(1,tI),(4,tI)]
abbrev aeV:aa (Nat×Rm):=[(11,.sl .Command 2),(1000000000113000,.sl .Addr 2),(14,.sl .bool 2)]
abbrev aeW:bM:=⟨[(0,.lf (.aF .Cell 0)),(1,tI),(5,tI)],[],[]⟩
abbrev aeX:bM:=⟨[(0,.lf (.aF .eR 0)),(1,tI),(5,tI)],[],[]⟩
abbrev aeY:bM:=⟨[(0,.lf (.aF .Addr 0)),(1,tI),(5,tI)],[],[]⟩
abbrev Cg:aa (Bool×TC):=[(true,.fe)]
abbrev Ch:aa (Bool×TC):=[(true,.kM)]
abbrev EI:aa (Bool×TC×Nat):=[(true,.Command,0)]
abbrev XC:aa (Bool×TC):=[(false,(.sl .Addr)),(true,.Addr)]
abbrev aeZ:aa (Nat×Rm):=[(3,.st .cN),(6,.aC fZ),(8,.aC EF),(38,.sl .bool 2)]
abbrev ae0:aa (Nat×Rm):=[(4,.st .cN),(7,.aC fZ),(8,.aC fZ),(16,.sl .bool 2)]
abbrev ae1:bM:=⟨[(2,.aJ 2 0),(3,tI)],[(2,.aC fZ)],[]⟩
abbrev ae2:aa (Nat×Rm):=[(4,.aC fZ),(5,.st .jI),(6,.aC Cf),(7,.aC fZ)]
abbrev ae3:bM:=⟨[(3,.lf (.own 6))],[(6,.sl .int 2)],[]⟩
abbrev O0:aa Gp:=[(2,.cN,4,aes)]
abbrev ae4:bM:=⟨[(0,.lf (.aF .int 0)),(1,tI)],[],[]⟩
abbrev XD:aa PK:=[.p .cN 4 50,.v false .int]
abbrev XE:aa (Nat×Rm):=[(1,.st .cN),(3,.aC fZ)]
abbrev EJ:aa (Bool×TC):=[(true,.jI)]
abbrev XF:aa (Bool×TC×Nat):=[(true,.Addr,0),(false,.bool,0)]
abbrev ae5:aa (Bool×TC):=[(true,.jI),(false,.int),(false,.int),(false,.bool)]
abbrev ae6:aa (Bool×TC):=[(true,.fe),(true,.jI),(true,.Command),(true,.Command)]
abbrev ae7:aa (Bool×TC):=[(true,.fe),(true,.jI),(true,.ki),(true,.Command)]
abbrev ae8:bM:=⟨[(1,.aJ 1 0)],[(1,.st .jI)],[]⟩
abbrev ae9:bM:=⟨[(3,.aJ 3 0)],[(3,.aC Cf)],[]⟩
abbrev afa:bM:=⟨[(1,.aJ 1 0)],[(1,.aC Ce)],[]⟩
abbrev O1:aa (Bool×TC):=[(false,(.sl .eo))]
abbrev XG:aa (Nat×Rm):=[(3,.aC zR),(1000000000115000,.sl .int 2)]
abbrev XH:aa (Bool×TC):=[(true,.cN),(false,.int)]
abbrev XI:aa (Bool×TC):=[(true,.dw),(true,.dw)]
abbrev XJ:aa (Bool×TC):=[(true,.fe),(true,.Command)]
abbrev afb:bM:=⟨[(1,.aJ 1 0),(3,tI)],Xw,[]⟩
abbrev ID:aa (Bool×TC×Nat):=[(true,.ki,2)]
abbrev afc:bM:=⟨[(0,.lf (.aF .ef 0))],[],[]⟩
abbrev afd:aa (Bool×TC):=[(true,.iI),(false,.int),(false,(.sl .Addr))]
abbrev afe:aa PK:=[.p .cN 4 0,.v false .int,.v false .int]
abbrev aff:aa PK:=[.p .cN 4 0,.v true .Command,.v false .int]
abbrev IE:aa (Bool×TC):=[(true,.lU)]
abbrev IF:aa (Bool×TC):=[(true,.iI)]
abbrev IG:aa (Bool×TC):=[(true,.eR)]
abbrev O2:aa (Nat×Rm):=[(7,.sl .ef 2)]
abbrev O3:aa (Nat×Rm):=[(7,.sl .Command 2)]
abbrev afg:bM:=⟨[(0,tI),(3,tI)],[],[]⟩
abbrev afh:aa (Nat×Tm):=[(1,.aJ 1 0),(3,.lf (.own 5)),(4,tI)]
abbrev afi:bM:=⟨[(3,.aJ 3 0)],IB,[]⟩
def qV(D:aa Int)(E:Int):ah (Int):=letI C:=W6 (E-(D.length:Int));bif C<0 then some (-1)else some C
def zS:=aM zP cq (br qV) 12 [] func43
def II(D:fz)(E:Int):ah (Int):=(qV D.weights E).bind λC=>bif C<0 then some (-1)else some C
def arK:=aM [(true,.lU),(false,.int)] cq (br II) 12 [zS] func19
def O4(C:gI)(L:Int):ah (Int):=(II C.bI L).bind λD=>bif D<0 then some (-1)else (II C.next D).bind λE=>bif E<0 then some (-1)else some E
def arL:=aM [(true,.jJ),(false,.int)] cq (br O4) 18 [arK] func36
def XK(D:aa cR)(E:Int):ah (Int):=letI C:=W6 (E-(D.length:Int));bif C<0 then some (-1)else some C
def arM:=aM [(false,(.sl .fQ)),(false,.int)] cq (br XK) 12 [] func155
def O5(D:cy)(E:Int):ah (Int):=(XK D.aB E).bind λC=>bif C<0 then some (-1)else some C
def arN:=aM OX cq (br O5) 12 [arM] func37
def O6(C:dn)(L:Int):ah (Int):=(qV C.last L).bind λD=>bif D<0 then some (-1)else (qV C.bx D).bind λE=>bif E<0 then some (-1)else some E
def arO:=aM [(true,.ki),(false,.int)] cq (br O6) 18 [zS] func38
def IJ(D:bK)(E:Int):ah (Int):=(qV D.symbols E).bind λC=>bif C<0 then some (-1)else some C
def arP:=aM [(true,.Cell),(false,.int)] cq (br IJ) 12 [zS] func287
abbrev afj:=(((aa bK)×Int×Int×af)×(af))
def afk(x:afj):ah (afj⊕(((Int×af)×(af))⊕(((Int×af)×(af))⊕Empty))):=bif x.1.2.2.1<(x.1.1.length:Int)then xI x.1.1 x.1.2.2.1 λD=>(IJ D x.1.2.1).bind λC=>bif C<0 then av (((-1),()),())else xG ((x.1.1,C,(W6 (x.1.2.2.1+1)),()),())else aQ ((x.1.2.1,()),())
def arQ:KY 27 (aR f156):=⟨0,lB 0 aeW [(1,kE),(2,sx)] afk,lp [arP]⟩
def O7(C:aa bK)(E:Int):ah (Int):=letI D:=W6 (E-(C.length:Int));bif D<0 then some (-1)else bE afk ((C,D,0,()),()) (λL=>some L.1.1) λO=>some O.1.1
def arR:=bT [(false,(.sl .Cell)),(false,.int)] cq (br O7) 27 [] [arQ] func156
def O8(C:cZ)(O:Int):ah (Int):=(O7 C.cells O).bind λD=>bif D<0 then some (-1)else (qV C.bz D).bind λE=>bif E<0 then some (-1)else (qV C.bu E).bind λL=>bif L<0 then some (-1)else some L
def arS:=aM [(true,.Array),(false,.int)] cq (br O8) 24 [zS,arR] func39
def O9(D:eZ)(E:Int):ah (Int):=(qV D.map E).bind λC=>bif C<0 then some (-1)else some C
def arT:=aM [(true,.kj),(false,.int)] cq (br O9) 12 [zS] func40
def Pa(D:de)(E:Int):ah (Int):=(qV D.aH E).bind λC=>bif C<0 then some (-1)else some C
def arU:=aM Iy cq (br Pa) 12 [zS] func41
def IK(C:bQ)(L:Int):ah (Int):=(qV C.rows L).bind λD=>bif D<0 then some (-1)else (qV C.counts D).bind λE=>bif E<0 then some (-1)else some E
def arV:=aM [(true,.eR),(false,.int)] cq (br IK) 18 [zS] func157
abbrev afl:=(((aa bQ)×Int×Int×af)×(af))
def afm(x:afl):ah (afl⊕(((Int×af)×(af))⊕(((Int×af)×(af))⊕Empty))):=bif x.1.2.2.1<(x.1.1.length:Int)then xI x.1.1 x.1.2.2.1 λD=>(IK D x.1.2.1).bind λC=>bif C<0 then av (((-1),()),())else xG ((x.1.1,C,(W6 (x.1.2.2.1+1)),()),())else aQ ((x.1.2.1,()),())
def arW:KY 27 (aR f42):=⟨0,lB 0 aeX [(1,kE),(2,sx)] afm,lp [arV]⟩
def Pb(C:aa bQ)(E:Int):ah (Int):=letI D:=W6 (E-(C.length:Int));bif D<0 then some (-1)else bE afm ((C,D,0,()),()) (λL=>some L.1.1) λO=>some O.1.1
def arX:=bT [(false,(.sl .eR)),(false,.int)] cq (br Pb) 27 [] [arW] func42
def XL(D:aa aI)(E:Int):ah (Int):=letI C:=W6 (E-(D.length:Int));bif C<0 then some (-1)else some C
def arY:=aM OV cq (br XL) 12 [] func44
def XM(D:aa bA)(E:Int):ah (Int):=letI C:=W6 (E-(D.length:Int));bif C<0 then some (-1)else some C
def arZ:=aM EG cq (br XM) 12 [] func45
def XN(D:aa bV)(E:Int):ah (Int):=letI C:=W6 (E-(D.length:Int));bif C<0 then some (-1)else some C
def ar0:=aM [(false,(.sl .ef)),(false,.int)] cq (br XN) 12 [] func46
def XO(D:aa bU)(E:Int):ah (Int):=letI C:=W6 (E-(D.length:Int));bif C<0 then some (-1)else some C
def ar1:=aM [(false,(.sl .eo)),(false,.int)] cq (br XO) 12 [] func47
def XP(D:aa cP)(E:Int):ah (Int):=letI C:=W6 (E-(D.length:Int));bif C<0 then some (-1)else some C
def ar2:=aM [(false,(.sl .Event)),(false,.int)] cq (br XP) 12 [] func48
def XQ(D:aa cX)(E:Int):ah (Int):=letI C:=W6 (E-(D.length:Int));bif C<0 then some (-1)else some C
def ar3:=aM [(false,(.sl .gd)),(false,.int)] cq (br XQ) 12 [] func49
def Pc(C:ax)(x1:Int):ah (Int):=(O4 C.box x1).bind λD=>bif D<0 then some (-1)else (O5 C.bq D).bind λE=>bif E<0 then some (-1)else (O6 C.ready E).bind λL=>bif L<0 then some (-1)else (O8 C.array L).bind λO=>bif O<0 then some (-1)else (O9 C.spare O).bind λT=>bif T<0 then some (-1)else (Pa C.aP T).bind λU=>bif U<0 then some (-1)else (Pb C.bH U).bind λY=>bif Y<0 then some (-1)else (qV C.guard Y).bind λZ=>bif Z<0 then some (-1)else (XL C.pending Z).bind λy9=>bif y9<0 then some (-1)else (XM C.queue y9).bind λgR=>bif gR<0 then some (-1)else (XN C.shares gR).bind λeM=>bif eM<0 then some (-1)else (XO C.errors eM).bind λgD=>bif gD<0 then some (-1)else (XP C.trace gD).bind λgS=>bif gS<0 then some (-1)else (XQ C.cT gS).bind λjz=>bif jz<0 then some (-1)else some jz
def ar4:=aM XH cq (br Pc) 90 [arL,arN,arO,arS,arT,arU,arX,zS,arY,arZ,ar0,ar1,ar2,ar3] func8
def Pd(C:aU):ah (aU):=some C
def ar5:=aM Cg [(true,.fe,0)] (bF Pd) 17 [] func136
def Pe(C:c9):ah (c9):=some C
def ar6:=aM EJ [(true,.jI,0)] (bF Pe) 56 [] func137
def Pf(C:jE):ah (jE):=some C
def ar7:=aM [(true,.nK)] [(true,.nK,0)] (bF Pf) 11 [] func138
def Pg(C:iY):ah (iY):=some C
def ar8:=aM [(true,.mO)] [(true,.mO,0)] (bF Pg) 11 [] func139
def Ph(C:ia):ah (ia):=(Pd C.aE).bind λD=>(Pe C.ck).bind λE=>(Pf C.mapping).bind λL=>(Pg C.dO).bind λO=>some (⟨D,E,L,C.cr,C.interval,C.iz,O⟩:ia)
def ar9:=aM [(true,.Config)] [(true,.Config,0)] (bF Ph) 30 [ar5,ar6,ar7,ar8] func22
abbrev afn:=(((aa Int)×af×Int×af)×((aa Int)×af))
def afo(x:afn):ah (afn⊕(((af×af)×((aa Int)×af))⊕Empty)):=letI C:=x.1.2.2.1;bif C<(x.1.1.length:Int)then xI x.1.1 C λD=>xL x.2.1 C λE=>xG ((x.1.1,(),(W6 (C+1)),()),((x.2.1.set C.toNat D),()))else av (((),()),(x.2.1,()))
def asa:KY 22 (aR f60):=⟨0,lB 0 ⟨[(0,.lf (.aF .int 0)),(3,.lf (.own 7)),(4,tI)],[(7,.sl .int 2)],[]⟩ [(2,⟨tQ,[(7,.sl .int 2)],[]⟩)] afo,lp []⟩
def qb(D:aa Int):ah ((aa Int)):=letI C:=(D.length:Int);if 0 <= C/\C <= C/\C<1073741824 then bk afo ((D,(),0,()),((List.replicate C.toNat (0:Int)),())) λE=>some E.2.1 else none
def zU:=bT nh lK (bF qb) 22 [] [asa] func60
def Pj(C:kL):ah (kL):=some C
def asb:=aM [(true,.nL)] [(true,.nL,0)] (bF Pj) 11 [] func140
def IL(C:fz):ah (fz):=(qb C.weights).bind λD=>(Pj C.eI).bind λE=>some (⟨C.eN,C.cap,C.fD,C.low,C.high,D,E⟩:fz)
def asc:=aM IE [(true,.lU,2)] (bF IL) 28 [zU,asb] func23
def Pm(C:gI):ah (gI):=(IL C.bI).bind λD=>(IL C.next).bind λE=>some (⟨D,E,C.waits⟩:gI)
def asd:=aM [(true,.jJ)] [(true,.jJ,2)] (bF Pm) 16 [asc] func53
def IM(C:cR):ah (cR):=some C
def ase:=aM [(true,.fQ)] [(true,.fQ,0)] (bF IM) 11 [] func324
abbrev afp:=(((aa cR)×af×Int×af)×((aa cR)×af))
def afq(x:afp):ah (afp⊕(((af×af)×((aa cR)×af))⊕Empty)):=letI C:=x.1.2.2.1;bif C<(x.1.1.length:Int)then xI x.1.1 C λD=>(IM D).bind λE=>xL x.2.1 C λL=>xG ((x.1.1,(),(W6 (C+1)),()),((x.2.1.set C.toNat E),()))else av (((),()),(x.2.1,()))
def asf:KY 23 (aR f193):=⟨0,lB 0 ⟨[(0,.lf (.aF .fQ 0)),(3,.lf (.own 7)),(4,tI)],[(7,.sl .fQ 2)],[]⟩ [(2,⟨tQ,[(7,.sl .fQ 2)],[]⟩)] afq,lp [ase]⟩
def Pn(D:aa cR):ah ((aa cR)):=letI C:=(D.length:Int);if 0 <= C/\C <= C/\C<1073741824 then bk afq ((D,(),0,()),((List.replicate C.toNat (⟨false,0⟩:cR)),())) λE=>some E.2.1 else none
def asg:=bT [(false,(.sl .fQ))] [(false,(.sl .fQ),2)] (bF Pn) 23 [] [asf] func193
def Po(C:cy):ah (cy):=(Pn C.aB).bind λD=>some (⟨D,C.aZ⟩:cy)
def ash:=aM IF [(true,.iI,2)] (bF Po) 12 [asg] func54
def Pp(C:dn):ah (dn):=(qb C.last).bind λD=>(qb C.bx).bind λE=>some (⟨D,E⟩:dn)
def asi:=aM [(true,.ki)] ID (bF Pp) 13 [zU] func55
def IN(C:bK):ah (bK):=(qb C.symbols).bind λD=>some (⟨D,C.iy⟩:bK)
def asj:=aM [(true,.Cell)] [(true,.Cell,2)] (bF IN) 12 [zU] func325
abbrev afr:=(((aa bK)×af×Int×af)×((aa bK)×af))
def afs(x:afr):ah (afr⊕(((af×af)×((aa bK)×af))⊕Empty)):=letI C:=x.1.2.2.1;bif C<(x.1.1.length:Int)then xI x.1.1 C λD=>(IN D).bind λE=>xL x.2.1 C λL=>xG ((x.1.1,(),(W6 (C+1)),()),((x.2.1.set C.toNat E),()))else av (((),()),(x.2.1,()))
def asl:KY 23 (aR f194):=⟨0,lB 0 ⟨[(0,.lf (.aF .Cell 0)),(3,.lf (.own 7)),(4,tI)],[(7,.sl .Cell 4)],[]⟩ [(2,⟨tQ,[(7,.sl .Cell 4)],[]⟩)] afs,lp [asj]⟩
def Pr(D:aa bK):ah ((aa bK)):=letI C:=(D.length:Int);if 0 <= C/\C <= C/\C<1073741824 then bk afs ((D,(),0,()),((List.replicate C.toNat (⟨[],false⟩:bK)),())) λE=>some E.2.1 else none
def asm:=bT [(false,(.sl .Cell))] [(false,(.sl .Cell),4)] (bF Pr) 23 [] [asl] func194
def Pu(C:cZ):ah (cZ):=(Pr C.cells).bind λD=>(qb C.bz).bind λE=>(qb C.bu).bind λL=>some (⟨D,E,L⟩:cZ)
def asn:=aM [(true,.Array)] [(true,.Array,4)] (bF Pu) 17 [zU,asm] func56
def Pv(C:eZ):ah (eZ):=(qb C.map).bind λD=>some (⟨C.cr,D⟩:eZ)
def aso:=aM [(true,.kj)] [(true,.kj,2)] (bF Pv) 12 [zU] func57
def Pw(C:de):ah (de):=(qb C.aH).bind λD=>some (⟨D,C.wait,C.dS⟩:de)
def asp:=aM Ch [(true,.kM,2)] (bF Pw) 15 [zU] func58
def IP(C:bQ):ah (bQ):=(qb C.rows).bind λD=>(qb C.counts).bind λE=>some (⟨D,E,C.cY⟩:bQ)
def asq:=aM IG [(true,.eR,2)] (bF IP) 16 [zU] func195
abbrev aft:=(((aa bQ)×af×Int×af)×((aa bQ)×af))
def afu(x:aft):ah (aft⊕(((af×af)×((aa bQ)×af))⊕Empty)):=letI C:=x.1.2.2.1;bif C<(x.1.1.length:Int)then xI x.1.1 C λD=>(IP D).bind λE=>xL x.2.1 C λL=>xG ((x.1.1,(),(W6 (C+1)),()),((x.2.1.set C.toNat E),()))else av (((),()),(x.2.1,()))
def asr:KY 23 (aR f59):=⟨0,lB 0 ⟨[(0,.lf (.aF .eR 0)),(3,.lf (.own 7)),(4,tI)],[(7,.sl .eR 4)],[]⟩ [(2,⟨tQ,[(7,.sl .eR 4)],[]⟩)] afu,lp [asq]⟩
def Px(D:aa bQ):ah ((aa bQ)):=letI C:=(D.length:Int);if 0 <= C/\C <= C/\C<1073741824 then bk afu ((D,(),0,()),((List.replicate C.toNat (⟨[],[],0⟩:bQ)),())) λE=>some E.2.1 else none
def ass:=bT [(false,(.sl .eR))] [(false,(.sl .eR),4)] (bF Px) 23 [] [asr] func59
end Go.Proofs.YtnilicojgkhpnaaGreat
