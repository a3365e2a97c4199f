/-
  Functions of the program as plain functions of contents, and that the code computes them. Nothing here is a claim.
-/
import Derived.Test.YtnilicojgkhpnaaGreatVZ
import Derived.Test.YtnilicojgkhpnaaGreatRows
namespace Go.Proofs.YtnilicojgkhpnaaGreat
open Go.RowKit Go.Proofs.Tryz
set_option linter.unusedVariables false
set_option maxRecDepth 100000
abbrev KX:=KC Tryz.prog
abbrev KY:=BK Tryz.prog
abbrev fZ:aa Lm:=[.int .i64,.int .i64,.int .i64,.int .i64]
abbrev bS:aa (Bool×TC×Nat):=[(false,.bool,0)]
abbrev aeu:aa Nat:=[90133,90141,90146,90148,90149,90150,90151,90152,90154,90155,90158,90159,90160,90161,90162,90172,90173,90174]
abbrev Xr:aa Gp:=[(4,.cN,4,aeu),(5,.cN,4,[1000000000108033,1000000000108041,1000000000108046,1000000000108048,1000000000108049,1000000000108050,1000000000108051,1000000000108052,1000000000108054,1000000000108055,1000000000108058,1000000000108059,1000000000108060,1000000000108061,1000000000108062,1000000000108072,1000000000108073,1000000000108074])]
abbrev zz3:aa (Nat×Rm):=[(1,.st .cN),(3,.aC [.int .i64,.int .i64,.int .i64,.int .i64,.int .i64,.int .i64,.int .i64,.int .i64,.int .i64,.int .i64,.int .i64,.int .i64,.int .i64,.int .i64,.int .i64,.int .i64,.int .i64,.int .i64,.int .i64,.int .i64,.int .i64,.int .i64,.bool,.int .i64,.int .i64,.int .i64,.int .i64,.int .i64,.int .i64,.int .i64,.int .i64,.int .i64,.int .i64,.own 1000000000109005,.int .i64,.int .i64,.int .i64,.int .i64,.int .i64,.int .i64,.int .i64,.own 1000000000109013,.int .i64,.int .i64,.bool,.int .i64,.own 1000000000113000,.int .i64,.own 1000000000117000,.own 1000000000117001,.own 1000000000121000,.own 1000000000121001,.own 1000000000121002,.int .i64,.own 1000000000126000,.own 1000000000131000,.int .i64,.bool,.own 33,.aF .int 0,.aF .Addr 0,.aF .dw 0,.aF .ef 0,.bool,.int .i64,.int .i64,.int .i64,.int .i64,.int .i64,.int .i64,.int .i64,.int .i64,.aF .eo 0,.aF .Event 0,.aF .gd 0]),(1000000000109005,.sl .int 2),(1000000000109013,.sl .int 2),(1000000000113000,.sl .fQ 2),(1000000000117000,.sl .int 2),(1000000000117001,.sl .int 2),(1000000000121000,.sl .Cell 4),(1000000000121001,.sl .int 4),(1000000000121002,.sl .int 4),(1000000000126000,.sl .int 2),(1000000000131000,.sl .int 2),(33,.sl .eR 4)]
abbrev zz4:aa (Nat×Rm):=[(1,.aC [.int .i64,.int .i64,.int .i64,.int .i64,.int .i64,.int .i64,.int .i64,.int .i64,.int .i64,.int .i64,.int .i64,.int .i64,.int .i64,.int .i64,.int .i64,.int .i64,.int .i64,.int .i64,.int .i64,.int .i64,.int .i64,.int .i64,.bool,.int .i64,.int .i64,.int .i64,.int .i64,.int .i64,.int .i64,.int .i64,.int .i64,.int .i64,.int .i64,.own 1000000000107005,.int .i64,.int .i64,.int .i64,.int .i64,.int .i64,.int .i64,.int .i64,.own 1000000000107013,.int .i64,.int .i64,.bool,.int .i64,.own 1000000000111000,.int .i64,.own 1000000000115000,.own 1000000000115001,.own 1000000000119000,.own 1000000000119001,.own 1000000000119002,.int .i64,.own 1000000000123001,.own 1000000000127000,.int .i64,.bool,.aF .eR 0,.aF .int 0,.aF .Addr 0,.aF .dw 0,.aF .ef 0,.bool,.int .i64,.int .i64,.int .i64,.int .i64,.int .i64,.int .i64,.int .i64,.int .i64,.aF .eo 0,.aF .Event 0,.aF .gd 0]),(29,.sl .eR 4),(1000000000107005,.sl .int 2),(1000000000107013,.sl .int 2),(1000000000111000,.sl .fQ 2),(1000000000115000,.sl .int 2),(1000000000115001,.sl .int 2),(1000000000119000,.sl .Cell 4),(1000000000119001,.sl .int 4),(1000000000119002,.sl .int 4),(1000000000123001,.sl .int 2),(1000000000127000,.sl .int 2)]
abbrev cq:aa (Bool×TC×Nat):=[(false,.int,0)]
abbrev p7:aa Gp:=[(20000,.cN,4,[60033,60041,60046,60048,60049,60050,60051,60052,60054,60055,60058,60059,60060,60061,60062,60072,60073,60074])]
abbrev Iz:bL:=⟨[],[],p7⟩
abbrev OT:aa Gp:=[(20000,.cN,4,[102000033,102000041,102000046,102000048,102000049,102000050,102000051,102000052,102000054,102000055,102000058,102000059,102000060,102000061,102000062,102000072,102000073,102000074])]
abbrev Xs:bL:=⟨[],[],OT⟩
abbrev EG:aa (Nat×Rm):=[(20000,.aC [.own 60000,.own 60001,.int .i64]),(60000,.sl .int 2),(60001,.sl .int 2)]
abbrev arM:aa Lm:=[.own 60000,.own 60001,.own 60002]
abbrev kE:bL:=⟨[(4,tI)],[],[]⟩
abbrev lK:aa (Bool×TC×Nat):=[(false,(.sl .int),2)]
abbrev vF:aa (Nat×Tm):=[(0,.lf (.own 20000)),(1,tI),(5,tI)]
abbrev OU:aa Lm:=[.own 90100,.own 90101,.own 90102]
abbrev aev:aa (Nat×Rm):=[(6,.aC OU),(7,.aC [.own 1000000000110000,.own 1000000000110001,.own 1000000000110002]),(90100,.sl .Cell 4),(90101,.sl .int 2),(90102,.sl .int 2),(1000000000110000,.sl .Cell 4),(1000000000110001,.sl .int 4),(1000000000110002,.sl .int 4)]
abbrev gC:bL:=⟨[(4,tB)],[],[]⟩
abbrev EH:aa Lm:=[.int .i64,.int .i64,.int .i64,.int .i64,.int .i64,.aF .int 0,.int .i64,.int .i64]
abbrev aew:aa (Nat×Rm):=[(2,.aC fZ),(4,.aC [.int .i64,.own 90101]),(6,.aC [.int .i64,.own 90201]),(90101,.sl .int 2),(90201,.sl .int 2)]
abbrev Xt:bL:=⟨[(1,tI),(2,.aJ 2 0),(4,.aJ 4 0),(6,.aJ 6 0),(7,tI)],aew,[]⟩
abbrev aex:aa (Nat×Rm):=[(20000,.aC arM),(5,.aC fZ),(60000,.sl .Cell 4),(60001,.sl .int 4),(60002,.sl .int 4)]
abbrev n7:bL:=⟨[(2,tB)],[],[]⟩
abbrev nh:aa (Bool×TC):=[(false,(.sl .int))]
abbrev tN:aa (Nat×Tm):=[(1,tI)]
abbrev su:bL:=⟨tN,[],[]⟩
abbrev Xu:aa (Nat×Rm):=[(1,.st .cN),(2,.aC fZ),(1000000000117000,.sl .int 2),(5,.aC fZ)]
abbrev zR:aa (Bool×TC):=[(false,(.sl .int)),(false,.int)]
abbrev aey:aa (Nat×Rm):=[(2,.aC OU),(3,.aC [.own 90200,.own 6,.own 10]),(90100,.sl .Cell 4),(90101,.sl .int 2),(90102,.sl .int 2),(90200,.sl .Cell 4),(6,.sl .int 2),(10,.sl .int 2)]
abbrev vG:bL:=⟨[(5,tI)],[],[]⟩
abbrev lM:aa (Bool×TC):=[(false,.int)]
abbrev Ch:aa Lm:=[.aF .int 0,.int .i64,.bool]
abbrev aez:aa (Nat×Rm):=[(2,.aC Ch),(4,.aC [.own 90100,.int .i64,.bool]),(5,.aC [.own 1000000000108000,.int .i64,.bool]),(90100,.sl .int 2),(1000000000108000,.sl .int 2)]
abbrev aeA:aa Gp:=[(20000,.cN,4,[60033,60041,60046,60048,60049,60050,60051,60052,60054,60055,60058,60059,1000000000141000,60061,60062,60072,60073,60074])]
abbrev Xv:aa (Nat×Rm):=[(1000000000112000,.sl .eo 2)]
abbrev aeB:bL:=⟨[(1,tI),(2,tI),(8,.lf (.own 1000000000112000)),(30,.lf (.own 1000000000112000)),(31,tI),(32,tI)],Xv,[]⟩
abbrev tO:aa (Nat×Tm):=[(3,.lf (.own 7))]
abbrev EI:aa (Bool×TC):=[(false,(.sl .dw)),(false,.int)]
abbrev aeC:aa (Nat×Rm):=[(18,.sl .int 2),(99004,.sl .int 2),(66,.sl .int 2)]
abbrev aeD:bL:=⟨[(3,.lf (.own 18)),(4,.lf (.own 99004)),(8,.lf (.own 66)),(9,tI)],aeC,[]⟩
abbrev fq:bL:=⟨[],[],[]⟩
abbrev aeE:bL:=⟨[(4,.aJ 4 0),(6,.aJ 6 0)],[(4,.aC [.int .i64,.own 90101]),(6,.aC [.int .i64,.own 90201]),(90101,.sl .int 2),(90201,.sl .int 2)],[]⟩
abbrev Ci:aa Lm:=[.aF .int 0,.aF .int 0]
abbrev aeF:bL:=⟨[(5,.aJ 5 0),(6,.aJ 6 0),(7,.aJ 7 0),(9,tI)],[(5,.st .jI),(6,.aC Ci),(7,.aC fZ)],[]⟩
abbrev EJ:aa (Bool×TC):=[(false,.int),(false,.int)]
abbrev sv:aa (Bool×TC):=[(true,.cN)]
abbrev OV:aa (Bool×TC):=[(false,(.sl .ef)),(false,(.sl .bool))]
abbrev Xw:bL:=⟨[(0,tI),(1,tI),(5,tI),(6,tI)],[],[]⟩
abbrev aeG:bL:=⟨[(0,.lf (.aF .int 0)),(3,.lf (.own 10)),(12,tI),(13,tI)],[(10,.sl .int 2)],[]⟩
abbrev aeH:bL:=⟨[(1,.aJ 1 0),(2,.aJ 2 0),(4,.lf (.own 1000000000117000)),(5,.aJ 5 0)],Xu,[]⟩
abbrev aeI:bL:=⟨[(0,tI),(1,.lf (.aF .dw 0)),(9,.lf (.aF .dw 0)),(10,tI),(11,tI)],[],[]⟩
abbrev aeJ:aa (Nat×Rm):=[(3,.st .cN),(6,.aC fZ),(8,.aC EH),(81,.sl .bool 2),(142,.sl .Command 2),(146,.sl .bool 2)]
abbrev IA:aa (Bool×TC):=[(true,.kM),(false,.int)]
abbrev IB:aa (Bool×TC):=[(true,.cN),(false,.int)]
abbrev IC:aa (Bool×TC):=[(true,.fe),(false,.int)]
abbrev ID:aa PK:=[.p .cN 4 0,.v false .int]
abbrev aeK:aa Lm:=[.aF .Cell 0,.aF .int 0,.aF .int 0]
abbrev IE:aa (Nat×Rm):=[(3,.aC aeK)]
abbrev aeL:aa (Nat×Rm):=[(2,.aC fZ),(3,.aC [.int .i64,.aF .int 0])]
abbrev Xx:bL:=⟨[(2,.aJ 2 0),(3,.aJ 3 0),(7,tI),(8,tI)],aeL,[]⟩
abbrev zS:aa Lm:=[.aF .fQ 0,.int .i64]
abbrev Xy:aa (Nat×Rm):=[(1,.aC [.aF .int 0,.aF .int 0,.int .i64])]
abbrev Xz:bL:=⟨[(0,.lf (.aF .int 0)),(1,tI),(5,tI)],[],[]⟩
abbrev XA:bL:=⟨[(0,.lf (.aF .dw 0)),(1,tI),(5,tI)],[],[]⟩
abbrev OW:aa Lm:=[.int .i64,.int .i64,.int .i64]
abbrev aeM:bL:=⟨[(0,.lf (.aF .int 0)),(3,.lf (.own 12)),(4,tI)],[(12,.sl .int 2)],[]⟩
abbrev OX:aa (Bool×TC):=[(false,(.sl .Addr)),(false,.int)]
abbrev aeN:bL:=⟨[(0,.lf (.aF .ef 0)),(1,.lf (.aF .bool 0)),(5,tI),(6,tI)],[],[]⟩
abbrev XB:aa (Bool×TC):=[(false,(.sl .eo)),(false,.int),(false,.int)]
abbrev aeO:aa (Nat×Tm):=[(2,.aJ 20000 50),(12,tI),(75,.lf (.own 1000000000175000)),(76,tI),(77,tI)]
abbrev aeP:aa (Bool×TC):=[(false,(.sl .dw)),(false,(.sl .bool)),(false,(.sl .bool)),(false,.int),(false,.int)]
abbrev XC:aa (Nat×Rm):=[(98000,.sl .Addr 1000002)]
abbrev aeQ:bL:=⟨[(0,.lf (.own 98000)),(5,tI)],XC,[]⟩
abbrev aeR:aa (Nat×Rm):=[(2,.aC fZ),(1000000000116000,.sl .Addr 2),(19,.sl .bool 2),(20,.sl .bool 2)]
abbrev aeS:bL:=⟨[(1,.lf (.aF .bool 0)),(6,.lf (.own 9))],[(9,.sl .ef 2)],[]⟩
abbrev aeT:bL:=⟨[(1,tI),(2,tI),(8,.lf (.own 1000000000112000))],Xv,[]⟩
abbrev OY:aa (Bool×TC):=[(true,.iI),(false,.int)]
abbrev OZ:aa (Bool×TC):=[(true,.fe),(true,.kj)]
abbrev O0:aa (Bool×TC):=[(true,.fe),(true,.Addr)]
abbrev aeU:aa PK:=[.v true .fe,.v true .mO,.p .cN 4 50,.v false .int,.v false .int]
abbrev XD:bL:=⟨[(3,.lf (.own 5))],[(5,.sl .int 2)],[]⟩
abbrev IF:bL:=⟨[(6,tI)],[],[]⟩
abbrev aeV:bL:=⟨[(0,.lf (.aF .eo 0)),(7,.lf (.aF .eo 0)),(8,tI),(9,tI)],[],[]⟩
abbrev aeW:bL:=⟨[(6,.lf (.own 1000000000112000)),(7,tB)],Xv,[]⟩
abbrev arN:aa (Nat×Tm):=[(0,.aJ 20000 0),(1,tI),(4,tI)]
abbrev aeX:aa (Nat×Rm):=[(11,.sl .Command 2),(1000000000113000,.sl .Addr 2),(14,.sl .bool 2)]
abbrev aeY:bL:=⟨[(0,.lf (.aF .Cell 0)),(1,tI),(5,tI)],[],[]⟩
abbrev aeZ:bL:=⟨[(0,.lf (.aF .eR 0)),(1,tI),(5,tI)],[],[]⟩
abbrev ae0:bL:=⟨[(0,.lf (.aF .Addr 0)),(1,tI),(5,tI)],[],[]⟩
abbrev Cj:aa (Bool×TC):=[(true,.fe)]
abbrev Cl:aa (Bool×TC):=[(true,.kM)]
abbrev EK:aa (Bool×TC×Nat):=[(true,.Command,0)]
abbrev XE:aa (Bool×TC):=[(false,(.sl .Addr)),(true,.Addr)]
abbrev ae1:aa (Nat×Rm):=[(3,.st .cN),(6,.aC fZ),(8,.aC EH),(38,.sl .bool 2)]
abbrev ae2:aa (Nat×Rm):=[(4,.st .cN),(7,.aC fZ),(8,.aC fZ),(16,.sl .bool 2)]
abbrev ae3:bL:=⟨[(2,.aJ 2 0),(3,tI)],[(2,.aC fZ)],[]⟩
abbrev ae4:aa (Nat×Rm):=[(4,.aC fZ),(5,.st .jI),(6,.aC Ci),(7,.aC fZ)]
abbrev ae5:bL:=⟨[(3,.lf (.own 6))],[(6,.sl .int 2)],[]⟩
abbrev O1:aa Gp:=[(2,.cN,4,aeu)]
abbrev ae6:bL:=⟨[(0,.lf (.aF .int 0)),(1,tI)],[],[]⟩
abbrev XF:aa PK:=[.p .cN 4 50,.v false .int]
abbrev XG:aa (Nat×Rm):=[(1,.st .cN),(3,.aC fZ)]
abbrev EL:aa (Bool×TC):=[(true,.jI)]
abbrev ae7:bL:=⟨[(4,.aJ 4 0),(5,.aJ 5 0)],[],Xr⟩
abbrev ae8:aa (Bool×TC):=[(true,.jI),(false,.int),(false,.int),(false,.bool)]
abbrev ae9:aa (Bool×TC):=[(true,.fe),(true,.jI),(true,.Command),(true,.Command)]
abbrev afa:aa (Bool×TC):=[(true,.fe),(true,.jI),(true,.ki),(true,.Command)]
abbrev afb:bL:=⟨[(1,.aJ 1 0)],[(1,.st .jI)],[]⟩
abbrev afc:bL:=⟨[(3,.aJ 3 0)],[(3,.aC Ci)],[]⟩
abbrev afd:bL:=⟨[(1,.aJ 1 0)],[(1,.aC Ch)],[]⟩
abbrev O2:aa (Bool×TC):=[(false,(.sl .eo))]
abbrev XH:aa (Bool×TC):=[(true,.dw),(true,.dw)]
abbrev XI:aa (Bool×TC):=[(true,.fe),(true,.Command)]
abbrev XJ:aa (Nat×Rm):=[(3,.aC zS),(1000000000115000,.sl .int 2)]
abbrev afe:bL:=⟨[(1,.aJ 1 0),(3,tI)],Xy,[]⟩
abbrev IG:aa (Bool×TC×Nat):=[(true,.ki,2)]
abbrev aff:bL:=⟨[(0,.lf (.aF .ef 0))],[],[]⟩
abbrev afg:aa (Bool×TC):=[(true,.iI),(false,.int),(false,(.sl .Addr))]
abbrev afh:aa PK:=[.p .cN 4 0,.v false .int,.v false .int]
abbrev afi:aa PK:=[.p .cN 4 0,.v true .Command,.v false .int]
abbrev afj:aa (Nat×Tm):=[(1,tI),(4,.aJ 4 0),(5,.aJ 5 0),(6,tI)]
abbrev II:aa (Bool×TC):=[(true,.lU)]
abbrev IJ:aa (Bool×TC):=[(true,.iI)]
abbrev IK:aa (Bool×TC):=[(true,.eR)]
abbrev O3:aa (Nat×Rm):=[(7,.sl .ef 2)]
abbrev O4:aa (Nat×Rm):=[(7,.sl .Command 2)]
abbrev afk:bL:=⟨[(0,tI),(3,tI)],[],[]⟩
abbrev afl:aa (Nat×Tm):=[(1,.aJ 1 0),(3,.lf (.own 5)),(4,tI)]
abbrev afm:bL:=⟨[(3,.aJ 3 0)],IE,[]⟩
def qT(D:aa Int)(E:Int):ah (Int):=letI C:=W6 (E-(D.length:Int));bif C<0 then some (-1)else some C
def zU:=aM zR cq (br qT) 12 [] func43
def IL(D:fz)(E:Int):ah (Int):=(qT D.weights E).bind λC=>bif C<0 then some (-1)else some C
def arO:=aM [(true,.lU),(false,.int)] cq (br IL) 12 [zU] func19
def O5(C:gJ)(L:Int):ah (Int):=(IL C.bI L).bind λD=>bif D<0 then some (-1)else (IL C.next D).bind λE=>bif E<0 then some (-1)else some E
def arP:=aM [(true,.jJ),(false,.int)] cq (br O5) 18 [arO] func36
def XK(D:aa cQ)(E:Int):ah (Int):=letI C:=W6 (E-(D.length:Int));bif C<0 then some (-1)else some C
def arQ:=aM [(false,(.sl .fQ)),(false,.int)] cq (br XK) 12 [] func155
def O6(D:cy)(E:Int):ah (Int):=(XK D.aB E).bind λC=>bif C<0 then some (-1)else some C
def arR:=aM OY cq (br O6) 12 [arQ] func37
def O7(C:dn)(L:Int):ah (Int):=(qT C.last L).bind λD=>bif D<0 then some (-1)else (qT C.bx D).bind λE=>bif E<0 then some (-1)else some E
def arS:=aM [(true,.ki),(false,.int)] cq (br O7) 18 [zU] func38
def IM(D:bK)(E:Int):ah (Int):=(qT D.symbols E).bind λC=>bif C<0 then some (-1)else some C
def arT:=aM [(true,.Cell),(false,.int)] cq (br IM) 12 [zU] func287
abbrev afn:=(((aa bK)×Int×Int×af)×(af))
def afo(x:afn):ah (afn⊕(((Int×af)×(af))⊕(((Int×af)×(af))⊕Empty))):=bif x.1.2.2.1<(x.1.1.length:Int)then xI x.1.1 x.1.2.2.1 λD=>(IM D x.1.2.1).bind λC=>bif C<0 then av (((-1),()),())else xG ((x.1.1,C,(W6 (x.1.2.2.1+1)),()),())else aQ ((x.1.2.1,()),())
def arU:KY 27 (aS f156):=⟨0,lB 0 aeY [(1,kE),(2,su)] afo,lp [arT]⟩
def O8(C:aa bK)(E:Int):ah (Int):=letI D:=W6 (E-(C.length:Int));bif D<0 then some (-1)else bE afo ((C,D,0,()),()) (λL=>some L.1.1) λO=>some O.1.1
def arV:=bT [(false,(.sl .Cell)),(false,.int)] cq (br O8) 27 [] [arU] func156
def O9(C:cZ)(O:Int):ah (Int):=(O8 C.cells O).bind λD=>bif D<0 then some (-1)else (qT C.bz D).bind λE=>bif E<0 then some (-1)else (qT C.bu E).bind λL=>bif L<0 then some (-1)else some L
def arW:=aM [(true,.Array),(false,.int)] cq (br O9) 24 [zU,arV] func39
def Pa(D:eZ)(E:Int):ah (Int):=(qT D.map E).bind λC=>bif C<0 then some (-1)else some C
def arX:=aM [(true,.kj),(false,.int)] cq (br Pa) 12 [zU] func40
def Pb(D:de)(E:Int):ah (Int):=(qT D.aH E).bind λC=>bif C<0 then some (-1)else some C
def arY:=aM IA cq (br Pb) 12 [zU] func41
def IN(C:bQ)(L:Int):ah (Int):=(qT C.rows L).bind λD=>bif D<0 then some (-1)else (qT C.counts D).bind λE=>bif E<0 then some (-1)else some E
def arZ:=aM [(true,.eR),(false,.int)] cq (br IN) 18 [zU] func157
abbrev afp:=(((aa bQ)×Int×Int×af)×(af))
def afq(x:afp):ah (afp⊕(((Int×af)×(af))⊕(((Int×af)×(af))⊕Empty))):=bif x.1.2.2.1<(x.1.1.length:Int)then xI x.1.1 x.1.2.2.1 λD=>(IN D x.1.2.1).bind λC=>bif C<0 then av (((-1),()),())else xG ((x.1.1,C,(W6 (x.1.2.2.1+1)),()),())else aQ ((x.1.2.1,()),())
def ar0:KY 27 (aS f42):=⟨0,lB 0 aeZ [(1,kE),(2,su)] afq,lp [arZ]⟩
def Pc(C:aa bQ)(E:Int):ah (Int):=letI D:=W6 (E-(C.length:Int));bif D<0 then some (-1)else bE afq ((C,D,0,()),()) (λL=>some L.1.1) λO=>some O.1.1
def ar1:=bT [(false,(.sl .eR)),(false,.int)] cq (br Pc) 27 [] [ar0] func42
def XL(D:aa aI)(E:Int):ah (Int):=letI C:=W6 (E-(D.length:Int));bif C<0 then some (-1)else some C
def ar2:=aM OX cq (br XL) 12 [] func44
def XM(D:aa bA)(E:Int):ah (Int):=letI C:=W6 (E-(D.length:Int));bif C<0 then some (-1)else some C
def ar3:=aM EI cq (br XM) 12 [] func45
def XN(D:aa bV)(E:Int):ah (Int):=letI C:=W6 (E-(D.length:Int));bif C<0 then some (-1)else some C
def ar4:=aM [(false,(.sl .ef)),(false,.int)] cq (br XN) 12 [] func46
def XO(D:aa bU)(E:Int):ah (Int):=letI C:=W6 (E-(D.length:Int));bif C<0 then some (-1)else some C
def ar5:=aM [(false,(.sl .eo)),(false,.int)] cq (br XO) 12 [] func47
def XP(D:aa cO)(E:Int):ah (Int):=letI C:=W6 (E-(D.length:Int));bif C<0 then some (-1)else some C
def ar6:=aM [(false,(.sl .Event)),(false,.int)] cq (br XP) 12 [] func48
def XQ(D:aa cW)(E:Int):ah (Int):=letI C:=W6 (E-(D.length:Int));bif C<0 then some (-1)else some C
def ar7:=aM [(false,(.sl .gd)),(false,.int)] cq (br XQ) 12 [] func49
def Pd(C:ax)(x1:Int):ah (Int):=(O5 C.box x1).bind λD=>bif D<0 then some (-1)else (O6 C.bq D).bind λE=>bif E<0 then some (-1)else (O7 C.ready E).bind λL=>bif L<0 then some (-1)else (O9 C.array L).bind λO=>bif O<0 then some (-1)else (Pa C.spare O).bind λT=>bif T<0 then some (-1)else (Pb C.aP T).bind λU=>bif U<0 then some (-1)else (Pc C.bH U).bind λY=>bif Y<0 then some (-1)else (qT C.guard Y).bind λZ=>bif Z<0 then some (-1)else (XL C.pending Z).bind λy9=>bif y9<0 then some (-1)else (XM C.queue y9).bind λgS=>bif gS<0 then some (-1)else (XN C.shares gS).bind λeM=>bif eM<0 then some (-1)else (XO C.errors eM).bind λgD=>bif gD<0 then some (-1)else (XP C.trace gD).bind λgT=>bif gT<0 then some (-1)else (XQ C.cS gT).bind λjz=>bif jz<0 then some (-1)else some jz
def ar8:=aM IB cq (br Pd) 90 [arP,arR,arS,arW,arX,arY,ar1,zU,ar2,ar3,ar4,ar5,ar6,ar7] func8
def Pe(C:aV):ah (aV):=some C
def ar9:=aM Cj [(true,.fe,0)] (bF Pe) 17 [] func136
def Pf(C:c9):ah (c9):=some C
def asa:=aM EL [(true,.jI,0)] (bF Pf) 56 [] func137
def Pg(C:jE):ah (jE):=some C
def asb:=aM [(true,.nJ)] [(true,.nJ,0)] (bF Pg) 11 [] func138
def Ph(C:iX):ah (iX):=some C
def asc:=aM [(true,.mO)] [(true,.mO,0)] (bF Ph) 11 [] func139
def Pj(C:ig):ah (ig):=(Pe C.aE).bind λD=>(Pf C.ck).bind λE=>(Pg C.mapping).bind λL=>(Ph C.dO).bind λO=>some (⟨D,E,L,C.cr,C.interval,C.iz,O⟩:ig)
def asd:=aM [(true,.Config)] [(true,.Config,0)] (bF Pj) 30 [ar9,asa,asb,asc] func22
abbrev afr:=(((aa Int)×af×Int×af)×((aa Int)×af))
def afs(x:afr):ah (afr⊕(((af×af)×((aa Int)×af))⊕Empty)):=letI C:=x.1.2.2.1;bif C<(x.1.1.length:Int)then xI x.1.1 C λD=>xL x.2.1 C λE=>xG ((x.1.1,(),(W6 (C+1)),()),((x.2.1.set C.toNat D),()))else av (((),()),(x.2.1,()))
def ase:KY 22 (aS f60):=⟨0,lB 0 ⟨[(0,.lf (.aF .int 0)),(3,.lf (.own 7)),(4,tI)],[(7,.sl .int 2)],[]⟩ [(2,⟨tO,[(7,.sl .int 2)],[]⟩)] afs,lp []⟩
def p9(D:aa Int):ah ((aa Int)):=letI C:=(D.length:Int);if 0 <= C/\C <= C/\C<1073741824 then bh afs ((D,(),0,()),((List.replicate C.toNat (0:Int)),())) λE=>some E.2.1 else none
def zV:=bT nh lK (bF p9) 22 [] [ase] func60
def Pm(C:kL):ah (kL):=some C
def asf:=aM [(true,.nK)] [(true,.nK,0)] (bF Pm) 11 [] func140
def IP(C:fz):ah (fz):=(p9 C.weights).bind λD=>(Pm C.eK).bind λE=>some (⟨C.eO,C.cap,C.fD,C.low,C.high,D,E⟩:fz)
def asg:=aM II [(true,.lU,2)] (bF IP) 28 [zV,asf] func23
def Pn(C:gJ):ah (gJ):=(IP C.bI).bind λD=>(IP C.next).bind λE=>some (⟨D,E,C.waits⟩:gJ)
def ash:=aM [(true,.jJ)] [(true,.jJ,2)] (bF Pn) 16 [asg] func53
def IQ(C:cQ):ah (cQ):=some C
def asi:=aM [(true,.fQ)] [(true,.fQ,0)] (bF IQ) 11 [] func324
abbrev aft:=(((aa cQ)×af×Int×af)×((aa cQ)×af))
def afu(x:aft):ah (aft⊕(((af×af)×((aa cQ)×af))⊕Empty)):=letI C:=x.1.2.2.1;bif C<(x.1.1.length:Int)then xI x.1.1 C λD=>(IQ D).bind λE=>xL x.2.1 C λL=>xG ((x.1.1,(),(W6 (C+1)),()),((x.2.1.set C.toNat E),()))else av (((),()),(x.2.1,()))
def asj:KY 23 (aS f193):=⟨0,lB 0 ⟨[(0,.lf (.aF .fQ 0)),(3,.lf (.own 7)),(4,tI)],[(7,.sl .fQ 2)],[]⟩ [(2,⟨tO,[(7,.sl .fQ 2)],[]⟩)] afu,lp [asi]⟩
def Po(D:aa cQ):ah ((aa cQ)):=letI C:=(D.length:Int);if 0 <= C/\C <= C/\C<1073741824 then bh afu ((D,(),0,()),((List.replicate C.toNat (⟨false,0⟩:cQ)),())) λE=>some E.2.1 else none
def asl:=bT [(false,(.sl .fQ))] [(false,(.sl .fQ),2)] (bF Po) 23 [] [asj] func193
def Pp(C:cy):ah (cy):=(Po C.aB).bind λD=>some (⟨D,C.aZ⟩:cy)
def asm:=aM IJ [(true,.iI,2)] (bF Pp) 12 [asl] func54
def Pr(C:dn):ah (dn):=(p9 C.last).bind λD=>(p9 C.bx).bind λE=>some (⟨D,E⟩:dn)
def asn:=aM [(true,.ki)] IG (bF Pr) 13 [zV] func55
def IS(C:bK):ah (bK):=(p9 C.symbols).bind λD=>some (⟨D,C.iy⟩:bK)
def aso:=aM [(true,.Cell)] [(true,.Cell,2)] (bF IS) 12 [zV] func325
abbrev afv:=(((aa bK)×af×Int×af)×((aa bK)×af))
def afw(x:afv):ah (afv⊕(((af×af)×((aa bK)×af))⊕Empty)):=letI C:=x.1.2.2.1;bif C<(x.1.1.length:Int)then xI x.1.1 C λD=>(IS D).bind λE=>xL x.2.1 C λL=>xG ((x.1.1,(),(W6 (C+1)),()),((x.2.1.set C.toNat E),()))else av (((),()),(x.2.1,()))
def asp:KY 23 (aS f194):=⟨0,lB 0 ⟨[(0,.lf (.aF .Cell 0)),(3,.lf (.own 7)),(4,tI)],[(7,.sl .Cell 4)],[]⟩ [(2,⟨tO,[(7,.sl .Cell 4)],[]⟩)] afw,lp [aso]⟩
def Pu(D:aa bK):ah ((aa bK)):=letI C:=(D.length:Int);if 0 <= C/\C <= C/\C<1073741824 then bh afw ((D,(),0,()),((List.replicate C.toNat (⟨[],false⟩:bK)),())) λE=>some E.2.1 else none
def asq:=bT [(false,(.sl .Cell))] [(false,(.sl .Cell),4)] (bF Pu) 23 [] [asp] func194
def Pv(C:cZ):ah (cZ):=(Pu C.cells).bind λD=>(p9 C.bz).bind λE=>(p9 C.bu).bind λL=>some (⟨D,E,L⟩:cZ)
def asr:=aM [(true,.Array)] [(true,.Array,4)] (bF Pv) 17 [zV,asq] func56
def Pw(C:eZ):ah (eZ):=(p9 C.map).bind λD=>some (⟨C.cr,D⟩:eZ)
def ass:=aM [(true,.kj)] [(true,.kj,2)] (bF Pw) 12 [zV] func57
def Px(C:de):ah (de):=(p9 C.aH).bind λD=>some (⟨D,C.wait,C.dS⟩:de)
def ast:=aM Cl [(true,.kM,2)] (bF Px) 15 [zV] func58
def IT(C:bQ):ah (bQ):=(p9 C.rows).bind λD=>(p9 C.counts).bind λE=>some (⟨D,E,C.cY⟩:bQ)
def asu:=aM IK [(true,.eR,2)] (bF IT) 16 [zV] func195
abbrev afx:=(((aa bQ)×af×Int×af)×((aa bQ)×af))
def afy(x:afx):ah (afx⊕(((af×af)×((aa bQ)×af))⊕Empty)):=letI C:=x.1.2.2.1;bif C<(x.1.1.length:Int)then xI x.1.1 C λD=>(IT D).bind λE=>xL x.2.1 C λL=>xG ((x.1.1,(),(W6 (C+1)),()),((x.2.1.set C.toNat E),()))else av (((),()),(x.2.1,()))
def asv:KY 23 (aS f59):=⟨0,lB 0 ⟨[(0,.lf (.aF .eR 0)),(3,.lf (.own 7)),(4,tI)],[(7,.sl .eR 4)],[]⟩ [(2,⟨tO,[(7,.sl .eR 4)],[]⟩)] afy,lp [asu]⟩
def Py(D:aa bQ):ah ((aa bQ)):=letI C:=(D.length:Int);if 0 <= C/\C <= C/\C<1073741824 then bh afy ((D,(),0,()),((List.replicate C.toNat (⟨[],[],0⟩:bQ)),())) λE=>some E.2.1 else none
def asw:=bT [(false,(.sl .eR))] [(false,(.sl .eR),4)] (bF Py) 23 [] [asv] func59
end Go.Proofs.YtnilicojgkhpnaaGreat
