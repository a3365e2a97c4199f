/-
  Functions of the program as plain functions of contents, and that the code computes them. Nothing here is a claim.
-/
import Derived.Test.YtnilicojgkhpnaaGreatVZ
import Derived.Test.YtnilicojgkhpnaaGreatRows
namespace Go.Proofs.YtnilicojgkhpnaaGreat
set_option linter.defProp false
open Go.RowKit Go.Proofs.Tryz
set_option linter.unusedVariables false
set_option maxRecDepth 100000
abbrev KX:=KC Tryz.prog
abbrev KY:=BK Tryz.prog
abbrev kV:aa Gp:=[(20000,.cP,4,[60033,60041,60046,60048,60049,60050,60051,60052,60054,60055,60058,60059,60060,60061,60062,60072,60073,60074])]
abbrev FX:aa Nat:=[90133,90141,90146,90148,90149,90150,90151,90152,90154,90155,90158,90159,90160,90161,90162,90172,90173,90174]
abbrev bP:aa (Bool×TC×Nat):=[(false,.bool,0)]
abbrev QO:aa Gp:=[(20000,.cP,4,[102000033,102000041,102000046,102000048,102000049,102000050,102000051,102000052,102000054,102000055,102000058,102000059,102000060,102000061,102000062,102000072,102000073,102000074])]
abbrev cE:aa (Bool×TC×Nat):=[(false,.int,0)]
abbrev iz:bG:=⟨[(4,tB)],[],[]⟩
abbrev atm:aa Lm:=[.own 60000,.own 60001,.own 60002]
abbrev fj:aa Lm:=[.int .i64,.int .i64,.int .i64,.int .i64]
abbrev zz6:aa (Nat×Rm):=[(20000,.aB atm),(5,.aB fj),(60000,.sl .Cell 4),(60001,.sl .int 4),(60002,.sl .int 4)]
abbrev FY:aa Lm:=[.int .i64,.own 90101]
abbrev zz7:aa (Nat×Rm):=[(2,.aB fj),(4,.aB FY),(6,.aB [.int .i64,.own 90201]),(90101,.sl .int 2),(90201,.sl .int 2)]
abbrev YK:aa (Nat×Rm):=[(1,.st .cP),(2,.aB fj),(1000000000117000,.sl .int 2),(5,.aB fj)]
abbrev FZ:aa (Nat×Rm):=[(20000,.aB [.own 60000,.own 60001,.int .i64]),(60000,.sl .int 2),(60001,.sl .int 2)]
abbrev lN:bG:=⟨[(4,tI)],[],[]⟩
abbrev uO:aa (Nat×Tm):=[(0,.lf (.own 20000)),(1,tI),(5,tI)]
abbrev mP:aa (Bool×TC×Nat):=[(false,(.sl .int),2)]
abbrev Dq:aa Lm:=[.own 90100,.own 90101,.own 90102]
abbrev afC:aa (Nat×Rm):=[(1,.st .cP),(3,.aB [.int .i64,.int .i64,.int .i64,.int .i64,.int .i64,.int .i64,.int .i64,.int .i64,.int .i64,.int .i64,.int .i64,.int .i64,.int .i64,.int .i64,.int .i64,.int .i64,.int .i64,.int .i64,.int .i64,.int .i64,.int .i64,.int .i64,.bool,.int .i64,.int .i64,.int .i64,.int .i64,.int .i64,.int .i64,.int .i64,.int .i64,.int .i64,.int .i64,.own 1000000000109005,.int .i64,.int .i64,.int .i64,.int .i64,.int .i64,.int .i64,.int .i64,.own 1000000000109013,.int .i64,.int .i64,.bool,.int .i64,.own 1000000000113000,.int .i64,.own 1000000000117000,.own 1000000000117001,.own 1000000000121000,.own 1000000000121001,.own 1000000000121002,.int .i64,.own 1000000000126000,.own 1000000000131000,.int .i64,.bool,.own 33,.aF .int 0,.aF .Addr 0,.aF .dg 0,.aF .fm 0,.bool,.int .i64,.int .i64,.int .i64,.int .i64,.int .i64,.int .i64,.int .i64,.int .i64,.aF .fM 0,.aF .Event 0,.aF .iP 0]),(1000000000109005,.sl .int 2),(1000000000109013,.sl .int 2),(1000000000113000,.sl .iY 2),(1000000000117000,.sl .int 2),(1000000000117001,.sl .int 2),(1000000000121000,.sl .Cell 4),(1000000000121001,.sl .int 4),(1000000000121002,.sl .int 4),(1000000000126000,.sl .int 2),(1000000000131000,.sl .int 2),(33,.sl .gp 4)]
abbrev afD:aa (Nat×Rm):=[(1,.aB [.int .i64,.int .i64,.int .i64,.int .i64,.int .i64,.int .i64,.int .i64,.int .i64,.int .i64,.int .i64,.int .i64,.int .i64,.int .i64,.int .i64,.int .i64,.int .i64,.int .i64,.int .i64,.int .i64,.int .i64,.int .i64,.int .i64,.bool,.int .i64,.int .i64,.int .i64,.int .i64,.int .i64,.int .i64,.int .i64,.int .i64,.int .i64,.int .i64,.own 1000000000107005,.int .i64,.int .i64,.int .i64,.int .i64,.int .i64,.int .i64,.int .i64,.own 1000000000107013,.int .i64,.int .i64,.bool,.int .i64,.own 1000000000111000,.int .i64,.own 1000000000115000,.own 1000000000115001,.own 1000000000119000,.own 1000000000119001,.own 1000000000119002,.int .i64,.own 1000000000123001,.own 1000000000127000,.int .i64,.bool,.aF .gp 0,.aF .int 0,.aF .Addr 0,.aF .dg 0,.aF .fm 0,.bool,.int .i64,.int .i64,.int .i64,.int .i64,.int .i64,.int .i64,.int .i64,.int .i64,.aF .fM 0,.aF .Event 0,.aF .iP 0]),(29,.sl .gp 4),(1000000000107005,.sl .int 2),(1000000000107013,.sl .int 2),(1000000000111000,.sl .iY 2),(1000000000115000,.sl .int 2),(1000000000115001,.sl .int 2),(1000000000119000,.sl .Cell 4),(1000000000119001,.sl .int 4),(1000000000119002,.sl .int 4),(1000000000123001,.sl .int 2),(1000000000127000,.sl .int 2)]
abbrev afE:aa Gp:=[(6,.cP,4,FX),(8,.cP,4,[1000000000115033,1000000000115041,1000000000115046,1000000000115048,1000000000115049,1000000000115050,1000000000115051,1000000000115052,1000000000115054,1000000000115055,1000000000115058,1000000000115059,1000000000115060,1000000000115061,1000000000115062,1000000000115072,1000000000115073,1000000000115074])]
abbrev afF:aa Gp:=[(4,.cP,4,FX),(5,.cP,4,[1000000000108033,1000000000108041,1000000000108046,1000000000108048,1000000000108049,1000000000108050,1000000000108051,1000000000108052,1000000000108054,1000000000108055,1000000000108058,1000000000108059,1000000000108060,1000000000108061,1000000000108062,1000000000108072,1000000000108073,1000000000108074])]
abbrev afG:aa Gp:=[(6,.cP,4,FX),(8,.cP,4,[1000000000118033,1000000000118041,1000000000118046,1000000000118048,1000000000118049,1000000000118050,1000000000118051,1000000000118052,1000000000118054,1000000000118055,1000000000118058,1000000000118059,1000000000118060,1000000000118061,1000000000118062,1000000000118072,1000000000118073,1000000000118074])]
abbrev Dr:aa (Bool×TC):=[(true,.ga),(true,.mB),(false,.int),(false,.int)]
abbrev afH:aa Gp:=[(4,.cP,4,FX),(6,.cP,4,[1000000000137005,1000000000137013,1000000000119000,1000000000122000,1000000000122001,1000000000125000,1000000000125001,1000000000125002,1000000000146001,1000000000154000,90258,90259,90260,90261,90262,90272,90273,90274])]
abbrev ou:aa (Bool×TC):=[(false,(.sl .int))]
abbrev afI:aa (Nat×Rm):=[(6,.aB Dq),(7,.aB [.own 1000000000110000,.own 1000000000110001,.own 1000000000110002]),(90100,.sl .Cell 4),(90101,.sl .int 2),(90102,.sl .int 2),(1000000000110000,.sl .Cell 4),(1000000000110001,.sl .int 4),(1000000000110002,.sl .int 4)]
abbrev Ds:aa Lm:=[.aF .int 0,.int .i64,.bool]
abbrev tC:aa (Nat×Tm):=[(1,tI)]
abbrev uP:bG:=⟨tC,[],[]⟩
abbrev lO:aa (Bool×TC):=[(false,.int)]
abbrev AS:aa (Bool×TC):=[(false,(.sl .int)),(false,.int)]
abbrev wI:bG:=⟨[(5,tI)],[],[]⟩
abbrev afJ:aa (Nat×Rm):=[(2,.aB Dq),(3,.aB [.own 90200,.own 6,.own 10]),(90100,.sl .Cell 4),(90101,.sl .int 2),(90102,.sl .int 2),(90200,.sl .Cell 4),(6,.sl .int 2),(10,.sl .int 2)]
abbrev AT:aa (Bool×TC):=[(false,.int),(false,.int)]
abbrev yF:aa Lm:=[.int .i64,.int .i64,.int .i64,.int .i64,.int .i64,.aF .int 0,.int .i64,.int .i64]
abbrev fS:bG:=⟨[],[],[]⟩
abbrev F0:aa Lm:=[.int .i64,.int .i64,.int .i64,.bool,.int .i64,.int .i64]
abbrev afK:aa (Nat×Rm):=[(1,.aB fj),(2,.aB Dq),(3,.aB [.own 90200,.own 90201,.own 90202]),(90100,.sl .Cell 4),(90101,.sl .int 2),(90102,.sl .int 2),(90200,.sl .Cell 4),(90201,.sl .int 2),(90202,.sl .int 2)]
abbrev afL:aa Gp:=[(20000,.cP,4,[60033,60041,60046,60048,60049,60050,60051,60052,60054,60055,60058,60059,1000000000141000,60061,60062,60072,60073,60074])]
abbrev YL:aa (Nat×Rm):=[(1000000000112000,.sl .fM 2)]
abbrev afM:bG:=⟨[(1,tI),(2,tI),(8,.lf (.own 1000000000112000)),(30,.lf (.own 1000000000112000)),(31,tI),(32,tI)],YL,[]⟩
abbrev afN:bG:=⟨[(4,.aG 4 0),(6,.aG 6 0)],[(4,.aB FY),(6,.aB [.int .i64,.own 90201]),(90101,.sl .int 2),(90201,.sl .int 2)],[]⟩
abbrev afO:aa (Nat×Rm):=[(2,.aB Ds),(4,.aB [.own 90100,.int .i64,.bool]),(5,.aB [.own 1000000000108000,.int .i64,.bool]),(90100,.sl .int 2),(1000000000108000,.sl .int 2)]
abbrev afP:aa (Nat×Rm):=[(18,.sl .int 2),(99004,.sl .int 2),(66,.sl .int 2)]
abbrev afQ:bG:=⟨[(3,.lf (.own 18)),(4,.lf (.own 99004)),(8,.lf (.own 66)),(9,tI)],afP,[]⟩
abbrev afR:aa (Nat×Rm):=[(2,.aB [.own 90100,.own 90101]),(3,.aB [.own 13,.own 90201]),(90100,.sl .int 2),(90101,.sl .int 2),(13,.sl .int 2),(90201,.sl .int 2)]
abbrev F1:aa (Bool×TC×Nat):=[(true,.mC,2),(false,.bool,0)]
abbrev Dt:aa Lm:=[.aF .int 0,.aF .int 0]
abbrev afS:bG:=⟨[(5,.aG 5 0),(6,.aG 6 0),(7,.aG 7 0),(9,tI)],[(5,.st .kI),(6,.aB Dt),(7,.aB fj)],[]⟩
abbrev su:aa (Bool×TC):=[(true,.ga)]
abbrev Kc:aa (Bool×TC):=[(false,(.sl .dg)),(false,.int)]
abbrev Kd:aa (Bool×TC×Nat):=[(true,.cP,4),(false,.bool,0)]
abbrev afT:aa Gp:=[(4,.cP,4,FX),(7,.cP,4,[1000000000133005,1000000000133013,1000000000120000,1000000000122000,1000000000122001,1000000000124000,1000000000124001,1000000000124002,1000000000141001,1000000000150000,90258,90259,90260,90261,1000000000157000,90272,90273,90274])]
abbrev qW:bG:=⟨[(2,tB)],[],[]⟩
abbrev Ke:aa Lm:=[.int .i64,.aF .int 0]
abbrev YM:bG:=⟨[(2,.aG 2 0),(3,.aG 3 0),(7,tI),(8,tI)],[(2,.aB fj),(3,.aB Ke)],[]⟩
abbrev Du:aa Lm:=[.aF .iY 0,.int .i64]
abbrev YN:bG:=⟨[(1,tI),(2,.aG 2 0),(4,.aG 4 0),(6,.aG 6 0),(7,tI)],zz7,[]⟩
abbrev YO:bG:=⟨[(0,.lf (.aF .int 0)),(1,tI),(5,tI)],[],[]⟩
abbrev YP:bG:=⟨[(0,.lf (.aF .dg 0)),(1,tI),(5,tI)],[],[]⟩
abbrev QS:aa Lm:=[.aF .Cell 0,.aF .int 0,.aF .int 0]
abbrev QT:aa (Bool×TC):=[(false,(.sl .fm)),(false,(.sl .bool))]
abbrev YQ:bG:=⟨[(0,tI),(1,tI),(5,tI),(6,tI)],[],[]⟩
abbrev afU:bG:=⟨[(0,.lf (.aF .int 0)),(3,.lf (.own 10)),(12,tI),(13,tI)],[(10,.sl .int 2)],[]⟩
abbrev afV:bG:=⟨[(1,.aG 1 0),(2,.aG 2 0),(4,.lf (.own 1000000000117000)),(5,.aG 5 0)],YK,[]⟩
abbrev afW:bG:=⟨[(0,tI),(1,.lf (.aF .dg 0)),(9,.lf (.aF .dg 0)),(10,tI),(11,tI)],[],[]⟩
abbrev afX:aa (Nat×Rm):=[(3,.st .cP),(6,.aB fj),(8,.aB yF),(81,.sl .bool 2),(142,.sl .Command 2),(146,.sl .bool 2)]
abbrev Kf:aa (Bool×TC):=[(true,.ga),(false,.int)]
abbrev Kg:aa PK:=[.p .cP 4 0,.v false .int]
abbrev afY:bG:=⟨[(0,tI),(1,.lf (.aF .dg 0)),(5,.aG 5 0),(8,tI)],[(5,.aB F0)],[]⟩
abbrev afZ:bG:=⟨[(0,.lf (.aF .int 0)),(3,.lf (.own 12)),(4,tI)],[(12,.sl .int 2)],[]⟩
abbrev af0:bG:=⟨[(0,.lf (.aF .fm 0)),(1,.lf (.aF .bool 0)),(5,tI),(6,tI)],[],[]⟩
abbrev YR:aa (Bool×TC):=[(false,(.sl .fM)),(false,.int),(false,.int)]
abbrev YS:aa (Nat×Rm):=[(1,.aB [.aF .int 0,.aF .int 0,.int .i64])]
abbrev Kh:aa Lm:=[.int .i64,.int .i64,.int .i64]
abbrev YT:bG:=⟨[(3,.lf (.own 5))],[(5,.sl .int 2)],[]⟩
abbrev Ki:bG:=⟨[(6,tI)],[],[]⟩
abbrev yG:aa (Bool×TC):=[(true,.cP)]
abbrev af1:aa (Nat×Tm):=[(2,.aG 20000 50),(12,tI),(75,.lf (.own 1000000000175000)),(76,tI),(77,tI)]
abbrev F2:bG:=⟨[],[],kV⟩
abbrev af2:aa (Bool×TC):=[(false,(.sl .dg)),(false,(.sl .bool)),(false,(.sl .bool)),(false,.int),(false,.int)]
abbrev YU:aa (Nat×Rm):=[(98000,.sl .Addr 1000002)]
abbrev af3:bG:=⟨[(0,.lf (.own 98000)),(5,tI)],YU,[]⟩
abbrev af4:aa (Nat×Rm):=[(2,.aB fj),(1000000000116000,.sl .Addr 2),(19,.sl .bool 2),(20,.sl .bool 2)]
abbrev af5:bG:=⟨[(1,.lf (.aF .bool 0)),(6,.lf (.own 9))],[(9,.sl .fm 2)],[]⟩
abbrev af6:bG:=⟨[(1,tI),(2,tI),(8,.lf (.own 1000000000112000))],YL,[]⟩
abbrev YV:aa PK:=[.p .cP 4 0,.v false .int,.v false .int]
abbrev QU:aa (Bool×TC):=[(true,.jJ),(false,.int)]
abbrev QV:aa (Bool×TC):=[(true,.Config),(true,.jK)]
abbrev QW:aa (Bool×TC):=[(true,.ga),(true,.Addr)]
abbrev af7:aa PK:=[.v true .ga,.v true .n5,.p .cP 4 50,.v false .int,.v false .int]
abbrev af8:aa (Nat×Rm):=[(11,.sl .Command 2),(1000000000113000,.sl .Addr 2),(14,.sl .bool 2)]
abbrev af9:bG:=⟨[(0,.lf (.aF .Addr 0)),(1,tI),(5,tI)],[],[]⟩
abbrev Dv:aa (Bool×TC):=[(true,.jK)]
abbrev YW:aa (Bool×TC):=[(false,(.sl .Addr)),(false,.int)]
abbrev YX:aa (Bool×TC):=[(false,(.sl .Addr)),(true,.Addr)]
abbrev aga:aa (Nat×Rm):=[(3,.st .cP),(6,.aB fj),(8,.aB yF),(38,.sl .bool 2)]
abbrev agb:aa (Nat×Rm):=[(4,.st .cP),(7,.aB fj),(8,.aB fj),(16,.sl .bool 2)]
abbrev agc:bG:=⟨[(2,.aG 2 0),(3,tI)],[(2,.aB fj)],[]⟩
abbrev agd:bG:=⟨[(3,.lf (.own 6))],[(6,.sl .int 2)],[]⟩
abbrev agf:aa (Nat×Rm):=[(4,.aB fj),(5,.st .kI),(6,.aB Dt),(7,.aB fj)]
abbrev YY:aa (Nat×Rm):=[(3,.aB Du),(1000000000115000,.sl .int 2)]
abbrev agh:bG:=⟨[(0,.lf (.aF .fM 0)),(7,.lf (.aF .fM 0)),(8,tI),(9,tI)],[],[]⟩
abbrev YZ:aa Lm:=[.int .i64,.own 1000000000114001]
abbrev agi:bG:=⟨[(6,.lf (.own 1000000000112000)),(7,tB)],YL,[]⟩
abbrev atn:aa (Nat×Tm):=[(0,.aG 20000 0),(1,tI),(4,tI)]
abbrev QX:aa Gp:=[(2,.cP,4,FX)]
abbrev agj:bG:=⟨[(0,.lf (.aF .int 0)),(1,tI)],[],[]⟩
abbrev Y0:aa PK:=[.p .cP 4 50,.v false .int]
abbrev Y1:aa (Nat×Rm):=[(1,.st .cP),(3,.aB fj)]
abbrev F3:aa (Bool×TC):=[(true,.jJ)]
abbrev F4:aa (Bool×TC):=[(true,.kI)]
abbrev Y2:aa (Bool×TC×Nat):=[(true,.Addr,0),(false,.bool,0)]
abbrev Y3:aa (Nat×Tm):=[(2,.aG 2 0),(3,.aG 3 0)]
abbrev agk:aa (Bool×TC):=[(true,.kI),(false,.int),(false,.int),(false,.bool)]
abbrev agl:aa (Bool×TC):=[(true,.ga),(true,.kI),(true,.Command),(true,.Command)]
abbrev agm:aa (Bool×TC):=[(true,.ga),(true,.kI),(true,.jZ),(true,.Command)]
abbrev agn:bG:=⟨[(1,.aG 1 0)],[(1,.st .kI)],[]⟩
abbrev ago:bG:=⟨[(1,.aG 1 0)],[(1,.aB Ds)],[]⟩
abbrev agp:bG:=⟨[(3,.aG 3 0)],[(3,.aB Dt)],[]⟩
abbrev agq:aa (Nat×Tm):=[(1,.aG 1 0),(2,.aG 2 0),(3,.aG 3 0),(4,tI)]
abbrev Y4:aa (Bool×TC):=[(true,.dg),(true,.dg)]
abbrev Y5:aa (Bool×TC):=[(true,.iO),(false,.int)]
abbrev Y6:aa (Bool×TC):=[(true,.ga),(true,.Command)]
abbrev Y7:aa (Bool×TC):=[(true,.ga),(true,.mB)]
abbrev agr:bG:=⟨[(1,.aG 1 0),(3,tI)],YS,[]⟩
abbrev Kj:aa (Bool×TC×Nat):=[(true,.Command,0)]
abbrev ags:bG:=⟨[(0,.lf (.aF .fm 0))],[],[]⟩
abbrev agt:aa (Bool×TC):=[(true,.iO),(false,.int),(false,(.sl .Addr))]
abbrev agu:aa (Bool×TC):=[(false,.int),(false,(.sl .dg)),(true,.dg)]
abbrev agv:aa (Bool×TC):=[(true,.Config),(true,.jK),(false,(.sl .Act))]
abbrev Y8:aa Lm:=[.int .i64,.own 15]
abbrev agw:aa PK:=[.p .cP 4 0,.v true .Command,.v false .int]
abbrev agx:aa Lm:=[.int .i64,.own 1000000000138001]
abbrev agy:aa Lm:=[.int .i64,.own 1000000000136001]
abbrev Y9:aa (Bool×TC):=[(true,.cP),(false,.int)]
abbrev QY:aa (Nat×Rm):=[(7,.sl .Command 2)]
abbrev agz:bG:=⟨[(0,tI),(3,tI)],[],[]⟩
abbrev Za:bG:=⟨[],[],QO⟩
abbrev agA:aa (Nat×Tm):=[(1,.aG 1 0),(2,.aG 2 0),(3,.aG 3 0)]
abbrev agB:aa (Nat×Tm):=[(1,.aG 1 0),(3,.lf (.own 5)),(4,tI)]
def QZ(C D:aL):ah (Bool):=bif (C.cg != D.cg)then some false else bif (C.aC != D.aC)then some false else bif (C.rows != D.rows)then some false else bif (C.aO != D.aO)then some false else some true
def ato:=aZ [(true,.ga),(true,.ga)] bP (bx QZ) 25 [] func236
def Q0(C D:dw):ah (Bool):=bif (C.kF != D.kF)then some false else bif (C.rp != D.rp)then some false else bif (C.hD != D.hD)then some false else bif (C.nT != D.nT)then some false else bif (C.kG != D.kG)then some false else bif (C.kH != D.kH)then some false else bif (C.nU != D.nU)then some false else bif (C.nW != D.nW)then some false else bif (C.jI != D.jI)then some false else bif (C.wr != D.wr)then some false else bif (C.nX != D.nX)then some false else bif (C.nY != D.nY)then some false else bif (C.qB != D.qB)then some false else bif (C.nZ != D.nZ)then some false else bif (C.oK != D.oK)then some false else bif (C.xp != D.xp)then some false else bif (C.xs != D.xs)then some false else some true
def atp:=aZ [(true,.kI),(true,.kI)] bP (bx Q0) 90 [] func237
def Q1(C D:kE):ah (Bool):=bif (C.order != D.order)then some false else bif (!(C.hash==D.hash))then some false else some true
def atq:=aZ [(true,.oL),(true,.oL)] bP (bx Q1) 15 [] func238
def Q2(C D:jx):ah (Bool):=bif (C.bD != D.bD)then some false else bif (C.bC != D.bC)then some false else some true
def atr:=aZ [(true,.n5),(true,.n5)] bP (bx Q2) 15 [] func239
def Q3(C D:eT):ah (Bool):=(QZ C.az D.az).bind λE=>bif (!E)then some false else (Q0 C.cq D.cq).bind λL=>bif (!L)then some false else (Q1 C.mapping D.mapping).bind λO=>bif (!O)then some false else bif (C.bF != D.bF)then some false else bif (C.interval != D.interval)then some false else bif (C.fZ != D.fZ)then some false else (Q2 C.ep D.ep).bind λT=>bif (!T)then some false else some true
def att:=aZ [(true,.Config),(true,.Config)] bP (bx Q3) 44 [ato,atp,atq,atr] func86
abbrev agC:=(((aa Int)×(aa Int)×Int×af)×(af))
def agD(x:agC):ah (agC⊕(((Bool×af)×(af))⊕(((af)×(af))⊕Empty))):=letI C:=x.1.2.2.1;bif C<(x.1.1.length:Int)then xI x.1.1 C λD=>xI x.1.2.1 C λE=>bif (D != E)then ax ((false,()),())else xG ((x.1.1,x.1.2.1,(W6 (C+1)),()),())else aU ((),())
def atu:KY 26 (aW f94):=⟨0,lB 0 ⟨[(0,.lf (.aF .int 0)),(1,.lf (.aF .int 0)),(5,tI)],[],[]⟩ [(1,iz),(2,fS)] agD,lp []⟩
def qX(C D:aa Int):ah (Bool):=bif ((C.length:Int) != (D.length:Int))then some false else bE agD ((C,D,0,()),()) (λE=>some E.1.1) λL=>some true
def AU:=bS [(false,(.sl .int)),(false,(.sl .int))] bP (bx qX) 26 [] [atu] func94
def Q4(C D:lW):ah (Bool):=bif (C.down != D.down)then some false else bif (C.sleep != D.sleep)then some false else some true
def atv:=aZ [(true,.oM),(true,.oM)] bP (bx Q4) 15 [] func142
def Dw(C D:dB):ah (Bool):=bif (C.dM != D.dM)then some false else bif (C.cap != D.cap)then some false else bif (C.dK != D.dK)then some false else bif (C.low != D.low)then some false else bif (C.high != D.high)then some false else (qX C.weights D.weights).bind λE=>bif (!E)then some false else (Q4 C.de D.de).bind λL=>bif (!L)then some false else some true
def Zb:=aZ [(true,.jK),(true,.jK)] bP (bx Dw) 42 [AU,atv] func26
def Q5(C D:fL):ah (Bool):=(Dw C.bK D.bK).bind λE=>bif (!E)then some false else (Dw C.next D.next).bind λL=>bif (!L)then some false else bif (!(C.waits==D.waits))then some false else some true
def atw:=aZ [(true,.mC),(true,.mC)] bP (bx Q5) 22 [Zb] func87
def Kk(C D:dG):ah (Bool):=bif (!(C.open_==D.open_))then some false else bif (C.row != D.row)then some false else some true
def atx:=aZ [(true,.iY),(true,.iY)] bP (bx Kk) 15 [] func364
abbrev agE:=(((aa dG)×(aa dG)×Int×af)×(af))
def agF(x:agE):ah (agE⊕(((Bool×af)×(af))⊕(((af)×(af))⊕Empty))):=letI C:=x.1.2.2.1;bif C<(x.1.1.length:Int)then xI x.1.1 C λD=>xI x.1.2.1 C λE=>(Kk D E).bind λL=>bif (!L)then ax ((false,()),())else xG ((x.1.1,x.1.2.1,(W6 (C+1)),()),())else aU ((),())
def aty:KY 27 (aW f240):=⟨0,lB 0 ⟨[(0,.lf (.aF .iY 0)),(1,.lf (.aF .iY 0)),(5,tI)],[],[]⟩ [(1,iz),(2,fS)] agF,lp [atx]⟩
def Q6(C D:aa dG):ah (Bool):=bif ((C.length:Int) != (D.length:Int))then some false else bE agF ((C,D,0,()),()) (λE=>some E.1.1) λL=>some true
def atz:=bS [(false,(.sl .iY)),(false,(.sl .iY))] bP (bx Q6) 27 [] [aty] func240
def Q7(C D:cH):ah (Bool):=(Q6 C.aC D.aC).bind λE=>bif (!E)then some false else bif (C.bk != D.bk)then some false else some true
def atA:=aZ [(true,.iO),(true,.iO)] bP (bx Q7) 16 [atz] func88
def Q8(C D:dJ):ah (Bool):=(qX C.last D.last).bind λE=>bif (!E)then some false else (qX C.aX D.aX).bind λL=>bif (!L)then some false else some true
def atB:=aZ [(true,.jZ),(true,.jZ)] bP (bx Q8) 17 [AU] func89
def Kl(C D:bN):ah (Bool):=(qX C.symbols D.symbols).bind λE=>bif (!E)then some false else bif (!(C.hG==D.hG))then some false else some true
def atC:=aZ [(true,.Cell),(true,.Cell)] bP (bx Kl) 16 [AU] func365
abbrev agG:=(((aa bN)×(aa bN)×Int×af)×(af))
def agH(x:agG):ah (agG⊕(((Bool×af)×(af))⊕(((af)×(af))⊕Empty))):=letI C:=x.1.2.2.1;bif C<(x.1.1.length:Int)then xI x.1.1 C λD=>xI x.1.2.1 C λE=>(Kl D E).bind λL=>bif (!L)then ax ((false,()),())else xG ((x.1.1,x.1.2.1,(W6 (C+1)),()),())else aU ((),())
def atD:KY 27 (aW f241):=⟨0,lB 0 ⟨[(0,.lf (.aF .Cell 0)),(1,.lf (.aF .Cell 0)),(5,tI)],[],[]⟩ [(1,iz),(2,fS)] agH,lp [atC]⟩
def Q9(C D:aa bN):ah (Bool):=bif ((C.length:Int) != (D.length:Int))then some false else bE agH ((C,D,0,()),()) (λE=>some E.1.1) λL=>some true
def atE:=bS [(false,(.sl .Cell)),(false,(.sl .Cell))] bP (bx Q9) 27 [] [atD] func241
def Ra(C D:cN):ah (Bool):=(Q9 C.cells D.cells).bind λE=>bif (!E)then some false else (qX C.bD D.bD).bind λL=>bif (!L)then some false else (qX C.bC D.bC).bind λO=>bif (!O)then some false else some true
def atF:=aZ [(true,.Array),(true,.Array)] bP (bx Ra) 23 [AU,atE] func90
def Rb(C D:c8):ah (Bool):=bif (C.bF != D.bF)then some false else (qX C.map D.map).bind λE=>bif (!E)then some false else some true
def atG:=aZ [(true,.mB),(true,.mB)] bP (bx Rb) 16 [AU] func91
def Rc(C D:cO):ah (Bool):=(qX C.aI D.aI).bind λE=>bif (!E)then some false else bif (C.wait != D.wait)then some false else bif (!(C.dy==D.dy))then some false else some true
def atH:=aZ [(true,.jJ),(true,.jJ)] bP (bx Rc) 21 [AU] func92
def Km(C D:bU):ah (Bool):=(qX C.rows D.rows).bind λE=>bif (!E)then some false else (qX C.counts D.counts).bind λL=>bif (!L)then some false else bif (C.dx != D.dx)then some false else some true
def atI:=aZ [(true,.gp),(true,.gp)] bP (bx Km) 22 [AU] func242
abbrev agI:=(((aa bU)×(aa bU)×Int×af)×(af))
def agJ(x:agI):ah (agI⊕(((Bool×af)×(af))⊕(((af)×(af))⊕Empty))):=letI C:=x.1.2.2.1;bif C<(x.1.1.length:Int)then xI x.1.1 C λD=>xI x.1.2.1 C λE=>(Km D E).bind λL=>bif (!L)then ax ((false,()),())else xG ((x.1.1,x.1.2.1,(W6 (C+1)),()),())else aU ((),())
def atJ:KY 27 (aW f93):=⟨0,lB 0 ⟨[(0,.lf (.aF .gp 0)),(1,.lf (.aF .gp 0)),(5,tI)],[],[]⟩ [(1,iz),(2,fS)] agJ,lp [atI]⟩
def Rd(C D:aa bU):ah (Bool):=bif ((C.length:Int) != (D.length:Int))then some false else bE agJ ((C,D,0,()),()) (λE=>some E.1.1) λL=>some true
def atK:=bS [(false,(.sl .gp)),(false,(.sl .gp))] bP (bx Rd) 27 [] [atJ] func93
def F5(C D:aJ):ah (Bool):=bif (C.ay != D.ay)then some false else bif (C.row != D.row)then some false else bif (C.bR != D.bR)then some false else some true
def agK:=aZ [(true,.Addr),(true,.Addr)] bP (bx F5) 20 [] func154
abbrev agL:=(((aa aJ)×(aa aJ)×Int×af)×(af))
def agM(x:agL):ah (agL⊕(((Bool×af)×(af))⊕(((af)×(af))⊕Empty))):=letI C:=x.1.2.2.1;bif C<(x.1.1.length:Int)then xI x.1.1 C λD=>xI x.1.2.1 C λE=>(F5 D E).bind λL=>bif (!L)then ax ((false,()),())else xG ((x.1.1,x.1.2.1,(W6 (C+1)),()),())else aU ((),())
def atM:KY 27 (aW f95):=⟨0,lB 0 ⟨[(0,.lf (.aF .Addr 0)),(1,.lf (.aF .Addr 0)),(5,tI)],[],[]⟩ [(1,iz),(2,fS)] agM,lp [agK]⟩
def Re(C D:aa aJ):ah (Bool):=bif ((C.length:Int) != (D.length:Int))then some false else bE agM ((C,D,0,()),()) (λE=>some E.1.1) λL=>some true
def atO:=bS [(false,(.sl .Addr)),(false,(.sl .Addr))] bP (bx Re) 27 [] [atM] func95
def F6(C D:aN):ah (Bool):=bif (C.id != D.id)then some false else bif (C.c9 != D.c9)then some false else bif (C.line != D.line)then some false else bif (!(C.write==D.write))then some false else bif (C.data != D.data)then some false else bif (C.at_ != D.at_)then some false else some true
def agN:=aZ Y4 bP (bx F6) 35 [] func153
abbrev agO:=(((aa aN)×(aa aN)×Int×af)×(af))
def agP(x:agO):ah (agO⊕(((Bool×af)×(af))⊕(((af)×(af))⊕Empty))):=letI C:=x.1.2.2.1;bif C<(x.1.1.length:Int)then xI x.1.1 C λD=>xI x.1.2.1 C λE=>(F6 D E).bind λL=>bif (!L)then ax ((false,()),())else xG ((x.1.1,x.1.2.1,(W6 (C+1)),()),())else aU ((),())
def atP:KY 27 (aW f96):=⟨0,lB 0 ⟨[(0,.lf (.aF .dg 0)),(1,.lf (.aF .dg 0)),(5,tI)],[],[]⟩ [(1,iz),(2,fS)] agP,lp [agN]⟩
def Rf(C D:aa aN):ah (Bool):=bif ((C.length:Int) != (D.length:Int))then some false else bE agP ((C,D,0,()),()) (λE=>some E.1.1) λL=>some true
def atQ:=bS [(false,(.sl .dg)),(false,(.sl .dg))] bP (bx Rf) 27 [] [atP] func96
def Ko(C D:bZ):ah (Bool):=bif (C.weight != D.weight)then some false else bif (C.fK != D.fK)then some false else some true
def atT:=aZ [(true,.fm),(true,.fm)] bP (bx Ko) 15 [] func243
abbrev agQ:=(((aa bZ)×(aa bZ)×Int×af)×(af))
def agR(x:agQ):ah (agQ⊕(((Bool×af)×(af))⊕(((af)×(af))⊕Empty))):=letI C:=x.1.2.2.1;bif C<(x.1.1.length:Int)then xI x.1.1 C λD=>xI x.1.2.1 C λE=>(Ko D E).bind λL=>bif (!L)then ax ((false,()),())else xG ((x.1.1,x.1.2.1,(W6 (C+1)),()),())else aU ((),())
def atU:KY 27 (aW f97):=⟨0,lB 0 ⟨[(0,.lf (.aF .fm 0)),(1,.lf (.aF .fm 0)),(5,tI)],[],[]⟩ [(1,iz),(2,fS)] agR,lp [atT]⟩
def Rg(C D:aa bZ):ah (Bool):=bif ((C.length:Int) != (D.length:Int))then some false else bE agR ((C,D,0,()),()) (λE=>some E.1.1) λL=>some true
def atV:=bS [(false,(.sl .fm)),(false,(.sl .fm))] bP (bx Rg) 27 [] [atU] func97
def Rh(C D:gV):ah (Bool):=bif (!(C.on==D.on))then some false else bif (C.low != D.low)then some false else bif (C.high != D.high)then some false else some true
def atW:=aZ [(true,.n6),(true,.n6)] bP (bx Rh) 20 [] func98
def Ri(C D:fk):ah (Bool):=bif (C.state != D.state)then some false else bif (C.since != D.since)then some false else bif (C.idle != D.idle)then some false else some true
def atX:=aZ [(true,.Power),(true,.Power)] bP (bx Ri) 20 [] func99
def Rj(C D:jY):ah (Bool):=bif (C.next != D.next)then some false else bif (C.every != D.every)then some false else bif (C.wait != D.wait)then some false else some true
def atY:=aZ [(true,.pP),(true,.pP)] bP (bx Rj) 20 [] func100
def Kq(C D:bV):ah (Bool):=bif (C.line != D.line)then some false else bif (C.code != D.code)then some false else bif (C.times != D.times)then some false else some true
def atZ:=aZ [(true,.fM),(true,.fM)] bP (bx Kq) 20 [] func244
abbrev agS:=(((aa bV)×(aa bV)×Int×af)×(af))
def agT(x:agS):ah (agS⊕(((Bool×af)×(af))⊕(((af)×(af))⊕Empty))):=letI C:=x.1.2.2.1;bif C<(x.1.1.length:Int)then xI x.1.1 C λD=>xI x.1.2.1 C λE=>(Kq D E).bind λL=>bif (!L)then ax ((false,()),())else xG ((x.1.1,x.1.2.1,(W6 (C+1)),()),())else aU ((),())
def at0:KY 27 (aW f101):=⟨0,lB 0 ⟨[(0,.lf (.aF .fM 0)),(1,.lf (.aF .fM 0)),(5,tI)],[],[]⟩ [(1,iz),(2,fS)] agT,lp [atZ]⟩
def Rk(C D:aa bV):ah (Bool):=bif ((C.length:Int) != (D.length:Int))then some false else bE agT ((C,D,0,()),()) (λE=>some E.1.1) λL=>some true
def at3:=bS [(false,(.sl .fM)),(false,(.sl .fM))] bP (bx Rk) 27 [] [at0] func101
def Ro(C D:aH):ah (Bool):=bif (C.kind != D.kind)then some false else bif (C.ay != D.ay)then some false else bif (C.row != D.row)then some false else bif (C.bR != D.bR)then some false else some true
def at4:=aZ [(true,.Command),(true,.Command)] bP (bx Ro) 25 [] func366
def Kr(C D:dA):ah (Bool):=bif (C.at_ != D.at_)then some false else (Ro C.cmd D.cmd).bind λE=>bif (!E)then some false else some true
def at5:=aZ [(true,.Event),(true,.Event)] bP (bx Kr) 16 [at4] func245
abbrev agU:=(((aa dA)×(aa dA)×Int×af)×(af))
def agV(x:agU):ah (agU⊕(((Bool×af)×(af))⊕(((af)×(af))⊕Empty))):=letI C:=x.1.2.2.1;bif C<(x.1.1.length:Int)then xI x.1.1 C λD=>xI x.1.2.1 C λE=>(Kr D E).bind λL=>bif (!L)then ax ((false,()),())else xG ((x.1.1,x.1.2.1,(W6 (C+1)),()),())else aU ((),())
def at6:KY 27 (aW f102):=⟨0,lB 0 ⟨[(0,.lf (.aF .Event 0)),(1,.lf (.aF .Event 0)),(5,tI)],[],[]⟩ [(1,iz),(2,fS)] agV,lp [at5]⟩
def Rp(C D:aa dA):ah (Bool):=bif ((C.length:Int) != (D.length:Int))then some false else bE agV ((C,D,0,()),()) (λE=>some E.1.1) λL=>some true
def at7:=bS [(false,(.sl .Event)),(false,(.sl .Event))] bP (bx Rp) 27 [] [at6] func102
def Ks(C D:cR):ah (Bool):=bif (C.id != D.id)then some false else bif (C.at_ != D.at_)then some false else bif (C.data != D.data)then some false else bif (C.code != D.code)then some false else some true
def at8:=aZ [(true,.iP),(true,.iP)] bP (bx Ks) 25 [] func246
abbrev agW:=(((aa cR)×(aa cR)×Int×af)×(af))
def agX(x:agW):ah (agW⊕(((Bool×af)×(af))⊕(((af)×(af))⊕Empty))):=letI C:=x.1.2.2.1;bif C<(x.1.1.length:Int)then xI x.1.1 C λD=>xI x.1.2.1 C λE=>(Ks D E).bind λL=>bif (!L)then ax ((false,()),())else xG ((x.1.1,x.1.2.1,(W6 (C+1)),()),())else aU ((),())
def at9:KY 27 (aW f103):=⟨0,lB 0 ⟨[(0,.lf (.aF .iP 0)),(1,.lf (.aF .iP 0)),(5,tI)],[],[]⟩ [(1,iz),(2,fS)] agX,lp [at8]⟩
def Rq(C D:aa cR):ah (Bool):=bif ((C.length:Int) != (D.length:Int))then some false else bE agX ((C,D,0,()),()) (λE=>some E.1.1) λL=>some true
def aua:=bS [(false,(.sl .iP)),(false,(.sl .iP))] bP (bx Rq) 27 [] [at9] func103
def F7(C D:av):ah (Bool):=(Q3 C.config D.config).bind λE=>bif (!E)then some false else (Q5 C.box D.box).bind λL=>bif (!L)then some false else bif (C.now != D.now)then some false else (Q7 C.bq D.bq).bind λO=>bif (!O)then some false else (Q8 C.ready D.ready).bind λT=>bif (!T)then some false else (Ra C.array D.array).bind λU=>bif (!U)then some false else (Rb C.spare D.spare).bind λY=>bif (!Y)then some false else (Rc C.aV D.aV).bind λZ=>bif (!Z)then some false else (Rd C.bL D.bL).bind λy8=>bif (!y8)then some false else (qX C.guard D.guard).bind λy9=>bif (!y9)then some false else (Re C.pending D.pending).bind λku=>bif (!ku)then some false else (Rf C.queue D.queue).bind λfW=>bif (!fW)then some false else (Rg C.shares D.shares).bind λjd=>bif (!jd)then some false else (Rh C.drain D.drain).bind λje=>bif (!je)then some false else (Ri C.bk D.bk).bind λmc=>bif (!mc)then some false else (Rj C.cB D.cB).bind λjo=>bif (!jo)then some false else (Rk C.errors D.errors).bind λnH=>bif (!nH)then some false else (Rp C.trace D.trace).bind λjB=>bif (!jB)then some false else (Rq C.cr D.cr).bind λov=>bif (!ov)then some false else some true
def aub:=aZ [(true,.cP),(true,.cP)] bP (bx F7) 118 [att,atw,atA,atB,atF,atG,atH,atK,AU,atO,atQ,atV,atW,atX,atY,at3,at7,aua] func12
abbrev agY:=((af×Int×Int×af)×((aa Int)×af))
def Kt(x:agY):ah (agY⊕(((Int×af)×((aa Int)×af))⊕Empty)):=letI C:=x.1.2.2.1;bif C<(x.2.1.length:Int)then xL x.2.1 C λD=>xG (((),(W6 (x.1.2.1+1)),(W6 (C+1)),()),((x.2.1.set C.toNat x.1.2.1),()))else ax ((x.1.2.1,()),(x.2.1,()))
def auc:KY 19 (aW f111):=⟨0,lB 0 ⟨uO,[(20000,.sl .int 2)],[]⟩ [(2,⟨tC,[(20000,.sl .int 2)],[]⟩)] Kt,lp []⟩
def jf(D:aa Int)(E:Int):ah ((Int)×((aa Int)×af)):=bh Kt (((),E,0,()),(D,())) λC=>some (C.1.1,(C.2.1,()))
def iT:oV:=⟨[.s .int 0,.v false .int],[(false,.int,0)],λx=>jf x.1 x.2.1⟩
def yH:enters Tryz.prog 111/\uy Tryz.prog 111 iT:=kn 19 [] [auc] func111
def agZ:enters Tryz.prog 28/\kR Tryz.prog 28 (cj Tryz.prog f28 1 [(111,.m iT)]):=sr (qV 1 [(111,.m iT)] func28 ⟨yH,trivial⟩)
def aud:enters Tryz.prog 104/\kR Tryz.prog 104 (cj Tryz.prog f104 2 [(28,.i (cj Tryz.prog f28 1 [(111,.m iT)]))]):=sr (qV 2 [(28,.i (cj Tryz.prog f28 1 [(111,.m iT)]))] func104 ⟨agZ,trivial⟩)
end Go.Proofs.YtnilicojgkhpnaaGreat
