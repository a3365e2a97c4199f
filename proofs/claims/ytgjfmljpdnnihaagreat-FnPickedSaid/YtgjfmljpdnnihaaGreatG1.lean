/-
  Functions of the program as plain functions of contents, and that the code computes them. Nothing here is a claim.
-/
import Derived.Test.YtgjfmljpdnnihaaGreatVZ
import Derived.Test.YtgjfmljpdnnihaaGreatRows
namespace Go.Proofs.YtgjfmljpdnnihaaGreat
set_option linter.defProp false
open Go.RowKit Go.Proofs.Tryz
set_option linter.unusedVariables false
set_option maxRecDepth 100000
abbrev KX:=KC Tryz.prog
abbrev KY:=BK Tryz.prog
abbrev lJ:aa Gp:=[(20000,.cO,4,[60033,60041,60046,60048,60049,60050,60051,60052,60054,60055,60058,60059,60060,60061,60062,60072,60073,60074])]
abbrev zz1:aa (Nat×Rm):=[(1,.st .cO),(3,.aC [.int .i64,.int .i64,.int .i64,.int .i64,.int .i64,.int .i64,.int .i64,.int .i64,.int .i64,.int .i64,.int .i64,.int .i64,.int .i64,.int .i64,.int .i64,.int .i64,.int .i64,.int .i64,.int .i64,.int .i64,.int .i64,.int .i64,.bool,.int .i64,.int .i64,.int .i64,.int .i64,.int .i64,.int .i64,.int .i64,.int .i64,.int .i64,.int .i64,.own 1000000000109005,.int .i64,.int .i64,.int .i64,.int .i64,.int .i64,.int .i64,.int .i64,.own 1000000000109013,.int .i64,.int .i64,.bool,.int .i64,.own 1000000000113000,.int .i64,.own 1000000000117000,.own 1000000000117001,.own 1000000000121000,.own 1000000000121001,.own 1000000000121002,.int .i64,.own 1000000000126000,.own 1000000000131000,.int .i64,.bool,.own 33,.aH .int 0,.aH .Addr 0,.aH .dM 0,.aH .gw 0,.bool,.int .i64,.int .i64,.int .i64,.int .i64,.int .i64,.int .i64,.int .i64,.int .i64,.aH .gH 0,.aH .Event 0,.aH .pU 0]),(1000000000109005,.sl .int 2),(1000000000109013,.sl .int 2),(1000000000113000,.sl .jB 2),(1000000000117000,.sl .int 2),(1000000000117001,.sl .int 2),(1000000000121000,.sl .Cell 4),(1000000000121001,.sl .int 4),(1000000000121002,.sl .int 4),(1000000000126000,.sl .int 2),(1000000000131000,.sl .int 2),(33,.sl .iO 4)]
abbrev zz2:aa (Nat×Rm):=[(1,.aC [.int .i64,.int .i64,.int .i64,.int .i64,.int .i64,.int .i64,.int .i64,.int .i64,.int .i64,.int .i64,.int .i64,.int .i64,.int .i64,.int .i64,.int .i64,.int .i64,.int .i64,.int .i64,.int .i64,.int .i64,.int .i64,.int .i64,.bool,.int .i64,.int .i64,.int .i64,.int .i64,.int .i64,.int .i64,.int .i64,.int .i64,.int .i64,.int .i64,.own 1000000000107005,.int .i64,.int .i64,.int .i64,.int .i64,.int .i64,.int .i64,.int .i64,.own 1000000000107013,.int .i64,.int .i64,.bool,.int .i64,.own 1000000000111000,.int .i64,.own 1000000000115000,.own 1000000000115001,.own 1000000000119000,.own 1000000000119001,.own 1000000000119002,.int .i64,.own 1000000000123001,.own 1000000000127000,.int .i64,.bool,.aH .iO 0,.aH .int 0,.aH .Addr 0,.aH .dM 0,.aH .gw 0,.bool,.int .i64,.int .i64,.int .i64,.int .i64,.int .i64,.int .i64,.int .i64,.int .i64,.aH .gH 0,.aH .Event 0,.aH .pU 0]),(29,.sl .iO 4),(1000000000107005,.sl .int 2),(1000000000107013,.sl .int 2),(1000000000111000,.sl .jB 2),(1000000000115000,.sl .int 2),(1000000000115001,.sl .int 2),(1000000000119000,.sl .Cell 4),(1000000000119001,.sl .int 4),(1000000000119002,.sl .int 4),(1000000000123001,.sl .int 2),(1000000000127000,.sl .int 2)]
abbrev cv:aa (Bool×TC×Nat):=[(false,.bool,0)]
abbrev NT:aa Gp:=[(20000,.cO,4,[102000033,102000041,102000046,102000048,102000049,102000050,102000051,102000052,102000054,102000055,102000058,102000059,102000060,102000061,102000062,102000072,102000073,102000074])]
abbrev zJ:aa Lm:=[.int .i64,.int .i64,.int .i64,.int .i64,.int .i64,.aH .int 0,.int .i64,.int .i64]
abbrev dD:aa (Bool×TC×Nat):=[(false,.int,0)]
abbrev V5:aa Nat:=[90133,90141,90146,90148,90149,90150,90151,90152,90154,90155,90158,90159,90160,90161,90162,90172,90173,90174]
abbrev zz7:aa Gp:=[(6,.cO,4,V5),(8,.cO,4,[1000000000115033,1000000000115041,1000000000115046,1000000000115048,1000000000115049,1000000000115050,1000000000115051,1000000000115052,1000000000115054,1000000000115055,1000000000115058,1000000000115059,1000000000115060,1000000000115061,1000000000115062,1000000000115072,1000000000115073,1000000000115074])]
abbrev eK:aa Lm:=[.int .i64,.int .i64,.int .i64,.int .i64]
abbrev NU:aa Lm:=[.int .i64,.own 90101]
abbrev zz9:aa (Nat×Rm):=[(2,.aC eK),(4,.aC NU),(6,.aC [.int .i64,.own 90201]),(90101,.sl .int 2),(90201,.sl .int 2)]
abbrev V6:aa (Nat×Rm):=[(1,.st .cO),(2,.aC eK),(1000000000117000,.sl .int 2),(5,.aC eK)]
abbrev jK:bG:=⟨[(4,tB)],[],[]⟩
abbrev Eh:aa (Nat×Rm):=[(20000,.aC [.own 60000,.own 60001,.int .i64]),(60000,.sl .int 2),(60001,.sl .int 2)]
abbrev mc:aa (Bool×TC×Nat):=[(false,(.sl .int),2)]
abbrev nP:bG:=⟨[(2,tB)],[],[]⟩
abbrev NV:aa Lm:=[.own 90100,.own 90101,.own 90102]
abbrev acX:aa (Nat×Rm):=[(1,.aC eK),(2,.aC NV),(3,.aC [.own 90200,.own 90201,.own 90202]),(90100,.sl .Cell 4),(90101,.sl .int 2),(90102,.sl .int 2),(90200,.sl .Cell 4),(90201,.sl .int 2),(90202,.sl .int 2)]
abbrev ox:aa (Bool×TC):=[(false,(.sl .int))]
abbrev acY:aa Lm:=[.aH .Cell 0,.aH .int 0,.aH .int 0]
abbrev HT:aa (Nat×Rm):=[(3,.aC acY)]
abbrev acZ:aa (Nat×Rm):=[(2,.aC NV),(3,.aC [.own 90200,.own 6,.own 10]),(90100,.sl .Cell 4),(90101,.sl .int 2),(90102,.sl .int 2),(90200,.sl .Cell 4),(6,.sl .int 2),(10,.sl .int 2)]
abbrev lK:aa (Bool×TC):=[(false,.int)]
abbrev HU:aa (Bool×TC):=[(true,.fo),(true,.oM),(false,.int),(false,.int)]
abbrev xq:bG:=⟨[(5,tI)],[],[]⟩
abbrev xu:bG:=⟨[(4,tI)],[],[]⟩
abbrev Ei:aa Lm:=[.aH .int 0,.int .i64,.bool]
abbrev V7:aa (Nat×Rm):=[(1000000000112000,.sl .gH 2)]
abbrev ac0:bG:=⟨[(1,tI),(2,tI),(8,.lf (.own 1000000000112000)),(30,.lf (.own 1000000000112000)),(31,tI),(32,tI)],V7,[]⟩
abbrev ac1:bG:=⟨[(4,.aG 4 0),(6,.aG 6 0)],[(4,.aC NU),(6,.aC [.int .i64,.own 90201]),(90101,.sl .int 2),(90201,.sl .int 2)],[]⟩
abbrev Ej:aa (Bool×TC):=[(false,(.sl .int)),(false,.int)]
abbrev ac2:aa (Nat×Rm):=[(18,.sl .int 2),(99004,.sl .int 2),(66,.sl .int 2)]
abbrev ac3:bG:=⟨[(3,.lf (.own 18)),(4,.lf (.own 99004)),(8,.lf (.own 66)),(9,tI)],ac2,[]⟩
abbrev V8:aa Lm:=[.own 90100,.own 90101]
abbrev ac4:aa (Nat×Rm):=[(2,.aC V8),(3,.aC [.own 13,.own 90201]),(90100,.sl .int 2),(90101,.sl .int 2),(13,.sl .int 2),(90201,.sl .int 2)]
abbrev BZ:aa (Bool×TC):=[(false,.int),(false,.int)]
abbrev gx:bG:=⟨[],[],[]⟩
abbrev ac5:aa Gp:=[(4,.cO,4,V5),(6,.cO,4,[1000000000137005,1000000000137013,1000000000119000,1000000000122000,1000000000122001,1000000000125000,1000000000125001,1000000000125002,1000000000146001,1000000000154000,90258,90259,90260,90261,90262,90272,90273,90274])]
abbrev HV:aa Lm:=[.int .i64,.int .i64,.int .i64,.bool,.int .i64,.int .i64]
abbrev ac6:aa Gp:=[(20000,.cO,4,[60033,60041,60046,60048,60049,60050,60051,60052,60054,60055,60058,60059,1000000000141000,60061,60062,60072,60073,60074])]
abbrev V9:bG:=⟨[(1,tI),(2,.aG 2 0),(4,.aG 4 0),(6,.aG 6 0),(7,tI)],zz9,[]⟩
abbrev B0:aa Lm:=[.aH .int 0,.aH .int 0]
abbrev ac7:bG:=⟨[(5,.aG 5 0),(6,.aG 6 0),(7,.aG 7 0),(9,tI)],[(5,.st .jn),(6,.aC B0),(7,.aC eK)],[]⟩
abbrev sJ:aa (Bool×TC):=[(true,.cO)]
abbrev NW:aa (Bool×TC):=[(false,(.sl .gw)),(false,(.sl .bool))]
abbrev ud:aa (Bool×TC):=[(true,.fo)]
abbrev Wa:bG:=⟨[(0,tI),(1,tI),(5,tI),(6,tI)],[],[]⟩
abbrev ac8:bG:=⟨[(1,.aG 1 0),(2,.aG 2 0),(4,.lf (.own 1000000000117000)),(5,.aG 5 0)],V6,[]⟩
abbrev ac9:bG:=⟨[(0,.lf (.aH .int 0)),(3,.lf (.own 10)),(12,tI),(13,tI)],[(10,.sl .int 2)],[]⟩
abbrev NX:aa (Nat×Rm):=[(6,.sl .int 2)]
abbrev Wb:bG:=⟨[(3,.lf (.own 6))],NX,[]⟩
abbrev Wc:bG:=⟨[(3,.lf (.own 5))],[(5,.sl .int 2)],[]⟩
abbrev ada:aa (Nat×Rm):=[(3,.st .cO),(6,.aC eK),(8,.aC zJ),(81,.sl .bool 2),(142,.sl .Command 2),(146,.sl .bool 2)]
abbrev HW:aa (Bool×TC):=[(true,.fo),(false,.int)]
abbrev HX:aa PK:=[.p .cO 4 0,.v false .int]
abbrev NY:aa Lm:=[.int .i64,.aH .int 0]
abbrev We:bG:=⟨[(2,.aG 2 0),(3,.aG 3 0),(7,tI),(8,tI)],[(2,.aC eK),(3,.aC NY)],[]⟩
abbrev zK:aa Lm:=[.aH .jB 0,.int .i64]
abbrev Wf:aa (Nat×Rm):=[(1,.aC [.aH .int 0,.aH .int 0,.int .i64])]
abbrev HY:aa Lm:=[.int .i64,.int .i64,.int .i64]
abbrev adb:bG:=⟨[(0,tI),(1,.lf (.aH .dM 0)),(9,.lf (.aH .dM 0)),(10,tI),(11,tI)],[],[]⟩
abbrev ade:bG:=⟨[(0,.lf (.aH .int 0)),(3,.lf (.own 12)),(4,tI)],[(12,.sl .int 2)],[]⟩
abbrev NZ:aa (Bool×TC):=[(false,(.sl .dM)),(false,.int)]
abbrev adf:bG:=⟨[(0,.lf (.aH .gw 0)),(1,.lf (.aH .bool 0)),(5,tI),(6,tI)],[],[]⟩
abbrev Wg:aa (Bool×TC):=[(false,(.sl .gH)),(false,.int),(false,.int)]
abbrev adg:aa (Nat×Tm):=[(2,.aG 20000 50),(12,tI),(75,.lf (.own 1000000000175000)),(76,tI),(77,tI)]
abbrev El:bG:=⟨[],[],lJ⟩
abbrev adh:aa (Bool×TC):=[(false,(.sl .dM)),(false,(.sl .bool)),(false,(.sl .bool)),(false,.int),(false,.int)]
abbrev Wh:aa (Nat×Rm):=[(98000,.sl .Addr 1000002)]
abbrev adi:bG:=⟨[(0,.lf (.own 98000)),(5,tI)],Wh,[]⟩
abbrev Wi:aa (Nat×Rm):=[(1,.st .cO),(3,.aC eK)]
abbrev adj:aa (Nat×Rm):=[(2,.aC eK),(1000000000116000,.sl .Addr 2),(19,.sl .bool 2),(20,.sl .bool 2)]
abbrev adk:bG:=⟨[(1,.lf (.aH .bool 0)),(6,.lf (.own 9))],[(9,.sl .gw 2)],[]⟩
abbrev adl:bG:=⟨[(1,tI),(2,tI),(8,.lf (.own 1000000000112000))],V7,[]⟩
abbrev Wj:aa Lm:=[.int .i64,.own 1000000000114001]
abbrev zL:aa PK:=[.p .r5 0 0]
abbrev N0:aa (Bool×TC):=[(true,.fo),(true,.oM)]
abbrev N1:aa (Bool×TC):=[(true,.fo),(true,.Addr)]
abbrev adm:aa PK:=[.v true .fo,.v true .td,.p .cO 4 50,.v false .int,.v false .int]
abbrev HZ:bG:=⟨[(6,tI)],[],[]⟩
abbrev adn:bG:=⟨[(0,.lf (.aH .gH 0)),(7,.lf (.aH .gH 0)),(8,tI),(9,tI)],[],[]⟩
abbrev ado:bG:=⟨[(6,.lf (.own 1000000000112000)),(7,tB)],V7,[]⟩
abbrev apU:aa (Nat×Tm):=[(0,.aG 20000 0),(1,tI),(4,tI)]
abbrev adp:aa (Nat×Rm):=[(11,.sl .Command 2),(1000000000113000,.sl .Addr 2),(14,.sl .bool 2)]
abbrev adq:bG:=⟨[(0,.lf (.aH .dM 0)),(1,tI),(5,tI)],[],[]⟩
abbrev adr:bG:=⟨[(0,.lf (.aH .int 0)),(1,tI),(5,tI)],[],[]⟩
abbrev Wl:aa (Bool×TC):=[(false,(.sl .Addr)),(true,.Addr)]
abbrev ads:aa (Nat×Rm):=[(3,.st .cO),(6,.aC eK),(8,.aC zJ),(38,.sl .bool 2)]
abbrev adt:aa (Nat×Rm):=[(4,.st .cO),(7,.aC eK),(8,.aC eK),(16,.sl .bool 2)]
abbrev adu:bG:=⟨[(2,.aG 2 0),(3,tI)],[(2,.aC eK)],[]⟩
abbrev adw:aa (Nat×Rm):=[(4,.aC eK),(5,.st .jn),(6,.aC B0),(7,.aC eK)]
abbrev N2:aa Gp:=[(2,.cO,4,V5)]
abbrev adx:aa Lm:=[.own 1000000000109000,.own 1000000000109001]
abbrev Wm:aa PK:=[.p .cO 4 50,.v false .int]
abbrev Em:aa (Bool×TC):=[(true,.lS)]
abbrev ady:bG:=⟨[(1,.aG 1 0),(3,.aG 3 0)],Wi,[]⟩
abbrev Wn:aa (Bool×TC×Nat):=[(true,.pT,2),(false,.bool,0)]
abbrev Wo:aa (Bool×TC×Nat):=[(true,.Addr,0),(false,.bool,0)]
abbrev Wp:aa PK:=[.p .r5 0 0,.v false .int]
abbrev Wq:aa (Nat×Tm):=[(2,.aG 2 0),(3,.aG 3 0)]
abbrev adz:aa (Bool×TC):=[(true,.jn),(false,.int),(false,.int),(false,.bool)]
abbrev adA:aa (Bool×TC):=[(true,.fo),(true,.jn),(true,.Command),(true,.Command)]
abbrev adB:aa (Bool×TC):=[(true,.fo),(true,.jn),(true,.ny),(true,.Command)]
abbrev adC:bG:=⟨[(1,.aG 1 0)],[(1,.st .jn)],[]⟩
abbrev adD:bG:=⟨[(3,.aG 3 0)],[(3,.aC B0)],[]⟩
abbrev adE:bG:=⟨[(1,.aG 1 0)],[(1,.aC Ei)],[]⟩
abbrev Wr:aa Lm:=[.own 90100,.int .i64]
abbrev adF:aa (Nat×Tm):=[(1,.aG 1 0),(2,.aG 2 0),(3,.aG 3 0),(4,tI)]
abbrev Ws:aa (Nat×Rm):=[(3,.aC zK),(1000000000115000,.sl .int 2)]
abbrev adG:bG:=⟨[(0,.lf (.aH .int 0)),(1,tI)],[],[]⟩
abbrev Wt:aa (Bool×TC):=[(true,.Config),(true,.n8)]
abbrev Wu:aa (Bool×TC):=[(true,.fo),(true,.Command)]
abbrev adH:bG:=⟨[(1,.aG 1 0),(3,tI)],Wf,[]⟩
abbrev H6:aa (Bool×TC×Nat):=[(true,.ny,2)]
abbrev H7:aa (Bool×TC×Nat):=[(true,.Command,0)]
abbrev adJ:bG:=⟨[(0,.lf (.aH .gw 0))],[],[]⟩
abbrev adK:aa (Bool×TC):=[(true,.gX),(false,.int),(false,(.sl .Addr))]
abbrev adL:aa PK:=[.p .r5 0 0,.v true .Config,.v false .int]
abbrev adM:aa PK:=[.p .cO 4 0,.v false .int,.v false .int]
abbrev adN:aa PK:=[.p .cO 4 0,.v true .Command,.v false .int]
abbrev H8:aa (Bool×TC):=[(true,.jn)]
abbrev H9:aa (Bool×TC):=[(true,.n8)]
abbrev adO:aa Lm:=[.own 1000000000116000,.int .i64]
abbrev adP:aa Lm:=[.int .i64,.own 1000000000138001]
abbrev N3:aa (Nat×Rm):=[(7,.sl .Command 2)]
abbrev adQ:bG:=⟨[(0,tI),(3,tI)],[],[]⟩
abbrev adR:aa Lm:=[.own 20001,.int .i64,.int .i64]
abbrev Wv:bG:=⟨[],[],NT⟩
abbrev adS:aa (Nat×Tm):=[(1,.aG 1 0),(2,.aG 2 0),(3,.aG 3 0)]
abbrev adT:aa (Nat×Tm):=[(1,.aG 1 0),(3,.lf (.own 5)),(4,tI)]
abbrev adU:bG:=⟨[(3,.aG 3 0)],HT,[]⟩
def Ww(C:aa Int):aj (Bool):=some ((C.length:Int) > 1048576)
def apV:=bx [(false,(.sl .u8))] cv (bL Ww) 6 [] func6
def cB(C D E:Int):aj (Bool):=bif C >= D then some (C <= E)else some false
def eM:=bx [(false,.int),(false,.int),(false,.int)] cv (fC cB) 15 [] func40
def oy(C:aI):aj (Bool):=(cB C.bK 1 2).bind λD=>bif D then (cB C.aA 1 4).bind λE=>bif E then (cB C.rows 2 16).bind λI=>bif I then (cB C.aL 1 8).bind λL=>some L else some false else some false else some false
def rH:=bx ud cv (bL oy) 21 [eM] func83
def mQ(C:aI):aj (Int):=(oy C).bind λD=>bif (!D)then some 0 else some (W6 (C.bK*C.aA))
def pG:=bx ud dD (bL mQ) 11 [rH] func35
abbrev adV:=((Int×af×af×af×Int×Int×af)×((Int×Int×Int×Int×af)×(Int×af×af)×(Int×af×af)×(aa Int)×(aa Int)×af))
def En(x:adV):aj (adV⊕(((Int×af×af×af×Int×af)×((Int×Int×Int×Int×af)×(Int×af×af)×(Int×af×af)×(aa Int)×(aa Int)×af))⊕Empty)):=letI C:=x.2.2.2;letI D:=x.1.2.2.2.2;bif D.2.1<(W6 (x.2.1.2.2.1-x.1.1))then bif bD (C.2.2.1.length+([D.2.1]:aa Int).length)then xG ((x.1.1,(),(),(),D.1,(W6 (D.2.1+1)),()),(x.2.1,x.2.2.1,C.1,C.2.1,(C.2.2.1++([D.2.1]:aa Int)),()))else none else az ((x.1.1,(),(),(),D.1,()),(x.2.1,x.2.2.1,C.1,C.2.1,C.2.2.1,()))
def apW:KY 48 (rF (bh f33) 0):=⟨2,lB 2 ⟨[(1,tI),(2,.aG 2 0),(4,.aG 4 0),(6,.aG 6 0),(7,tI),(8,tI)],zz9,[]⟩ [(4,V9)] En,lp []⟩
abbrev adW:=((Int×af×af×af×Int×af)×((Int×Int×Int×Int×af)×(Int×af×af)×(Int×af×af)×(aa Int)×(aa Int)×af))
def Ia(x:adW):aj (adW⊕(((af×af×af)×((Int×af×af)×(Int×af×af)×(aa Int)×(aa Int)×af))⊕Empty)):=letI D:=x.2.2.2;(mQ (⟨x.2.1.1,x.2.1.2.1,x.2.1.2.2.1,x.2.1.2.2.2.1⟩:aI)).bind λE=>bif x.1.2.2.2.2.1<E then br En ((x.1.1,(),(),(),x.1.2.2.2.2.1,0,()),(x.2.1,x.2.2.1,D.1,D.2.1,D.2.2.1,())) λC=>xG ((C.1.1,(),(),(),(W6 (C.1.2.2.2.2.1+1)),()),(C.2.1,C.2.2.1,C.2.2.2.1,C.2.2.2.2.1,C.2.2.2.2.2.1,()))else az (((),(),()),(x.2.2.1,D.1,D.2.1,D.2.2.1,()))
def apX:KY 48 (bh f33):=⟨0,lB 0 V9 [(2,ac1)] Ia,lq [pG] [apW]⟩
def Ib(C:aI)(D:Int):aj (dI×Bool):=letI E:=some ((⟨0,[]⟩:dI),false);(oy C).bind λL=>bif (!L)then E else (cB D 0 2).bind λO=>bif (!O)then E else bif (W6 (C.rows-D))<2 then E else br Ia ((D,(),(),(),0,()),((C.bK,C.aA,C.rows,C.aL,()),(0,(),()),(D,(),()),([]:aa Int),([]:aa Int),())) λI=>some ((⟨I.2.2.1.1,I.2.2.2.2.1⟩:dI),true)
def adX:=cg HW [(true,.oM,2),(false,.bool,0)] (bY Ib) 48 [eM,rH] [apX] func33
abbrev adY:=((af×af×Int×Int×af)×(ck×(aa Int)×af))
def Eo(x:adY):aj (adY⊕(((Bool×af)×(af))⊕(((af×af)×(ck×af))⊕Empty))):=letI C:=x.1.2.2;bif C.2.1<C.1 then xL x.2.2.1 C.2.1 λD=>(cB D 1 64).bind λE=>bif (!E)then az ((false,()),())else xG (((),(),C.1,(W6 (C.2.1+1)),()),(x.2.1,x.2.2.1,()))else bf (((),()),(x.2.1,()))
def apY:KY 75 (bh f113):=⟨0,lB 0 ⟨[(1,.aG 1 0),(39,.lf (.own 39)),(40,tI),(41,tI)],[(1,.st .jn),(39,.sl .int 2)],[]⟩ [(1,nP),(2,adC)] Eo,lp [eM]⟩
def B1(C:ck):aj (Bool):=letI E:=([C.kJ,C.rp,C.gG,C.nW,C.kK,C.iN,C.nX,C.nY,C.jl,C.wr,C.nZ,C.n5,C.qM,C.n6,C.oK,C.xp,C.xs]:aa Int);bP Eo (((),(),(E.length:Int),0,()),(C,E,())) (λI=>some I.1.1) λL=>letI D:=L.2.1;bif D.kJ <= D.gG then bif D.nW <= D.kK then bif D.nX <= D.nY then some (D.nZ <= D.n5)else some false else some false else some false
def N4:=cg H8 cv (bL B1) 75 [] [apY] func113
def Ic(C:nt):aj (Bool):=(cB C.order 0 2).bind λD=>some D
def adZ:=bx [(true,.r4)] cv (bL Ic) 6 [eM] func182
def zM(C:ck):aj (Int):=(B1 C).bind λD=>bif (!D)then some 0 else some (W6 (2*(W6 ((W6 ((W6 ((W6 ((W6 ((W6 ((W6 ((W6 ((W6 (C.oK+C.xp))+C.gG))+C.wr))+C.jl))+C.rp))+C.n6))+C.kJ))+(W6 (8*C.kK))))+16))))
def apZ:=bx H8 dD (bL zM) 35 [N4] func183
def N5(C:fm):aj (Bool):=(Ib C.ax C.bM).bind λD=>(oy C.ax).bind λE=>bif E then (B1 C.bX).bind λI=>bif I then (Ic C.mapping).bind λL=>bif L then bif D.2 then (zM C.bX).bind λO=>(cB C.interval O 10000).bind λT=>bif T then (cB C.iF 1 16).bind λU=>bif U then (cB C.eC.bC (W6 (6*C.interval)) 100000).bind λY=>bif Y then (cB C.eC.bw 0 100000).bind λZ=>some Z else some false else some false else some false else some false else some false else some false else some false
def ap0:=bx [(true,.Config)] cv (bL N5) 57 [adX,eM,rH,N4,adZ,apZ] func80
abbrev ad0:=(((aa cE)×(aa cE)×Int×Int×af)×(af))
def Ie(x:ad0):aj (ad0⊕(((Bool×af)×(af))⊕((((aa cE)×af)×(af))⊕Empty))):=letI C:=x.1.2.2;bif C.2.1<C.1 then xI x.1.2.1 C.2.1 λD=>(cB D.weight 1 9).bind λE=>bif (!E)then az ((false,()),())else (cB D.fJ 0 D.weight).bind λI=>bif (!I)then az ((false,()),())else xG ((x.1.1,x.1.2.1,C.1,(W6 (C.2.1+1)),()),())else bf ((x.1.1,()),())
def ap1:KY 27 (bh f60):=⟨0,lB 0 ⟨[(0,.lf (.aH .gw 0)),(5,.lf (.aH .gw 0)),(6,tI),(7,tI)],[],[]⟩ [(1,nP),(2,adJ)] Ie,lp [eM]⟩
def Ep(C:aa cE):aj (Bool):=bP Ie ((C,C,(C.length:Int),0,()),()) (λD=>some D.1.1) λE=>(cB (E.1.1.length:Int) 1 4).bind λI=>some I
def Wx:=cg [(false,(.sl .gw))] cv (bL Ep) 27 [eM] [ap1] func60
abbrev ad1:=((af×(aa Int)×Int×Int×af)×((aa cE)×af))
def Ig(x:ad1):aj (ad1⊕(((af×af)×((aa cE)×af))⊕Empty)):=letI C:=x.1.2.2;bif C.2.1<C.1 then xI x.1.2.1 C.2.1 λD=>letI E:=([(⟨D,D⟩:cE)]:aa cE);bif bD (x.2.1.length+E.length)then xG (((),x.1.2.1,C.1,(W6 (C.2.1+1)),()),((x.2.1++E),()))else none else az (((),()),(x.2.1,()))
def ap2:KY 25 (bh f36):=⟨0,lB 0 ⟨[(4,.lf (.own 7)),(8,.lf (.aH .int 0)),(9,tI),(10,tI)],[(7,.sl .gw 2)],[]⟩ [(2,⟨[(4,.lf (.own 7))],[(7,.sl .gw 2)],[]⟩)] Ig,lp []⟩
def B2(C:aa Int):aj ((aa cE)×Bool):=br Ig (((),C,(C.length:Int),0,()),(([]:aa cE),())) λD=>(Ep D.2.1).bind λE=>bif (!E)then some ([],false)else some (D.2.1,true)
def ap3:=cg ox [(false,(.sl .gw),2),(false,.bool,0)] (bL B2) 25 [Wx] [ap2] func36
def B3(C:jc):aj (Bool):=bif C.low >= 0 then bif C.low<C.high then some (C.high <= 12)else some false else some false
def Wy:=bx [(true,.qO)] cv (bL B3) 18 [] func61
def Ih(C:qN):aj (Bool):=(cB C.down 1 10000).bind λD=>bif D then bif C.sleep > C.down then some (C.sleep <= 20000)else some false else some false
def ad2:=bx [(true,.tf)] cv (bL Ih) 18 [eM] func184
def N6(C:dY):aj (Bool):=(B2 C.weights).bind λE=>letI D:=(cB C.cap 0 100000).bind λI=>bif I then (cB C.fl 3 1000).bind λL=>bif L then (B3 (⟨false,C.low,C.high⟩:jc)).bind λO=>bif O then bif ((C.weights.length:Int)==4)then bif E.2 then (Ih C.eB).bind λT=>some T else some false else some false else some false else some false else some false;bif (C.eU==0)then D else bif (C.eU==1)then D else some false
def ap4:=bx H9 cv (bL N6) 51 [ap3,eM,Wy,ad2] func81
def zN(C:Int):aj (Int):=(cB C 3 1000).bind λD=>bif (!D)then some 0 else some (W6 ((W6 (2*C))+2))
def ap5:=bx lK dD (bL zN) 9 [eM] func82
def sK(C:fm)(D:dY):aj (Bool):=letI E:=W6 (C.bX.gG+C.bX.rp);(N5 C).bind λI=>bif I then (N6 D).bind λL=>bif L then (zN D.fl).bind λO=>bif (W6 (O+2)) <= C.eC.bw then if E=0 then none else some ((W6 ((W6 (C.iF+1))*D.fl)) > (W6 ((W6 ((W6 (5*C.interval)).tdiv E))+2)))else some false else some false else some false
def ap6:=bx Wt cv (bY sK) 42 [ap0,ap4,ap5] func28
def zO(C:aI):aj (Int):=(mQ C).bind λD=>some (W6 ((W6 (D*C.rows))*C.aL))
def Wz:=bx ud dD (bL zO) 11 [pG] func43
def Er(O:aI)(E:dI)(I:Int):aj (Nat×Nat):=letI L:=W6 (O.rows-E.bM);letI C:=W6 (I*L);letI D:=W6 ((W6 (I+1))*L);if 0 <= C/\C <= D/\D <= (E.map.length:Int)then some (C.toNat,D.toNat)else none
def WA:Bu:=VT [(true,.fo),(true,.oM),(false,.int)] 1 1 .int (λx=>Er x.1 x.2.1 x.2.2.1)
def ad3:enters Tryz.prog 128/\MX Tryz.prog 128 WA:=apn (N:=23) (fn:=f128) (code:=bh f128) (Φ:=(mb [])) (Λ:=(jI [])) (t:=.int) func128 (by kernel_rfl) (by kernel_rfl) (by kernel_rfl) (by kernel_rfl) (by kernel_rfl) (by kernel_rfl) (by kernel_rfl) (by kernel_rfl) (ua _ trivial) rG (λx=>by kernel_rfl)
abbrev ad4:=((Int×Int×(aa Int)×Int×Int×af)×(af))
def Ii(x:ad4):aj (ad4⊕(((Int×af)×(af))⊕Empty)):=letI C:=x.1.2.2;letI D:=C.2.2.1;bif D<C.2.1 then xI C.1 D λE=>bif (E==x.1.1)then xG ((x.1.1,(W6 (x.1.2.1+1)),C.1,C.2.1,(W6 (D+1)),()),())else xG ((x.1.1,x.1.2.1,C.1,C.2.1,(W6 (D+1)),()),())else az ((x.1.2.1,()),())
def ap7:KY 21 (bh f129):=⟨0,lB 0 ⟨[(1,tI),(5,tI),(8,.lf (.aH .int 0)),(9,tI),(10,tI)],[],[]⟩ [(2,xq)] Ii,lp []⟩
def N7(C:aa Int)(D:Int):aj (Int):=br Ii ((D,0,C,(C.length:Int),0,()),()) λE=>some E.1.1
def ap8:=cg Ej dD (bY N7) 21 [] [ap7] func129
abbrev ad5:=((af×af×Int×Int×(aa Int)×(aa Int)×Int×Int×af)×((Int×Int×Int×Int×af)×(Int×(aa Int)×af)×af))
def Es(x:ad5):aj (ad5⊕(((Bool×af)×(af))⊕(((af×af×Int×Int×af)×((Int×Int×Int×Int×af)×(Int×(aa Int)×af)×af))⊕Empty))):=letI D:=x.1.2.2;letI C:=D.2.2;letI E:=C.2.2.2.1;letI L:=xG (((),(),D.1,D.2.1,C.1,C.2.1,C.2.2.1,(W6 (E+1)),()),(x.2.1,x.2.2.1,()));bif E<C.2.2.1 then xI C.2.1 E λI=>bif (I != E)then (cB I D.1 (W6 (x.2.1.2.2.1-1))).bind λO=>bif (!O)then az ((false,()),())else (N7 C.1 I).bind λT=>bif T > 1 then az ((false,()),())else L else L else bf (((),(),D.1,D.2.1,()),(x.2.1,x.2.2.1,()))
def ap9:KY 71 (rF (bh f57) 0):=⟨2,lB 2 ⟨[(2,.aG 2 0),(3,.aG 3 0),(7,tI),(8,tI),(9,.lf (.aH .int 0)),(45,.lf (.aH .int 0)),(46,tI),(47,tI)],[(2,.aC eK),(3,.aC NY)],[]⟩ [(1,jK),(4,We)] Es,lp [eM,ap8]⟩
abbrev ad6:=((af×af×Int×Int×af)×((Int×Int×Int×Int×af)×(Int×(aa Int)×af)×af))
def Ij(x:ad6):aj (ad6⊕(((Bool×af)×(af))⊕(((af)×(af))⊕Empty))):=letI I:=x.1.2.2.2.1;letI C:=x.2.2.1;letI O:=(⟨x.2.1.1,x.2.1.2.1,x.2.1.2.2.1,x.2.1.2.2.2.1⟩:aI);(mQ O).bind λT=>bif I<T then (Er O (⟨C.1,C.2.1⟩:dI) I).bind λD=>letI L:=(C.2.1.take D.2).drop D.1;bif Nat.ble D.1 D.2&&Nat.ble D.2 C.2.1.length then bP Es (((),(),x.1.2.2.1,I,L,L,(L.length:Int),0,()),(x.2.1,C,())) (λU=>az ((U.1.1,()),())) λE=>xG (((),(),E.1.2.2.1,(W6 (E.1.2.2.2.1+1)),()),(E.2.1,E.2.2.1,()))else none else bf ((),())
def aqa:KY 71 (bh f57):=⟨0,lB 0 We [(1,jK),(2,gx)] Ij,lq [pG,⟨128,.v WA,ad3⟩] [ap9]⟩
def Ik(C:aI)(D:dI):aj (Bool):=(Ib C D.bM).bind λE=>bif (!E.2)then some false else bif ((D.map.length:Int) != (E.1.map.length:Int))then some false else bP Ij (((),(),(W6 (C.rows-D.bM)),0,()),((C.bK,C.aA,C.rows,C.aL,()),(D.bM,D.map,()),())) (λI=>some I.1.1) λL=>some true
def ad7:=cg N0 cv (bY Ik) 71 [adX] [aqa] func57
def Et(C:aI)(D:dI):aj (aI):=(Ik C D).bind λE=>bif (!E)then some (⟨0,0,0,0⟩:aI)else some (⟨C.bK,C.aA,(W6 (C.rows-D.bM)),C.aL⟩:aI)
def WB:=bx N0 [(true,.fo,0)] (bY Et) 17 [ad7] func44
abbrev ad8:=((af×(aa di)×Int×Int×af)×((aa Int)×af))
def Eu(x:ad8):aj (ad8⊕(((af×af)×((aa Int)×af))⊕Empty)):=letI C:=x.1.2.2.2.1;letI D:=((),x.1.2.1,x.1.2.2.1,(W6 (C+1)),());bif C<x.1.2.2.1 then xI x.1.2.1 C λE=>bif E.open_ then bif bD (x.2.1.length+([C]:aa Int).length)then xG (D,((x.2.1++([C]:aa Int)),()))else none else xG (D,(x.2.1,()))else az (((),()),(x.2.1,()))
def aqb:KY 23 (bh f125):=⟨0,lB 0 ⟨[(3,.lf (.own 6)),(8,.lf (.aH .jB 0)),(9,tI),(10,tI)],NX,[]⟩ [(2,Wb)] Eu,lp []⟩
def zP(C:bU):aj ((aa Int)):=br Eu (((),C.aA,(C.aA.length:Int),0,()),(([]:aa Int),())) λD=>some D.2.1
def N8:=cg [(true,.gX)] mc (bL zP) 23 [] [aqb] func125
abbrev ad9:=((af×af×(aa di)×Int×Int×af)×((Int×Int×Int×Int×af)×((aa di)×Int×af)×af))
def Il(x:ad9):aj (ad9⊕(((Bool×af)×(af))⊕(((af×af)×(((aa di)×Int×af)×af))⊕Empty))):=letI C:=x.1.2.2;letI E:=xG (((),(),C.1,C.2.1,(W6 (C.2.2.1+1)),()),(x.2.1,x.2.2.1,()));bif C.2.2.1<C.2.1 then xI C.1 C.2.2.1 λD=>(cB D.row 0 (W6 (x.2.1.2.2.1-1))).bind λI=>bif (!I)then az ((false,()),())else bif (!D.open_)then bif (D.row != 0)then az ((false,()),())else E else E else bf (((),()),(x.2.2.1,()))
def aqc:KY 58 (bh f54):=⟨0,lB 0 ⟨[(2,.aG 2 0),(3,.aG 3 0),(25,.lf (.aH .jB 0)),(26,tI),(27,tI)],[(2,.aC eK),(3,.aC zK)],[]⟩ [(1,jK),(2,⟨[(3,.aG 3 0)],[(3,.aC zK)],[]⟩)] Il,lp [eM]⟩
def Im(C:aI)(D:bU):aj (Bool):=(oy C).bind λI=>bif (!I)then some false else (mQ C).bind λL=>bif ((D.aA.length:Int) != L)then some false else (cB D.aT 0 2).bind λO=>bif (!O)then some false else bP Il (((),(),D.aA,(D.aA.length:Int),0,()),((C.bK,C.aA,C.rows,C.aL,()),(D.aA,D.aT,()),())) (λT=>some T.1.1) λE=>bif (E.2.1.2.1 != 2)then some true else (zP (⟨E.2.1.1,E.2.1.2.1⟩:bU)).bind λU=>some ((U.length:Int)==0)
def aea:=cg [(true,.fo),(true,.gX)] cv (bY Im) 58 [pG,eM,rH,N8] [aqc] func54
def xw(C:Int):aj (Bool):=(cB C 1 5).bind λD=>some D
def N9:=bx lK cv (bL xw) 5 [eM] func199
def B4(L:aI)(I:Int):aj (aE×Bool):=letI C:=W6 (I.tdiv 9);letI D:=W6 ((I.tmod 9)+1);(mQ L).bind λE=>bif C<E then (xw D).bind λO=>some ((⟨D,C,0,0⟩:aE),((decide (C<E))==O))else (xw D).bind λT=>some ((⟨D,0,0,0⟩:aE),((decide (C<E))==T))
def aeb:=bx HW [(true,.Command,0),(false,.bool,0)] (bY B4) 27 [pG,N9] func126
abbrev aec:=((af×af×(aa Int)×Int×Int×af)×((Int×Int×Int×Int×af)×((aa Int)×(aa Int)×af)×af))
def Io(x:aec):aj (aec⊕(((Bool×af)×(af))⊕(((af×af)×(((aa Int)×(aa Int)×af)×af))⊕Empty))):=letI C:=x.1.2.2;letI D:=C.2.2.1;letI E:=xG (((),(),C.1,C.2.1,(W6 (D+1)),()),(x.2.1,x.2.2.1,()));bif D<C.2.1 then xI C.1 D λI=>(B4 (⟨x.2.1.1,x.2.1.2.1,x.2.1.2.2.1,x.2.1.2.2.2.1⟩:aI) D).bind λL=>(cB I (-1) 1000000).bind λO=>bif (!O)then az ((false,()),())else bif (!L.2)then bif (I != (-1))then az ((false,()),())else E else E else bf (((),()),(x.2.2.1,()))
def aqd:KY 82 (bh f55):=⟨0,lB 0 ⟨[(2,.aG 2 0),(3,.aG 3 0),(31,.lf (.aH .int 0)),(32,tI),(33,tI)],[(2,.aC eK),(3,.aC B0)],[]⟩ [(1,jK),(2,adD)] Io,lp [eM,aeb]⟩
abbrev aed:=((af×(aa Int)×Int×Int×af)×(((aa Int)×(aa Int)×af)×af))
def Ip(x:aed):aj (aed⊕(((Bool×af)×(af))⊕(((af)×(af))⊕Empty))):=letI C:=x.1.2.2.2.1;letI D:=xG (((),x.1.2.1,x.1.2.2.1,(W6 (C+1)),()),(x.2.1,()));bif C<x.1.2.2.1 then xI x.1.2.1 C λE=>(cB E 0 1000000).bind λI=>bif (!I)then az ((false,()),())else bif C > 0 then xI x.2.1.2.1 (W6 (C-1)) λL=>bif L >= E then az ((false,()),())else D else D else bf ((),())
def aqe:KY 82 (bh f55):=⟨2,lB 2 ⟨[(3,.aG 3 0),(57,.lf (.aH .int 0)),(58,tI),(59,tI)],[(3,.aC B0)],[]⟩ [(1,jK),(4,gx)] Ip,lp [eM]⟩
def Ev(C:aI)(D:cZ):aj (Bool):=(oy C).bind λI=>bif (!I)then some false else (mQ C).bind λL=>bif ((D.last.length:Int) != (W6 (9*(W6 (L+1)))))then some false else bif (D.aU.length:Int) > 4 then some false else bP Io (((),(),D.last,(D.last.length:Int),0,()),((C.bK,C.aA,C.rows,C.aL,()),(D.last,D.aU,()),())) (λO=>some O.1.1) λE=>bP Ip (((),E.2.1.2.1,(E.2.1.2.1.length:Int),0,()),(E.2.1,())) (λT=>some T.1.1) λU=>some true
def WC:=cg [(true,.fo),(true,.ny)] cv (bY Ev) 82 [pG,rH] [aqd,aqe] func55
def B5(C:Int):aj (Bool):=(cB C 0 15).bind λD=>some D
def WD:=bx lK cv (bL B5) 5 [eM] func120
abbrev aee:=(((aa Int)×Int×(aa Int)×Int×Int×af)×(af))
def zR(x:aee):aj (aee⊕(((Bool×af)×(af))⊕((((aa Int)×Int×af)×(af))⊕Empty))):=letI C:=x.1.2.2;bif C.2.2.1<C.2.1 then xI C.1 C.2.2.1 λD=>(B5 D).bind λE=>bif (!E)then az ((false,()),())else xG ((x.1.1,x.1.2.1,C.1,C.2.1,(W6 (C.2.2.1+1)),()),())else bf ((x.1.1,x.1.2.1,()),())
def aqf:KY 21 (bh f127):=⟨0,lB 0 ⟨[(0,.lf (.aH .int 0)),(1,tI),(7,.lf (.aH .int 0)),(8,tI),(9,tI)],[],[]⟩ [(1,jK),(2,adG)] zR,lp [WD]⟩
def vr(C:aa Int)(E:Int):aj (Bool):=bP zR ((C,E,C,(C.length:Int),0,()),()) (λI=>some I.1.1) λD=>some ((D.1.1.length:Int)==D.1.2.1)
def Iq:=cg Ej cv (bY vr) 21 [] [aqf] func127
abbrev aef:=((af×(aa cq)×Int×Int×af)×(((aa cq)×(aa Int)×(aa Int)×af)×af))
def Ir(x:aef):aj (aef⊕(((Bool×af)×(af))⊕(((af×af)×(((aa cq)×(aa Int)×(aa Int)×af)×af))⊕Empty))):=letI C:=x.1.2.2;bif C.2.1<C.1 then xI x.1.2.1 C.2.1 λD=>(vr D.symbols 11).bind λE=>bif (!E)then az ((false,()),())else xG (((),x.1.2.1,C.1,(W6 (C.2.1+1)),()),(x.2.1,()))else bf (((),()),(x.2.1,()))
def aqg:KY 74 (bh f56):=⟨0,lB 0 ⟨[(3,.aG 3 0),(40,.lf (.aH .Cell 0)),(41,tI),(42,tI)],HT,[]⟩ [(1,jK),(2,adU)] Ir,lp [Iq]⟩
abbrev aeg:=((af×Int×Int×af)×(((aa cq)×(aa Int)×(aa Int)×af)×af))
def Is(x:aeg):aj (aeg⊕(((Bool×af)×(af))⊕(((af)×(af))⊕Empty))):=letI C:=x.1.2.2.1;bif C<x.1.2.1 then xI x.2.1.2.1 C λD=>(cB D 0 100000).bind λE=>bif (!E)then az ((false,()),())else xI x.2.1.2.2.1 C λI=>(cB I 0 100000).bind λL=>bif (!L)then az ((false,()),())else xG (((),x.1.2.1,(W6 (C+1)),()),(x.2.1,()))else bf ((),())
def aqh:KY 74 (bh f56):=⟨2,lB 2 ⟨[(3,.aG 3 0),(53,tI),(54,tI)],HT,[]⟩ [(1,jK),(4,gx)] Is,lp [eM]⟩
def It(D:aI)(C:en):aj (Bool):=(mQ D).bind λE=>(oy D).bind λL=>bif (!L)then some false else (zO D).bind λO=>bif ((C.cells.length:Int) != O)then some false else bif ((C.bC.length:Int) != (W6 (E*D.rows)))then some false else bif ((C.bw.length:Int) != (W6 (E*D.rows)))then some false else bP Ir (((),C.cells,(C.cells.length:Int),0,()),((C.cells,C.bC,C.bw,()),())) (λT=>some T.1.1) λI=>bP Is (((),(I.2.1.2.1.length:Int),0,()),(I.2.1,())) (λU=>some U.1.1) λY=>some true
def aqi:=cg [(true,.fo),(true,.Array)] cv (bY It) 74 [pG,Wz,rH] [aqg,aqh] func56
def B6(C:aI)(D:aM):aj (Bool):=(oy C).bind λE=>bif E then (mQ C).bind λI=>(cB D.ay 0 (W6 (I-1))).bind λL=>bif L then (cB D.row 0 (W6 (C.rows-1))).bind λO=>bif O then (cB D.bO 0 (W6 (C.aL-1))).bind λT=>some T else some false else some false else some false
def WE:=bx N1 cv (bY B6) 31 [pG,eM,rH] func119
abbrev aeh:=((af×(aa Int)×Int×Int×af)×(((aa Int)×Int×Bool×af)×af))
def Iu(x:aeh):aj (aeh⊕(((Bool×af)×(af))⊕(((af×af)×(((aa Int)×Int×Bool×af)×af))⊕Empty))):=letI C:=x.1.2.2;bif C.2.1<C.1 then xI x.1.2.1 C.2.1 λD=>(cB D (-2) 5).bind λE=>bif (!E)then az ((false,()),())else xG (((),x.1.2.1,C.1,(W6 (C.2.1+1)),()),(x.2.1,()))else bf (((),()),(x.2.1,()))
def aqj:KY 25 (bh f130):=⟨0,lB 0 ⟨[(1,.aG 1 0),(6,.lf (.aH .int 0)),(7,tI),(8,tI)],[(1,.aC Ei)],[]⟩ [(1,nP),(2,adE)] Iu,lp [eM]⟩
def zS(C:dn):aj (Bool):=bP Iu (((),C.aJ,(C.aJ.length:Int),0,()),((C.aJ,C.wait,C.eP,()),())) (λE=>some E.1.1) λD=>(cB (D.2.1.1.length:Int) 1 8).bind λI=>bif I then (cB D.2.1.2.1 1 10000).bind λL=>some L else some false
def Oa:=cg Em cv (bL zS) 25 [eM] [aqj] func130
abbrev aei:=(((aa Int)×Int×Int×Int×af)×(af))
def Iv(x:aei):aj (aei⊕(((Int×af)×(af))⊕(((af)×(af))⊕Empty))):=letI C:=x.1.2.2.2.1;bif C<x.1.2.2.1 then xI x.1.1 C λD=>bif (x.1.2.1==D)then az ((C,()),())else xG ((x.1.1,x.1.2.1,x.1.2.2.1,(W6 (C+1)),()),())else bf ((),())
def aqk:KY 19 (bh f200):=⟨0,lB 0 ⟨[(0,.lf (.aH .int 0)),(1,tI),(7,tI),(8,tI)],[],[]⟩ [(1,xu),(2,gx)] Iv,lp []⟩
def B7(C:aa Int)(D:Int):aj (Int):=(iter Iv aP ((C,D,(C.length:Int),0,()),())).bind (Sum.elim (λE=>some E.1.1) (Sum.elim (λI=>some (-1)) (λz=>nomatch z)))
def WG:=cg Ej dD (bY B7) 19 [] [aqk] func200
abbrev aej:=((af×(aa Int)×Int×Int×af)×(((aa Int)×(aa Int)×Int×af)×af))
def Iw(x:aej):aj (aej⊕(((Bool×af)×(af))⊕(((af)×(af))⊕Empty))):=letI D:=az ((false,()),());letI C:=x.1.2.2.2.1;letI I:=xG (((),x.1.2.1,x.1.2.2.1,(W6 (C+1)),()),(x.2.1,()));bif C<x.1.2.2.1 then xI x.1.2.1 C λE=>letI L:=bif (E != (-1))then (B7 x.2.1.1 E).bind λO=>bif (O != C)then D else I else I;(cB E (-1) 15).bind λT=>bif (!T)then D else xI x.2.1.2.1 C λU=>(cB U x.2.1.2.2.1 100000).bind λY=>bif (!Y)then D else bif (E==(-1))then xI x.2.1.2.1 C λZ=>bif (Z != 0)then D else L else L else bf ((),())
def aql:KY 72 (bh f131):=⟨0,lB 0 ⟨[(1,.aG 1 0),(26,.lf (.aH .int 0)),(27,tI),(28,tI)],Wf,[]⟩ [(1,nP),(2,gx)] Iw,lp [eM,WG]⟩
def zU(C:cx):aj (Bool):=letI D:=(C.rows.length:Int);(cB D 1 16).bind λE=>bif (!E)then some false else bif ((C.counts.length:Int) != D)then some false else (cB C.dg 0 100000).bind λI=>bif (!I)then some false else bP Iw (((),C.rows,D,0,()),((C.rows,C.counts,C.dg,()),())) (λL=>some L.1.1) λO=>some true
def aek:=cg [(true,.iO)] cv (bL zU) 72 [eM] [aql] func131
abbrev ael:=(((aa aM)×af×Int×Int×af)×((Int×Int×Int×af)×af))
def Ix(x:ael):aj (ael⊕(((Int×af)×(af))⊕(((af)×(af))⊕Empty))):=letI C:=x.1.2.2.2.1;bif C<x.1.2.2.1 then xI x.1.1 C λD=>bif ((x.2.1.1==D.ay)&&((x.2.1.2.1==D.row)&&((x.2.1.2.2.1==D.bO)&&true)))then az ((C,()),())else xG ((x.1.1,(),x.1.2.2.1,(W6 (C+1)),()),(x.2.1,()))else bf ((),())
def aqm:KY 19 (bh f132):=⟨0,lB 0 ⟨[(0,.lf (.aH .Addr 0)),(3,.aG 3 0),(7,tI),(8,tI)],[(3,.aC HY)],[]⟩ [(1,xu),(2,gx)] Ix,lp []⟩
def Ew(D:aa aM)(C:aM):aj (Int):=(iter Ix aP ((D,(),(D.length:Int),0,()),((C.ay,C.row,C.bO,()),()))).bind (Sum.elim (λE=>some E.1.1) (Sum.elim (λI=>some (-1)) (λz=>nomatch z)))
def aem:=cg Wl dD (bY Ew) 19 [] [aqm] func132
abbrev aen:=((af×af×Int×Int×af)×(av×(Int×Int×Int×Int×af)×af))
def Ob(x:aen):aj (aen⊕(((Bool×af)×(af))⊕(((af×af×af)×(av×(Int×Int×Int×Int×af)×af))⊕Empty))):=letI C:=x.1.2.2.2.1;bif C<x.1.2.2.1 then xI x.2.1.bI C λD=>(zU D).bind λE=>bif (!E)then az ((false,()),())else xI x.2.1.guard C λI=>(cB I 3 1000).bind λL=>bif (!L)then az ((false,()),())else xG (((),(),x.1.2.2.1,(W6 (C+1)),()),(x.2.1,x.2.2.1,()))else bf (((),(),()),(x.2.1,x.2.2.1,()))
def aqn:KY 94 (bh f58):=⟨0,lB 0 ⟨[(1,.aG 1 0),(3,.aG 3 0),(47,tI),(48,tI)],Wi,[]⟩ [(1,nP),(2,ady)] Ob,lp [eM,aek]⟩
abbrev aeo:=((af×af×(aa aM)×Int×Int×af)×(av×(Int×Int×Int×Int×af)×af))
def Oc(x:aeo):aj (aeo⊕(((Bool×af)×(af))⊕(((af)×(af))⊕Empty))):=letI C:=x.2.2.1;letI I:=az ((false,()),());letI D:=x.1.2.2;letI E:=D.2.2.1;bif E<D.2.1 then xI D.1 E λL=>(B6 (⟨C.1,C.2.1,C.2.2.1,C.2.2.2.1⟩:aI) L).bind λO=>bif (!O)then I else bif (L.bO != 0)then I else (Ew x.2.1.pending L).bind λT=>bif (T != E)then I else xG (((),(),D.1,D.2.1,(W6 (E+1)),()),(x.2.1,C,()))else bf ((),())
def aqo:KY 94 (bh f58):=⟨2,lB 2 ⟨[(1,.aG 1 0),(3,.aG 3 0),(69,.lf (.aH .Addr 0)),(70,tI),(71,tI)],Wi,[]⟩ [(1,nP),(4,gx)] Oc,lp [WE,aem]⟩
def Od(C:av):aj (Bool):=(mQ C.config.ax).bind λE=>(zS C.aS).bind λI=>bif (!I)then some false else bif ((C.aS.aJ.length:Int) != E)then some false else bif ((C.bI.length:Int) != E)then some false else bif ((C.guard.length:Int) != E)then some false else bif (C.pending.length:Int) > 128 then some false else bP Ob (((),(),(C.bI.length:Int),0,()),(C,(C.config.ax.bK,C.config.ax.aA,C.config.ax.rows,C.config.ax.aL,()),())) (λL=>some L.1.1) λD=>bP Oc (((),(),D.2.1.pending,(D.2.1.pending.length:Int),0,()),(D.2.1,D.2.2.1,())) (λO=>some O.1.1) λT=>some true
def aqp:=cg sJ cv (bL Od) 94 [pG,Oa] [aqn,aqo] func58
def Oe(C D:aZ):aj (Bool):=bif C.at_<D.at_ then some true else bif (C.at_==D.at_)then some (C.id<D.id)else some false
def aqq:=bx [(true,.dM),(true,.dM)] cv (bY Oe) 24 [] func110
def B8(C:Int):aj (Bool):=(cB C 0 4294967295).bind λD=>some D
def WH:=bx lK cv (bL B8) 5 [eM] func185
def Of(E:Int)(C:aZ):aj (Bool):=letI D:=(cB C.at_ 0 1000000).bind λI=>some I;(cB C.id 1 100000).bind λL=>bif L then (cB C.dL 0 3).bind λO=>bif O then bif C.line >= 0 then bif C.line<E then (B8 C.data).bind λT=>bif T then bif C.write then D else bif (C.data==0)then D else some false else some false else some false else some false else some false else some false
def aqr:=bx [(false,.int),(true,.dM)] cv (bY Of) 43 [eM,WH] func133
abbrev aep:=((Int×(aa aZ)×af×(aa aZ)×Int×Int×(aa aZ)×Int×Int×af)×((Int×Int×Int×Bool×Int×Int×af)×af))
def Ex(x:aep):aj (aep⊕(((Bool×af)×(af))⊕(((Int×(aa aZ)×(aa aZ)×Int×Int×af)×(af))⊕Empty))):=letI D:=x.1.2.2.2.2;letI C:=D.2.2;bif C.2.2.1<C.2.1 then xI C.1 C.2.2.1 λE=>bif (E.id==x.2.1.1)then az ((false,()),())else xG ((x.1.1,x.1.2.1,(),x.1.2.2.2.1,D.1,D.2.1,C.1,C.2.1,(W6 (C.2.2.1+1)),()),(x.2.1,()))else bf ((x.1.1,x.1.2.1,x.1.2.2.2.1,D.1,D.2.1,()),())
def aeq:KY 52 (rF (bh f59) 0):=⟨2,lB 2 ⟨[(0,tI),(1,.lf (.aH .dM 0)),(6,.aG 6 0),(9,.lf (.aH .dM 0)),(10,tI),(11,tI),(36,.lf (.aH .dM 0)),(37,tI),(38,tI)],[(6,.aC HV)],[]⟩ [(1,jK),(4,adb)] Ex,lp []⟩
abbrev aer:=((Int×(aa aZ)×(aa aZ)×Int×Int×af)×(af))
def Iy(x:aer):aj (aer⊕(((Bool×af)×(af))⊕((((aa aZ)×af)×(af))⊕Empty))):=letI C:=x.1.2;letI D:=C.2.2.2.1;letI L:=(C.1.take D.toNat).drop (0:Int).toNat;bif D<C.2.2.1 then xI C.2.1 D λE=>letI O:=if 0 <= (0:Int)/\0 <= D/\D <= (C.1.length:Int)then bP Ex ((x.1.1,C.1,(),C.2.1,C.2.2.1,D,L,(L.length:Int),0,()),((E.id,E.dL,E.line,E.write,E.data,E.at_,()),())) (λT=>az ((T.1.1,()),())) λI=>xG ((I.1.1,I.1.2.1,I.1.2.2.1,I.1.2.2.2.1,(W6 (I.1.2.2.2.2.1+1)),()),())else none;(Of x.1.1 E).bind λU=>bif (!U)then az ((false,()),())else bif D > 0 then xI C.1 (W6 (D-1)) λY=>(Oe Y E).bind λZ=>bif (!Z)then az ((false,()),())else O else O else bf ((C.1,()),())
def aqs:KY 52 (bh f59):=⟨0,lB 0 adb [(1,jK),(2,⟨[(1,.lf (.aH .dM 0))],[],[]⟩)] Iy,lq [aqq,aqr] [aeq,aeq]⟩
def Og(D:Int)(C:aa aZ):aj (Bool):=bP Iy ((D,C,C,(C.length:Int),0,()),()) (λE=>some E.1.1) λI=>some ((I.1.1.length:Int) <= 12)
def aqt:=cg [(false,.int),(false,(.sl .dM))] cv (bY Og) 52 [] [aqs] func59
def B9(C:fA):aj (Bool):=(cB C.state 0 2).bind λD=>bif D then (cB C.since 0 1000000).bind λE=>bif E then (cB C.idle 0 1000000).bind λI=>some I else some false else some false
def WI:=bx [(true,.Power)] cv (bL B9) 16 [eM] func62
end Go.Proofs.YtgjfmljpdnnihaaGreat
