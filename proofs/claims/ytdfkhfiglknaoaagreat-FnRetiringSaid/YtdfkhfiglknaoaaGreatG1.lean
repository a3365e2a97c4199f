/-
  Functions of the program as plain functions of contents, and that the code computes them. Nothing here is a claim.
-/
import Derived.Test.YtdfkhfiglknaoaaGreatVZ
import Derived.Test.YtdfkhfiglknaoaaGreatRows
namespace Go.Proofs.YtdfkhfiglknaoaaGreat
set_option linter.defProp false
open Go.RowKit Go.Proofs.Tryz
set_option linter.unusedVariables false
set_option maxRecDepth 100000
abbrev KX:=KC Tryz.prog
abbrev KY:=BK Tryz.prog
abbrev lJ:aa Gp:=[(20000,.cK,4,[60033,60041,60046,60048,60049,60050,60051,60052,60054,60055,60058,60059,60060,60061,60062,60072,60073,60074])]
abbrev FQ:aa Nat:=[90133,90141,90146,90148,90149,90150,90151,90152,90154,90155,90158,90159,90160,90161,90162,90172,90173,90174]
abbrev cy:aa (Bool×TC×Nat):=[(false,.bool,0)]
abbrev Qm:aa Gp:=[(20000,.cK,4,[102000033,102000041,102000046,102000048,102000049,102000050,102000051,102000052,102000054,102000055,102000058,102000059,102000060,102000061,102000062,102000072,102000073,102000074])]
abbrev dS:aa (Bool×TC×Nat):=[(false,.int,0)]
abbrev asF:aa Lm:=[.own 60000,.own 60001,.own 60002]
abbrev eK:aa Lm:=[.int .i64,.int .i64,.int .i64,.int .i64]
abbrev zz5:aa (Nat×Rm):=[(20000,.aB asF),(5,.aB eK),(60000,.sl .Cell 4),(60001,.sl .int 4),(60002,.sl .int 4)]
abbrev FR:aa Lm:=[.int .i64,.own 90101]
abbrev zz6:aa (Nat×Rm):=[(2,.aB eK),(4,.aB FR),(6,.aB [.int .i64,.own 90201]),(90101,.sl .int 2),(90201,.sl .int 2)]
abbrev X9:aa (Nat×Rm):=[(1,.st .cK),(2,.aB eK),(1000000000117000,.sl .int 2),(5,.aB eK)]
abbrev FT:aa (Nat×Rm):=[(20000,.aB [.own 60000,.own 60001,.int .i64]),(60000,.sl .int 2),(60001,.sl .int 2)]
abbrev ic:bF:=⟨[],[],[]⟩
abbrev mL:aa (Bool×TC×Nat):=[(false,(.sl .int),2)]
abbrev Df:aa Lm:=[.own 90100,.own 90101,.own 90102]
abbrev aeM:aa (Nat×Rm):=[(1,.st .cK),(3,.aB [.int .i64,.int .i64,.int .i64,.int .i64,.int .i64,.int .i64,.int .i64,.int .i64,.int .i64,.int .i64,.int .i64,.int .i64,.int .i64,.int .i64,.int .i64,.int .i64,.int .i64,.int .i64,.int .i64,.int .i64,.int .i64,.int .i64,.bool,.int .i64,.int .i64,.int .i64,.int .i64,.int .i64,.int .i64,.int .i64,.int .i64,.int .i64,.int .i64,.own 1000000000109005,.int .i64,.int .i64,.int .i64,.int .i64,.int .i64,.int .i64,.int .i64,.own 1000000000109013,.int .i64,.int .i64,.bool,.int .i64,.own 1000000000113000,.int .i64,.own 1000000000117000,.own 1000000000117001,.own 1000000000121000,.own 1000000000121001,.own 1000000000121002,.int .i64,.own 1000000000126000,.own 1000000000131000,.int .i64,.bool,.own 33,.aI .int 0,.aI .Addr 0,.aI .dx 0,.aI .hD 0,.bool,.int .i64,.int .i64,.int .i64,.int .i64,.int .i64,.int .i64,.int .i64,.int .i64,.aI .iD 0,.aI .Event 0,.aI .oB 0]),(1000000000109005,.sl .int 2),(1000000000109013,.sl .int 2),(1000000000113000,.sl .kK 2),(1000000000117000,.sl .int 2),(1000000000117001,.sl .int 2),(1000000000121000,.sl .Cell 4),(1000000000121001,.sl .int 4),(1000000000121002,.sl .int 4),(1000000000126000,.sl .int 2),(1000000000131000,.sl .int 2),(33,.sl .jL 4)]
abbrev aeN:aa (Nat×Rm):=[(1,.aB [.int .i64,.int .i64,.int .i64,.int .i64,.int .i64,.int .i64,.int .i64,.int .i64,.int .i64,.int .i64,.int .i64,.int .i64,.int .i64,.int .i64,.int .i64,.int .i64,.int .i64,.int .i64,.int .i64,.int .i64,.int .i64,.int .i64,.bool,.int .i64,.int .i64,.int .i64,.int .i64,.int .i64,.int .i64,.int .i64,.int .i64,.int .i64,.int .i64,.own 1000000000107005,.int .i64,.int .i64,.int .i64,.int .i64,.int .i64,.int .i64,.int .i64,.own 1000000000107013,.int .i64,.int .i64,.bool,.int .i64,.own 1000000000111000,.int .i64,.own 1000000000115000,.own 1000000000115001,.own 1000000000119000,.own 1000000000119001,.own 1000000000119002,.int .i64,.own 1000000000123001,.own 1000000000127000,.int .i64,.bool,.aI .jL 0,.aI .int 0,.aI .Addr 0,.aI .dx 0,.aI .hD 0,.bool,.int .i64,.int .i64,.int .i64,.int .i64,.int .i64,.int .i64,.int .i64,.int .i64,.aI .iD 0,.aI .Event 0,.aI .oB 0]),(29,.sl .jL 4),(1000000000107005,.sl .int 2),(1000000000107013,.sl .int 2),(1000000000111000,.sl .kK 2),(1000000000115000,.sl .int 2),(1000000000115001,.sl .int 2),(1000000000119000,.sl .Cell 4),(1000000000119001,.sl .int 4),(1000000000119002,.sl .int 4),(1000000000123001,.sl .int 2),(1000000000127000,.sl .int 2)]
abbrev aeO:aa Gp:=[(4,.cK,4,FQ),(5,.cK,4,[1000000000108033,1000000000108041,1000000000108046,1000000000108048,1000000000108049,1000000000108050,1000000000108051,1000000000108052,1000000000108054,1000000000108055,1000000000108058,1000000000108059,1000000000108060,1000000000108061,1000000000108062,1000000000108072,1000000000108073,1000000000108074])]
abbrev aeP:aa Gp:=[(6,.cK,4,FQ),(8,.cK,4,[1000000000118033,1000000000118041,1000000000118046,1000000000118048,1000000000118049,1000000000118050,1000000000118051,1000000000118052,1000000000118054,1000000000118055,1000000000118058,1000000000118059,1000000000118060,1000000000118061,1000000000118062,1000000000118072,1000000000118073,1000000000118074])]
abbrev aeQ:aa Gp:=[(6,.cK,4,FQ),(8,.cK,4,[1000000000115033,1000000000115041,1000000000115046,1000000000115048,1000000000115049,1000000000115050,1000000000115051,1000000000115052,1000000000115054,1000000000115055,1000000000115058,1000000000115059,1000000000115060,1000000000115061,1000000000115062,1000000000115072,1000000000115073,1000000000115074])]
abbrev Dg:aa (Bool×TC):=[(true,.gd),(true,.qj),(false,.int),(false,.int)]
abbrev aeR:aa Gp:=[(4,.cK,4,FQ),(6,.cK,4,[1000000000137005,1000000000137013,1000000000119000,1000000000122000,1000000000122001,1000000000125000,1000000000125001,1000000000125002,1000000000146001,1000000000154000,90258,90259,90260,90261,90262,90272,90273,90274])]
abbrev aeS:aa (Nat×Rm):=[(6,.aB Df),(7,.aB [.own 1000000000110000,.own 1000000000110001,.own 1000000000110002]),(90100,.sl .Cell 4),(90101,.sl .int 2),(90102,.sl .int 2),(1000000000110000,.sl .Cell 4),(1000000000110001,.sl .int 4),(1000000000110002,.sl .int 4)]
abbrev pT:aa (Bool×TC):=[(false,(.sl .int))]
abbrev Dh:aa Lm:=[.aI .int 0,.int .i64,.bool]
abbrev mb:aa (Bool×TC):=[(false,.int)]
abbrev wW:bF:=⟨[(5,tI)],[],[]⟩
abbrev wX:bF:=⟨[(4,tI)],[],[]⟩
abbrev aeT:aa (Nat×Rm):=[(2,.aB Df),(3,.aB [.own 90200,.own 6,.own 10]),(90100,.sl .Cell 4),(90101,.sl .int 2),(90102,.sl .int 2),(90200,.sl .Cell 4),(6,.sl .int 2),(10,.sl .int 2)]
abbrev A3:aa (Bool×TC):=[(false,.int),(false,.int)]
abbrev yZ:aa Lm:=[.int .i64,.int .i64,.int .i64,.int .i64,.int .i64,.aI .int 0,.int .i64,.int .i64]
abbrev mc:bF:=⟨[(4,tB)],[],[]⟩
abbrev qO:bF:=⟨[(2,tB)],[],[]⟩
abbrev aeU:aa (Nat×Rm):=[(1,.aB eK),(2,.aB Df),(3,.aB [.own 90200,.own 90201,.own 90202]),(90100,.sl .Cell 4),(90101,.sl .int 2),(90102,.sl .int 2),(90200,.sl .Cell 4),(90201,.sl .int 2),(90202,.sl .int 2)]
abbrev aeV:aa Gp:=[(20000,.cK,4,[60033,60041,60046,60048,60049,60050,60051,60052,60054,60055,60058,60059,1000000000141000,60061,60062,60072,60073,60074])]
abbrev Ya:aa (Nat×Rm):=[(1000000000112000,.sl .iD 2)]
abbrev aeW:bF:=⟨[(1,tI),(2,tI),(8,.lf (.own 1000000000112000)),(30,.lf (.own 1000000000112000)),(31,tI),(32,tI)],Ya,[]⟩
abbrev aeX:bF:=⟨[(4,.aE 4 0),(6,.aE 6 0)],[(4,.aB FR),(6,.aB [.int .i64,.own 90201]),(90101,.sl .int 2),(90201,.sl .int 2)],[]⟩
abbrev aeY:aa (Nat×Rm):=[(2,.aB Dh),(4,.aB [.own 90100,.int .i64,.bool]),(5,.aB [.own 1000000000108000,.int .i64,.bool]),(90100,.sl .int 2),(1000000000108000,.sl .int 2)]
abbrev FU:aa (Bool×TC):=[(false,(.sl .int)),(false,.int)]
abbrev FV:aa Lm:=[.int .i64,.int .i64,.int .i64,.bool,.int .i64,.int .i64]
abbrev aeZ:bF:=⟨[(0,tI),(1,.lf (.aI .dx 0)),(5,.aE 5 0),(8,tI)],[(5,.aB FV)],[]⟩
abbrev ae0:aa (Nat×Rm):=[(18,.sl .int 2),(99004,.sl .int 2),(66,.sl .int 2)]
abbrev ae1:bF:=⟨[(3,.lf (.own 18)),(4,.lf (.own 99004)),(8,.lf (.own 66)),(9,tI)],ae0,[]⟩
abbrev Yb:aa Lm:=[.own 90100,.own 90101]
abbrev ae2:aa (Nat×Rm):=[(2,.aB Yb),(3,.aB [.own 13,.own 90201]),(90100,.sl .int 2),(90101,.sl .int 2),(13,.sl .int 2),(90201,.sl .int 2)]
abbrev FW:aa (Bool×TC×Nat):=[(true,.pq,2),(false,.bool,0)]
abbrev Di:aa Lm:=[.aI .int 0,.aI .int 0]
abbrev ae3:bF:=⟨[(5,.aE 5 0),(6,.aE 6 0),(7,.aE 7 0),(9,tI)],[(5,.st .ko),(6,.aB Di),(7,.aB eK)],[]⟩
abbrev Dj:aa Lm:=[.aI .kK 0,.int .i64]
abbrev Yc:aa (Nat×Rm):=[(3,.aB Dj),(1000000000115000,.sl .int 2)]
abbrev tX:aa (Bool×TC):=[(true,.gd)]
abbrev J5:aa (Bool×TC×Nat):=[(true,.cK,4),(false,.bool,0)]
abbrev ae4:aa Gp:=[(4,.cK,4,FQ),(7,.cK,4,[1000000000133005,1000000000133013,1000000000120000,1000000000122000,1000000000122001,1000000000124000,1000000000124001,1000000000124002,1000000000141001,1000000000150000,90258,90259,90260,90261,1000000000157000,90272,90273,90274])]
abbrev Yd:bF:=⟨[(1,tI),(2,.aE 2 0),(4,.aE 4 0),(6,.aE 6 0),(7,tI)],zz6,[]⟩
abbrev Ye:aa (Nat×Rm):=[(1,.aB [.aI .int 0,.aI .int 0,.int .i64])]
abbrev FX:aa Lm:=[.int .i64,.aI .int 0]
abbrev ae5:bF:=⟨[(2,.aE 99002 0),(3,.aE 99003 0),(7,tI),(8,tI)],[(99002,.aB eK),(99003,.aB FX)],[]⟩
abbrev J6:aa Lm:=[.int .i64,.int .i64,.int .i64]
abbrev Qn:aa Lm:=[.aI .Cell 0,.aI .int 0,.aI .int 0]
abbrev Qo:aa (Bool×TC):=[(false,(.sl .hD)),(false,(.sl .bool))]
abbrev ae6:aa Lm:=[.int .i64,.int .i64,.int .i64,.int .i64,.int .i64,.own 1000000000115005,.int .i64,.int .i64]
abbrev Yf:bF:=⟨[(0,tI),(1,tI),(5,tI),(6,tI)],[],[]⟩
abbrev ae7:bF:=⟨[(0,.lf (.aI .int 0)),(3,.lf (.own 10)),(12,tI),(13,tI)],[(10,.sl .int 2)],[]⟩
abbrev ae8:bF:=⟨[(1,.aE 1 0),(2,.aE 2 0),(4,.lf (.own 1000000000117000)),(5,.aE 5 0)],X9,[]⟩
abbrev Qp:aa (Nat×Rm):=[(6,.sl .int 2)]
abbrev Yg:bF:=⟨[(3,.lf (.own 6))],Qp,[]⟩
abbrev ae9:aa (Nat×Rm):=[(3,.st .cK),(6,.aB eK),(8,.aB yZ),(81,.sl .bool 2),(142,.sl .Command 2),(146,.sl .bool 2)]
abbrev wY:aa (Bool×TC):=[(true,.cK)]
abbrev J7:aa (Bool×TC):=[(true,.gd),(false,.int)]
abbrev J8:aa PK:=[.p .cK 4 0,.v false .int]
abbrev afa:bF:=⟨[(0,.lf (.aI .int 0)),(3,.lf (.own 12)),(4,tI)],[(12,.sl .int 2)],[]⟩
abbrev Qq:aa (Bool×TC):=[(false,(.sl .dx)),(false,.int)]
abbrev Yh:bF:=⟨[(3,.lf (.own 5))],[(5,.sl .int 2)],[]⟩
abbrev afb:bF:=⟨[(0,tI),(1,.lf (.aI .dx 0)),(9,.lf (.aI .dx 0)),(10,tI),(11,tI)],[],[]⟩
abbrev afc:aa Lm:=[.int .i64,.int .i64,.int .i64,.int .i64,.int .i64,.own 90105,.int .i64,.int .i64]
abbrev J9:bF:=⟨[(6,tI)],[],[]⟩
abbrev afd:bF:=⟨[(0,.lf (.aI .iD 0)),(7,.lf (.aI .iD 0)),(8,tI),(9,tI)],[],[]⟩
abbrev afe:bF:=⟨[(0,.lf (.aI .hD 0)),(1,.lf (.aI .bool 0)),(5,tI),(6,tI)],[],[]⟩
abbrev Yi:aa (Bool×TC):=[(false,(.sl .iD)),(false,.int),(false,.int)]
abbrev aff:aa (Nat×Tm):=[(2,.aE 20000 50),(12,tI),(75,.lf (.own 1000000000175000)),(76,tI),(77,tI)]
abbrev FY:bF:=⟨[],[],lJ⟩
abbrev afg:aa (Bool×TC):=[(false,(.sl .dx)),(false,(.sl .bool)),(false,(.sl .bool)),(false,.int),(false,.int)]
abbrev Yj:aa (Nat×Rm):=[(98000,.sl .Addr 1000002)]
abbrev afh:bF:=⟨[(0,.lf (.own 98000)),(5,tI)],Yj,[]⟩
abbrev Yk:aa (Nat×Rm):=[(1,.st .cK),(3,.aB eK)]
abbrev afi:aa (Nat×Rm):=[(2,.aB eK),(1000000000116000,.sl .Addr 2),(19,.sl .bool 2),(20,.sl .bool 2)]
abbrev afj:bF:=⟨[(1,.lf (.aI .bool 0)),(6,.lf (.own 9))],[(9,.sl .hD 2)],[]⟩
abbrev afk:bF:=⟨[(1,tI),(2,tI),(8,.lf (.own 1000000000112000))],Ya,[]⟩
abbrev Yl:aa PK:=[.p .cK 4 0,.v false .int,.v false .int]
abbrev A4:aa PK:=[.p .tA 0 0]
abbrev Qr:aa (Bool×TC):=[(true,.Config),(true,.nP)]
abbrev Qs:aa (Bool×TC):=[(true,.gd),(true,.qj)]
abbrev Qt:aa (Bool×TC):=[(true,.gd),(true,.Addr)]
abbrev afl:aa PK:=[.v true .gd,.v true .tw,.p .cK 4 50,.v false .int,.v false .int]
abbrev afm:aa (Nat×Rm):=[(11,.sl .Command 2),(1000000000113000,.sl .Addr 2),(14,.sl .bool 2)]
abbrev afn:bF:=⟨[(0,.lf (.aI .int 0)),(1,tI),(5,tI)],[],[]⟩
abbrev afo:bF:=⟨[(0,.lf (.aI .dx 0)),(1,tI),(5,tI)],[],[]⟩
abbrev Ym:aa (Bool×TC):=[(false,(.sl .Addr)),(true,.Addr)]
abbrev afp:aa (Nat×Rm):=[(3,.st .cK),(6,.aB eK),(8,.aB yZ),(38,.sl .bool 2)]
abbrev afq:aa (Nat×Rm):=[(4,.st .cK),(7,.aB eK),(8,.aB eK),(16,.sl .bool 2)]
abbrev afr:bF:=⟨[(2,.aE 2 0),(3,tI)],[(2,.aB eK)],[]⟩
abbrev afs:aa (Nat×Rm):=[(4,.aB eK),(5,.st .ko),(6,.aB Di),(7,.aB eK)]
abbrev Yn:aa Lm:=[.int .i64,.own 1000000000114001]
abbrev aft:bF:=⟨[(6,.lf (.own 1000000000112000)),(7,tB)],Ya,[]⟩
abbrev asG:aa (Nat×Tm):=[(0,.aE 20000 0),(1,tI),(4,tI)]
abbrev Qu:aa Gp:=[(2,.cK,4,FQ)]
abbrev afu:aa Lm:=[.own 1000000000109000,.own 1000000000109001]
abbrev afv:bF:=⟨[(0,.lf (.aI .int 0)),(1,tI)],[],[]⟩
abbrev Yo:aa PK:=[.p .cK 4 50,.v false .int]
abbrev FZ:aa (Bool×TC):=[(true,.nP)]
abbrev F0:aa (Bool×TC):=[(true,.ld)]
abbrev afw:bF:=⟨[(1,.aE 1 0),(3,.aE 3 0)],Yk,[]⟩
abbrev Yp:aa (Bool×TC×Nat):=[(true,.Addr,0),(false,.bool,0)]
abbrev Yq:aa PK:=[.p .tA 0 0,.v false .int]
abbrev Yr:aa (Nat×Tm):=[(2,.aE 2 0),(3,.aE 3 0)]
abbrev afx:aa (Bool×TC):=[(true,.ko),(false,.int),(false,.int),(false,.bool)]
abbrev afy:aa (Bool×TC):=[(true,.gd),(true,.ko),(true,.Command),(true,.Command)]
abbrev afz:aa (Bool×TC):=[(true,.gd),(true,.ko),(true,.oA),(true,.Command)]
abbrev afA:bF:=⟨[(1,.aE 1 0)],[(1,.st .ko)],[]⟩
abbrev afB:bF:=⟨[(3,.aE 3 0)],[(3,.aB Di)],[]⟩
abbrev afC:bF:=⟨[(1,.aE 1 0)],[(1,.aB Dh)],[]⟩
abbrev Ys:aa Lm:=[.own 90100,.int .i64]
abbrev afD:aa (Nat×Tm):=[(1,.aE 1 0),(2,.aE 2 0),(3,.aE 3 0),(4,tI)]
abbrev Yt:aa (Bool×TC):=[(true,.ld),(false,.int)]
abbrev Yu:aa (Bool×TC):=[(true,.gd),(true,.Command)]
abbrev afE:bF:=⟨[(1,.aE 1 0),(3,tI)],Ye,[]⟩
abbrev Ka:aa (Bool×TC×Nat):=[(true,.oA,2)]
abbrev Kb:aa (Bool×TC×Nat):=[(true,.Command,0)]
abbrev afF:bF:=⟨[(0,.lf (.aI .hD 0))],[],[]⟩
abbrev afG:aa (Bool×TC):=[(false,.int),(false,(.sl .dx)),(true,.dx)]
abbrev afH:aa (Bool×TC):=[(true,.ji),(false,.int),(false,(.sl .Addr))]
abbrev afI:aa (Bool×TC):=[(true,.Config),(true,.nP),(false,(.sl .Act))]
abbrev Yv:aa Lm:=[.int .i64,.own 15]
abbrev afJ:aa PK:=[.p .cK 4 0,.v true .Command,.v false .int]
abbrev Kc:aa (Bool×TC):=[(true,.ko)]
abbrev afK:aa Lm:=[.int .i64,.own 1000000000136001]
abbrev afL:aa Lm:=[.int .i64,.own 1000000000138001]
abbrev afM:aa Lm:=[.own 1000000000116000,.int .i64]
abbrev Qv:aa (Nat×Rm):=[(7,.sl .Command 2)]
abbrev afN:bF:=⟨[(0,tI),(3,tI)],[],[]⟩
abbrev Yw:bF:=⟨[],[],Qm⟩
abbrev afO:aa Lm:=[.aI .u8 0,.int .i64,.int .i64]
abbrev afP:aa (Nat×Tm):=[(1,.aE 1 0),(2,.aE 2 0),(3,.aE 3 0)]
abbrev afQ:aa (Nat×Tm):=[(1,.aE 1 0),(3,.lf (.own 5)),(4,tI)]
def Yx(C:aa Int):ah (Bool):=some ((C.length:Int) > 1048576)
def asH:=bB [(false,(.sl .u8))] cy (bN Yx) 6 [] func4
abbrev afR:=((af×Int×Int×af)×((aa Int)×af))
def Kd(x:afR):ah (afR⊕(((af×Int×af)×((aa Int)×af))⊕Empty)):=letI C:=x.1.2.2.1;letI D:=az (((),x.1.2.1,()),(x.2.1,()));bif C<(x.2.1.length:Int)then bif C<4000 then xI x.2.1 C λE=>xG (((),(bits .and .i64 (W6 ((W6 ((W6 (x.1.2.1*131))+(W6 E)))+7)) 1073741823),(W6 (C+1)),()),(x.2.1,()))else D else D
def afS:KY 32 (bf f15):=⟨0,lB 0 ⟨[(0,.lf (.own 20000)),(3,tI),(4,tI)],[(20000,.sl .u8 0)],[]⟩ [(2,⟨[(0,.lf (.own 20000)),(3,tI)],[(20000,.sl .u8 0)],[]⟩)] Kd,lp []⟩
def Dk(C:aa Int):ah Int:=bw Kd (((),(W6 (97301+(C.length:Int))),0,()),(C,())) λD=>some D.1.2.1
def afT:enters Tryz.prog 15/\Pe Tryz.prog 15 Dk:=ar6 (N:=32) (fn:=f15) (code:=bf f15) (Φ:=(n8 [])) (Λ:=(lI [(0,afS.b)])) func15 (by kernel_rfl) (by kernel_rfl) (by kernel_rfl) (by kernel_rfl) (by kernel_rfl) (wV _ trivial) (X5 (by kernel_rfl) _ ⟨⟨_,by kernel_rfl,afS.ok⟩,trivial⟩) (λl=>by kernel_rfl)
def A5(C:bO):ah ((Int)×(bO×af)):=letI D:=W6 ((W6 (C.h*6364136223846793005))+1442695040888963407);letI E:=bits .and .i64 (bits .xor .i64 (D.fdiv (2 ^ (min (33:Int).toNat IntKind.i64.bits))) (D.fdiv (2 ^ (min (45:Int).toNat IntKind.i64.bits)))) 255;bif C.i<(C.b.length:Int)then xI C.b C.i λI=>some ((bits .and .i64 (W6 (E+(W6 I))) 255),((⟨C.b,(W6 (C.i+1)),D⟩:bO),()))else some (E,((⟨C.b,C.i,D⟩:bO),()))
def asJ:=kQ A4 dS (bN A5) 58 [] func49
def fI(C:bO)(D:Int):ah ((Int)×(bO×af)):=bif D <= 0 then some (0,(C,()))else bif D <= 256 then (A5 C).bind λE=>if D=0 then none else some ((E.1.tmod D),((⟨C.b,E.2.1.i,E.2.1.h⟩:bO),()))else (A5 C).bind λI=>(A5 (⟨C.b,I.2.1.i,I.2.1.h⟩:bO)).bind λO=>(A5 (⟨C.b,O.2.1.i,O.2.1.h⟩:bO)).bind λU=>(A5 (⟨C.b,U.2.1.i,U.2.1.h⟩:bO)).bind λY=>if D=0 then none else some (((W6 ((W6 ((W6 ((W6 (I.1*16777216))+(W6 (O.1*65536))))+(W6 (U.1*256))))+Y.1)).tmod D),((⟨C.b,Y.2.1.i,Y.2.1.h⟩:bO),()))
def rM:=kQ Yq dS (bR fI) 37 [asJ] func18
def Qx(C:bO):ah ((aG)×(bO×af)):=(fI C 2).bind λD=>(fI (⟨C.b,D.2.1.i,D.2.1.h⟩:bO) 3).bind λE=>(fI (⟨C.b,E.2.1.i,E.2.1.h⟩:bO) 2).bind λI=>some ((⟨1,(W6 (1+D.1)),(W6 (2+E.1)),(W6 (1+I.1))⟩:aG),((⟨C.b,I.2.1.i,I.2.1.h⟩:bO),()))
def asK:=kQ A4 [(true,.gd,0)] (bN Qx) 13 [rM] func44
def afU  : ah (cg):=some (⟨3,3,7,2,3,10,2,3,3,6,4,5,4,12,3,4,16⟩:cg)
def asM:=bB [] [(true,.ko,0)] (xU0 afU) 2 [] func45
def Dl(D:bO)(E:Int):ah ((Bool)×(bO×af)):=(fI D E).bind λC=>some ((C.1==0),((⟨D.b,C.2.1.i,C.2.1.h⟩:bO),()))
def Qy:=kQ Yq cy (bR Dl) 9 [rM] func47
def Qz(C:bO):ah ((oz)×(bO×af)):=(fI C 3).bind λD=>(Dl (⟨C.b,D.2.1.i,D.2.1.h⟩:bO) 2).bind λE=>some ((⟨D.1,E.1⟩:oz),((⟨C.b,E.2.1.i,E.2.1.h⟩:bO),()))
def asN:=kQ A4 [(true,.tv,0)] (bN Qz) 8 [rM,Qy] func46
def Ke(D:bO):ah ((dP)×(bO×af)):=(Qx D).bind λE=>(afU).bind λC=>(Qz (⟨D.b,E.2.1.i,E.2.1.h⟩:bO)).bind λI=>(fI (⟨D.b,I.2.1.i,I.2.1.h⟩:bO) 60).bind λy4=>letI O:=W6 (200+y4.1);(fI (⟨D.b,y4.2.1.i,y4.2.1.h⟩:bO) 3).bind λU=>(fI (⟨D.b,U.2.1.i,U.2.1.h⟩:bO) 2).bind λY=>(fI (⟨D.b,Y.2.1.i,Y.2.1.h⟩:bO) 3).bind λy7=>(Dl (⟨D.b,y7.2.1.i,y7.2.1.h⟩:bO) 3).bind λy8=>letI u1:=(⟨D.b,y8.2.1.i,y8.2.1.h⟩:bO);bif y8.1 then (fI u1 5).bind λy9=>(fI (⟨D.b,y9.2.1.i,y9.2.1.h⟩:bO) 4).bind λgH=>some ((⟨⟨(W6 (1+Y.1)),E.1.aA,(W6 (4+U.1)),E.1.aK⟩,⟨C.lX,C.rp,C.iC,C.o6,C.lY,C.jJ,C.o7,C.o8,(W6 (1+gH.1)),(W6 (4+y9.1)),C.o9,C.pg,C.su,C.pn,C.qi,C.xp,C.xs⟩,I.1,y7.1,O,16,⟨(W6 (6*O)),40⟩⟩:dP),((⟨D.b,gH.2.1.i,gH.2.1.h⟩:bO),()))else some ((⟨⟨(W6 (1+Y.1)),E.1.aA,(W6 (4+U.1)),E.1.aK⟩,C,I.1,y7.1,O,16,⟨(W6 (6*O)),40⟩⟩:dP),(u1,()))
def afV:=kQ A4 [(true,.Config,0)] (bN Ke) 44 [rM,asK,asM,asN,Qy] func16
def afW  : ah (dz):=some (⟨0,60,8,2,6,([1,1,1,1]:aa Int),⟨20,400⟩⟩:dz)
def asO:=bB [] [(true,.nP,2)] (xU0 afW) 4 [] func114
def A6(D:bO)(E:aa Int):ah ((Int)×(bO×af)):=(fI D (E.length:Int)).bind λC=>xI E C.1 λI=>some (I,((⟨D.b,C.2.1.i,C.2.1.h⟩:bO),()))
def Yy:=kQ [.p .tA 0 0,.v false (.sl .int)] dS (bR A6) 12 [rM] func115
def QA(C:bO):ah ((dz)×(bO×af)):=(afW).bind λy1=>(fI C 2).bind λI=>(A6 (⟨C.b,I.2.1.i,I.2.1.h⟩:bO) ([0,10,60,200]:aa Int)).bind λO=>(fI (⟨C.b,O.2.1.i,O.2.1.h⟩:bO) 6).bind λU=>(fI (⟨C.b,U.2.1.i,U.2.1.h⟩:bO) 3).bind λD=>(fI (⟨C.b,D.2.1.i,D.2.1.h⟩:bO) 4).bind λY=>(fI (⟨C.b,Y.2.1.i,Y.2.1.h⟩:bO) 4).bind λE=>(fI (⟨C.b,E.2.1.i,E.2.1.h⟩:bO) 4).bind λy8=>xL y1.weights E.1 λrN=>(fI (⟨C.b,y8.2.1.i,y8.2.1.h⟩:bO) 20).bind λgC=>(fI (⟨C.b,gC.2.1.i,gC.2.1.h⟩:bO) 60).bind λgU=>some ((⟨I.1,O.1,(W6 (3+U.1)),D.1,(W6 ((W6 (D.1+1))+Y.1)),(y1.weights.set E.1.toNat (W6 (1+y8.1))),⟨(W6 (5+gC.1)),(W6 (60+gU.1))⟩⟩:dz),((⟨C.b,gU.2.1.i,gU.2.1.h⟩:bO),()))
def asP:=kQ A4 [(true,.nP,2)] (bN QA) 43 [rM,asO,Yy] func48
def Kf(D:bO):ah ((dz)×(bO×af)):=(QA D).bind λC=>(fI (⟨D.b,C.2.1.i,C.2.1.h⟩:bO) 10).bind λE=>some ((⟨C.1.eG,C.1.cap,(W6 (8+E.1)),C.1.low,C.1.high,C.1.weights,C.1.de⟩:dz),((⟨D.b,E.2.1.i,E.2.1.h⟩:bO),()))
def afX:=kQ A4 [(true,.nP,2)] (bN Kf) 11 [rM,asP] func17
def cO(C D E:Int):ah (Bool):=bif C >= D then some (C <= E)else some false
def fQ:=bB [(false,.int),(false,.int),(false,.int)] cy (fP cO) 15 [] func34
def za(C:aG):ah (Bool):=(cO C.bK 1 2).bind λD=>bif D then (cO C.aA 1 4).bind λE=>bif E then (cO C.rows 2 16).bind λI=>bif I then (cO C.aK 1 8).bind λO=>some O else some false else some false else some false
def F1:=bB tX cy (bN za) 21 [fQ] func32
def n9(C:aG):ah (Int):=(za C).bind λD=>bif (!D)then some 0 else some (W6 (C.bK*C.aA))
def nu:=bB tX dS (bN n9) 11 [F1] func24
def tY(C:aG):ah (Int):=(za C).bind λD=>bif (!D)then some 0 else (n9 C).bind λE=>some (W6 ((W6 (E*C.rows))*C.aK))
def F2:=bB tX dS (bN tY) 14 [nu,F1] func9
def QB(C:bO)(D:aG):ah ((aM)×(bO×af)):=(n9 D).bind λU=>(fI C U).bind λE=>(fI (⟨C.b,E.2.1.i,E.2.1.h⟩:bO) D.rows).bind λI=>(fI (⟨C.b,I.2.1.i,I.2.1.h⟩:bO) D.aK).bind λO=>some ((⟨E.1,I.1,O.1⟩:aM),((⟨C.b,O.2.1.i,O.2.1.h⟩:bO),()))
def asQ:=kQ [.p .tA 0 0,.v true .gd] [(true,.Addr,0)] (bR QB) 18 [rM,nu] func116
def QC(C:bO):ah ((Int)×(bO×af)):=(fI C 4).bind λD=>letI E:=(⟨C.b,D.2.1.i,D.2.1.h⟩:bO);bif (D.1==0)then (A6 E ([0,1,4294967295,2147483648,65536,305419896]:aa Int)).bind λI=>some (I.1,((⟨C.b,I.2.1.i,I.2.1.h⟩:bO),()))else bif (D.1==1)then (fI E 200).bind λO=>some (O.1,((⟨C.b,O.2.1.i,O.2.1.h⟩:bO),()))else (fI E 65536).bind λU=>(fI (⟨C.b,U.2.1.i,U.2.1.h⟩:bO) 65536).bind λY=>some ((W6 ((W6 (U.1*65536))+Y.1)),((⟨C.b,Y.2.1.i,Y.2.1.h⟩:bO),()))
def asR:=kQ A4 dS (bN QC) 20 [rM,Yy] func182
def QD(C:bO)(x1:Int):ah ((aN)×(bO×af)):=(fI C 60).bind λD=>(fI (⟨C.b,D.2.1.i,D.2.1.h⟩:bO) 3).bind λE=>(fI (⟨C.b,E.2.1.i,E.2.1.h⟩:bO) x1).bind λI=>(fI (⟨C.b,I.2.1.i,I.2.1.h⟩:bO) 50).bind λO=>(Dl (⟨C.b,O.2.1.i,O.2.1.h⟩:bO) 2).bind λU=>letI u0:=(⟨C.b,U.2.1.i,U.2.1.h⟩:bO);bif U.1 then (QC u0).bind λY=>some ((⟨(W6 (1+D.1)),E.1,I.1,true,Y.1,O.1⟩:aN),((⟨C.b,Y.2.1.i,Y.2.1.h⟩:bO),()))else some ((⟨(W6 (1+D.1)),E.1,I.1,false,0,O.1⟩:aN),(u0,()))
def asT:=kQ Yq [(true,.dx,0)] (bR QD) 24 [rM,Qy,asR] func117
def QE(C:bO)(E:dP)(x2:Int):ah ((fV)×(bO×af)):=letI u3:=W6 (E.au.rows-E.bL);(tY E.au).bind λy1=>if E.au.rows=0 then none else (let Y:Int -> Int -> Int -> Int -> Bool -> Int -> Int -> Int -> Int -> Int -> Int -> Int -> Int -> Int -> ah ((fV)×(bO×af)):=λDm j19 Dn F3 j22 j23 j24 j25 j26 Yz QF QG F4 j31=>some ((⟨Dm,⟨j19,Dn,F3,j22,j23,j24⟩,j25,j26,⟨Yz,QF,QG⟩,⟨0,0,0,0,0,[],⟨0,0⟩⟩⟩:fV),((⟨C.b,F4,j31⟩:bO),()));(fI C 12).bind λI=>letI u0:=(⟨C.b,I.2.1.i,I.2.1.h⟩:bO);(let vm:Bool -> ah ((fV)×(bO×af)):=λj3=>bif j3 then (A6 u0 ([1,3,10,20,40]:aa Int)).bind λy4=>(Y 2 0 0 0 false 0 0 y4.1 0 0 0 0 y4.2.1.i y4.2.1.h)else bif (I.1==2)then (QB u0 E.au).bind λO=>(fI (⟨C.b,O.2.1.i,O.2.1.h⟩:bO) 11).bind λy6=>(fI (⟨C.b,y6.2.1.i,y6.2.1.h⟩:bO) 16).bind λy7=>(Y 3 0 0 0 false 0 0 y7.1 y6.1 O.1.ay O.1.row O.1.bV y7.2.1.i y7.2.1.h)else bif (I.1==3)then (A6 u0 ([4,5,6,2]:aa Int)).bind λy8=>(fI (⟨C.b,y8.2.1.i,y8.2.1.h⟩:bO) 2).bind λy9=>(n9 E.au).bind λgH=>(fI (⟨C.b,y9.2.1.i,y9.2.1.h⟩:bO) gH).bind λfR=>(fI (⟨C.b,fR.2.1.i,fR.2.1.h⟩:bO) u3).bind λgC=>(Kf (⟨C.b,gC.2.1.i,gC.2.1.h⟩:bO)).bind λgU=>some ((⟨y8.1,⟨0,0,0,false,0,0⟩,y9.1,0,⟨fR.1,gC.1,0⟩,gU.1⟩:fV),((⟨C.b,gU.2.1.i,gU.2.1.h⟩:bO),()))else (QD u0 (W6 ((W6 (y1.tdiv E.au.rows))*u3))).bind λiH=>letI D:=iH.1;(Dl (⟨C.b,iH.2.1.i,iH.2.1.h⟩:bO) 2).bind λU=>letI u1:=Y 1 x2 D.dM D.line D.write D.data D.at_ 0 0 0 0 0 U.2.1.i U.2.1.h;bif U.1 then (fI (⟨C.b,U.2.1.i,U.2.1.h⟩:bO) 3).bind λny=>(Y 1 x2 D.dM ny.1 D.write D.data D.at_ 0 0 0 0 0 ny.2.1.i ny.2.1.h)else u1;bif (I.1==0)then (vm (I.1==0))else (vm (I.1==1))))
def asU:=kQ [.p .tA 0 0,.v true .Config,.v false .int] [(true,.Act,2)] (fP QE) 87 [F2,afX,rM,nu,Qy,Yy,asQ,asT] func50
def asW:enters Tryz.prog 51/\pN Tryz.prog 51 (cj Tryz.prog f51 1 []):=Db (A1 1 [] func51 trivial)
def QH(E:bO):ah ((fV)×(bO×af)):=(Ke E).bind λO=>(fI (⟨E.b,O.2.1.i,O.2.1.h⟩:bO) 40).bind λU=>(QE (⟨E.b,U.2.1.i,U.2.1.h⟩:bO) O.1 (W6 (1+U.1))).bind λY=>letI C:=Y.1;letI u3:=([C.fo.eG,C.fo.cap,C.fo.eC,C.fo.low,C.fo.high]:aa Int);letI I:=((⟨E.b,Y.2.1.i,Y.2.1.h⟩:bO),());(let D:Int -> Int -> Int -> Int -> Bool -> Int -> Int -> Int -> Int -> Int -> Int -> ah ((fV)×(bO×af)):=λj7 j8 j9 wZ F5 vn w5 w7 zb A7 QI=>bif xZ ([]:aa Int)then bif (j7 != 5)then some ((⟨j7,⟨j8,j9,wZ,F5,vn,0⟩,w5,w7,⟨zb,A7,QI⟩,⟨0,0,0,0,0,[],⟨0,0⟩⟩⟩:fV),I)else some ((⟨j7,⟨j8,j9,wZ,F5,vn,0⟩,w5,w7,⟨zb,A7,QI⟩,⟨0,0,0,0,0,(xA ([]:aa Int)),⟨0,0⟩⟩⟩:fV),I)else none;letI u8:=D 0 0 0 0 false 0 0 0 0 0 0;letI u6:=D C.kind 0 0 0 false 0 0 0 C.addr.ay C.addr.row 0;letI u4:=D C.kind 0 0 0 false 0 C.n C.v8 C.addr.ay C.addr.row C.addr.bV;letI u2:=D C.kind 0 0 0 false 0 C.n 0 0 0 0;bif (C.kind==1)then (let k6:ByteArray -> Int -> ah ((fV)×(bO×af)):=λj4 j5=>(D C.kind C.request.id C.request.dM C.request.line C.request.write j5 0 0 0 0 0);letI u7:=k6 (ByteArray.mk #[114,101,97,100]) 0;letI u5:=k6 (ByteArray.mk #[119,114,105,116,101]) C.request.data;bif (!C.request.write)then u7 else u5)else bif (C.kind==2)then u2 else bif (C.kind==4)then u2 else bif (C.kind==3)then u4 else bif (C.kind==6)then u6 else bif (C.kind==5)then bif bE (u3.length+C.fo.weights.length)then bif bE ((u3++C.fo.weights).length+([C.fo.de.down,C.fo.de.sleep]:aa Int).length)then bif xZ C.fo.weights then bif (C.kind != 5)then some ((⟨C.kind,⟨0,0,0,false,0,0⟩,0,0,⟨0,0,0⟩,⟨0,0,0,0,0,[],⟨0,0⟩⟩⟩:fV),I)else some ((⟨C.kind,⟨0,0,0,false,0,0⟩,0,0,⟨0,0,0⟩,⟨C.fo.eG,C.fo.cap,C.fo.eC,C.fo.low,C.fo.high,(xA C.fo.weights),C.fo.de⟩⟩:fV),I)else none else none else none else u8)
def asX:=kQ A4 [(true,.Act,2)] (bN QH) 33 [afV,rM,asU,⟨51,.i _,asW⟩] func19
def asY:bF:=⟨[(2,.aE 2 0),(3,.aE 3 0),(5,.aE 1000000000111000 0),(6,.aE 6 0),(7,.aE 7 0),(8,.lf (.own 16)),(9,tI)],[(2,.st .Config),(3,.aB afc),(1000000000111000,.aB afO),(6,.st .Config),(7,.aB ae6),(16,.sl .Act 4),(90105,.sl .int 2),(1000000000115005,.sl .int 2)],[]⟩
def asZ:aa (Nat×bF):=[(2,⟨[(2,.aE 2 0),(3,.aE 3 0),(6,.aE 6 0),(7,.aE 7 0),(8,.lf (.own 16))],[(2,.st .Config),(3,.aB afc),(6,.st .Config),(7,.aB ae6),(16,.sl .Act 4),(90105,.sl .int 2),(1000000000115005,.sl .int 2)],[]⟩)]
abbrev afY:=((af×af×af×af×af×af×Int×af)×(dP×(Int×Int×Int×Int×Int×af×Int×Int×af)×((aa Int)×Int×Int×af)×dP×(Int×Int×Int×Int×Int×af×Int×Int×af)×(aa fV)×(aa Int)×(aa Int)×af))
def Kg(x:afY):ah (afY⊕(((af×af×af×af×af×af)×(dP×(Int×Int×Int×Int×Int×af×Int×Int×af)×dP×(Int×Int×Int×Int×Int×af×Int×Int×af)×(aa fV)×(aa Int)×(aa Int)×af))⊕Empty)):=letI C:=x.2.2.2;letI D:=C.2.2.2;(fI (⟨C.1.1,C.1.2.1,C.1.2.2.1⟩:bO) 10).bind λI=>bif x.1.2.2.2.2.2.2.1<I.1 then (QH (⟨C.1.1,I.2.1.i,I.2.1.h⟩:bO)).bind λE=>bif bE (D.1.length+[E.1].length)then xG (((),(),(),(),(),(),(W6 (x.1.2.2.2.2.2.2.1+1)),()),(x.2.1,x.2.2.1,(C.1.1,E.2.1.i,E.2.1.h,()),C.2.1,C.2.2.1,(D.1++[E.1]),D.2.1,D.2.2.1,()))else none else az (((),(),(),(),(),()),(x.2.1,x.2.2.1,C.2.1,C.2.2.1,D.1,D.2.1,D.2.2.1,()))
def as0:KY 31 (bf f5):=⟨0,lB 0 asY asZ Kg,lp [rM,asX]⟩
def QJ(I:aa Int):ah (dP×dz×(aa fV)):=(Dk I).bind λY=>(Ke (⟨I,0,Y⟩:bO)).bind λO=>(Kf (⟨I,O.2.1.i,O.2.1.h⟩:bO)).bind λC=>bw Kg (((),(),(),(),(),(),0,()),((⟨⟨0,0,0,0⟩,⟨0,0,0,0,0,0,0,0,0,0,0,0,0,0,0,0,0⟩,⟨0,false⟩,0,0,0,⟨0,0⟩⟩:dP),(0,0,0,0,0,(),0,0,()),(I,C.2.1.i,C.2.1.h,()),O.1,(C.1.eG,C.1.cap,C.1.eC,C.1.low,C.1.high,(),C.1.de.down,C.1.de.sleep,()),([]:aa fV),([]:aa Int),C.1.weights,())) λU=>letI D:=U.2.2.2.2;letI E:=D.1.2.2;some (U.2.2.2.1,(⟨D.1.1,D.1.2.1,E.1,E.2.1,E.2.2.1,D.2.2.2.1,⟨E.2.2.2.2.1,E.2.2.2.2.2.1⟩⟩:dz),D.2.1)
def as1:=bZ [(false,(.sl .u8))] [(true,.Config,0),(true,.nP,2),(false,(.sl .Act),4)] (bN QJ) 31 [⟨15,.n Dk,afT⟩,afV,afX] [as0] func5
abbrev afZ:=((af×af×Int×af)×(((aa Int)×Int×Int×af)×(aa Int)×af))
def Kh(x:afZ):ah (afZ⊕(((af×af)×((aa Int)×af))⊕Empty)):=bif x.1.2.2.1<12 then (fI (⟨x.2.1.1,x.2.1.2.1,x.2.1.2.2.1⟩:bO) 10000).bind λC=>bif bE (x.2.2.1.length+([C.1]:aa Int).length)then xG (((),(),(W6 (x.1.2.2.1+1)),()),((x.2.1.1,C.2.1.i,C.2.1.h,()),(x.2.2.1++([C.1]:aa Int)),()))else none else az (((),()),(x.2.2.1,()))
def as2:KY 19 (bf f6):=⟨0,lB 0 ⟨[(3,.aE 1000000000107000 0),(4,.lf (.own 8)),(5,tI)],[(1000000000107000,.aB afO),(8,.sl .int 2)],[]⟩ [(2,⟨[(4,.lf (.own 8))],[(8,.sl .int 2)],[]⟩)] Kh,lp [rM]⟩
def QK(C:aa Int):ah ((aa Int)):=(Dk C).bind λD=>bw Kh (((),(),0,()),((C,0,D,()),([]:aa Int),())) λE=>some E.2.1
def as3:=bZ [(false,(.sl .u8))] mL (bN QK) 19 [⟨15,.n Dk,afT⟩] [as2] func6
abbrev af0:=((Int×af×af×af×Int×af)×((Int×Int×Int×Int×af)×(Int×af×af)×(Int×af×af)×(aa Int)×(aa Int)×af))
def Ki(x:af0):ah (af0⊕(((af×af×af)×((Int×af×af)×(Int×af×af)×(aa Int)×(aa Int)×af))⊕Empty)):=letI C:=x.2.2.2;letI D:=x.1.2.2.2.2.1;letI E:=W6 (x.2.1.2.2.1-x.1.1);letI I:=([(D.tmod E)]:aa Int);(n9 (⟨x.2.1.1,x.2.1.2.1,x.2.1.2.2.1,x.2.1.2.2.2.1⟩:aG)).bind λO=>bif D<(W6 (O*E))then if E=0 then none else bif bE (C.2.2.1.length+I.length)then xG ((x.1.1,(),(),(),(W6 (D+1)),()),(x.2.1,x.2.2.1,C.1,C.2.1,(C.2.2.1++I),()))else none else az (((),(),()),(x.2.2.1,C.1,C.2.1,C.2.2.1,()))
def as4:KY 49 (bf f26):=⟨0,lB 0 Yd [(2,aeX)] Ki,lp [nu]⟩
def F6(C:aG)(D:Int):ah (dw×Bool):=letI E:=some ((⟨0,[]⟩:dw),false);(za C).bind λO=>bif (!O)then E else (cO D 0 2).bind λU=>bif (!U)then E else bif (W6 (C.rows-D))<2 then E else bw Ki ((D,(),(),(),0,()),((C.bK,C.aA,C.rows,C.aK,()),(0,(),()),(D,(),()),([]:aa Int),([]:aa Int),())) λI=>some ((⟨I.2.2.1.1,I.2.2.2.2.1⟩:dw),true)
def YA:=bZ J7 [(true,.qj,2),(false,.bool,0)] (bR F6) 49 [F1,fQ] [as4] func26
def F7(C:oz):ah (Bool):=(cO C.order 0 2).bind λD=>some D
def af1:=bB [(true,.tv)] cy (bN F7) 6 [fQ] func33
def YB(C:cg):ah ((aa Int)):=some ([C.lX,C.rp,C.iC,C.o6,C.lY,C.jJ,C.o7,C.o8,C.kj,C.wr,C.o9,C.pg,C.su,C.pn,C.qi,C.xp,C.xs]:aa Int)
def as5:=bB Kc mL (bN YB) 38 [] func183
abbrev af2:=((af×af×Int×af)×(cg×(aa Int)×af))
def F8(x:af2):ah (af2⊕(((Bool×af)×(af))⊕(((af×af)×(cg×af))⊕Empty))):=bif x.1.2.2.1<(x.2.2.1.length:Int)then xL x.2.2.1 x.1.2.2.1 λC=>(cO C 1 64).bind λD=>bif (!D)then az ((false,()),())else xG (((),(),(W6 (x.1.2.2.1+1)),()),(x.2.1,x.2.2.1,()))else bx (((),()),(x.2.1,()))
def as6:KY 45 (bf f118):=⟨0,lB 0 ⟨[(1,.aE 1 0),(3,.lf (.own 1000000000106000)),(4,tI)],[(1,.st .ko),(1000000000106000,.sl .int 2)],[]⟩ [(1,qO),(2,afA)] F8,lp [fQ]⟩
def Dp(D:cg):ah (Bool):=(YB D).bind λE=>bU F8 (((),(),0,()),(D,E,())) (λI=>some I.1.1) λO=>letI C:=O.2.1;bif C.lX <= C.iC then bif C.o6 <= C.lY then bif C.o7 <= C.o8 then some (C.o9 <= C.pg)else some false else some false else some false
def QL:=bZ Kc cy (bN Dp) 45 [as5] [as6] func118
def Kj(C:cg):ah (Int):=(Dp C).bind λD=>bif (!D)then some 0 else some (W6 (2*(W6 ((W6 ((W6 ((W6 ((W6 ((W6 ((W6 ((W6 ((W6 (C.qi+C.xp))+C.iC))+C.wr))+C.kj))+C.rp))+C.pn))+C.lX))+(W6 (8*C.lY))))+16))))
def as7:=bB Kc dS (bN Kj) 35 [QL] func119
def QM(C:dP):ah (Bool):=(F6 C.au C.bL).bind λD=>bif (!D.2)then some false else (Dp C.bY).bind λE=>bif (!E)then some false else (F7 C.mapping).bind λI=>bif (!I)then some false else (Kj C.bY).bind λO=>(cO C.interval O 10000).bind λU=>bif (!U)then some false else (cO C.gO 1 16).bind λY=>bif Y then (cO C.dg.bu (W6 (6*C.interval)) 100000).bind λy7=>bif y7 then (cO C.dg.bq 0 100000).bind λy8=>some y8 else some false else some false
def as8:=bB [(true,.Config)] cy (bN QM) 54 [YA,af1,fQ,QL,as7] func52
abbrev af3:=(((aa cD)×Int×af)×(af))
def Kk(x:af3):ah (af3⊕(((Bool×af)×(af))⊕((((aa cD)×af)×(af))⊕Empty))):=letI C:=x.1.2.1;bif C<(x.1.1.length:Int)then xI x.1.1 C λD=>(cO D.weight 1 9).bind λE=>bif (!E)then az ((false,()),())else xI x.1.1 C λI=>xI x.1.1 C λO=>(cO I.fF 0 O.weight).bind λU=>bif (!U)then az ((false,()),())else xG ((x.1.1,(W6 (C+1)),()),())else bx ((x.1.1,()),())
def as9:KY 34 (bf f57):=⟨0,lB 0 ⟨[(0,.lf (.aI .hD 0)),(3,tI)],[],[]⟩ [(1,qO),(2,afF)] Kk,lp [fQ]⟩
def Kl(C:aa cD):ah (Bool):=bU Kk ((C,0,()),()) (λD=>some D.1.1) λE=>(cO (E.1.1.length:Int) 1 4).bind λI=>some I
def af4:=bZ [(false,(.sl .hD))] cy (bN Kl) 34 [fQ] [as9] func57
abbrev af5:=(((aa Int)×af×Int×af)×((aa cD)×af))
def Km(x:af5):ah (af5⊕(((af×af)×((aa cD)×af))⊕Empty)):=letI D:=az (((),()),(x.2.1,()));letI C:=x.1.2.2.1;bif C<(x.1.1.length:Int)then bif C <= 4 then xI x.1.1 C λI=>xI x.1.1 C λO=>letI E:=([(⟨I,O⟩:cD)]:aa cD);bif bE (x.2.1.length+E.length)then xG ((x.1.1,(),(W6 (C+1)),()),((x.2.1++E),()))else none else D else D
def ata:KY 34 (bf f29):=⟨0,lB 0 ⟨[(0,.lf (.aI .int 0)),(4,.lf (.own 6)),(5,tI)],[(6,.sl .hD 2)],[]⟩ [(2,⟨[(4,.lf (.own 6))],[(6,.sl .hD 2)],[]⟩)] Km,lp []⟩
def Dq(D:aa Int):ah ((aa cD)×Bool):=bw Km ((D,(),0,()),(([]:aa cD),())) λC=>(Kl C.2.1).bind λE=>bif (!E)then some (([]:aa cD),false)else some (C.2.1,true)
def YC:=bZ pT [(false,(.sl .hD),2),(false,.bool,0)] (bN Dq) 34 [af4] [ata] func29
def F9(C:jy):ah (Bool):=bif C.low >= 0 then bif C.high <= 12 then some (C.low<C.high)else some false else some false
def YD:=bB [(true,.qk)] cy (bN F9) 18 [] func120
def Kn(C:sv):ah (Bool):=(cO C.down 1 10000).bind λD=>bif D then bif C.sleep > C.down then some (C.sleep <= 20000)else some false else some false
def af6:=bB [(true,.uF)] cy (bN Kn) 18 [fQ] func121
def Ga(C:dz):ah (Bool):=(Dq C.weights).bind λD=>(cO C.eG 0 1).bind λE=>bif E then (cO C.cap 0 100000).bind λI=>bif I then (cO C.eC 3 1000).bind λO=>bif O then (F9 (⟨false,C.low,C.high⟩:jy)).bind λU=>bif U then bif D.2 then bif ((C.weights.length:Int)==4)then (Kn C.de).bind λY=>some Y else some false else some false else some false else some false else some false else some false
def YE:=bB FZ cy (bN Ga) 46 [YC,fQ,YD,af6] func53
def QN(C:Int):ah (Int):=(cO C 3 1000).bind λD=>bif (!D)then some 0 else some (W6 ((W6 (2*C))+2))
def atb:=bB mb dS (bN QN) 9 [fQ] func54
def Ds(C:dP)(D:dz):ah (Bool):=letI E:=W6 (C.bY.iC+C.bY.rp);(QM C).bind λI=>bif (!I)then some false else (Ga D).bind λO=>bif (!O)then some false else (QN D.eC).bind λU=>bif (W6 (U+2)) <= C.dg.bq then if E=0 then none else some ((W6 ((W6 (C.gO+1))*D.eC)) > (W6 ((W6 ((W6 (5*C.interval)).tdiv E))+2)))else some false
def af7:=bB Qr cy (bR Ds) 42 [as8,YE,atb] func20
def QO(D:aG):ah (bX):=(n9 D).bind λC=>if 0 <= C/\C <= C/\C<1073741824 then some (⟨(List.replicate C.toNat (⟨false,0⟩:di)),0⟩:bX)else none
def atc:=bB tX [(true,.ji,2)] (bN QO) 7 [nu] func21
abbrev af8:=((Int×af×Int×af)×((aa Int)×af))
def Ko(x:af8):ah (af8⊕(((af×af)×((aa Int)×af))⊕Empty)):=letI C:=x.1.2.2.1;bif C<x.1.1 then xL x.2.1 C λD=>xG ((x.1.1,(),(W6 (C+1)),()),((x.2.1.set C.toNat (-1:Int)),()))else az (((),()),(x.2.1,()))
def atd:KY 16 (bf f55):=⟨0,lB 0 ⟨[(0,tI),(3,.lf (.own 6)),(4,tI)],Qp,[]⟩ [(2,Yg)] Ko,lp []⟩
def Kp(C:Int):ah ((aa Int)):=if 0 <= C/\C <= C/\C<1073741824 then bw Ko ((C,(),0,()),((List.replicate C.toNat (0:Int)),())) λD=>some D.2.1 else none
def af9:=bZ mb mL (bN Kp) 16 [] [atd] func55
end Go.Proofs.YtdfkhfiglknaoaaGreat
