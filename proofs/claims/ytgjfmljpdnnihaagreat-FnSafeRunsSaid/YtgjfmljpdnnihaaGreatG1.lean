/-
  Functions of the program as plain functions of contents, and that the code computes them. Nothing here is a claim.
-/
import Derived.Test.YtgjfmljpdnnihaaGreatVZ
import Derived.Test.YtgjfmljpdnnihaaGreatRows
namespace Go.Proofs.YtgjfmljpdnnihaaGreat
set_option linter.defProp false
open Go.RowKit Go.Proofs.Tryz
set_option linter.unusedVariables false
set_option maxRecDepth 100000
abbrev KX:=KC Tryz.prog
abbrev KY:=BK Tryz.prog
abbrev gd:aa Lm:=[.int .i64,.int .i64,.int .i64,.int .i64]
abbrev ZI:aa (Nat×Rm):=[(1,.st .dG),(3,.ay [.int .i64,.int .i64,.int .i64,.int .i64,.int .i64,.int .i64,.int .i64,.int .i64,.int .i64,.int .i64,.int .i64,.int .i64,.int .i64,.int .i64,.int .i64,.int .i64,.int .i64,.int .i64,.int .i64,.int .i64,.int .i64,.int .i64,.bool,.int .i64,.int .i64,.int .i64,.int .i64,.int .i64,.int .i64,.int .i64,.int .i64,.int .i64,.int .i64,.own 1000000000109005,.int .i64,.int .i64,.int .i64,.int .i64,.int .i64,.int .i64,.int .i64,.own 1000000000109013,.int .i64,.int .i64,.bool,.int .i64,.own 1000000000113000,.int .i64,.own 1000000000117000,.own 1000000000117001,.own 1000000000121000,.own 1000000000121001,.own 1000000000121002,.int .i64,.own 1000000000126000,.own 1000000000131000,.int .i64,.bool,.own 33,.aG .int 0,.aG .Addr 0,.aG .eD 0,.aG .iI 0,.bool,.int .i64,.int .i64,.int .i64,.int .i64,.int .i64,.int .i64,.int .i64,.int .i64,.aG .iV 0,.aG .Event 0,.aG .ni 0]),(1000000000109005,.sl .int 2),(1000000000109013,.sl .int 2),(1000000000113000,.sl .jF 2),(1000000000117000,.sl .int 2),(1000000000117001,.sl .int 2),(1000000000121000,.sl .Cell 4),(1000000000121001,.sl .int 4),(1000000000121002,.sl .int 4),(1000000000126000,.sl .int 2),(1000000000131000,.sl .int 2),(33,.sl .mN 4)]
abbrev dy:aa (Bool×TC×Nat):=[(false,.bool,0)]
abbrev Lj:aa Nat:=[90133,90141,90146,90148,90149,90150,90151,90152,90154,90155,90158,90159,90160,90161,90162,90172,90173,90174]
abbrev ZJ:aa Gp:=[(4,.dG,4,Lj),(5,.dG,4,[1000000000108033,1000000000108041,1000000000108046,1000000000108048,1000000000108049,1000000000108050,1000000000108051,1000000000108052,1000000000108054,1000000000108055,1000000000108058,1000000000108059,1000000000108060,1000000000108061,1000000000108062,1000000000108072,1000000000108073,1000000000108074])]
abbrev ZK:aa Gp:=[(6,.dG,4,Lj),(8,.dG,4,[1000000000118033,1000000000118041,1000000000118046,1000000000118048,1000000000118049,1000000000118050,1000000000118051,1000000000118052,1000000000118054,1000000000118055,1000000000118058,1000000000118059,1000000000118060,1000000000118061,1000000000118062,1000000000118072,1000000000118073,1000000000118074])]
abbrev fV:aa (Bool×TC×Nat):=[(false,.int,0)]
abbrev zD:aa Gp:=[(20000,.dG,4,[60033,60041,60046,60048,60049,60050,60051,60052,60054,60055,60058,60059,60060,60061,60062,60072,60073,60074])]
abbrev Sr:bC:=⟨[],[],zD⟩
abbrev Lk:aa Lm:=[.own 90100,.own 90101,.own 90102]
abbrev ZL:aa (Nat×Rm):=[(6,.ay Lk),(7,.ay [.own 1000000000110000,.own 1000000000110001,.own 1000000000110002]),(90100,.sl .Cell 4),(90101,.sl .int 2),(90102,.sl .int 2),(1000000000110000,.sl .Cell 4),(1000000000110001,.sl .int 4),(1000000000110002,.sl .int 4)]
abbrev ZM:aa Gp:=[(20000,.dG,4,[102000033,102000041,102000046,102000048,102000049,102000050,102000051,102000052,102000054,102000055,102000058,102000059,102000060,102000061,102000062,102000072,102000073,102000074])]
abbrev ZN:aa (Nat×Rm):=[(2,.ay Lk),(3,.ay [.own 90200,.own 6,.own 10]),(90100,.sl .Cell 4),(90101,.sl .int 2),(90102,.sl .int 2),(90200,.sl .Cell 4),(6,.sl .int 2),(10,.sl .int 2)]
abbrev Ll:aa Lm:=[.aG .int 0,.int .i64,.bool]
abbrev ZO:aa (Nat×Rm):=[(2,.ay Ll),(4,.ay [.own 90100,.int .i64,.bool]),(5,.ay [.own 1000000000108000,.int .i64,.bool]),(90100,.sl .int 2),(1000000000108000,.sl .int 2)]
abbrev Ss:aa (Nat×Rm):=[(1000000000112000,.sl .iV 2)]
abbrev ZP:bC:=⟨[(1,tI),(2,tI),(8,.lf (.own 1000000000112000)),(30,.lf (.own 1000000000112000)),(31,tI),(32,tI)],Ss,[]⟩
abbrev Bw:aa Lm:=[.int .i64,.int .i64,.int .i64,.int .i64,.int .i64,.aG .int 0,.int .i64,.int .i64]
abbrev lJ:bC:=⟨[],[],[]⟩
abbrev Ln:aa Lm:=[.int .i64,.own 90101]
abbrev ZQ:aa (Nat×Rm):=[(2,.ay gd),(4,.ay Ln),(6,.ay [.int .i64,.own 90201]),(90101,.sl .int 2),(90201,.sl .int 2)]
abbrev Su:aa (Nat×Rm):=[(1,.st .dG),(2,.ay gd),(1000000000117000,.sl .int 2),(5,.ay gd)]
abbrev ZR:aa Gp:=[(20000,.dG,4,[60033,60041,60046,60048,60049,60050,60051,60052,60054,60055,60058,60059,1000000000141000,60061,60062,60072,60073,60074])]
abbrev ZS:aa Gp:=[(2,.dG,4,Lj)]
abbrev ZT:aa Lm:=[.int .i64,.int .i64,.int .i64,.bool,.int .i64,.int .i64]
abbrev ZU:bC:=⟨[(0,tI),(1,.lf (.aG .eD 0)),(5,.aH 5 0),(8,tI)],[(5,.ay ZT)],[]⟩
abbrev xk:aa (Bool×TC×Nat):=[(false,(.sl .int),2)]
abbrev Sw:aa Lm:=[.own 90100,.own 90101]
abbrev ZV:aa (Nat×Rm):=[(2,.ay Sw),(3,.ay [.own 13,.own 90201]),(90100,.sl .int 2),(90101,.sl .int 2),(13,.sl .int 2),(90201,.sl .int 2)]
abbrev tZ:aa (Bool×TC):=[(true,.dG)]
abbrev ZW:bC:=⟨[(0,.lf (.aG .int 0)),(3,.lf (.own 10)),(12,tI),(13,tI)],[(10,.sl .int 2)],[]⟩
abbrev Sx:aa (Bool×TC):=[(true,.fB),(true,.qt),(false,.int),(false,.int)]
abbrev sj:bC:=⟨[(2,tB)],[],[]⟩
abbrev sk:bC:=⟨[(4,tB)],[],[]⟩
abbrev By:bC:=⟨[(4,tI)],[],[]⟩
abbrev Sz:aa Lm:=[.aG .jF 0,.int .i64]
abbrev SA:aa (Nat×Rm):=[(3,.ay Sz),(1000000000115000,.sl .int 2)]
abbrev sn:aa (Bool×TC):=[(false,.int)]
abbrev zE:aa (Bool×TC):=[(false,(.sl .int))]
abbrev ZX:bC:=⟨[(1,.aH 1 0),(2,.aH 2 0),(4,.lf (.own 1000000000117000)),(5,.aH 5 0)],Su,[]⟩
abbrev ZY:aa (Nat×Rm):=[(3,.st .dG),(6,.ay gd),(8,.ay Bw),(81,.sl .bool 2),(142,.sl .Command 2),(146,.sl .bool 2)]
abbrev GK:bC:=⟨[(5,tI)],[],[]⟩
abbrev Lo:aa (Bool×TC):=[(false,(.sl .int)),(false,.int)]
abbrev xl:aa (Bool×TC):=[(true,.fB)]
abbrev ZZ:bC:=⟨[(1,tI),(2,.aH 2 0),(4,.aH 4 0),(6,.aH 6 0),(7,tI)],ZQ,[]⟩
abbrev Z0:aa (Nat×Tm):=[(2,.aH 20000 50),(12,tI),(75,.lf (.own 1000000000175000)),(76,tI),(77,tI)]
abbrev SB:aa (Nat×Rm):=[(98000,.sl .Addr 1000002)]
abbrev Z1:bC:=⟨[(0,.lf (.own 98000)),(5,tI)],SB,[]⟩
abbrev Lp:aa (Bool×TC×Nat):=[(true,.dG,4),(false,.bool,0)]
abbrev Z2:bC:=⟨[(1,tI),(2,tI),(8,.lf (.own 1000000000112000))],Ss,[]⟩
abbrev Lq:aa (Bool×TC):=[(false,.int),(false,.int)]
abbrev Z3:aa Gp:=[(4,.dG,4,Lj),(7,.dG,4,[1000000000133005,1000000000133013,1000000000120000,1000000000122000,1000000000122001,1000000000124000,1000000000124001,1000000000124002,1000000000141001,1000000000150000,90258,90259,90260,90261,1000000000157000,90272,90273,90274])]
abbrev GL:aa (Nat×Rm):=[(1,.st .dG),(3,.ay gd)]
abbrev SC:aa Lm:=[.int .i64,.aG .int 0]
abbrev Z4:bC:=⟨[(2,.aH 2 0),(3,.aH 3 0),(7,tI),(8,tI)],[(2,.ay gd),(3,.ay SC)],[]⟩
abbrev Z5:bC:=⟨[(0,tI),(1,.lf (.aG .eD 0)),(9,.lf (.aG .eD 0)),(10,tI),(11,tI)],[],[]⟩
abbrev GM:aa Lm:=[.aG .int 0,.aG .int 0]
abbrev SD:aa (Nat×Rm):=[(3,.ay [.aG .Cell 0,.aG .int 0,.aG .int 0])]
abbrev Z6:bC:=⟨[(0,.lf (.aG .iV 0)),(7,.lf (.aG .iV 0)),(8,tI),(9,tI)],[],[]⟩
abbrev Z7:bC:=⟨[(6,.lf (.own 1000000000112000)),(7,tB)],Ss,[]⟩
abbrev Bz:aa PK:=[.p .rF 0 0]
abbrev Z8:aa (Nat×Rm):=[(3,.st .dG),(6,.ay gd),(8,.ay Bw),(38,.sl .bool 2)]
abbrev Z9:aa (Nat×Rm):=[(4,.st .dG),(7,.ay gd),(8,.ay gd),(16,.sl .bool 2)]
abbrev aaa:bC:=⟨[(2,.aH 2 0),(3,tI)],[(2,.ay gd)],[]⟩
abbrev aab:bC:=⟨[(3,.lf (.own 6))],[(6,.sl .int 2)],[]⟩
abbrev aac:aa Lm:=[.own 1000000000109000,.own 1000000000109001]
abbrev SE:aa (Bool×TC×Nat):=[(true,.rE,2),(false,.bool,0)]
abbrev SF:aa PK:=[.p .dG 4 0,.v false .int]
abbrev SG:aa PK:=[.p .rF 0 0,.v false .int]
abbrev SH:aa Lm:=[.own 90100,.int .i64]
abbrev SI:aa (Bool×TC):=[(true,.fB),(false,.int)]
abbrev aad:aa PK:=[.p .dG 4 0,.v false .int,.v false .int]
abbrev aae:aa PK:=[.p .rF 0 0,.v true .Config,.v false .int]
abbrev aaf:aa Lm:=[.int .i64,.own 1000000000136001]
abbrev aag:bC:=⟨[(1,.aH 1 0),(3,.aH 3 0),(4,tI)],GL,[]⟩
abbrev aah:bC:=⟨[(1,.aH 1 0),(3,.aH 3 0)],GL,[]⟩
abbrev aai:aa Lm:=[.own 1000000000116000,.int .i64]
abbrev aaj:bC:=⟨[(0,tI),(3,tI)],[],[]⟩
abbrev aak:aa Lm:=[.own 20001,.int .i64,.int .i64]
abbrev aal:aa Lm:=[.int .i64,.int .i64,.int .i64]
abbrev SJ:aa Lm:=[.int .i64,.own 15]
def SK(C:aa Int):aj (Bool):=some ((C.length:Int) > 1048576)
def akl:=bM [(false,(.sl .u8))] dy (cw SK) 6 [] func6
def sq(C:eo):aj (eo):=bif xZ C.weights then some (⟨C.fY,C.cap,C.ey,C.low,C.high,(xA C.weights),C.eY⟩:eo)else none
def Lr:=bM [(true,.lu)] [(true,.lu,2)] (cw sq) 9 [] func85
def DB(C:jZ):aj (jZ):=(sq C.bS).bind λD=>(sq C.next).bind λE=>some (⟨D,E,C.waits⟩:jZ)
def SL:=bM [(true,.rE)] [(true,.rE,2)] (cw DB) 12 [Lr] func87
def DC(C:bL):aj (bL):=bif xZ C.aD then some (⟨(xA C.aD),C.aU⟩:bL)else none
def aam:=bM [(true,.kI)] [(true,.kI,2)] (cw DC) 9 [] func88
def DD(C:dP):aj (dP):=bif xZ C.last then bif xZ C.aX then some (⟨(xA C.last),(xA C.aX)⟩:dP)else none else none
def aan:=bM [(true,.nU)] [(true,.nU,2)] (cw DD) 12 [] func89
def GN(C:cu):aj (cu):=bif xZ C.symbols then some (⟨(xA C.symbols),C.mL⟩:cu)else none
def aao:=bM [(true,.Cell)] [(true,.Cell,2)] (cw GN) 9 [] func189
def akm:bC:=⟨[(2,.aH 2 0),(3,.aH 3 0),(16,.lf (.aG .Cell 0)),(17,tI),(18,tI)],ZN,[]⟩
def akn:aa (Nat×bC):=[(2,⟨[(2,.aH 2 0),(3,.aH 3 0)],ZN,[]⟩)]
abbrev aap:=((ah×ah×(aa cu)×Int×Int×ah)×((ah×ah×ah×ah)×(ah×ah×ah×ah)×(aa cu)×(aa Int)×(aa Int)×(aa cu)×(aa Int)×(aa Int)×ah))
def GO(x:aap):aj (aap⊕(((ah×ah×ah)×((ah×ah×ah×ah)×(ah×ah×ah×ah)×(aa cu)×(aa Int)×(aa Int)×(aa cu)×(aa Int)×(aa Int)×ah))⊕Empty)):=letI u3:=x.2.2.2;letI u2:=x.1.2.2;letI u1:=((),(),(),());letI C:=u3.2.2;bif u2.2.2.1<u2.2.1 then xI u2.1 u2.2.2.1 λE=>(GN E).bind λD=>bif cv (C.2.1.length+[D].length)then xG (((),(),u2.1,u2.2.1,(W6 (u2.2.2.1+1)),()),(u1,u1,u3.1,u3.2.1,C.1,(C.2.1++[D]),C.2.2.1,C.2.2.2.1,()))else none else aK (((),(),()),(u1,u1,u3.1,u3.2.1,C.1,C.2.1,C.2.2.1,C.2.2.2.1,()))
def ako:KY 31 (bw f90):=⟨0,lB 0 akm akn GO,lp [aao]⟩
def BA(C:cN):aj (cN):=bif xZ C.bq then bif xZ C.aY then bQ GO (((),(),C.cells,(C.cells.length:Int),0,()),(((),(),(),()),((),(),(),()),([]:aa cu),([]:aa Int),([]:aa Int),([]:aa cu),(xA C.bq),(xA C.aY),())) λE=>letI D:=E.2.2.2.2.2.2;some (⟨D.1,D.2.1,D.2.2.1⟩:cN)else none else none
def SM:=cY [(true,.Array)] [(true,.Array,4)] (cw BA) 31 [] [ako] func90
def aaq(C:aa Int):aj ((aa Int)):=bif jt C then none else bif cv (([]:aa Int).length+C.length)then some (([]:aa Int)++C)else none
def Ls(C:aa Int):aj ((aa Int)):=bif jt C then some []else aaq C
def aar:jh:=gS [(false,(.sl .int))] [(false,(.sl .int),2)] (λx=>Ls x.1)
def akp:enters Tryz.prog 91/\iL Tryz.prog 91 aar:=Bt 8 [] [] func91 trivial qV (t:=.int) (g:=2) (F:=aaq) λx=>by kernel_rfl
def xm(C:dB):aj (dB):=bif xZ C.aC then some (⟨(xA C.aC),C.wait,C.dL⟩:dB)else none
def Lt:=bM [(true,.ld)] [(true,.ld,2)] (cw xm) 9 [] func92
def DE(C:cK):aj (cK):=bif xZ C.rows then bif xZ C.counts then some (⟨(xA C.rows),(xA C.counts),C.eX⟩:cK)else none else none
def aas:=bM [(true,.mN)] [(true,.mN,2)] (cw DE) 14 [] func93
def aat(C:aa aN):aj ((aa aN)):=bif jt C then none else bif cv (([]:aa aN).length+C.length)then some (([]:aa aN)++C)else none
def SN(C:aa aN):aj ((aa aN)):=bif jt C then some []else aat C
def aau:jh:=gS [(false,(.sl .Addr))] [(false,(.sl .Addr),2)] (λx=>SN x.1)
def akq:enters Tryz.prog 94/\iL Tryz.prog 94 aau:=Bt 8 [] [] func94 trivial qV (t:=.Addr) (g:=2) (F:=aat) λx=>by kernel_rfl
def aav(C:aa bg):aj ((aa bg)):=bif jt C then none else bif cv (([]:aa bg).length+C.length)then some (([]:aa bg)++C)else none
def SO(C:aa bg):aj ((aa bg)):=bif jt C then some []else aav C
def aaw:jh:=gS [(false,(.sl .eD))] [(false,(.sl .eD),2)] (λx=>SO x.1)
def akr:enters Tryz.prog 95/\iL Tryz.prog 95 aaw:=Bt 8 [] [] func95 trivial qV (t:=.eD) (g:=2) (F:=aav) λx=>by kernel_rfl
def aax(C:aa di):aj ((aa di)):=bif jt C then none else bif cv (([]:aa di).length+C.length)then some (([]:aa di)++C)else none
def SP(C:aa di):aj ((aa di)):=bif jt C then some []else aax C
def aay:jh:=gS [(false,(.sl .iI))] [(false,(.sl .iI),2)] (λx=>SP x.1)
def aks:enters Tryz.prog 96/\iL Tryz.prog 96 aay:=Bt 8 [] [] func96 trivial qV (t:=.iI) (g:=2) (F:=aax) λx=>by kernel_rfl
def aaz(C:aa cC):aj ((aa cC)):=bif jt C then none else bif cv (([]:aa cC).length+C.length)then some (([]:aa cC)++C)else none
def SQ(C:aa cC):aj ((aa cC)):=bif jt C then some []else aaz C
def aaA:jh:=gS [(false,(.sl .iV))] [(false,(.sl .iV),2)] (λx=>SQ x.1)
def akt:enters Tryz.prog 97/\iL Tryz.prog 97 aaA:=Bt 8 [] [] func97 trivial qV (t:=.iV) (g:=2) (F:=aaz) λx=>by kernel_rfl
def aaB(C:aa bK):aj ((aa bK)):=bif jt C then none else bif cv (([]:aa bK).length+C.length)then some (([]:aa bK)++C)else none
def SR(C:aa bK):aj ((aa bK)):=bif jt C then some []else aaB C
def aaC:jh:=gS [(false,(.sl .Event))] [(false,(.sl .Event),2)] (λx=>SR x.1)
def aku:enters Tryz.prog 98/\iL Tryz.prog 98 aaC:=Bt 8 [] [] func98 trivial qV (t:=.Event) (g:=2) (F:=aaB) λx=>by kernel_rfl
def aaD(C:aa fN):aj ((aa fN)):=bif jt C then none else bif cv (([]:aa fN).length+C.length)then some (([]:aa fN)++C)else none
def SS(C:aa fN):aj ((aa fN)):=bif jt C then some []else aaD C
def aaE:jh:=gS [(false,(.sl .ni))] [(false,(.sl .ni),2)] (λx=>SS x.1)
def akv:enters Tryz.prog 99/\iL Tryz.prog 99 aaE:=Bt 8 [] [] func99 trivial qV (t:=.ni) (g:=2) (F:=aaD) λx=>by kernel_rfl
def akw:bC:=⟨[(1,.aH 1 0),(2,.aH 2 0),(3,.aH 3 0),(36,.lf (.aG .mN 0)),(37,tI),(38,tI)],ZI,ZS⟩
def akx:aa (Nat×bC):=[(2,⟨[(1,.aH 1 0),(2,.aH 2 0),(3,.aH 3 0)],ZI,ZS⟩)]
abbrev aaF:=((ah×ah×ah×(aa cK)×Int×Int×ah)×(ax×ax×(Int×Int×Int×Int×Int×Int×Int×Int×Int×Int×Int×Int×Int×Int×Int×Int×Int×Int×Int×Int×Int×Int×Bool×Int×Int×Int×Int×Int×Int×Int×Int×Int×Int×ah×Int×Int×Int×Int×Int×Int×Int×ah×Int×Int×Bool×Int×ah×Int×ah×ah×ah×ah×ah×Int×ah×ah×Int×Bool×ah×(aa Int)×(aa aN)×(aa bg)×(aa di)×Bool×Int×Int×Int×Int×Int×Int×Int×Int×(aa cC)×(aa bK)×(aa fN)×ah)×(aa Int)×(aa Int)×(aa dK)×(aa Int)×(aa Int)×(aa cu)×(aa Int)×(aa Int)×(aa Int)×(aa Int)×(aa cK)×ah))
def DF(x:aaF):aj (aaF⊕(((ah×ah×ah×ah)×(ax×ax×(Int×Int×Int×Int×Int×Int×Int×Int×Int×Int×Int×Int×Int×Int×Int×Int×Int×Int×Int×Int×Int×Int×Bool×Int×Int×Int×Int×Int×Int×Int×Int×Int×Int×ah×Int×Int×Int×Int×Int×Int×Int×ah×Int×Int×Bool×Int×ah×Int×ah×ah×ah×ah×ah×Int×ah×ah×Int×Bool×ah×(aa Int)×(aa aN)×(aa bg)×(aa di)×Bool×Int×Int×Int×Int×Int×Int×Int×Int×(aa cC)×(aa bK)×(aa fN)×ah)×(aa Int)×(aa Int)×(aa dK)×(aa Int)×(aa Int)×(aa cu)×(aa Int)×(aa Int)×(aa Int)×(aa Int)×(aa cK)×ah))⊕Empty)):=letI u3:=x.1.2.2.2;letI u1:=x.2.2.2.2;letI C:=u1.2.2.2.2;letI u2:=C.2.2.2;bif u3.2.2.1<u3.2.1 then xI u3.1 u3.2.2.1 λE=>(DE E).bind λD=>bif cv (u2.2.2.2.1.length+[D].length)then xG (((),(),(),u3.1,u3.2.1,(W6 (u3.2.2.1+1)),()),(x.2.1,x.2.2.1,x.2.2.2.1,u1.1,u1.2.1,u1.2.2.1,u1.2.2.2.1,C.1,C.2.1,C.2.2.1,u2.1,u2.2.1,u2.2.2.1,(u2.2.2.2.1++[D]),()))else none else aK (((),(),(),()),(x.2.1,x.2.2.1,x.2.2.2.1,u1.1,u1.2.1,u1.2.2.1,u1.2.2.2.1,C.1,C.2.1,C.2.2.1,u2.1,u2.2.1,u2.2.2.1,u2.2.2.2.1,()))
def aky:KY 79 (bw f39):=⟨0,lB 0 akw akx DF,lp [aas]⟩
def zF(C:ax):aj (ax):=(DB C.box).bind λD=>(DC C.aS).bind λy2=>(DD C.ready).bind λy3=>(BA C.array).bind λy4=>(Ls C.spare.map).bind λy5=>(xm C.aE).bind λy6=>bQ DF (((),(),(),C.bE,(C.bE.length:Int),0,()),((⟨⟨⟨0,0,0,0⟩,⟨0,0,0,0,0,0,0,0,0,0,0,0,0,0,0,0,0⟩,⟨0,false⟩,0,0,0,⟨0,0⟩⟩,⟨⟨0,0,0,0,0,([]:aa Int),⟨0,0⟩⟩,⟨0,0,0,0,0,([]:aa Int),⟨0,0⟩⟩,false⟩,0,⟨([]:aa dK),0⟩,⟨([]:aa Int),([]:aa Int)⟩,⟨([]:aa cu),([]:aa Int),([]:aa Int)⟩,⟨0,([]:aa Int)⟩,⟨([]:aa Int),0,false⟩,([]:aa cK),([]:aa Int),([]:aa aN),([]:aa bg),([]:aa di),⟨false,0,0⟩,⟨0,0,0⟩,⟨0,0,0⟩,([]:aa cC),([]:aa bK),([]:aa fN)⟩:ax),C,(C.config.ak.bD,C.config.ak.aD,C.config.ak.rows,C.config.ak.aM,C.config.bU.qq,C.config.bU.rp,C.config.bU.jD,C.config.bU.rz,C.config.bU.nT,C.config.bU.jY,C.config.bU.rA,C.config.bU.rB,C.config.bU.mK,C.config.bU.wr,C.config.bU.rC,C.config.bU.rD,C.config.bU.uF,C.config.bU.sW,C.config.bU.sX,C.config.bU.xp,C.config.bU.xs,C.config.mapping.order,C.config.mapping.hash,C.config.bR,C.config.interval,C.config.iU,C.config.dJ.bq,C.config.dJ.aY,D.bS.fY,D.bS.cap,D.bS.ey,D.bS.low,D.bS.high,(),D.bS.eY.down,D.bS.eY.sleep,D.next.fY,D.next.cap,D.next.ey,D.next.low,D.next.high,(),D.next.eY.down,D.next.eY.sleep,D.waits,C.now,(),y2.aU,(),(),(),(),(),C.spare.bR,(),(),y6.wait,y6.dL,(),C.guard,C.pending,C.queue,C.shares,C.drain.on,C.drain.low,C.drain.high,C.aU.state,C.aU.since,C.aU.idle,C.dD.next,C.dD.every,C.dD.wait,C.errors,C.trace,C.cx,()),D.bS.weights,D.next.weights,y2.aD,y3.last,y3.aX,y4.cells,y4.bq,y4.aY,y5,y6.aC,([]:aa cK),())) λjQ=>letI E:=jQ.2.2.1;letI u4:=jQ.2.2.2;letI u16:=u4.1.2.2;letI Y:=u4.2.2.2.2.2;letI Z:=Y.2.2.2;letI u7:=u16.2.2.2;letI Lu:=u7.2.2.2;letI u2:=Lu.2.2.2;letI I:=u2.2.2.2;letI u5:=I.2.2.2.2;letI O:=u5.2.2.2.2;letI T:=O.2.2.2.2;letI sr:=T.2.2.2.2;letI SU:=sr.2.2.2.2;letI u3:=SU.2.2;letI u8:=u3.2.2.2.2.2.2;letI u15:=u8.2.2.2.2.2.2.2.2.2.2.2;letI u1:=u15.2.2.2;letI u6:=u1.2.2.2.2.2.2.2;letI U:=u6.2.2.2.2;(Ls E.guard).bind λoD=>(SN E.pending).bind λzG=>(SO E.queue).bind λjR=>(SP E.shares).bind λmq=>(SQ E.errors).bind λmw=>(SR E.trace).bind λpL=>(SS E.cx).bind λqW=>some (⟨⟨⟨u4.1.1,u4.1.2.1,u16.1,u16.2.1⟩,⟨u16.2.2.1,u7.1,u7.2.1,u7.2.2.1,Lu.1,Lu.2.1,Lu.2.2.1,u2.1,u2.2.1,u2.2.2.1,I.1,I.2.1,I.2.2.1,I.2.2.2.1,u5.1,u5.2.1,u5.2.2.1⟩,⟨u5.2.2.2.1,O.1⟩,O.2.1,O.2.2.1,O.2.2.2.1,⟨T.1,T.2.1⟩⟩,⟨⟨T.2.2.1,T.2.2.2.1,sr.1,sr.2.1,sr.2.2.1,u4.2.1,⟨SU.1,SU.2.1⟩⟩,⟨u3.1,u3.2.1,u3.2.2.1,u3.2.2.2.1,u3.2.2.2.2.1,u4.2.2.1,⟨u8.1,u8.2.1⟩⟩,u8.2.2.1⟩,u8.2.2.2.1,⟨u4.2.2.2.1,u8.2.2.2.2.2.1⟩,⟨u4.2.2.2.2.1,Y.1⟩,⟨Y.2.1,Y.2.2.1,Z.1⟩,⟨u15.1,Z.2.1⟩,⟨Z.2.2.1,u1.1,u1.2.1⟩,Z.2.2.2.1,oD,zG,jR,mq,⟨u6.1,u6.2.1,u6.2.2.1⟩,⟨u6.2.2.2.1,U.1,U.2.1⟩,⟨U.2.2.1,U.2.2.2.1,U.2.2.2.2.1⟩,mw,pL,qW⟩:ax)
def GP:=cY tZ [(true,.dG,4)] (cw zF) 79 [SL,aam,aan,SM,⟨91,.p aar,akp⟩,Lt,⟨94,.p aau,akq⟩,⟨95,.p aaw,akr⟩,⟨96,.p aay,aks⟩,⟨97,.p aaA,akt⟩,⟨98,.p aaC,aku⟩,⟨99,.p aaE,akv⟩] [aky] func39
def bO(C D E:Int):aj (Bool):=bif C >= D then some (C <= E)else some false
def dw:=bM [(false,.int),(false,.int),(false,.int)] dy (gT bO) 15 [] func40
def m0(C:aF):aj (Bool):=(bO C.bD 1 2).bind λD=>bif D then (bO C.aD 1 4).bind λE=>bif E then (bO C.rows 2 16).bind λI=>bif I then (bO C.aM 1 8).bind λO=>some O else some false else some false else some false
def pO:=bM xl dy (cw m0) 21 [dw] func83
def jA(C:aF):aj (Int):=(m0 C).bind λD=>bif (!D)then some 0 else some (W6 (C.bD*C.aD))
def lK:=bM xl fV (cw jA) 11 [pO] func35
abbrev aaG:=((Int×ah×ah×ah×Int×Int×ah)×((Int×Int×Int×Int×ah)×(Int×ah×ah)×(Int×ah×ah)×(aa Int)×(aa Int)×ah))
def DG(x:aaG):aj (aaG⊕(((Int×ah×ah×ah×Int×ah)×((Int×Int×Int×Int×ah)×(Int×ah×ah)×(Int×ah×ah)×(aa Int)×(aa Int)×ah))⊕Empty)):=letI u1:=x.2.2.2;letI C:=x.1.2.2.2.2;bif C.2.1<(W6 (x.2.1.2.2.1-x.1.1))then bif cv (u1.2.2.1.length+([C.2.1]:aa Int).length)then xG ((x.1.1,(),(),(),C.1,(W6 (C.2.1+1)),()),(x.2.1,x.2.2.1,u1.1,u1.2.1,(u1.2.2.1++([C.2.1]:aa Int)),()))else none else aK ((x.1.1,(),(),(),C.1,()),(x.2.1,x.2.2.1,u1.1,u1.2.1,u1.2.2.1,()))
def akz:KY 48 (xg (bw f33) 0):=⟨2,lB 2 ⟨[(1,tI),(2,.aH 2 0),(4,.aH 4 0),(6,.aH 6 0),(7,tI),(8,tI)],ZQ,[]⟩ [(4,ZZ)] DG,lp []⟩
abbrev aaH:=((Int×ah×ah×ah×Int×ah)×((Int×Int×Int×Int×ah)×(Int×ah×ah)×(Int×ah×ah)×(aa Int)×(aa Int)×ah))
def GQ(x:aaH):aj (aaH⊕(((ah×ah×ah)×((Int×ah×ah)×(Int×ah×ah)×(aa Int)×(aa Int)×ah))⊕Empty)):=letI D:=x.2.2.2;(jA (⟨x.2.1.1,x.2.1.2.1,x.2.1.2.2.1,x.2.1.2.2.2.1⟩:aF)).bind λE=>bif x.1.2.2.2.2.1<E then bQ DG ((x.1.1,(),(),(),x.1.2.2.2.2.1,0,()),(x.2.1,x.2.2.1,D.1,D.2.1,D.2.2.1,())) λC=>xG ((C.1.1,(),(),(),(W6 (C.1.2.2.2.2.1+1)),()),(C.2.1,C.2.2.1,C.2.2.2.1,C.2.2.2.2.1,C.2.2.2.2.2.1,()))else aK (((),(),()),(x.2.2.1,D.1,D.2.1,D.2.2.1,()))
def akA:KY 48 (bw f33):=⟨0,lB 0 ZZ [(2,⟨[(4,.aH 4 0),(6,.aH 6 0)],[(4,.ay Ln),(6,.ay [.int .i64,.own 90201]),(90101,.sl .int 2),(90201,.sl .int 2)],[]⟩)] GQ,lq [lK] [akz]⟩
def DH(C:aF)(D:Int):aj (fm×Bool):=letI E:=some ((⟨0,[]⟩:fm),false);(m0 C).bind λO=>bif (!O)then E else (bO D 0 2).bind λT=>bif (!T)then E else bif (W6 (C.rows-D))<2 then E else bQ GQ ((D,(),(),(),0,()),((C.bD,C.aD,C.rows,C.aM,()),(0,(),()),(D,(),()),([]:aa Int),([]:aa Int),())) λI=>some ((⟨I.2.2.1.1,I.2.2.2.2.1⟩:fm),true)
def SV:=cY SI [(true,.qt,2),(false,.bool,0)] (cV DH) 48 [dw,pO] [akA] func33
abbrev aaI:=((ah×ah×Int×Int×ah)×(bW×(aa Int)×ah))
def DI(x:aaI):aj (aaI⊕(((Bool×ah)×(ah))⊕(((ah×ah)×(bW×ah))⊕Empty))):=letI C:=x.1.2.2;bif C.2.1<C.1 then xL x.2.2.1 C.2.1 λD=>(bO D 1 64).bind λE=>bif (!E)then aK ((false,()),())else xG (((),(),C.1,(W6 (C.2.1+1)),()),(x.2.1,x.2.2.1,()))else bF (((),()),(x.2.1,()))
def akB:KY 75 (bw f113):=⟨0,lB 0 ⟨[(1,.aH 1 0),(39,.lf (.own 39)),(40,tI),(41,tI)],[(1,.st .js),(39,.sl .int 2)],[]⟩ [(1,sj),(2,⟨[(1,.aH 1 0)],[(1,.st .js)],[]⟩)] DI,lp [dw]⟩
def BB(C:bW):aj (Bool):=letI D:=([C.qq,C.rp,C.jD,C.rz,C.nT,C.jY,C.rA,C.rB,C.mK,C.wr,C.rC,C.rD,C.uF,C.sW,C.sX,C.xp,C.xs]:aa Int);cH DI (((),(),(D.length:Int),0,()),(C,D,())) (λE=>some E.1.1) λI=>letI u1:=I.2.1;bif u1.qq <= u1.jD then bif u1.rz <= u1.nT then bif u1.rA <= u1.rB then some (u1.rC <= u1.rD)else some false else some false else some false
def Lv:=cY [(true,.js)] dy (cw BB) 75 [] [akB] func113
def GR(C:qp):aj (Bool):=(bO C.order 0 2).bind λD=>some D
def aaJ:=bM [(true,.uG)] dy (cw GR) 6 [dw] func182
def BE(C:bW):aj (Int):=(BB C).bind λD=>bif (!D)then some 0 else some (W6 (2*(W6 ((W6 ((W6 ((W6 ((W6 ((W6 ((W6 ((W6 ((W6 (C.sX+C.xp))+C.jD))+C.wr))+C.mK))+C.rp))+C.sW))+C.qq))+(W6 (8*C.nT))))+16))))
def akC:=bM [(true,.js)] fV (cw BE) 35 [Lv] func183
def Lw(C:fq):aj (Bool):=(DH C.ak C.bR).bind λD=>(m0 C.ak).bind λE=>bif E then (BB C.bU).bind λI=>bif I then (GR C.mapping).bind λO=>bif O then bif D.2 then (BE C.bU).bind λT=>(bO C.interval T 10000).bind λU=>bif U then (bO C.iU 1 16).bind λY=>bif Y then (bO C.dJ.bq (W6 (6*C.interval)) 100000).bind λZ=>bif Z then (bO C.dJ.aY 0 100000).bind λy9=>some y9 else some false else some false else some false else some false else some false else some false else some false
def akD:=bM [(true,.Config)] dy (cw Lw) 57 [SV,dw,pO,Lv,aaJ,akC] func80
abbrev aaK:=(((aa di)×(aa di)×Int×Int×ah)×(ah))
def GS(x:aaK):aj (aaK⊕(((Bool×ah)×(ah))⊕((((aa di)×ah)×(ah))⊕Empty))):=letI C:=x.1.2.2;bif C.2.1<C.1 then xI x.1.2.1 C.2.1 λD=>(bO D.weight 1 9).bind λE=>bif (!E)then aK ((false,()),())else (bO D.gx 0 D.weight).bind λI=>bif (!I)then aK ((false,()),())else xG ((x.1.1,x.1.2.1,C.1,(W6 (C.2.1+1)),()),())else bF ((x.1.1,()),())
def akE:KY 27 (bw f60):=⟨0,lB 0 ⟨[(0,.lf (.aG .iI 0)),(5,.lf (.aG .iI 0)),(6,tI),(7,tI)],[],[]⟩ [(1,sj),(2,⟨[(0,.lf (.aG .iI 0))],[],[]⟩)] GS,lp [dw]⟩
def DJ(C:aa di):aj (Bool):=cH GS ((C,C,(C.length:Int),0,()),()) (λD=>some D.1.1) λE=>(bO (E.1.1.length:Int) 1 4).bind λI=>some I
def SW:=cY [(false,(.sl .iI))] dy (cw DJ) 27 [dw] [akE] func60
abbrev aaL:=((ah×(aa Int)×Int×Int×ah)×((aa di)×ah))
def GU(x:aaL):aj (aaL⊕(((ah×ah)×((aa di)×ah))⊕Empty)):=letI u1:=x.1.2.2;bif u1.2.1<u1.1 then xI x.1.2.1 u1.2.1 λC=>letI D:=([(⟨C,C⟩:di)]:aa di);bif cv (x.2.1.length+D.length)then xG (((),x.1.2.1,u1.1,(W6 (u1.2.1+1)),()),((x.2.1++D),()))else none else aK (((),()),(x.2.1,()))
def akF:KY 25 (bw f36):=⟨0,lB 0 ⟨[(4,.lf (.own 7)),(8,.lf (.aG .int 0)),(9,tI),(10,tI)],[(7,.sl .iI 2)],[]⟩ [(2,⟨[(4,.lf (.own 7))],[(7,.sl .iI 2)],[]⟩)] GU,lp []⟩
def xo(C:aa Int):aj ((aa di)×Bool):=bQ GU (((),C,(C.length:Int),0,()),(([]:aa di),())) λD=>(DJ D.2.1).bind λE=>bif (!E)then some ([],false)else some (D.2.1,true)
def SX:=cY zE [(false,(.sl .iI),2),(false,.bool,0)] (cw xo) 25 [SW] [akF] func36
def BF(C:mM):aj (Bool):=bif C.low >= 0 then bif C.low<C.high then some (C.high <= 12)else some false else some false
def Lx:=bM [(true,.sZ)] dy (cw BF) 18 [] func61
def GV(C:vJ):aj (Bool):=(bO C.down 1 10000).bind λD=>bif D then bif C.sleep > C.down then some (C.sleep <= 20000)else some false else some false
def aaM:=bM [(true,.vM)] dy (cw GV) 18 [dw] func184
def DK(C:eo):aj (Bool):=(xo C.weights).bind λE=>letI D:=(bO C.cap 0 100000).bind λI=>bif I then (bO C.ey 3 1000).bind λO=>bif O then (BF (⟨false,C.low,C.high⟩:mM)).bind λT=>bif T then bif ((C.weights.length:Int)==4)then bif E.2 then (GV C.eY).bind λU=>some U else some false else some false else some false else some false else some false;bif (C.fY==0)then D else bif (C.fY==1)then D else some false
def SY:=bM [(true,.lu)] dy (cw DK) 51 [SX,dw,Lx,aaM] func81
def zH(C:Int):aj (Int):=(bO C 3 1000).bind λD=>bif (!D)then some 0 else some (W6 ((W6 (2*C))+2))
def akG:=bM sn fV (cw zH) 9 [dw] func82
def qX(C:fq)(D:eo):aj (Bool):=letI E:=W6 (C.bU.jD+C.bU.rp);(Lw C).bind λI=>bif I then (DK D).bind λO=>bif O then (zH D.ey).bind λT=>bif (W6 (T+2)) <= C.dJ.aY then if E=0 then none else some ((W6 ((W6 (C.iU+1))*D.ey)) > (W6 ((W6 ((W6 (5*C.interval)).tdiv E))+2)))else some false else some false else some false
def SZ:=bM [(true,.Config),(true,.lu)] dy (cV qX) 42 [akD,SY,akG] func28
def su(C:aF):aj (Int):=(jA C).bind λD=>some (W6 ((W6 (D*C.rows))*C.aM))
def DL:=bM xl fV (cw su) 11 [lK] func43
def BG(I:aF)(C:fm)(D:Int):aj (Nat×Nat):=letI E:=W6 (I.rows-C.bR);letI u2:=W6 (D*E);letI u1:=W6 ((W6 (D+1))*E);if 0 <= u2/\u2 <= u1/\u1 <= (C.map.length:Int)then some (u2.toNat,u1.toNat)else none
def Ly:A8:=Sc [(true,.fB),(true,.qt),(false,.int)] 1 1 .int (λx=>BG x.1 x.2.1 x.2.2.1)
def S0:enters Tryz.prog 128/\Kj Tryz.prog 128 Ly:=ajQ (N:=23) (fn:=f128) (code:=bw f128) (Φ:=(lI [])) (Λ:=(jz [])) (t:=.int) func128 (by kernel_rfl) (by kernel_rfl) (by kernel_rfl) (by kernel_rfl) (by kernel_rfl) (by kernel_rfl) (by kernel_rfl) (by kernel_rfl) (tX _ trivial) qV (λx=>by kernel_rfl)
abbrev aaN:=((Int×Int×(aa Int)×Int×Int×ah)×(ah))
def GW(x:aaN):aj (aaN⊕(((Int×ah)×(ah))⊕Empty)):=letI C:=x.1.2.2;letI u1:=C.2.2.1;bif u1<C.2.1 then xI C.1 u1 λD=>bif (D==x.1.1)then xG ((x.1.1,(W6 (x.1.2.1+1)),C.1,C.2.1,(W6 (u1+1)),()),())else xG ((x.1.1,x.1.2.1,C.1,C.2.1,(W6 (u1+1)),()),())else aK ((x.1.2.1,()),())
def akH:KY 21 (bw f129):=⟨0,lB 0 ⟨[(1,tI),(5,tI),(8,.lf (.aG .int 0)),(9,tI),(10,tI)],[],[]⟩ [(2,GK)] GW,lp []⟩
def Lz(C:aa Int)(D:Int):aj (Int):=bQ GW ((D,0,C,(C.length:Int),0,()),()) λE=>some E.1.1
def akI:=cY Lo fV (cV Lz) 21 [] [akH] func129
abbrev aaO:=((ah×ah×Int×Int×(aa Int)×(aa Int)×Int×Int×ah)×((Int×Int×Int×Int×ah)×(Int×(aa Int)×ah)×ah))
def DM(x:aaO):aj (aaO⊕(((Bool×ah)×(ah))⊕(((ah×ah×Int×Int×ah)×((Int×Int×Int×Int×ah)×(Int×(aa Int)×ah)×ah))⊕Empty))):=letI u2:=x.1.2.2;letI u1:=u2.2.2;letI u3:=u1.2.2.2.1;letI D:=xG (((),(),u2.1,u2.2.1,u1.1,u1.2.1,u1.2.2.1,(W6 (u3+1)),()),(x.2.1,x.2.2.1,()));bif u3<u1.2.2.1 then xI u1.2.1 u3 λC=>bif (C != u3)then (bO C u2.1 (W6 (x.2.1.2.2.1-1))).bind λE=>bif (!E)then aK ((false,()),())else (Lz u1.1 C).bind λI=>bif I > 1 then aK ((false,()),())else D else D else bF (((),(),u2.1,u2.2.1,()),(x.2.1,x.2.2.1,()))
def akJ:KY 71 (xg (bw f57) 0):=⟨2,lB 2 ⟨[(2,.aH 2 0),(3,.aH 3 0),(7,tI),(8,tI),(9,.lf (.aG .int 0)),(45,.lf (.aG .int 0)),(46,tI),(47,tI)],[(2,.ay gd),(3,.ay SC)],[]⟩ [(1,sk),(4,Z4)] DM,lp [dw,akI]⟩
abbrev aaP:=((ah×ah×Int×Int×ah)×((Int×Int×Int×Int×ah)×(Int×(aa Int)×ah)×ah))
def GX(x:aaP):aj (aaP⊕(((Bool×ah)×(ah))⊕(((ah)×(ah))⊕Empty))):=letI u3:=x.1.2.2.2.1;letI u2:=x.2.2.1;letI u1:=(⟨x.2.1.1,x.2.1.2.1,x.2.1.2.2.1,x.2.1.2.2.2.1⟩:aF);(jA u1).bind λI=>bif u3<I then (BG u1 (⟨u2.1,u2.2.1⟩:fm) u3).bind λC=>letI E:=(u2.2.1.take C.2).drop C.1;bif Nat.ble C.1 C.2&&Nat.ble C.2 u2.2.1.length then cH DM (((),(),x.1.2.2.1,u3,E,E,(E.length:Int),0,()),(x.2.1,u2,())) (λO=>aK ((O.1.1,()),())) λD=>xG (((),(),D.1.2.2.1,(W6 (D.1.2.2.2.1+1)),()),(D.2.1,D.2.2.1,()))else none else bF ((),())
def akK:KY 71 (bw f57):=⟨0,lB 0 Z4 [(1,sk),(2,lJ)] GX,lq [lK,⟨128,.v Ly,S0⟩] [akJ]⟩
def GY(C:aF)(D:fm):aj (Bool):=(DH C D.bR).bind λE=>bif (!E.2)then some false else bif ((D.map.length:Int) != (E.1.map.length:Int))then some false else cH GX (((),(),(W6 (C.rows-D.bR)),0,()),((C.bD,C.aD,C.rows,C.aM,()),(D.bR,D.map,()),())) (λI=>some I.1.1) λO=>some true
def aaQ:=cY [(true,.fB),(true,.qt)] dy (cV GY) 71 [SV] [akK] func57
def xq(C:aF)(D:fm):aj (aF):=(GY C D).bind λE=>bif (!E)then some (⟨0,0,0,0⟩:aF)else some (⟨C.bD,C.aD,(W6 (C.rows-D.bR)),C.aM⟩:aF)
def DN:=bM [(true,.fB),(true,.qt)] [(true,.fB,0)] (cV xq) 17 [aaQ] func44
abbrev aaR:=((ah×(aa dK)×Int×Int×ah)×((aa Int)×ah))
def DO(x:aaR):aj (aaR⊕(((ah×ah)×((aa Int)×ah))⊕Empty)):=letI u1:=x.1.2.2.2.1;letI C:=((),x.1.2.1,x.1.2.2.1,(W6 (u1+1)),());bif u1<x.1.2.2.1 then xI x.1.2.1 u1 λD=>bif D.open_ then bif cv (x.2.1.length+([u1]:aa Int).length)then xG (C,((x.2.1++([u1]:aa Int)),()))else none else xG (C,(x.2.1,()))else aK (((),()),(x.2.1,()))
def akL:KY 23 (bw f125):=⟨0,lB 0 ⟨[(3,.lf (.own 6)),(8,.lf (.aG .jF 0)),(9,tI),(10,tI)],[(6,.sl .int 2)],[]⟩ [(2,aab)] DO,lp []⟩
def zI(C:bL):aj ((aa Int)):=bQ DO (((),C.aD,(C.aD.length:Int),0,()),(([]:aa Int),())) λD=>some D.2.1
def LA:=cY [(true,.kI)] xk (cw zI) 23 [] [akL] func125
abbrev aaS:=((ah×ah×(aa dK)×Int×Int×ah)×((Int×Int×Int×Int×ah)×((aa dK)×Int×ah)×ah))
def GZ(x:aaS):aj (aaS⊕(((Bool×ah)×(ah))⊕(((ah×ah)×(((aa dK)×Int×ah)×ah))⊕Empty))):=letI u1:=x.1.2.2;letI D:=xG (((),(),u1.1,u1.2.1,(W6 (u1.2.2.1+1)),()),(x.2.1,x.2.2.1,()));bif u1.2.2.1<u1.2.1 then xI u1.1 u1.2.2.1 λC=>(bO C.row 0 (W6 (x.2.1.2.2.1-1))).bind λE=>bif (!E)then aK ((false,()),())else bif (!C.open_)then bif (C.row != 0)then aK ((false,()),())else D else D else bF (((),()),(x.2.2.1,()))
def akM:KY 58 (bw f54):=⟨0,lB 0 ⟨[(2,.aH 2 0),(3,.aH 3 0),(25,.lf (.aG .jF 0)),(26,tI),(27,tI)],[(2,.ay gd),(3,.ay Sz)],[]⟩ [(1,sk),(2,⟨[(3,.aH 3 0)],[(3,.ay Sz)],[]⟩)] GZ,lp [dw]⟩
def G0(C:aF)(D:bL):aj (Bool):=(m0 C).bind λI=>bif (!I)then some false else (jA C).bind λO=>bif ((D.aD.length:Int) != O)then some false else (bO D.aU 0 2).bind λT=>bif (!T)then some false else cH GZ (((),(),D.aD,(D.aD.length:Int),0,()),((C.bD,C.aD,C.rows,C.aM,()),(D.aD,D.aU,()),())) (λU=>some U.1.1) λE=>bif (E.2.1.2.1 != 2)then some true else (zI (⟨E.2.1.1,E.2.1.2.1⟩:bL)).bind λY=>some ((Y.length:Int)==0)
def aaT:=cY [(true,.fB),(true,.kI)] dy (cV G0) 58 [lK,dw,pO,LA] [akM] func54
def xu(C:Int):aj (Bool):=(bO C 1 5).bind λD=>some D
def LB:=bM sn dy (cw xu) 5 [dw] func199
end Go.Proofs.YtgjfmljpdnnihaaGreat
