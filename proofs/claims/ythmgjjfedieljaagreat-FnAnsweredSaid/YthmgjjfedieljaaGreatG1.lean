/-
  Functions of the program as plain functions of contents, and that the code computes them. Nothing here is a claim.
-/
import Derived.Test.YthmgjjfedieljaaGreatVZ
import Derived.Test.YthmgjjfedieljaaGreatRows
namespace Go.Proofs.YthmgjjfedieljaaGreat
set_option linter.defProp false
open Go.RowKit Go.Proofs.Tryz
set_option linter.unusedVariables false
set_option maxRecDepth 100000
abbrev KX:=KC Tryz.prog
abbrev KY:=BK Tryz.prog
abbrev jD:aa Lm:=[.int .i64,.int .i64,.int .i64,.int .i64]
abbrev zz1:aa (Nat×Rm):=[(1,.st .eU),(3,.aD [.int .i64,.int .i64,.int .i64,.int .i64,.int .i64,.int .i64,.int .i64,.int .i64,.int .i64,.int .i64,.int .i64,.int .i64,.int .i64,.int .i64,.int .i64,.int .i64,.int .i64,.int .i64,.int .i64,.int .i64,.int .i64,.int .i64,.bool,.int .i64,.int .i64,.int .i64,.int .i64,.int .i64,.int .i64,.int .i64,.int .i64,.int .i64,.int .i64,.own 1000000000109005,.int .i64,.int .i64,.int .i64,.int .i64,.int .i64,.int .i64,.int .i64,.own 1000000000109013,.int .i64,.int .i64,.bool,.int .i64,.own 1000000000113000,.int .i64,.own 1000000000117000,.own 1000000000117001,.own 1000000000121000,.own 1000000000121001,.own 1000000000121002,.int .i64,.own 1000000000126000,.own 1000000000131000,.int .i64,.bool,.own 33,.aI .int 0,.aI .Addr 0,.aI .dY 0,.aI .jW 0,.bool,.int .i64,.int .i64,.int .i64,.int .i64,.int .i64,.int .i64,.int .i64,.int .i64,.aI .kE 0,.aI .Event 0,.aI .mw 0]),(1000000000109005,.sl .int 2),(1000000000109013,.sl .int 2),(1000000000113000,.sl .rR 2),(1000000000117000,.sl .int 2),(1000000000117001,.sl .int 2),(1000000000121000,.sl .Cell 4),(1000000000121001,.sl .int 4),(1000000000121002,.sl .int 4),(1000000000126000,.sl .int 2),(1000000000131000,.sl .int 2),(33,.sl .qe 4)]
abbrev eW:aa (Bool×TC×Nat):=[(false,.bool,0)]
abbrev OQ:aa Nat:=[90133,90141,90146,90148,90149,90150,90151,90152,90154,90155,90158,90159,90160,90161,90162,90172,90173,90174]
abbrev zz3:aa Gp:=[(4,.eU,4,OQ),(5,.eU,4,[1000000000108033,1000000000108041,1000000000108046,1000000000108048,1000000000108049,1000000000108050,1000000000108051,1000000000108052,1000000000108054,1000000000108055,1000000000108058,1000000000108059,1000000000108060,1000000000108061,1000000000108062,1000000000108072,1000000000108073,1000000000108074])]
abbrev zz4:aa Gp:=[(2,.eU,4,OQ),(3,.eU,4,[1000000000106033,1000000000106041,1000000000106046,1000000000106048,1000000000106049,1000000000106050,1000000000106051,1000000000106052,1000000000106054,1000000000106055,1000000000106058,1000000000106059,1000000000106060,1000000000106061,1000000000106062,1000000000106072,1000000000106073,1000000000106074])]
abbrev iz:aa (Bool×TC×Nat):=[(false,.int,0)]
abbrev zz6:aa Gp:=[(6,.eU,4,[1000000000124033,1000000000124041,1000000000124046,1000000000124048,1000000000124049,1000000000124050,1000000000124051,1000000000124052,1000000000124054,1000000000124055,1000000000124058,1000000000124059,1000000000124060,1000000000124061,1000000000124062,1000000000124072,1000000000124073,1000000000124074])]
abbrev Ch:aa Gp:=[(20000,.eU,4,[60033,60041,60046,60048,60049,60050,60051,60052,60054,60055,60058,60059,60060,60061,60062,60072,60073,60074])]
abbrev Wo:bN:=⟨[],[],Ch⟩
abbrev zz8:aa (Nat×Rm):=[(2,.st .Config),(3,.aD [.int .i64,.int .i64,.int .i64,.int .i64,.int .i64,.own 90105,.int .i64,.int .i64]),(6,.st .Config),(7,.aD [.int .i64,.int .i64,.int .i64,.int .i64,.int .i64,.own 1000000000115005,.int .i64,.int .i64]),(1000000000118000,.sl .Act 4),(90105,.sl .int 2),(1000000000115005,.sl .int 2)]
abbrev Km:aa Lm:=[.int .i64,.int .i64,.int .i64,.bool,.int .i64,.int .i64]
abbrev OR:aa Lm:=[.own 90100,.own 90101,.own 90102]
abbrev adm:aa (Nat×Rm):=[(6,.aD OR),(7,.aD [.own 1000000000110000,.own 1000000000110001,.own 1000000000110002]),(90100,.sl .Cell 4),(90101,.sl .int 2),(90102,.sl .int 2),(1000000000110000,.sl .Cell 4),(1000000000110001,.sl .int 4),(1000000000110002,.sl .int 4)]
abbrev adn:aa Gp:=[(20000,.eU,4,[102000033,102000041,102000046,102000048,102000049,102000050,102000051,102000052,102000054,102000055,102000058,102000059,102000060,102000061,102000062,102000072,102000073,102000074])]
abbrev ado:aa (Nat×Rm):=[(2,.aD OR),(3,.aD [.own 90200,.own 6,.own 10]),(90100,.sl .Cell 4),(90101,.sl .int 2),(90102,.sl .int 2),(90200,.sl .Cell 4),(6,.sl .int 2),(10,.sl .int 2)]
abbrev OS:aa Lm:=[.aI .int 0,.int .i64,.bool]
abbrev adp:aa (Nat×Rm):=[(2,.aD OS),(4,.aD [.own 90100,.int .i64,.bool]),(5,.aD [.own 1000000000108000,.int .i64,.bool]),(90100,.sl .int 2),(1000000000108000,.sl .int 2)]
abbrev Wp:aa (Nat×Rm):=[(1000000000112000,.sl .kE 2)]
abbrev adq:bN:=⟨[(1,tI),(2,tI),(8,.lf (.own 1000000000112000)),(30,.lf (.own 1000000000112000)),(31,tI),(32,tI)],Wp,[]⟩
abbrev Eb:aa Lm:=[.int .i64,.int .i64,.int .i64,.int .i64,.int .i64,.aI .int 0,.int .i64,.int .i64]
abbrev OT:aa Lm:=[.int .i64,.own 90101]
abbrev adr:aa (Nat×Rm):=[(2,.aD jD),(4,.aD OT),(6,.aD [.int .i64,.own 90201]),(90101,.sl .int 2),(90201,.sl .int 2)]
abbrev Wq:aa (Nat×Rm):=[(1,.st .eU),(2,.aD jD),(1000000000117000,.sl .int 2),(5,.aD jD)]
abbrev qz:bN:=⟨[],[],[]⟩
abbrev ads:aa Gp:=[(20000,.eU,4,[60033,60041,60046,60048,60049,60050,60051,60052,60054,60055,60058,60059,1000000000141000,60061,60062,60072,60073,60074])]
abbrev adt:aa Gp:=[(2,.eU,4,OQ)]
abbrev adu:aa (Nat×Rm):=[(2,.aD [.own 90100,.own 90101]),(3,.aD [.own 13,.own 90201]),(90100,.sl .int 2),(90101,.sl .int 2),(13,.sl .int 2),(90201,.sl .int 2)]
abbrev Ci:aa (Bool×TC×Nat):=[(false,(.sl .int),2)]
abbrev Gx:bN:=⟨[(5,tI)],[],[]⟩
abbrev adw:bN:=⟨[(0,.lf (.aI .int 0)),(3,.lf (.own 10)),(12,tI),(13,tI)],[(10,.sl .int 2)],[]⟩
abbrev Wr:aa (Bool×TC):=[(true,.iq),(true,.tW),(false,.int),(false,.int)]
abbrev adx:bN:=⟨[(0,tI),(1,.lf (.aI .dY 0)),(9,.lf (.aI .dY 0)),(10,tI),(11,tI)],[],[]⟩
abbrev xH:bN:=⟨[(4,tB)],[],[]⟩
abbrev Cj:bN:=⟨[(2,tB)],[],[]⟩
abbrev Ec:bN:=⟨[(4,tI)],[],[]⟩
abbrev Ws:aa Lm:=[.aI .rR 0,.int .i64]
abbrev Wt:aa (Nat×Rm):=[(3,.aD Ws),(1000000000115000,.sl .int 2)]
abbrev vE:aa (Bool×TC):=[(false,.int)]
abbrev Cl:aa (Bool×TC):=[(false,(.sl .int))]
abbrev ady:bN:=⟨[(1,.aL 1 0),(2,.aL 2 0),(4,.lf (.own 1000000000117000)),(5,.aL 5 0)],Wq,[]⟩
abbrev adz:aa (Nat×Rm):=[(3,.st .eU),(6,.aD jD),(8,.aD Eb),(81,.sl .bool 2),(142,.sl .Command 2),(146,.sl .bool 2)]
abbrev adA:bN:=⟨[(0,tI),(1,.lf (.aI .dY 0)),(5,.aL 5 0),(8,tI)],[(5,.aD Km)],[]⟩
abbrev OU:aa (Bool×TC):=[(false,(.sl .int)),(false,.int)]
abbrev AM:aa (Bool×TC):=[(true,.iq)]
abbrev AN:aa (Bool×TC):=[(true,.eU)]
abbrev adB:bN:=⟨[(1,tI),(2,.aL 2 0),(4,.aL 4 0),(6,.aL 6 0),(7,tI)],adr,[]⟩
abbrev adC:aa (Nat×Tm):=[(2,.aL 20000 50),(12,tI),(75,.lf (.own 1000000000175000)),(76,tI),(77,tI)]
abbrev OV:aa (Bool×TC×Nat):=[(true,.eU,4),(false,.bool,0)]
abbrev Wu:aa (Nat×Rm):=[(98000,.sl .Addr 1000002)]
abbrev adD:bN:=⟨[(0,.lf (.own 98000)),(5,tI)],Wu,[]⟩
abbrev adE:bN:=⟨[(1,tI),(2,tI),(8,.lf (.own 1000000000112000))],Wp,[]⟩
abbrev OW:aa (Bool×TC):=[(false,.int),(false,.int)]
abbrev Ed:aa PK:=[.p .uX 0 0]
abbrev adF:aa Gp:=[(4,.eU,4,OQ),(7,.eU,4,[1000000000133005,1000000000133013,1000000000120000,1000000000122000,1000000000122001,1000000000124000,1000000000124001,1000000000124002,1000000000141001,1000000000150000,90258,90259,90260,90261,1000000000157000,90272,90273,90274])]
abbrev Wv:aa Lm:=[.int .i64,.aI .int 0]
abbrev adG:bN:=⟨[(2,.aL 2 0),(3,.aL 3 0),(7,tI),(8,tI)],[(2,.aD jD),(3,.aD Wv)],[]⟩
abbrev Kn:aa Lm:=[.aI .int 0,.aI .int 0]
abbrev Ww:aa (Nat×Rm):=[(3,.aD [.aI .Cell 0,.aI .int 0,.aI .int 0])]
abbrev adH:bN:=⟨[(0,.lf (.aI .kE 0)),(7,.lf (.aI .kE 0)),(8,tI),(9,tI)],[],[]⟩
abbrev adJ:bN:=⟨[(6,.lf (.own 1000000000112000)),(7,tB)],Wp,[]⟩
abbrev adK:aa (Nat×Rm):=[(3,.st .eU),(6,.aD jD),(8,.aD Eb),(38,.sl .bool 2)]
abbrev adL:aa (Nat×Rm):=[(4,.st .eU),(7,.aD jD),(8,.aD jD),(16,.sl .bool 2)]
abbrev adM:bN:=⟨[(2,.aL 2 0),(3,tI)],[(2,.aD jD)],[]⟩
abbrev Wx:aa (Nat×Rm):=[(1,.st .eU),(3,.aD jD)]
abbrev Wy:aa (Bool×TC×Nat):=[(true,.uW,2),(false,.bool,0)]
abbrev Wz:aa PK:=[.p .uX 0 0,.v false .int]
abbrev WA:aa PK:=[.p .eU 4 0,.v false .int]
abbrev WB:aa (Nat×Tm):=[(2,.aL 2 0),(3,.aL 3 0)]
abbrev adN:aa (Bool×TC):=[(false,.int),(false,(.sl .dY)),(false,(.sl .mw))]
abbrev WC:aa (Bool×TC):=[(true,.iq),(false,.int)]
abbrev adO:aa PK:=[.p .uX 0 0,.v true .Config,.v false .int]
abbrev adP:aa PK:=[.p .eU 4 0,.v false .int,.v false .int]
abbrev adQ:aa Lm:=[.int .i64,.own 1000000000136001]
abbrev adR:bN:=⟨[(0,tI),(3,tI)],[],[]⟩
abbrev adS:aa Lm:=[.own 20001,.int .i64,.int .i64]
abbrev adT:aa Lm:=[.int .i64,.int .i64,.int .i64]
abbrev WD:aa Lm:=[.int .i64,.own 15]
def WE(C:aa Int):ah (Bool):=some ((C.length:Int) > 1048576)
def aon:=bX [(false,(.sl .u8))] eW (cR WE) 6 [] func4
abbrev adU:=((aj×Int×Int×aj)×((aa Int)×aj))
def Ko(x:adU):ah (adU⊕(((aj×Int×aj)×((aa Int)×aj))⊕Empty)):=letI u1:=x.1.2.2.1;letI C:=aM (((),x.1.2.1,()),(x.2.1,()));bif u1<(x.2.1.length:Int)then bif u1<4000 then xI x.2.1 u1 λD=>xG (((),(bits .and .i64 (W6 ((W6 ((W6 (x.1.2.1*131))+(W6 D)))+7)) 1073741823),(W6 (u1+1)),()),(x.2.1,()))else C else C
def adV:KY 32 (bG f12):=⟨0,lB 0 ⟨[(0,.lf (.own 20000)),(3,tI),(4,tI)],[(20000,.sl .u8 0)],[]⟩ [(2,⟨[(0,.lf (.own 20000)),(3,tI)],[(20000,.sl .u8 0)],[]⟩)] Ko,lp []⟩
def Kp(C:aa Int):ah Int:=bZ Ko (((),(W6 (97301+(C.length:Int))),0,()),(C,())) λD=>some D.1.2.1
def aoo:enters Tryz.prog 12/\NR Tryz.prog 12 Kp:=anQ (N:=32) (fn:=f12) (code:=bG f12) (Φ:=(oe [])) (Λ:=(lG [(0,adV.b)])) func12 (by kernel_rfl) (by kernel_rfl) (by kernel_rfl) (by kernel_rfl) (by kernel_rfl) (xD _ trivial) (Wi (by kernel_rfl) _ ⟨⟨_,by kernel_rfl,adV.ok⟩,trivial⟩) (λl=>by kernel_rfl)
def Cm(C:bH):ah ((Int)×(bH×aj)):=letI D:=W6 ((W6 (C.h*6364136223846793005))+1442695040888963407);letI u1:=bits .and .i64 (bits .xor .i64 (D.fdiv (2 ^ (min (33:Int).toNat IntKind.i64.bits))) (D.fdiv (2 ^ (min (45:Int).toNat IntKind.i64.bits)))) 255;bif C.i<(C.b.length:Int)then xI C.b C.i λE=>some ((bits .and .i64 (W6 (u1+(W6 E))) 255),((⟨C.b,(W6 (C.i+1)),D⟩:bH),()))else some (u1,((⟨C.b,C.i,D⟩:bH),()))
def aop:=qx Ed iz (cR Cm) 58 [] func103
def ga(C:bH)(D:Int):ah ((Int)×(bH×aj)):=bif D <= 0 then some (0,(C,()))else bif D <= 256 then (Cm C).bind λE=>if D=0 then none else some ((E.1.tmod D),((⟨C.b,E.2.1.i,E.2.1.h⟩:bH),()))else (Cm C).bind λI=>(Cm (⟨C.b,I.2.1.i,I.2.1.h⟩:bH)).bind λO=>(Cm (⟨C.b,O.2.1.i,O.2.1.h⟩:bH)).bind λT=>(Cm (⟨C.b,T.2.1.i,T.2.1.h⟩:bH)).bind λU=>if D=0 then none else some (((W6 ((W6 ((W6 ((W6 (I.1*16777216))+(W6 (O.1*65536))))+(W6 (T.1*256))))+U.1)).tmod D),((⟨C.b,U.2.1.i,U.2.1.h⟩:bH),()))
def vF:=qx Wz iz (dH ga) 37 [aop] func46
def OX(C:bH):ah ((aK)×(bH×aj)):=(ga C 2).bind λD=>(ga (⟨C.b,D.2.1.i,D.2.1.h⟩:bH) 3).bind λE=>(ga (⟨C.b,E.2.1.i,E.2.1.h⟩:bH) 2).bind λI=>some ((⟨1,(W6 (1+D.1)),(W6 (2+E.1)),(W6 (1+I.1))⟩:aK),((⟨C.b,I.2.1.i,I.2.1.h⟩:bH),()))
def aoq:=qx Ed [(true,.iq,0)] (cR OX) 13 [vF] func43
def adW  : ah (dw):=some (⟨3,3,7,2,3,10,2,3,3,6,4,5,4,12,3,4,16⟩:dw)
def aor:=bX [] [(true,.oG,0)] (xU0 adW) 2 [] func44
def Ee(D:bH)(E:Int):ah ((Bool)×(bH×aj)):=(ga D E).bind λC=>some ((C.1==0),((⟨D.b,C.2.1.i,C.2.1.h⟩:bH),()))
def OY:=qx Wz eW (dH Ee) 9 [vF] func47
def OZ(C:bH):ah ((rQ)×(bH×aj)):=(ga C 3).bind λD=>(Ee (⟨C.b,D.2.1.i,D.2.1.h⟩:bH) 2).bind λE=>some ((⟨D.1,E.1⟩:rQ),((⟨C.b,E.2.1.i,E.2.1.h⟩:bH),()))
def aos:=qx Ed [(true,.yo,0)] (cR OZ) 8 [vF,OY] func45
def O0(D:bH):ah ((fB)×(bH×aj)):=(OX D).bind λE=>(adW).bind λC=>(OZ (⟨D.b,E.2.1.i,E.2.1.h⟩:bH)).bind λI=>(ga (⟨D.b,I.2.1.i,I.2.1.h⟩:bH) 60).bind λZ=>letI O:=W6 (200+Z.1);(ga (⟨D.b,Z.2.1.i,Z.2.1.h⟩:bH) 3).bind λT=>(ga (⟨D.b,T.2.1.i,T.2.1.h⟩:bH) 2).bind λU=>(ga (⟨D.b,U.2.1.i,U.2.1.h⟩:bH) 3).bind λY=>(Ee (⟨D.b,Y.2.1.i,Y.2.1.h⟩:bH) 3).bind λy8=>letI u1:=(⟨D.b,y8.2.1.i,y8.2.1.h⟩:bH);bif y8.1 then (ga u1 5).bind λy9=>(ga (⟨D.b,y9.2.1.i,y9.2.1.h⟩:bH) 4).bind λsx=>some ((⟨⟨(W6 (1+U.1)),E.1.aO,(W6 (4+T.1)),E.1.aW⟩,⟨C.uV,C.rp,C.lM,C.wu,C.sV,C.nR,C.wz,C.wA,(W6 (1+sx.1)),(W6 (4+y9.1)),C.wC,C.wD,C.zF,C.yl,C.ym,C.xp,C.xs⟩,I.1,Y.1,O,16,⟨(W6 (6*O)),40⟩⟩:fB),((⟨D.b,sx.2.1.i,sx.2.1.h⟩:bH),()))else some ((⟨⟨(W6 (1+U.1)),E.1.aO,(W6 (4+T.1)),E.1.aW⟩,C,I.1,Y.1,O,16,⟨(W6 (6*O)),40⟩⟩:fB),(u1,()))
def aot:=qx Ed [(true,.Config,0)] (cR O0) 44 [aoq,aor,aos,vF,OY] func13
def adX  : ah (fA):=some (⟨0,60,8,2,6,([1,1,1,1]:aa Int),⟨20,400⟩⟩:fA)
def aou:=bX [] [(true,.oH,2)] (xU0 adX) 4 [] func104
def Cn(D:bH)(E:aa Int):ah ((Int)×(bH×aj)):=(ga D (E.length:Int)).bind λC=>xI E C.1 λI=>some (I,((⟨D.b,C.2.1.i,C.2.1.h⟩:bH),()))
def WG:=qx [.p .uX 0 0,.v false (.sl .int)] iz (dH Cn) 12 [vF] func105
def O1(C:bH):ah ((fA)×(bH×aj)):=(adX).bind λy1=>(ga C 2).bind λI=>(Cn (⟨C.b,I.2.1.i,I.2.1.h⟩:bH) ([0,10,60,200]:aa Int)).bind λO=>(ga (⟨C.b,O.2.1.i,O.2.1.h⟩:bH) 6).bind λT=>(ga (⟨C.b,T.2.1.i,T.2.1.h⟩:bH) 3).bind λD=>(ga (⟨C.b,D.2.1.i,D.2.1.h⟩:bH) 4).bind λU=>(ga (⟨C.b,U.2.1.i,U.2.1.h⟩:bH) 4).bind λE=>(ga (⟨C.b,E.2.1.i,E.2.1.h⟩:bH) 4).bind λY=>xL y1.weights E.1 λe11=>(ga (⟨C.b,Y.2.1.i,Y.2.1.h⟩:bH) 20).bind λZ=>(ga (⟨C.b,Z.2.1.i,Z.2.1.h⟩:bH) 60).bind λo7=>some ((⟨I.1,O.1,(W6 (3+T.1)),D.1,(W6 ((W6 (D.1+1))+U.1)),(y1.weights.set E.1.toNat (W6 (1+Y.1))),⟨(W6 (5+Z.1)),(W6 (60+o7.1))⟩⟩:fA),((⟨C.b,o7.2.1.i,o7.2.1.h⟩:bH),()))
def aov:=qx Ed [(true,.oH,2)] (cR O1) 43 [vF,aou,WG] func48
def Kq(D:bH):ah ((fA)×(bH×aj)):=(O1 D).bind λC=>(ga (⟨D.b,C.2.1.i,C.2.1.h⟩:bH) 10).bind λE=>some ((⟨C.1.gA,C.1.cap,(W6 (8+E.1)),C.1.low,C.1.high,C.1.weights,C.1.eT⟩:fA),((⟨D.b,E.2.1.i,E.2.1.h⟩:bH),()))
def adY:=qx Ed [(true,.oH,2)] (cR Kq) 11 [vF,aov] func14
def Gy(C D E:Int):ah (Bool):=bif C >= D then some (C <= E)else some false
def aow:=bX [(false,.int),(false,.int),(false,.int)] eW (jC Gy) 15 [] func102
def Kr(C:aK):ah (Bool):=(Gy C.cN 1 2).bind λD=>bif D then (Gy C.aO 1 4).bind λE=>bif E then (Gy C.rows 2 16).bind λI=>bif I then (Gy C.aW 1 8).bind λO=>some O else some false else some false else some false
def adZ:=bX AM eW (cR Kr) 21 [aow] func40
def Gz(C:aK):ah (Int):=(Kr C).bind λD=>bif (!D)then some 0 else some (W6 (C.cN*C.aO))
def WH:=bX AM iz (cR Gz) 11 [adZ] func41
def Ks(C:aK):ah (Int):=(Kr C).bind λD=>bif (!D)then some 0 else (Gz C).bind λE=>some (W6 ((W6 (E*C.rows))*C.aW))
def ad0:=bX AM iz (cR Ks) 14 [adZ,WH] func10
def O2(C:bH)(D:aK):ah ((aN)×(bH×aj)):=(Gz D).bind λT=>(ga C T).bind λE=>(ga (⟨C.b,E.2.1.i,E.2.1.h⟩:bH) D.rows).bind λI=>(ga (⟨C.b,I.2.1.i,I.2.1.h⟩:bH) D.aW).bind λO=>some ((⟨E.1,I.1,O.1⟩:aN),((⟨C.b,O.2.1.i,O.2.1.h⟩:bH),()))
def aox:=qx [.p .uX 0 0,.v true .iq] [(true,.Addr,0)] (dH O2) 18 [WH,vF] func106
def O3(C:bH):ah ((Int)×(bH×aj)):=(ga C 4).bind λD=>letI E:=(⟨C.b,D.2.1.i,D.2.1.h⟩:bH);bif (D.1==0)then (Cn E ([0,1,4294967295,2147483648,65536,305419896]:aa Int)).bind λI=>some (I.1,((⟨C.b,I.2.1.i,I.2.1.h⟩:bH),()))else bif (D.1==1)then (ga E 200).bind λO=>some (O.1,((⟨C.b,O.2.1.i,O.2.1.h⟩:bH),()))else (ga E 65536).bind λT=>(ga (⟨C.b,T.2.1.i,T.2.1.h⟩:bH) 65536).bind λU=>some ((W6 ((W6 (T.1*65536))+U.1)),((⟨C.b,U.2.1.i,U.2.1.h⟩:bH),()))
def aoy:=qx Ed iz (cR O3) 20 [vF,WG] func138
def O4(C:bH)(Z:Int):ah ((aR)×(bH×aj)):=(ga C 60).bind λD=>(ga (⟨C.b,D.2.1.i,D.2.1.h⟩:bH) 3).bind λE=>(ga (⟨C.b,E.2.1.i,E.2.1.h⟩:bH) Z).bind λI=>(ga (⟨C.b,I.2.1.i,I.2.1.h⟩:bH) 50).bind λO=>(Ee (⟨C.b,O.2.1.i,O.2.1.h⟩:bH) 2).bind λT=>letI Y:=(⟨C.b,T.2.1.i,T.2.1.h⟩:bH);bif T.1 then (O3 Y).bind λU=>some ((⟨(W6 (1+D.1)),E.1,I.1,true,U.1,O.1⟩:aR),((⟨C.b,U.2.1.i,U.2.1.h⟩:bH),()))else some ((⟨(W6 (1+D.1)),E.1,I.1,false,0,O.1⟩:aR),(Y,()))
def aoz:=qx Wz [(true,.dY,0)] (dH O4) 24 [vF,OY,aoy] func107
def O5(C:bH)(D:fB)(x2:Int):ah ((jk)×(bH×aj)):=letI u3:=W6 (D.aq.rows-D.cc);(Ks D.aq).bind λy1=>if D.aq.rows=0 then none else (let T:Int -> Int -> Int -> Int -> Bool -> Int -> Int -> Int -> Int -> Int -> Int -> Int -> Int -> Int -> ah ((jk)×(bH×aj)):=λWI j19 Kt O6 j22 j23 j24 j25 j26 WJ O7 O8 O9 j31=>some ((⟨WI,⟨j19,Kt,O6,j22,j23,j24⟩,j25,j26,⟨WJ,O7,O8⟩,⟨0,0,0,0,0,[],⟨0,0⟩⟩⟩:jk),((⟨C.b,O9,j31⟩:bH),()));(ga C 12).bind λE=>letI U:=(⟨C.b,E.2.1.i,E.2.1.h⟩:bH);(let Ku:Bool -> ah ((jk)×(bH×aj)):=λj3=>bif j3 then (Cn U ([1,3,10,20,40]:aa Int)).bind λY=>(T 2 0 0 0 false 0 0 Y.1 0 0 0 0 Y.2.1.i Y.2.1.h)else bif (E.1==2)then (O2 U D.aq).bind λI=>(ga (⟨C.b,I.2.1.i,I.2.1.h⟩:bH) 11).bind λZ=>(ga (⟨C.b,Z.2.1.i,Z.2.1.h⟩:bH) 16).bind λy7=>(T 3 0 0 0 false 0 0 y7.1 Z.1 I.1.aA I.1.row I.1.cu y7.2.1.i y7.2.1.h)else bif (E.1==3)then (Cn U ([4,5,6,2]:aa Int)).bind λy8=>(ga (⟨C.b,y8.2.1.i,y8.2.1.h⟩:bH) 2).bind λy9=>(Gz D.aq).bind λsx=>(ga (⟨C.b,y9.2.1.i,y9.2.1.h⟩:bH) sx).bind λsy=>(ga (⟨C.b,sy.2.1.i,sy.2.1.h⟩:bH) u3).bind λCo=>(Kq (⟨C.b,Co.2.1.i,Co.2.1.h⟩:bH)).bind λo7=>some ((⟨y8.1,⟨0,0,0,false,0,0⟩,y9.1,0,⟨sy.1,Co.1,0⟩,o7.1⟩:jk),((⟨C.b,o7.2.1.i,o7.2.1.h⟩:bH),()))else (O4 U (W6 ((W6 (y1.tdiv D.aq.rows))*u3))).bind λru=>letI u2:=ru.1;(Ee (⟨C.b,ru.2.1.i,ru.2.1.h⟩:bH) 2).bind λO=>letI u1:=T 1 x2 u2.cS u2.line u2.write u2.data u2.at_ 0 0 0 0 0 O.2.1.i O.2.1.h;bif O.1 then (ga (⟨C.b,O.2.1.i,O.2.1.h⟩:bH) 3).bind λtD=>(T 1 x2 u2.cS tD.1 u2.write u2.data u2.at_ 0 0 0 0 0 tD.2.1.i tD.2.1.h)else u1;bif (E.1==0)then (Ku (E.1==0))else (Ku (E.1==1))))
def aoA:=qx adO [(true,.Act,2)] (jC O5) 87 [ad0,adY,WH,vF,OY,WG,aox,aoz] func49
abbrev ad1:=((aj×Int×aj×aj×Int×aj)×((aj×Int×Int×aj)×fB×(aa jk)×(aa Int)×aj))
def Kv(x:ad1):ah (ad1⊕(((aj×aj)×((aa jk)×(aj×Int×Int×aj)×(aa Int)×aj))⊕Empty)):=letI u1:=x.1.2.2.2.2.1;letI C:=x.2.2.2;(ga (⟨C.2.1,x.2.1.2.1,x.2.1.2.2.1⟩:bH) (W6 (x.1.2.1+1))).bind λD=>bif u1<D.1 then (O5 (⟨C.2.1,D.2.1.i,D.2.1.h⟩:bH) x.2.2.1 (W6 (u1+1))).bind λE=>bif cB (C.1.length+[E.1].length)then xG (((),x.1.2.1,(),(),(W6 (u1+1)),()),(((),E.2.1.i,E.2.1.h,()),x.2.2.1,(C.1++[E.1]),C.2.1,()))else none else aM (((),()),(C.1,((),D.2.1.i,D.2.1.h,()),C.2.1,()))
def aoB:KY 27 (bG f15):=⟨0,lB 0 ⟨[(0,.aL 20000 0),(2,tI),(4,.aL 4 0),(7,.lf (.own 9)),(8,tI)],[(20000,.aD adS),(4,.st .Config),(9,.sl .Act 4),(20001,.sl .u8 0)],[]⟩ [(2,⟨[(7,.lf (.own 9))],[(9,.sl .Act 4),(20000,.aD adS),(20001,.sl .u8 0)],[]⟩)] Kv,lp [vF,aoA]⟩
def Pa(C:bH)(E:fB)(I:Int):ah (((aa jk))×(bH×aj)):=bZ Kv (((),I,(),(),0,()),(((),C.i,C.h,()),E,([]:aa jk),C.b,())) λD=>some (D.2.1,((⟨C.b,D.2.2.1.2.1,D.2.2.1.2.2.1⟩:bH),()))
def aoC:=Gw adO [(false,(.sl .Act),4)] (jC Pa) 27 [] [aoB] func15
def aoD:bN:=⟨[(2,.aL 2 0),(3,.aL 3 0),(6,.aL 6 0),(7,.aL 7 0),(8,.lf (.own 1000000000118000)),(9,tI)],zz8,[]⟩
def aoE:aa (Nat×bN):=[(2,⟨[(2,.aL 2 0),(3,.aL 3 0),(6,.aL 6 0),(7,.aL 7 0),(8,.lf (.own 1000000000118000))],zz8,[]⟩)]
abbrev ad2:=((aj×aj×aj×aj×aj×Int×aj)×(fB×(Int×Int×Int×Int×Int×aj×Int×Int×aj)×fB×(Int×Int×Int×Int×Int×aj×Int×Int×aj)×(aa jk)×(aa Int)×(aa Int)×aj))
def Kw(x:ad2):ah (ad2⊕(((aj×aj×aj×aj×aj×aj)×(fB×(Int×Int×Int×Int×Int×aj×Int×Int×aj)×fB×(Int×Int×Int×Int×Int×aj×Int×Int×aj)×(aa jk)×(aa Int)×(aa Int)×aj))⊕Empty)):=letI u4:=x.2.2.2;letI u1:=x.1.2.2.2.2.2.1;letI u3:=((),(),(),(),(),(W6 (u1+1)),());letI C:=u4.2.2;letI u2:=(x.2.1,x.2.2.1,u4.1,u4.2.1,C.1,C.2.1,C.2.2.1,());bif u1<(C.1.length:Int)then xL C.1 u1 λD=>bif (D.kind==3)then xL C.1 u1 λE=>xG (u3,(x.2.1,x.2.2.1,u4.1,u4.2.1,(C.1.set u1.toNat (⟨2,⟨0,0,0,false,0,0⟩,5,0,⟨0,0,0⟩,⟨0,0,0,0,0,[],⟨0,0⟩⟩⟩:jk)),C.2.1,C.2.2.1,()))else xG (u3,u2)else aM (((),(),(),(),(),()),u2)
def aoF:KY 38 (bG f5):=⟨0,lB 0 aoD aoE Kw,lp []⟩
def Pb(E:aa Int):ah (fB×fA×(aa jk)):=(Kp E).bind λT=>(O0 (⟨E,0,T⟩:bH)).bind λI=>(Kq (⟨E,I.2.1.i,I.2.1.h⟩:bH)).bind λC=>(Pa (⟨E,C.2.1.i,C.2.1.h⟩:bH) I.1 30).bind λU=>bZ Kw (((),(),(),(),(),0,()),((⟨⟨0,0,0,0⟩,⟨0,0,0,0,0,0,0,0,0,0,0,0,0,0,0,0,0⟩,⟨0,false⟩,0,0,0,⟨0,0⟩⟩:fB),(0,0,0,0,0,(),0,0,()),I.1,(C.1.gA,C.1.cap,C.1.dx,C.1.low,C.1.high,(),C.1.eT.down,C.1.eT.sleep,()),U.1,([]:aa Int),C.1.weights,())) λO=>letI D:=O.2.2.2.2;letI u1:=D.1.2.2;some (O.2.2.2.1,(⟨D.1.1,D.1.2.1,u1.1,u1.2.1,u1.2.2.1,D.2.2.2.1,⟨u1.2.2.2.2.1,u1.2.2.2.2.2.1⟩⟩:fA),D.2.1)
def aoG:=dV [(false,(.sl .u8))] [(true,.Config,0),(true,.oH,2),(false,(.sl .Act),4)] (cR Pb) 38 [⟨12,.n Kp,aoo⟩,aot,adY,aoC] [aoF] func5
def bY(C D E:Int):ah (Bool):=bif C >= D then some (C <= E)else some false
def dS:=bX [(false,.int),(false,.int),(false,.int)] eW (jC bY) 15 [] func30
def sA(C:aK):ah (Bool):=(bY C.cN 1 2).bind λD=>bif D then (bY C.aO 1 4).bind λE=>bif E then (bY C.rows 2 16).bind λI=>bif I then (bY C.aW 1 8).bind λO=>some O else some false else some false else some false
def vG:=bX AM eW (cR sA) 21 [dS] func53
def mK(C:aK):ah (Int):=(sA C).bind λD=>bif (!D)then some 0 else some (W6 (C.cN*C.aO))
def o8:=bX AM iz (cR mK) 11 [vG] func23
abbrev ad3:=((Int×aj×aj×aj×Int×Int×aj)×((Int×Int×Int×Int×aj)×(Int×aj×aj)×(Int×aj×aj)×(aa Int)×(aa Int)×aj))
def GA(x:ad3):ah (ad3⊕(((Int×aj×aj×aj×Int×aj)×((Int×Int×Int×Int×aj)×(Int×aj×aj)×(Int×aj×aj)×(aa Int)×(aa Int)×aj))⊕Empty)):=letI u1:=x.2.2.2;letI C:=x.1.2.2.2.2;bif C.2.1<(W6 (x.2.1.2.2.1-x.1.1))then bif cB (u1.2.2.1.length+([C.2.1]:aa Int).length)then xG ((x.1.1,(),(),(),C.1,(W6 (C.2.1+1)),()),(x.2.1,x.2.2.1,u1.1,u1.2.1,(u1.2.2.1++([C.2.1]:aa Int)),()))else none else aM ((x.1.1,(),(),(),C.1,()),(x.2.1,x.2.2.1,u1.1,u1.2.1,u1.2.2.1,()))
def aoH:KY 48 (Cf (bG f21) 0):=⟨2,lB 2 ⟨[(1,tI),(2,.aL 2 0),(4,.aL 4 0),(6,.aL 6 0),(7,tI),(8,tI)],adr,[]⟩ [(4,adB)] GA,lp []⟩
abbrev ad4:=((Int×aj×aj×aj×Int×aj)×((Int×Int×Int×Int×aj)×(Int×aj×aj)×(Int×aj×aj)×(aa Int)×(aa Int)×aj))
def Kx(x:ad4):ah (ad4⊕(((aj×aj×aj)×((Int×aj×aj)×(Int×aj×aj)×(aa Int)×(aa Int)×aj))⊕Empty)):=letI D:=x.2.2.2;(mK (⟨x.2.1.1,x.2.1.2.1,x.2.1.2.2.1,x.2.1.2.2.2.1⟩:aK)).bind λE=>bif x.1.2.2.2.2.1<E then bZ GA ((x.1.1,(),(),(),x.1.2.2.2.2.1,0,()),(x.2.1,x.2.2.1,D.1,D.2.1,D.2.2.1,())) λC=>xG ((C.1.1,(),(),(),(W6 (C.1.2.2.2.2.1+1)),()),(C.2.1,C.2.2.1,C.2.2.2.1,C.2.2.2.2.1,C.2.2.2.2.2.1,()))else aM (((),(),()),(x.2.2.1,D.1,D.2.1,D.2.2.1,()))
def aoI:KY 48 (bG f21):=⟨0,lB 0 adB [(2,⟨[(4,.aL 4 0),(6,.aL 6 0)],[(4,.aD OT),(6,.aD [.int .i64,.own 90201]),(90101,.sl .int 2),(90201,.sl .int 2)],[]⟩)] Kx,lq [o8] [aoH]⟩
def GB(C:aK)(D:Int):ah (gv×Bool):=letI E:=some ((⟨0,[]⟩:gv),false);(sA C).bind λO=>bif (!O)then E else (bY D 0 2).bind λT=>bif (!T)then E else bif (W6 (C.rows-D))<2 then E else bZ Kx ((D,(),(),(),0,()),((C.cN,C.aO,C.rows,C.aW,()),(0,(),()),(D,(),()),([]:aa Int),([]:aa Int),())) λI=>some ((⟨I.2.2.1.1,I.2.2.2.2.1⟩:gv),true)
def WK:=dV WC [(true,.tW,2),(false,.bool,0)] (dH GB) 48 [dS,vG] [aoI] func21
abbrev ad5:=((aj×aj×Int×Int×aj)×(dw×(aa Int)×aj))
def GC(x:ad5):ah (ad5⊕(((Bool×aj)×(aj))⊕(((aj×aj)×(dw×aj))⊕Empty))):=letI C:=x.1.2.2;bif C.2.1<C.1 then xL x.2.2.1 C.2.1 λD=>(bY D 1 64).bind λE=>bif (!E)then aM ((false,()),())else xG (((),(),C.1,(W6 (C.2.1+1)),()),(x.2.1,x.2.2.1,()))else bU (((),()),(x.2.1,()))
def aoJ:KY 75 (bG f108):=⟨0,lB 0 ⟨[(1,.aL 1 0),(39,.lf (.own 39)),(40,tI),(41,tI)],[(1,.st .oG),(39,.sl .int 2)],[]⟩ [(1,Cj),(2,⟨[(1,.aL 1 0)],[(1,.st .oG)],[]⟩)] GC,lp [dS]⟩
def GD(C:dw):ah (Bool):=letI D:=([C.uV,C.rp,C.lM,C.wu,C.sV,C.nR,C.wz,C.wA,C.qN,C.wr,C.wC,C.wD,C.zF,C.yl,C.ym,C.xp,C.xs]:aa Int);dI GC (((),(),(D.length:Int),0,()),(C,D,())) (λE=>some E.1.1) λI=>letI u1:=I.2.1;bif u1.uV <= u1.lM then bif u1.wu <= u1.sV then bif u1.wz <= u1.wA then some (u1.wC <= u1.wD)else some false else some false else some false
def WL:=dV [(true,.oG)] eW (cR GD) 75 [] [aoJ] func108
def Ky(C:rQ):ah (Bool):=(bY C.order 0 2).bind λD=>some D
def ad6:=bX [(true,.yo)] eW (cR Ky) 6 [dS] func109
def Ef(C:dw):ah (Int):=(GD C).bind λD=>bif (!D)then some 0 else some (W6 (2*(W6 ((W6 ((W6 ((W6 ((W6 ((W6 ((W6 ((W6 ((W6 (C.ym+C.xp))+C.lM))+C.wr))+C.qN))+C.rp))+C.yl))+C.uV))+(W6 (8*C.sV))))+16))))
def aoK:=bX [(true,.oG)] iz (cR Ef) 35 [WL] func110
def Pc(C:fB):ah (Bool):=(GB C.aq C.cc).bind λD=>(sA C.aq).bind λE=>bif E then (GD C.bP).bind λI=>bif I then (Ky C.mapping).bind λO=>bif O then bif D.2 then (Ef C.bP).bind λT=>(bY C.interval T 10000).bind λU=>bif U then (bY C.jj 1 16).bind λY=>bif Y then (bY C.dX.bx (W6 (6*C.interval)) 100000).bind λZ=>bif Z then (bY C.dX.bg 0 100000).bind λy9=>some y9 else some false else some false else some false else some false else some false else some false else some false
def aoL:=bX [(true,.Config)] eW (cR Pc) 57 [WK,dS,vG,WL,ad6,aoK] func50
abbrev ad7:=(((aa dz)×(aa dz)×Int×Int×aj)×(aj))
def Kz(x:ad7):ah (ad7⊕(((Bool×aj)×(aj))⊕((((aa dz)×aj)×(aj))⊕Empty))):=letI C:=x.1.2.2;bif C.2.1<C.1 then xI x.1.2.1 C.2.1 λD=>(bY D.weight 1 9).bind λE=>bif (!E)then aM ((false,()),())else (bY D.eS 0 D.weight).bind λI=>bif (!I)then aM ((false,()),())else xG ((x.1.1,x.1.2.1,C.1,(W6 (C.2.1+1)),()),())else bU ((x.1.1,()),())
def aoM:KY 27 (bG f57):=⟨0,lB 0 ⟨[(0,.lf (.aI .jW 0)),(5,.lf (.aI .jW 0)),(6,tI),(7,tI)],[],[]⟩ [(1,Cj),(2,⟨[(0,.lf (.aI .jW 0))],[],[]⟩)] Kz,lp [dS]⟩
def GF(C:aa dz):ah (Bool):=dI Kz ((C,C,(C.length:Int),0,()),()) (λD=>some D.1.1) λE=>(bY (E.1.1.length:Int) 1 4).bind λI=>some I
def WM:=dV [(false,(.sl .jW))] eW (cR GF) 27 [dS] [aoM] func57
abbrev ad8:=((aj×(aa Int)×Int×Int×aj)×((aa dz)×aj))
def KA(x:ad8):ah (ad8⊕(((aj×aj)×((aa dz)×aj))⊕Empty)):=letI u1:=x.1.2.2;bif u1.2.1<u1.1 then xI x.1.2.1 u1.2.1 λC=>letI D:=([(⟨C,C⟩:dz)]:aa dz);bif cB (x.2.1.length+D.length)then xG (((),x.1.2.1,u1.1,(W6 (u1.2.1+1)),()),((x.2.1++D),()))else none else aM (((),()),(x.2.1,()))
def aoN:KY 25 (bG f24):=⟨0,lB 0 ⟨[(4,.lf (.own 7)),(8,.lf (.aI .int 0)),(9,tI),(10,tI)],[(7,.sl .jW 2)],[]⟩ [(2,⟨[(4,.lf (.own 7))],[(7,.sl .jW 2)],[]⟩)] KA,lp []⟩
def AO(C:aa Int):ah ((aa dz)×Bool):=bZ KA (((),C,(C.length:Int),0,()),(([]:aa dz),())) λD=>(GF D.2.1).bind λE=>bif (!E)then some ([],false)else some (D.2.1,true)
def WN:=dV Cl [(false,(.sl .jW),2),(false,.bool,0)] (cR AO) 25 [WM] [aoN] func24
def Eg(C:m0):ah (Bool):=bif C.low >= 0 then bif C.low<C.high then some (C.high <= 12)else some false else some false
def Pd:=bX [(true,.wF)] eW (cR Eg) 18 [] func79
def KB(C:zG):ah (Bool):=(bY C.down 1 10000).bind λD=>bif D then bif C.sleep > C.down then some (C.sleep <= 20000)else some false else some false
def ad9:=bX [(true,.zI)] eW (cR KB) 18 [dS] func111
def GG(C:fA):ah (Bool):=(AO C.weights).bind λE=>letI D:=(bY C.cap 0 100000).bind λI=>bif I then (bY C.dx 3 1000).bind λO=>bif O then (Eg (⟨false,C.low,C.high⟩:m0)).bind λT=>bif T then bif ((C.weights.length:Int)==4)then bif E.2 then (KB C.eT).bind λU=>some U else some false else some false else some false else some false else some false;bif (C.gA==0)then D else bif (C.gA==1)then D else some false
def WO:=bX [(true,.oH)] eW (cR GG) 51 [WN,dS,Pd,ad9] func51
def yX(C:Int):ah (Int):=(bY C 3 1000).bind λD=>bif (!D)then some 0 else some (W6 ((W6 (2*C))+2))
def aoO:=bX vE iz (cR yX) 9 [dS] func52
def tE(C:fB)(D:fA):ah (Bool):=letI E:=W6 (C.bP.lM+C.bP.rp);(Pc C).bind λI=>bif I then (GG D).bind λO=>bif O then (yX D.dx).bind λT=>bif (W6 (T+2)) <= C.dX.bg then if E=0 then none else some ((W6 ((W6 (C.jj+1))*D.dx)) > (W6 ((W6 ((W6 (5*C.interval)).tdiv E))+2)))else some false else some false else some false
def WQ:=bX [(true,.Config),(true,.oH)] eW (dH tE) 42 [aoL,WO,aoO] func16
def Pe(D:aK):ah (cr):=(sA D).bind λE=>bif (!E)then some (⟨[],0⟩:cr)else (mK D).bind λC=>if 0 <= C/\C <= C/\C<1073741824 then some (⟨(List.replicate C.toNat (⟨false,0⟩:ji)),0⟩:cr)else none
def aoP:=bX AM [(true,.nT,2)] (cR Pe) 11 [o8,vG] func17
abbrev aea:=((aj×aj×Int×Int×aj)×((aj×aj×aj)×(aj×aj×aj)×(aa Int)×(aa Int)×(aa Int)×(aa Int)×aj))
def KD(x:aea):ah (aea⊕(((aj×aj×aj)×((aj×aj×aj)×(aj×aj×aj)×(aa Int)×(aa Int)×(aa Int)×(aa Int)×aj))⊕Empty)):=letI u2:=x.1.2.2.2.1;letI u1:=((),(),());letI C:=x.2.2.2.2;bif u2<x.1.2.2.1 then xL C.2.1 u2 λD=>xG (((),(),x.1.2.2.1,(W6 (u2+1)),()),(u1,u1,x.2.2.2.1,C.1,(C.2.1.set u2.toNat (-1:Int)),C.2.2.1,()))else aM (u1,(u1,u1,x.2.2.2.1,C.1,C.2.1,C.2.2.1,()))
def aoQ:KY 27 (bG f18):=⟨0,lB 0 ⟨[(2,.aL 2 0),(3,.aL 3 0),(17,tI),(18,tI)],adu,[]⟩ [(2,⟨WB,adu,[]⟩)] KD,lp []⟩
def Pf(D:aK):ah (fj):=(sA D).bind λI=>bif (!I)then some (⟨[],[]⟩:fj)else (mK D).bind λO=>letI C:=W6 (9*(W6 (O+1)));if 0 <= C/\C <= C/\C<1073741824 then bZ KD (((),(),((List.replicate C.toNat (0:Int)).length:Int),0,()),(((),(),()),((),(),()),([]:aa Int),([]:aa Int),(List.replicate C.toNat (0:Int)),([]:aa Int),())) λE=>some (⟨E.2.2.2.2.2.1,E.2.2.2.2.2.2.1⟩:fj)else none
def aoR:=dV AM [(true,.sW,2)] (cR Pf) 27 [o8,vG] [aoQ] func18
end Go.Proofs.YthmgjjfedieljaaGreat
