/-
  Functions of the program as plain functions of contents, and that the code computes them. Nothing here is a claim.
-/
import Derived.Test.YtnilicojgkhpnaaGreatVZ
import Derived.Test.YtnilicojgkhpnaaGreatRows
namespace Go.Proofs.YtnilicojgkhpnaaGreat
open Go.RowKit Go.Proofs.Tryz
set_option linter.unusedVariables false
set_option maxRecDepth 100000
abbrev KX:=KC Tryz.prog
abbrev KY:=BK Tryz.prog
abbrev kB:aa Gp:=[(20000,.cN,4,[60033,60041,60046,60048,60049,60050,60051,60052,60054,60055,60058,60059,60060,60061,60062,60072,60073,60074])]
abbrev bR:aa (Bool×TC×Nat):=[(false,.bool,0)]
abbrev zz2:aa (Nat×Rm):=[(1,.st .cN),(3,.aB [.int .i64,.int .i64,.int .i64,.int .i64,.int .i64,.int .i64,.int .i64,.int .i64,.int .i64,.int .i64,.int .i64,.int .i64,.int .i64,.int .i64,.int .i64,.int .i64,.int .i64,.int .i64,.int .i64,.int .i64,.int .i64,.int .i64,.bool,.int .i64,.int .i64,.int .i64,.int .i64,.int .i64,.int .i64,.int .i64,.int .i64,.int .i64,.int .i64,.own 1000000000109005,.int .i64,.int .i64,.int .i64,.int .i64,.int .i64,.int .i64,.int .i64,.own 1000000000109013,.int .i64,.int .i64,.bool,.int .i64,.own 1000000000113000,.int .i64,.own 1000000000117000,.own 1000000000117001,.own 1000000000121000,.own 1000000000121001,.own 1000000000121002,.int .i64,.own 1000000000126000,.own 1000000000131000,.int .i64,.bool,.own 33,.aF .int 0,.aF .Addr 0,.aF .cW 0,.aF .eC 0,.bool,.int .i64,.int .i64,.int .i64,.int .i64,.int .i64,.int .i64,.int .i64,.int .i64,.aF .eH 0,.aF .Event 0,.aF .fV 0]),(1000000000109005,.sl .int 2),(1000000000109013,.sl .int 2),(1000000000113000,.sl .gi 2),(1000000000117000,.sl .int 2),(1000000000117001,.sl .int 2),(1000000000121000,.sl .Cell 4),(1000000000121001,.sl .int 4),(1000000000121002,.sl .int 4),(1000000000126000,.sl .int 2),(1000000000131000,.sl .int 2),(33,.sl .fj 4)]
abbrev cm:aa (Bool×TC×Nat):=[(false,.int,0)]
abbrev zz4:aa (Nat×Rm):=[(1,.aB [.int .i64,.int .i64,.int .i64,.int .i64,.int .i64,.int .i64,.int .i64,.int .i64,.int .i64,.int .i64,.int .i64,.int .i64,.int .i64,.int .i64,.int .i64,.int .i64,.int .i64,.int .i64,.int .i64,.int .i64,.int .i64,.int .i64,.bool,.int .i64,.int .i64,.int .i64,.int .i64,.int .i64,.int .i64,.int .i64,.int .i64,.int .i64,.int .i64,.own 1000000000107005,.int .i64,.int .i64,.int .i64,.int .i64,.int .i64,.int .i64,.int .i64,.own 1000000000107013,.int .i64,.int .i64,.bool,.int .i64,.own 1000000000111000,.int .i64,.own 1000000000115000,.own 1000000000115001,.own 1000000000119000,.own 1000000000119001,.own 1000000000119002,.int .i64,.own 1000000000123001,.own 1000000000127000,.int .i64,.bool,.aF .fj 0,.aF .int 0,.aF .Addr 0,.aF .cW 0,.aF .eC 0,.bool,.int .i64,.int .i64,.int .i64,.int .i64,.int .i64,.int .i64,.int .i64,.int .i64,.aF .eH 0,.aF .Event 0,.aF .fV 0]),(29,.sl .fj 4),(1000000000107005,.sl .int 2),(1000000000107013,.sl .int 2),(1000000000111000,.sl .gi 2),(1000000000115000,.sl .int 2),(1000000000115001,.sl .int 2),(1000000000119000,.sl .Cell 4),(1000000000119001,.sl .int 4),(1000000000119002,.sl .int 4),(1000000000123001,.sl .int 2),(1000000000127000,.sl .int 2)]
abbrev Qi:aa Gp:=[(20000,.cN,4,[102000033,102000041,102000046,102000048,102000049,102000050,102000051,102000052,102000054,102000055,102000058,102000059,102000060,102000061,102000062,102000072,102000073,102000074])]
abbrev gR:bL:=⟨[(4,tB)],[],[]⟩
abbrev Fk:aa Lm:=[.int .i64,.int .i64,.int .i64,.int .i64,.int .i64,.aF .int 0,.int .i64,.int .i64]
abbrev af2:aa Nat:=[90133,90141,90146,90148,90149,90150,90151,90152,90154,90155,90158,90159,90160,90161,90162,90172,90173,90174]
abbrev zz8:aa Gp:=[(4,.cN,4,af2),(5,.cN,4,[1000000000108033,1000000000108041,1000000000108046,1000000000108048,1000000000108049,1000000000108050,1000000000108051,1000000000108052,1000000000108054,1000000000108055,1000000000108058,1000000000108059,1000000000108060,1000000000108061,1000000000108062,1000000000108072,1000000000108073,1000000000108074])]
abbrev atX:aa Lm:=[.own 60000,.own 60001,.own 60002]
abbrev eZ:aa Lm:=[.int .i64,.int .i64,.int .i64,.int .i64]
abbrev zz9:aa (Nat×Rm):=[(20000,.aB atX),(5,.aB eZ),(60000,.sl .Cell 4),(60001,.sl .int 4),(60002,.sl .int 4)]
abbrev Fl:aa Lm:=[.int .i64,.own 90101]
abbrev af3:aa (Nat×Rm):=[(2,.aB eZ),(4,.aB Fl),(6,.aB [.int .i64,.own 90201]),(90101,.sl .int 2),(90201,.sl .int 2)]
abbrev Y1:aa (Nat×Rm):=[(1,.st .cN),(2,.aB eZ),(1000000000117000,.sl .int 2),(5,.aB eZ)]
abbrev Fm:aa (Nat×Rm):=[(20000,.aB [.own 60000,.own 60001,.int .i64]),(60000,.sl .int 2),(60001,.sl .int 2)]
abbrev kC:bL:=⟨[(4,tI)],[],[]⟩
abbrev mw:aa (Bool×TC×Nat):=[(false,(.sl .int),2)]
abbrev v7:aa (Nat×Tm):=[(0,.lf (.own 20000)),(1,tI),(5,tI)]
abbrev oB:bL:=⟨[(2,tB)],[],[]⟩
abbrev Qj:aa Lm:=[.own 90100,.own 90101,.own 90102]
abbrev af4:aa (Nat×Rm):=[(6,.aB Qj),(7,.aB [.own 1000000000110000,.own 1000000000110001,.own 1000000000110002]),(90100,.sl .Cell 4),(90101,.sl .int 2),(90102,.sl .int 2),(1000000000110000,.sl .Cell 4),(1000000000110001,.sl .int 4),(1000000000110002,.sl .int 4)]
abbrev CK:aa (Bool×TC):=[(true,.fA),(true,.jL),(false,.int),(false,.int)]
abbrev nS:aa (Bool×TC):=[(false,(.sl .int))]
abbrev uf:aa (Nat×Tm):=[(1,tI)]
abbrev sM:bL:=⟨uf,[],[]⟩
abbrev af5:aa Lm:=[.aF .Cell 0,.aF .int 0,.aF .int 0]
abbrev JC:aa (Nat×Rm):=[(3,.aB af5)]
abbrev CL:aa Lm:=[.aF .int 0,.int .i64,.bool]
abbrev Aj:aa (Bool×TC):=[(false,(.sl .int)),(false,.int)]
abbrev af6:aa (Nat×Rm):=[(2,.aB Qj),(3,.aB [.own 90200,.own 6,.own 10]),(90100,.sl .Cell 4),(90101,.sl .int 2),(90102,.sl .int 2),(90200,.sl .Cell 4),(6,.sl .int 2),(10,.sl .int 2)]
abbrev v8:bL:=⟨[(5,tI)],[],[]⟩
abbrev mz:aa (Bool×TC):=[(false,.int)]
abbrev Y2:aa (Nat×Rm):=[(1000000000112000,.sl .eH 2)]
abbrev af7:bL:=⟨[(1,tI),(2,tI),(8,.lf (.own 1000000000112000)),(30,.lf (.own 1000000000112000)),(31,tI),(32,tI)],Y2,[]⟩
abbrev af8:bL:=⟨[(4,.aH 4 0),(6,.aH 6 0)],[(4,.aB Fl),(6,.aB [.int .i64,.own 90201]),(90101,.sl .int 2),(90201,.sl .int 2)],[]⟩
abbrev ug:aa (Nat×Tm):=[(3,.lf (.own 7))]
abbrev Fo:aa (Bool×TC):=[(false,(.sl .cW)),(false,.int)]
abbrev Fp:aa Lm:=[.int .i64,.int .i64,.int .i64,.bool,.int .i64,.int .i64]
abbrev af9:bL:=⟨[(0,tI),(1,.lf (.aF .cW 0)),(5,.aH 5 0),(8,tI)],[(5,.aB Fp)],[]⟩
abbrev aga:aa (Nat×Rm):=[(18,.sl .int 2),(99004,.sl .int 2),(66,.sl .int 2)]
abbrev agb:bL:=⟨[(3,.lf (.own 18)),(4,.lf (.own 99004)),(8,.lf (.own 66)),(9,tI)],aga,[]⟩
abbrev fq:bL:=⟨[],[],[]⟩
abbrev agc:aa Gp:=[(20000,.cN,4,[60033,60041,60046,60048,60049,60050,60051,60052,60054,60055,60058,60059,1000000000141000,60061,60062,60072,60073,60074])]
abbrev agd:aa (Nat×Rm):=[(2,.aB CL),(4,.aB [.own 90100,.int .i64,.bool]),(5,.aB [.own 1000000000108000,.int .i64,.bool]),(90100,.sl .int 2),(1000000000108000,.sl .int 2)]
abbrev Y3:bL:=⟨[(1,tI),(2,.aH 2 0),(4,.aH 4 0),(6,.aH 6 0),(7,tI)],af3,[]⟩
abbrev CM:aa Lm:=[.aF .int 0,.aF .int 0]
abbrev agf:bL:=⟨[(5,.aH 5 0),(6,.aH 6 0),(7,.aH 7 0),(9,tI)],[(5,.st .kf),(6,.aB CM),(7,.aB eZ)],[]⟩
abbrev Fq:aa (Bool×TC):=[(false,.int),(false,.int)]
abbrev sN:aa (Bool×TC):=[(true,.cN)]
abbrev Ql:aa (Bool×TC):=[(false,(.sl .eC)),(false,(.sl .bool))]
abbrev Y4:bL:=⟨[(0,tI),(1,tI),(5,tI),(6,tI)],[],[]⟩
abbrev agh:bL:=⟨[(0,.lf (.aF .int 0)),(3,.lf (.own 10)),(12,tI),(13,tI)],[(10,.sl .int 2)],[]⟩
abbrev agi:bL:=⟨[(1,.aH 1 0),(2,.aH 2 0),(4,.lf (.own 1000000000117000)),(5,.aH 5 0)],Y1,[]⟩
abbrev Y5:bL:=⟨[(3,.lf (.own 5))],[(5,.sl .int 2)],[]⟩
abbrev agj:aa (Nat×Rm):=[(3,.st .cN),(6,.aB eZ),(8,.aB Fk),(81,.sl .bool 2),(142,.sl .Command 2),(146,.sl .bool 2)]
abbrev JD:aa (Bool×TC):=[(true,.jz),(false,.int)]
abbrev JE:aa (Bool×TC):=[(true,.fA),(false,.int)]
abbrev JF:aa PK:=[.p .cN 4 0,.v false .int]
abbrev JG:aa Lm:=[.int .i64,.aF .int 0]
abbrev Y6:bL:=⟨[(2,.aH 2 0),(3,.aH 3 0),(7,tI),(8,tI)],[(2,.aB eZ),(3,.aB JG)],[]⟩
abbrev Ak:aa Lm:=[.aF .gi 0,.int .i64]
abbrev Y7:aa (Nat×Rm):=[(1,.aB [.aF .int 0,.aF .int 0,.int .i64])]
abbrev JH:aa Lm:=[.int .i64,.int .i64,.int .i64]
abbrev Y8:bL:=⟨[(0,.lf (.aF .int 0)),(1,tI),(5,tI)],[],[]⟩
abbrev Y9:bL:=⟨[(0,.lf (.aF .cW 0)),(1,tI),(5,tI)],[],[]⟩
abbrev agk:bL:=⟨[(0,tI),(1,.lf (.aF .cW 0)),(9,.lf (.aF .cW 0)),(10,tI),(11,tI)],[],[]⟩
abbrev agl:bL:=⟨[(0,.lf (.aF .int 0)),(3,.lf (.own 12)),(4,tI)],[(12,.sl .int 2)],[]⟩
abbrev Qm:aa (Bool×TC):=[(false,(.sl .Addr)),(false,.int)]
abbrev agm:bL:=⟨[(0,.lf (.aF .eC 0)),(1,.lf (.aF .bool 0)),(5,tI),(6,tI)],[],[]⟩
abbrev Za:aa (Bool×TC):=[(false,(.sl .eH)),(false,.int),(false,.int)]
abbrev agn:aa (Nat×Tm):=[(2,.aH 20000 50),(12,tI),(75,.lf (.own 1000000000175000)),(76,tI),(77,tI)]
abbrev Fs:bL:=⟨[],[],kB⟩
abbrev ago:aa (Bool×TC):=[(false,(.sl .cW)),(false,(.sl .bool)),(false,(.sl .bool)),(false,.int),(false,.int)]
abbrev Qn:aa (Bool×TC×Nat):=[(true,.jM,2),(false,.bool,0)]
abbrev Qo:aa (Bool×TC×Nat):=[(true,.cN,4),(false,.bool,0)]
abbrev Zb:aa (Nat×Rm):=[(98000,.sl .Addr 1000002)]
abbrev agp:bL:=⟨[(0,.lf (.own 98000)),(5,tI)],Zb,[]⟩
abbrev agq:aa (Nat×Rm):=[(2,.aB eZ),(1000000000116000,.sl .Addr 2),(19,.sl .bool 2),(20,.sl .bool 2)]
abbrev agr:bL:=⟨[(1,.lf (.aF .bool 0)),(6,.lf (.own 9))],[(9,.sl .eC 2)],[]⟩
abbrev ags:bL:=⟨[(1,tI),(2,tI),(8,.lf (.own 1000000000112000))],Y2,[]⟩
abbrev Zc:aa PK:=[.p .cN 4 0,.v false .int,.v false .int]
abbrev Zd:aa Lm:=[.int .i64,.own 1000000000114001]
abbrev Qp:aa (Bool×TC):=[(true,.ja),(false,.int)]
abbrev JI:bL:=⟨[(6,tI)],[],[]⟩
abbrev agt:bL:=⟨[(0,.lf (.aF .eH 0)),(7,.lf (.aF .eH 0)),(8,tI),(9,tI)],[],[]⟩
abbrev Qq:aa (Bool×TC):=[(true,.cN),(false,.int)]
abbrev Qr:aa (Bool×TC):=[(true,.fA),(true,.jL)]
abbrev Qs:aa (Bool×TC):=[(true,.fA),(true,.Addr)]
abbrev agu:aa PK:=[.v true .fA,.v true .nE,.p .cN 4 50,.v false .int,.v false .int]
abbrev agv:bL:=⟨[(6,.lf (.own 1000000000112000)),(7,tB)],Y2,[]⟩
abbrev atY:aa (Nat×Tm):=[(0,.aH 20000 0),(1,tI),(4,tI)]
abbrev agw:aa (Nat×Rm):=[(11,.sl .Command 2),(1000000000113000,.sl .Addr 2),(14,.sl .bool 2)]
abbrev agx:bL:=⟨[(0,.lf (.aF .Cell 0)),(1,tI),(5,tI)],[],[]⟩
abbrev agy:bL:=⟨[(0,.lf (.aF .fj 0)),(1,tI),(5,tI)],[],[]⟩
abbrev agz:bL:=⟨[(0,.lf (.aF .Addr 0)),(1,tI),(5,tI)],[],[]⟩
abbrev CN:aa (Bool×TC):=[(true,.fA)]
abbrev CO:aa (Bool×TC):=[(true,.jz)]
abbrev Ft:aa (Bool×TC×Nat):=[(true,.Command,0)]
abbrev Ze:aa (Bool×TC):=[(false,(.sl .Addr)),(true,.Addr)]
abbrev agA:aa (Nat×Rm):=[(3,.st .cN),(6,.aB eZ),(8,.aB Fk),(38,.sl .bool 2)]
abbrev agB:aa (Nat×Rm):=[(4,.st .cN),(7,.aB eZ),(8,.aB eZ),(16,.sl .bool 2)]
abbrev agC:bL:=⟨[(2,.aH 2 0),(3,tI)],[(2,.aB eZ)],[]⟩
abbrev agD:aa (Nat×Rm):=[(4,.aB eZ),(5,.st .kf),(6,.aB CM),(7,.aB eZ)]
abbrev agE:bL:=⟨[(3,.lf (.own 6))],[(6,.sl .int 2)],[]⟩
abbrev Qt:aa Gp:=[(2,.cN,4,af2)]
abbrev agF:bL:=⟨[(0,.lf (.aF .int 0)),(1,tI)],[],[]⟩
abbrev Zf:aa PK:=[.p .cN 4 50,.v false .int]
abbrev Zg:aa (Nat×Rm):=[(1,.st .cN),(3,.aB eZ)]
abbrev Fu:aa (Bool×TC):=[(true,.kf)]
abbrev agG:aa (Bool×TC):=[(true,.kf),(false,.int),(false,.int),(false,.bool)]
abbrev agH:aa (Bool×TC):=[(true,.fA),(true,.kf),(true,.Command),(true,.Command)]
abbrev agI:aa (Bool×TC):=[(true,.fA),(true,.kf),(true,.kO),(true,.Command)]
abbrev agJ:bL:=⟨[(1,.aH 1 0)],[(1,.st .kf)],[]⟩
abbrev agK:bL:=⟨[(3,.aH 3 0)],[(3,.aB CM)],[]⟩
abbrev agL:bL:=⟨[(1,.aH 1 0)],[(1,.aB CL)],[]⟩
abbrev Zh:aa (Nat×Rm):=[(3,.aB Ak),(1000000000115000,.sl .int 2)]
abbrev Qu:aa (Bool×TC):=[(false,(.sl .eH))]
abbrev Zi:aa (Bool×TC):=[(true,.cW),(true,.cW)]
abbrev Zj:aa (Bool×TC):=[(true,.fA),(true,.Command)]
abbrev agM:bL:=⟨[(1,.aH 1 0),(3,tI)],Y7,[]⟩
abbrev JJ:aa (Bool×TC×Nat):=[(true,.kO,2)]
abbrev JK:aa (Bool×TC×Nat):=[(true,.Array,4)]
abbrev agN:bL:=⟨[(0,.lf (.aF .eC 0))],[],[]⟩
abbrev agO:aa (Bool×TC):=[(true,.ja),(false,.int),(false,(.sl .Addr))]
abbrev agP:aa (Bool×TC):=[(false,.int),(false,(.sl .cW)),(true,.cW)]
abbrev Zk:aa Lm:=[.int .i64,.own 15]
abbrev agQ:aa PK:=[.p .cN 4 0,.v true .Command,.v false .int]
abbrev JL:aa (Bool×TC):=[(true,.lE)]
abbrev JM:aa (Bool×TC):=[(true,.ja)]
abbrev JN:aa (Bool×TC):=[(true,.fj)]
abbrev agR:aa Lm:=[.int .i64,.own 1000000000138001]
abbrev agS:aa Lm:=[.int .i64,.own 1000000000136001]
abbrev Qv:aa (Nat×Rm):=[(7,.sl .eC 2)]
abbrev Qx:aa (Nat×Rm):=[(7,.sl .Command 2)]
abbrev agT:bL:=⟨[(0,tI),(3,tI)],[],[]⟩
abbrev Zl:bL:=⟨[],[],Qi⟩
abbrev agU:aa (Nat×Tm):=[(1,.aH 1 0),(3,.lf (.own 5)),(4,tI)]
abbrev agV:bL:=⟨[(3,.aH 3 0)],JC,[]⟩
def rF(D:aa Int)(E:Int):ah (Int):=letI C:=W6 (E-(D.length:Int));bif C<0 then some (-1)else some C
def Al:=aP Aj cm (bq rF) 12 [] func43
def Fv(D:fh)(E:Int):ah (Int):=(rF D.weights E).bind λC=>bif C<0 then some (-1)else some C
def agW:=aP [(true,.lE),(false,.int)] cm (bq Fv) 12 [Al] func19
def Qy(C:fM)(L:Int):ah (Int):=(Fv C.bH L).bind λD=>bif D<0 then some (-1)else (Fv C.next D).bind λE=>bif E<0 then some (-1)else some E
def atZ:=aP [(true,.jM),(false,.int)] cm (bq Qy) 18 [agW] func36
def Zm(D:aa c9)(E:Int):ah (Int):=letI C:=W6 (E-(D.length:Int));bif C<0 then some (-1)else some C
def at0:=aP [(false,(.sl .gi)),(false,.int)] cm (bq Zm) 12 [] func155
def Qz(D:cC)(E:Int):ah (Int):=(Zm D.aC E).bind λC=>bif C<0 then some (-1)else some C
def at1:=aP Qp cm (bq Qz) 12 [at0] func37
def QA(C:dB)(L:Int):ah (Int):=(rF C.last L).bind λD=>bif D<0 then some (-1)else (rF C.bC D).bind λE=>bif E<0 then some (-1)else some E
def at2:=aP [(true,.kO),(false,.int)] cm (bq QA) 18 [Al] func38
def JO(D:bP)(E:Int):ah (Int):=(rF D.symbols E).bind λC=>bif C<0 then some (-1)else some C
def at3:=aP [(true,.Cell),(false,.int)] cm (bq JO) 12 [Al] func287
abbrev agX:=(((aa bP)×Int×Int×af)×(af))
def agY(x:agX):ah (agX⊕(((Int×af)×(af))⊕(((Int×af)×(af))⊕Empty))):=bif x.1.2.2.1<(x.1.1.length:Int)then xI x.1.1 x.1.2.2.1 λD=>(JO D x.1.2.1).bind λC=>bif C<0 then av (((-1),()),())else xG ((x.1.1,C,(W6 (x.1.2.2.1+1)),()),())else aQ ((x.1.2.1,()),())
def at4:KY 27 (aW f156):=⟨0,lB 0 agx [(1,kC),(2,sM)] agY,lp [at3]⟩
def QB(C:aa bP)(E:Int):ah (Int):=letI D:=W6 (E-(C.length:Int));bif D<0 then some (-1)else bE agY ((C,D,0,()),()) (λL=>some L.1.1) λO=>some O.1.1
def at5:=bS [(false,(.sl .Cell)),(false,.int)] cm (bq QB) 27 [] [at4] func156
def QC(C:cV)(O:Int):ah (Int):=(QB C.cells O).bind λD=>bif D<0 then some (-1)else (rF C.bx D).bind λE=>bif E<0 then some (-1)else (rF C.bw E).bind λL=>bif L<0 then some (-1)else some L
def at6:=aP [(true,.Array),(false,.int)] cm (bq QC) 24 [Al,at5] func39
def QD(D:cQ)(E:Int):ah (Int):=(rF D.map E).bind λC=>bif C<0 then some (-1)else some C
def at7:=aP [(true,.jL),(false,.int)] cm (bq QD) 12 [Al] func40
def QE(D:cS)(E:Int):ah (Int):=(rF D.aI E).bind λC=>bif C<0 then some (-1)else some C
def at8:=aP JD cm (bq QE) 12 [Al] func41
def JP(C:bV)(L:Int):ah (Int):=(rF C.rows L).bind λD=>bif D<0 then some (-1)else (rF C.counts D).bind λE=>bif E<0 then some (-1)else some E
def at9:=aP [(true,.fj),(false,.int)] cm (bq JP) 18 [Al] func157
abbrev agZ:=(((aa bV)×Int×Int×af)×(af))
def ag0(x:agZ):ah (agZ⊕(((Int×af)×(af))⊕(((Int×af)×(af))⊕Empty))):=bif x.1.2.2.1<(x.1.1.length:Int)then xI x.1.1 x.1.2.2.1 λD=>(JP D x.1.2.1).bind λC=>bif C<0 then av (((-1),()),())else xG ((x.1.1,C,(W6 (x.1.2.2.1+1)),()),())else aQ ((x.1.2.1,()),())
def aua:KY 27 (aW f42):=⟨0,lB 0 agy [(1,kC),(2,sM)] ag0,lp [at9]⟩
def QF(C:aa bV)(E:Int):ah (Int):=letI D:=W6 (E-(C.length:Int));bif D<0 then some (-1)else bE ag0 ((C,D,0,()),()) (λL=>some L.1.1) λO=>some O.1.1
def aub:=bS [(false,(.sl .fj)),(false,.int)] cm (bq QF) 27 [] [aua] func42
def Zn(D:aa aJ)(E:Int):ah (Int):=letI C:=W6 (E-(D.length:Int));bif C<0 then some (-1)else some C
def auc:=aP Qm cm (bq Zn) 12 [] func44
def Zo(D:aa aK)(E:Int):ah (Int):=letI C:=W6 (E-(D.length:Int));bif C<0 then some (-1)else some C
def aud:=aP Fo cm (bq Zo) 12 [] func45
def Zp(D:aa bY)(E:Int):ah (Int):=letI C:=W6 (E-(D.length:Int));bif C<0 then some (-1)else some C
def aue:=aP [(false,(.sl .eC)),(false,.int)] cm (bq Zp) 12 [] func46
def Zq(D:aa bW)(E:Int):ah (Int):=letI C:=W6 (E-(D.length:Int));bif C<0 then some (-1)else some C
def auf:=aP [(false,(.sl .eH)),(false,.int)] cm (bq Zq) 12 [] func47
def Zr(D:aa c8)(E:Int):ah (Int):=letI C:=W6 (E-(D.length:Int));bif C<0 then some (-1)else some C
def aug:=aP [(false,(.sl .Event)),(false,.int)] cm (bq Zr) 12 [] func48
def Zs(D:aa cE)(E:Int):ah (Int):=letI C:=W6 (E-(D.length:Int));bif C<0 then some (-1)else some C
def auh:=aP [(false,(.sl .fV)),(false,.int)] cm (bq Zs) 12 [] func49
def QG(C:ax)(x1:Int):ah (Int):=(Qy C.box x1).bind λD=>bif D<0 then some (-1)else (Qz C.br D).bind λE=>bif E<0 then some (-1)else (QA C.ready E).bind λL=>bif L<0 then some (-1)else (QC C.array L).bind λO=>bif O<0 then some (-1)else (QD C.spare O).bind λT=>bif T<0 then some (-1)else (QE C.aV T).bind λU=>bif U<0 then some (-1)else (QF C.bJ U).bind λY=>bif Y<0 then some (-1)else (rF C.guard Y).bind λZ=>bif Z<0 then some (-1)else (Zn C.pending Z).bind λy9=>bif y9<0 then some (-1)else (Zo C.queue y9).bind λgS=>bif gS<0 then some (-1)else (Zp C.shares gS).bind λeP=>bif eP<0 then some (-1)else (Zq C.errors eP).bind λgC=>bif gC<0 then some (-1)else (Zr C.trace gC).bind λgD=>bif gD<0 then some (-1)else (Zs C.cy gD).bind λiV=>bif iV<0 then some (-1)else some iV
def aui:=aP Qq cm (bq QG) 90 [atZ,at1,at2,at6,at7,at8,aub,Al,auc,aud,aue,auf,aug,auh] func8
def QH(C:aM):ah (aM):=some C
def auj:=aP CN [(true,.fA,0)] (bG QH) 17 [] func136
def QI(C:dj):ah (dj):=some C
def auk:=aP Fu [(true,.kf,0)] (bG QI) 56 [] func137
def QJ(C:jX):ah (jX):=some C
def aul:=aP [(true,.n8)] [(true,.n8,0)] (bG QJ) 11 [] func138
def QK(C:jq):ah (jq):=some C
def aum:=aP [(true,.nE)] [(true,.nE,0)] (bG QK) 11 [] func139
def QL(C:iG):ah (iG):=(QH C.az).bind λD=>(QI C.cq).bind λE=>(QJ C.mapping).bind λL=>(QK C.dW).bind λO=>some (⟨D,E,L,C.bQ,C.interval,C.iQ,O⟩:iG)
def aun:=aP [(true,.Config)] [(true,.Config,0)] (bG QL) 30 [auj,auk,aul,aum] func22
abbrev ag1:=(((aa Int)×af×Int×af)×((aa Int)×af))
def ag2(x:ag1):ah (ag1⊕(((af×af)×((aa Int)×af))⊕Empty)):=letI C:=x.1.2.2.1;bif C<(x.1.1.length:Int)then xI x.1.1 C λD=>xL x.2.1 C λE=>xG ((x.1.1,(),(W6 (C+1)),()),((x.2.1.set C.toNat D),()))else av (((),()),(x.2.1,()))
def auo:KY 22 (aW f60):=⟨0,lB 0 ⟨[(0,.lf (.aF .int 0)),(3,.lf (.own 7)),(4,tI)],[(7,.sl .int 2)],[]⟩ [(2,⟨ug,[(7,.sl .int 2)],[]⟩)] ag2,lp []⟩
def qA(D:aa Int):ah ((aa Int)):=letI C:=(D.length:Int);if 0 <= C/\C <= C/\C<1073741824 then bk ag2 ((D,(),0,()),((List.replicate C.toNat (0:Int)),())) λE=>some E.2.1 else none
def Am:=bS nS mw (bG qA) 22 [] [auo] func60
def QM(C:lA):ah (lA):=some C
def aup:=aP [(true,.n9)] [(true,.n9,0)] (bG QM) 11 [] func140
def Fw(C:fh):ah (fh):=(qA C.weights).bind λD=>(QM C.eT).bind λE=>some (⟨C.eX,C.cap,C.fQ,C.low,C.high,D,E⟩:fh)
def ag3:=aP JL [(true,.lE,2)] (bG Fw) 28 [Am,aup] func23
def QN(C:fM):ah (fM):=(Fw C.bH).bind λD=>(Fw C.next).bind λE=>some (⟨D,E,C.waits⟩:fM)
def auq:=aP [(true,.jM)] [(true,.jM,2)] (bG QN) 16 [ag3] func53
def JQ(C:c9):ah (c9):=some C
def aur:=aP [(true,.gi)] [(true,.gi,0)] (bG JQ) 11 [] func324
abbrev ag4:=(((aa c9)×af×Int×af)×((aa c9)×af))
def ag5(x:ag4):ah (ag4⊕(((af×af)×((aa c9)×af))⊕Empty)):=letI C:=x.1.2.2.1;bif C<(x.1.1.length:Int)then xI x.1.1 C λD=>(JQ D).bind λE=>xL x.2.1 C λL=>xG ((x.1.1,(),(W6 (C+1)),()),((x.2.1.set C.toNat E),()))else av (((),()),(x.2.1,()))
def aus:KY 23 (aW f193):=⟨0,lB 0 ⟨[(0,.lf (.aF .gi 0)),(3,.lf (.own 7)),(4,tI)],[(7,.sl .gi 2)],[]⟩ [(2,⟨ug,[(7,.sl .gi 2)],[]⟩)] ag5,lp [aur]⟩
def QO(D:aa c9):ah ((aa c9)):=letI C:=(D.length:Int);if 0 <= C/\C <= C/\C<1073741824 then bk ag5 ((D,(),0,()),((List.replicate C.toNat (⟨false,0⟩:c9)),())) λE=>some E.2.1 else none
def aut:=bS [(false,(.sl .gi))] [(false,(.sl .gi),2)] (bG QO) 23 [] [aus] func193
def QS(C:cC):ah (cC):=(QO C.aC).bind λD=>some (⟨D,C.bf⟩:cC)
def auu:=aP JM [(true,.ja,2)] (bG QS) 12 [aut] func54
def QT(C:dB):ah (dB):=(qA C.last).bind λD=>(qA C.bC).bind λE=>some (⟨D,E⟩:dB)
def auv:=aP [(true,.kO)] JJ (bG QT) 13 [Am] func55
def JR(C:bP):ah (bP):=(qA C.symbols).bind λD=>some (⟨D,C.gO⟩:bP)
def auw:=aP [(true,.Cell)] [(true,.Cell,2)] (bG JR) 12 [Am] func325
abbrev ag6:=(((aa bP)×af×Int×af)×((aa bP)×af))
def ag7(x:ag6):ah (ag6⊕(((af×af)×((aa bP)×af))⊕Empty)):=letI C:=x.1.2.2.1;bif C<(x.1.1.length:Int)then xI x.1.1 C λD=>(JR D).bind λE=>xL x.2.1 C λL=>xG ((x.1.1,(),(W6 (C+1)),()),((x.2.1.set C.toNat E),()))else av (((),()),(x.2.1,()))
def auy:KY 23 (aW f194):=⟨0,lB 0 ⟨[(0,.lf (.aF .Cell 0)),(3,.lf (.own 7)),(4,tI)],[(7,.sl .Cell 4)],[]⟩ [(2,⟨ug,[(7,.sl .Cell 4)],[]⟩)] ag7,lp [auw]⟩
def QU(D:aa bP):ah ((aa bP)):=letI C:=(D.length:Int);if 0 <= C/\C <= C/\C<1073741824 then bk ag7 ((D,(),0,()),((List.replicate C.toNat (⟨[],false⟩:bP)),())) λE=>some E.2.1 else none
def auz:=bS [(false,(.sl .Cell))] [(false,(.sl .Cell),4)] (bG QU) 23 [] [auy] func194
def QV(C:cV):ah (cV):=(QU C.cells).bind λD=>(qA C.bx).bind λE=>(qA C.bw).bind λL=>some (⟨D,E,L⟩:cV)
def auA:=aP [(true,.Array)] JK (bG QV) 17 [Am,auz] func56
def QW(C:cQ):ah (cQ):=(qA C.map).bind λD=>some (⟨C.bQ,D⟩:cQ)
def auB:=aP [(true,.jL)] [(true,.jL,2)] (bG QW) 12 [Am] func57
def QX(C:cS):ah (cS):=(qA C.aI).bind λD=>some (⟨D,C.wait,C.dD⟩:cS)
def auC:=aP CO [(true,.jz,2)] (bG QX) 15 [Am] func58
def JS(C:bV):ah (bV):=(qA C.rows).bind λD=>(qA C.counts).bind λE=>some (⟨D,E,C.dg⟩:bV)
def auD:=aP JN [(true,.fj,2)] (bG JS) 16 [Am] func195
abbrev ag8:=(((aa bV)×af×Int×af)×((aa bV)×af))
def ag9(x:ag8):ah (ag8⊕(((af×af)×((aa bV)×af))⊕Empty)):=letI C:=x.1.2.2.1;bif C<(x.1.1.length:Int)then xI x.1.1 C λD=>(JS D).bind λE=>xL x.2.1 C λL=>xG ((x.1.1,(),(W6 (C+1)),()),((x.2.1.set C.toNat E),()))else av (((),()),(x.2.1,()))
def auE:KY 23 (aW f59):=⟨0,lB 0 ⟨[(0,.lf (.aF .fj 0)),(3,.lf (.own 7)),(4,tI)],[(7,.sl .fj 4)],[]⟩ [(2,⟨ug,[(7,.sl .fj 4)],[]⟩)] ag9,lp [auD]⟩
def QY(D:aa bV):ah ((aa bV)):=letI C:=(D.length:Int);if 0 <= C/\C <= C/\C<1073741824 then bk ag9 ((D,(),0,()),((List.replicate C.toNat (⟨[],[],0⟩:bV)),())) λE=>some E.2.1 else none
def auF:=bS [(false,(.sl .fj))] [(false,(.sl .fj),4)] (bG QY) 23 [] [auE] func59
end Go.Proofs.YtnilicojgkhpnaaGreat
