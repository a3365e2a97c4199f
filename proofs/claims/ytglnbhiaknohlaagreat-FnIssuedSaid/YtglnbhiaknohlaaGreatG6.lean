/-
  Functions of the program as plain functions of contents, and that the code computes them. Nothing here is a claim.
-/
import Derived.Test.YtglnbhiaknohlaaGreatVZ
import Derived.Test.YtglnbhiaknohlaaGreatRows
import Derived.Test.YtglnbhiaknohlaaGreatG1
import Derived.Test.YtglnbhiaknohlaaGreatG2
import Derived.Test.YtglnbhiaknohlaaGreatG3
import Derived.Test.YtglnbhiaknohlaaGreatG4
import Derived.Test.YtglnbhiaknohlaaGreatG5
namespace Go.Proofs.YtglnbhiaknohlaaGreat
set_option linter.defProp false
open Go.RowKit Go.Proofs.Tryz
set_option linter.unusedVariables false
set_option maxRecDepth 100000
abbrev agy:=((af×af×(aa eP)×Int×Int×af)×((Int×Int×Int×Int×af)×((aa eP)×Int×af)×af))
def J7(x:agy):ah (agy⊕(((Bool×af)×(af))⊕(((af×af)×(((aa eP)×Int×af)×af))⊕Empty))):=letI C:=x.1.2.2;letI E:=xG (((),(),C.1,C.2.1,(W6 (C.2.2.1+1)),()),(x.2.1,x.2.2.1,()));bif C.2.2.1<C.2.1 then xI C.1 C.2.2.1 λD=>(cC D.row 0 (W6 (x.2.1.2.2.1-1))).bind λI=>bif (!I)then az ((false,()),())else bif (!D.open_)then bif (D.row != 0)then az ((false,()),())else E else E else aT (((),()),(x.2.2.1,()))
def auQ:KY 58 (bw f38):=⟨0,lB 0 ⟨[(2,.aO 2 0),(3,.aO 3 0),(25,.lf (.aI .ld 0)),(26,tI),(27,tI)],[(2,.aC ia),(3,.aC BW)],[]⟩ [(1,gW),(2,⟨[(3,.aO 3 0)],[(3,.aC BW)],[]⟩)] J7,lp [fe]⟩
def J8(C:aN)(D:cD):ah (Bool):=(sr C).bind λI=>bif (!I)then some false else (n9 C).bind λL=>bif ((D.aB.length:Int) != L)then some false else (cC D.aR 0 2).bind λO=>bif (!O)then some false else bM J7 (((),(),D.aB,(D.aB.length:Int),0,()),((C.bR,C.aB,C.rows,C.aM,()),(D.aB,D.aR,()),())) (λT=>some T.1.1) λE=>bif (E.2.1.2.1 != 2)then some true else (Aj (⟨E.2.1.1,E.2.1.2.1⟩:cD)).bind λU=>some ((U.length:Int)==0)
def agz:=cu [(true,.fH),(true,.iS)] cg (bV J8) 58 [fe,agx,q6,xJ] [auQ] func38
def xK(C:Int):ah (Bool):=(cC C 1 5).bind λD=>some D
def PW:=bD lM cg (bP xK) 5 [fe] func184
def Cs(L:aN)(I:Int):ah (aF×Bool):=letI C:=W6 (I.tdiv 9);letI D:=W6 ((I.tmod 9)+1);(n9 L).bind λE=>bif C<E then (xK D).bind λO=>some ((⟨D,C,0,0⟩:aF),((decide (C<E))==O))else (xK D).bind λT=>some ((⟨D,0,0,0⟩:aF),((decide (C<E))==T))
def agA:=bD HT [(true,.Command,0),(false,.bool,0)] (bV Cs) 27 [q6,PW] func88
abbrev agB:=((af×af×(aa Int)×Int×Int×af)×((Int×Int×Int×Int×af)×((aa Int)×(aa Int)×af)×af))
def J9(x:agB):ah (agB⊕(((Bool×af)×(af))⊕(((af×af)×(((aa Int)×(aa Int)×af)×af))⊕Empty))):=letI C:=x.1.2.2;letI D:=C.2.2.1;letI E:=xG (((),(),C.1,C.2.1,(W6 (D+1)),()),(x.2.1,x.2.2.1,()));bif D<C.2.1 then xI C.1 D λI=>(Cs (⟨x.2.1.1,x.2.1.2.1,x.2.1.2.2.1,x.2.1.2.2.2.1⟩:aN) D).bind λL=>(cC I (-1) 1000000).bind λO=>bif (!O)then az ((false,()),())else bif (!L.2)then bif (I != (-1))then az ((false,()),())else E else E else aT (((),()),(x.2.2.1,()))
def auR:KY 82 (bw f39):=⟨0,lB 0 ⟨[(2,.aO 2 0),(3,.aO 3 0),(31,.lf (.aI .int 0)),(32,tI),(33,tI)],[(2,.aC ia),(3,.aC BV)],[]⟩ [(1,gW),(2,ad1)] J9,lp [fe,agA]⟩
abbrev agC:=((af×(aa Int)×Int×Int×af)×(((aa Int)×(aa Int)×af)×af))
def Ka(x:agC):ah (agC⊕(((Bool×af)×(af))⊕(((af)×(af))⊕Empty))):=letI C:=x.1.2.2.2.1;letI D:=xG (((),x.1.2.1,x.1.2.2.1,(W6 (C+1)),()),(x.2.1,()));bif C<x.1.2.2.1 then xI x.1.2.1 C λE=>(cC E 0 1000000).bind λI=>bif (!I)then az ((false,()),())else bif C > 0 then xI x.2.1.2.1 (W6 (C-1)) λL=>bif L >= E then az ((false,()),())else D else D else aT ((),())
def auS:KY 82 (bw f39):=⟨2,lB 2 ⟨[(3,.aO 3 0),(57,.lf (.aI .int 0)),(58,tI),(59,tI)],[(3,.aC BV)],[]⟩ [(1,gW),(4,fN)] Ka,lp [fe]⟩
def E7(C:aN)(D:dy):ah (Bool):=(sr C).bind λI=>bif (!I)then some false else (n9 C).bind λL=>bif ((D.last.length:Int) != (W6 (9*(W6 (L+1)))))then some false else bif (D.bf.length:Int) > 4 then some false else bM J9 (((),(),D.last,(D.last.length:Int),0,()),((C.bR,C.aB,C.rows,C.aM,()),(D.last,D.bf,()),())) (λO=>some O.1.1) λE=>bM Ka (((),E.2.1.2.1,(E.2.1.2.1.length:Int),0,()),(E.2.1,())) (λT=>some T.1.1) λU=>some true
def Xd:=cu [(true,.fH),(true,.lU)] cg (bV E7) 82 [q6,xJ] [auR,auS] func39
def Ct(C:Int):ah (Bool):=(cC C 0 15).bind λD=>some D
def Xe:=bD lM cg (bP Ct) 5 [fe] func198
abbrev agD:=(((aa Int)×Int×(aa Int)×Int×Int×af)×(af))
def Ak(x:agD):ah (agD⊕(((Bool×af)×(af))⊕((((aa Int)×Int×af)×(af))⊕Empty))):=letI C:=x.1.2.2;bif C.2.2.1<C.2.1 then xI C.1 C.2.2.1 λD=>(Ct D).bind λE=>bif (!E)then az ((false,()),())else xG ((x.1.1,x.1.2.1,C.1,C.2.1,(W6 (C.2.2.1+1)),()),())else aT ((x.1.1,x.1.2.1,()),())
def auT:KY 21 (bw f119):=⟨0,lB 0 ⟨[(0,.lf (.aI .int 0)),(1,tI),(7,.lf (.aI .int 0)),(8,tI),(9,tI)],[],[]⟩ [(1,gW),(2,adM)] Ak,lp [Xe]⟩
def vp(C:aa Int)(E:Int):ah (Bool):=bM Ak ((C,E,C,(C.length:Int),0,()),()) (λI=>some I.1.1) λD=>some ((D.1.1.length:Int)==D.1.2.1)
def Kb:=cu HR cg (bV vp) 21 [] [auT] func119
abbrev agE:=((af×(aa bX)×Int×Int×af)×(((aa bX)×(aa Int)×(aa Int)×af)×af))
def Kc(x:agE):ah (agE⊕(((Bool×af)×(af))⊕(((af×af)×(((aa bX)×(aa Int)×(aa Int)×af)×af))⊕Empty))):=letI C:=x.1.2.2;bif C.2.1<C.1 then xI x.1.2.1 C.2.1 λD=>(vp D.symbols 11).bind λE=>bif (!E)then az ((false,()),())else xG (((),x.1.2.1,C.1,(W6 (C.2.1+1)),()),(x.2.1,()))else aT (((),()),(x.2.1,()))
def auU:KY 74 (bw f40):=⟨0,lB 0 ⟨[(3,.aO 3 0),(40,.lf (.aI .Cell 0)),(41,tI),(42,tI)],HW,[]⟩ [(1,gW),(2,ad4)] Kc,lp [Kb]⟩
abbrev agF:=((af×Int×Int×af)×(((aa bX)×(aa Int)×(aa Int)×af)×af))
def Kd(x:agF):ah (agF⊕(((Bool×af)×(af))⊕(((af)×(af))⊕Empty))):=letI C:=x.1.2.2.1;bif C<x.1.2.1 then xI x.2.1.2.1 C λD=>(cC D 0 100000).bind λE=>bif (!E)then az ((false,()),())else xI x.2.1.2.2.1 C λI=>(cC I 0 100000).bind λL=>bif (!L)then az ((false,()),())else xG (((),x.1.2.1,(W6 (C+1)),()),(x.2.1,()))else aT ((),())
def auV:KY 74 (bw f40):=⟨2,lB 2 ⟨[(3,.aO 3 0),(53,tI),(54,tI)],HW,[]⟩ [(1,gW),(4,fN)] Kd,lp [fe]⟩
def Ke(D:aN)(C:dU):ah (Bool):=(n9 D).bind λE=>(sr D).bind λL=>bif (!L)then some false else (Ah D).bind λO=>bif ((C.cells.length:Int) != O)then some false else bif ((C.br.length:Int) != (W6 (E*D.rows)))then some false else bif ((C.bh.length:Int) != (W6 (E*D.rows)))then some false else bM Kc (((),C.cells,(C.cells.length:Int),0,()),((C.cells,C.br,C.bh,()),())) (λT=>some T.1.1) λI=>bM Kd (((),(I.2.1.2.1.length:Int),0,()),(I.2.1,())) (λU=>some U.1.1) λY=>some true
def auW:=cu [(true,.fH),(true,.Array)] cg (bV Ke) 74 [W8,q6,xJ] [auU,auV] func40
abbrev agG:=((af×(aa Int)×Int×Int×af)×(((aa Int)×Int×Bool×af)×af))
def Kf(x:agG):ah (agG⊕(((Bool×af)×(af))⊕(((af×af)×(((aa Int)×Int×Bool×af)×af))⊕Empty))):=letI C:=x.1.2.2;bif C.2.1<C.1 then xI x.1.2.1 C.2.1 λD=>(cC D (-2) 5).bind λE=>bif (!E)then az ((false,()),())else xG (((),x.1.2.1,C.1,(W6 (C.2.1+1)),()),(x.2.1,()))else aT (((),()),(x.2.1,()))
def auX:KY 25 (bw f123):=⟨0,lB 0 ⟨[(1,.aO 1 0),(6,.lf (.aI .int 0)),(7,tI),(8,tI)],[(1,.aC HQ)],[]⟩ [(1,n7),(2,adR)] Kf,lp [fe]⟩
def Al(C:dn):ah (Bool):=bM Kf (((),C.aH,(C.aH.length:Int),0,()),((C.aH,C.wait,C.dL,()),())) (λE=>some E.1.1) λD=>(cC (D.2.1.1.length:Int) 1 8).bind λI=>bif I then (cC D.2.1.2.1 1 10000).bind λL=>some L else some false
def agH:=cu HX cg (bP Al) 25 [fe] [auX] func123
abbrev agI:=(((aa Int)×Int×Int×Int×af)×(af))
def Kg(x:agI):ah (agI⊕(((Int×af)×(af))⊕(((af)×(af))⊕Empty))):=letI C:=x.1.2.2.2.1;bif C<x.1.2.2.1 then xI x.1.1 C λD=>bif (x.1.2.1==D)then az ((C,()),())else xG ((x.1.1,x.1.2.1,x.1.2.2.1,(W6 (C+1)),()),())else aT ((),())
def auY:KY 19 (bw f199):=⟨0,lB 0 ⟨[(0,.lf (.aI .int 0)),(1,tI),(7,tI),(8,tI)],[],[]⟩ [(1,zN),(2,fN)] Kg,lp []⟩
def Cu(C:aa Int)(D:Int):ah (Int):=(iter Kg aS ((C,D,(C.length:Int),0,()),())).bind (Sum.elim (λE=>some E.1.1) (Sum.elim (λI=>some (-1)) (λz=>nomatch z)))
def agJ:=cu HR en (bV Cu) 19 [] [auY] func199
abbrev agK:=((af×(aa Int)×Int×Int×af)×(((aa Int)×(aa Int)×Int×af)×af))
def Kh(x:agK):ah (agK⊕(((Bool×af)×(af))⊕(((af)×(af))⊕Empty))):=letI D:=az ((false,()),());letI C:=x.1.2.2.2.1;letI I:=xG (((),x.1.2.1,x.1.2.2.1,(W6 (C+1)),()),(x.2.1,()));bif C<x.1.2.2.1 then xI x.1.2.1 C λE=>letI L:=bif (E != (-1))then (Cu x.2.1.1 E).bind λO=>bif (O != C)then D else I else I;(cC E (-1) 15).bind λT=>bif (!T)then D else xI x.2.1.2.1 C λU=>(cC U x.2.1.2.2.1 100000).bind λY=>bif (!Y)then D else bif (E==(-1))then xI x.2.1.2.1 C λZ=>bif (Z != 0)then D else L else L else aT ((),())
def auZ:KY 72 (bw f124):=⟨0,lB 0 ⟨[(1,.aO 1 0),(26,.lf (.aI .int 0)),(27,tI),(28,tI)],Wa,[]⟩ [(1,n7),(2,fN)] Kh,lp [fe,agJ]⟩
def Am(C:ck):ah (Bool):=letI D:=(C.rows.length:Int);(cC D 1 16).bind λE=>bif (!E)then some false else bif ((C.counts.length:Int) != D)then some false else (cC C.c9 0 100000).bind λI=>bif (!I)then some false else bM Kh (((),C.rows,D,0,()),((C.rows,C.counts,C.c9,()),())) (λL=>some L.1.1) λO=>some true
def agL:=cu [(true,.hD)] cg (bP Am) 72 [fe] [auZ] func124
def Cv(C:aN)(D:aJ):ah (Bool):=(sr C).bind λE=>bif E then (n9 C).bind λI=>(cC D.ay 0 (W6 (I-1))).bind λL=>bif L then (cC D.row 0 (W6 (C.rows-1))).bind λO=>bif O then (cC D.bL 0 (W6 (C.aM-1))).bind λT=>some T else some false else some false else some false
def Xf:=bD N8 cg (bV Cv) 31 [fe,q6,xJ] func125
abbrev agM:=(((aa aJ)×af×Int×Int×af)×((Int×Int×Int×af)×af))
def Ki(x:agM):ah (agM⊕(((Int×af)×(af))⊕(((af)×(af))⊕Empty))):=letI C:=x.1.2.2.2.1;bif C<x.1.2.2.1 then xI x.1.1 C λD=>bif ((x.2.1.1==D.ay)&&((x.2.1.2.1==D.row)&&((x.2.1.2.2.1==D.bL)&&true)))then az ((C,()),())else xG ((x.1.1,(),x.1.2.2.1,(W6 (C+1)),()),(x.2.1,()))else aT ((),())
def au0:KY 19 (bw f126):=⟨0,lB 0 ⟨[(0,.lf (.aI .Addr 0)),(3,.aO 3 0),(7,tI),(8,tI)],[(3,.aC HV)],[]⟩ [(1,zN),(2,fN)] Ki,lp []⟩
def E8(D:aa aJ)(C:aJ):ah (Int):=(iter Ki aS ((D,(),(D.length:Int),0,()),((C.ay,C.row,C.bL,()),()))).bind (Sum.elim (λE=>some E.1.1) (Sum.elim (λI=>some (-1)) (λz=>nomatch z)))
def agN:=cu Wl en (bV E8) 19 [] [au0] func126
abbrev agO:=((af×af×Int×Int×af)×(av×(Int×Int×Int×Int×af)×af))
def PX(x:agO):ah (agO⊕(((Bool×af)×(af))⊕(((af×af×af)×(av×(Int×Int×Int×Int×af)×af))⊕Empty))):=letI C:=x.1.2.2.2.1;bif C<x.1.2.2.1 then xI x.2.1.bH C λD=>(Am D).bind λE=>bif (!E)then az ((false,()),())else xI x.2.1.guard C λI=>(cC I 3 1000).bind λL=>bif (!L)then az ((false,()),())else xG (((),(),x.1.2.2.1,(W6 (C+1)),()),(x.2.1,x.2.2.1,()))else aT (((),(),()),(x.2.1,x.2.2.1,()))
def au1:KY 94 (bw f42):=⟨0,lB 0 ⟨[(1,.aO 1 0),(3,.aO 3 0),(47,tI),(48,tI)],Wn,[]⟩ [(1,n7),(2,⟨[(1,.aO 1 0),(3,.aO 3 0)],Wn,[]⟩)] PX,lp [fe,agL]⟩
abbrev agP:=((af×af×(aa aJ)×Int×Int×af)×(av×(Int×Int×Int×Int×af)×af))
def PY(x:agP):ah (agP⊕(((Bool×af)×(af))⊕(((af)×(af))⊕Empty))):=letI C:=x.2.2.1;letI I:=az ((false,()),());letI D:=x.1.2.2;letI E:=D.2.2.1;bif E<D.2.1 then xI D.1 E λL=>(Cv (⟨C.1,C.2.1,C.2.2.1,C.2.2.2.1⟩:aN) L).bind λO=>bif (!O)then I else bif (L.bL != 0)then I else (E8 x.2.1.pending L).bind λT=>bif (T != E)then I else xG (((),(),D.1,D.2.1,(W6 (E+1)),()),(x.2.1,C,()))else aT ((),())
def au2:KY 94 (bw f42):=⟨2,lB 2 ⟨[(1,.aO 1 0),(3,.aO 3 0),(69,.lf (.aI .Addr 0)),(70,tI),(71,tI)],Wn,[]⟩ [(1,n7),(4,fN)] PY,lp [Xf,agN]⟩
def PZ(C:av):ah (Bool):=(n9 C.config.ax).bind λE=>(Al C.aL).bind λI=>bif (!I)then some false else bif ((C.aL.aH.length:Int) != E)then some false else bif ((C.bH.length:Int) != E)then some false else bif ((C.guard.length:Int) != E)then some false else bif (C.pending.length:Int) > 128 then some false else bM PX (((),(),(C.bH.length:Int),0,()),(C,(C.config.ax.bR,C.config.ax.aB,C.config.ax.rows,C.config.ax.aM,()),())) (λL=>some L.1.1) λD=>bM PY (((),(),D.2.1.pending,(D.2.1.pending.length:Int),0,()),(D.2.1,D.2.2.1,())) (λO=>some O.1.1) λT=>some true
def au3:=cu BX cg (bP PZ) 94 [q6,agH] [au1,au2] func42
def P0(C D:aU):ah (Bool):=bif C.at_<D.at_ then some true else bif (C.at_==D.at_)then some (C.id<D.id)else some false
def au4:=bD [(true,.dV),(true,.dV)] cg (bV P0) 24 [] func111
def Cw(C:Int):ah (Bool):=(cC C 0 4294967295).bind λD=>some D
def Xg:=bD lM cg (bP Cw) 5 [fe] func200
def P1(E:Int)(C:aU):ah (Bool):=letI D:=(cC C.at_ 0 1000000).bind λI=>some I;(cC C.id 1 100000).bind λL=>bif L then (cC C.dh 0 3).bind λO=>bif O then bif C.line >= 0 then bif C.line<E then (Cw C.data).bind λT=>bif T then bif C.write then D else bif (C.data==0)then D else some false else some false else some false else some false else some false else some false
def au5:=bD [(false,.int),(true,.dV)] cg (bV P1) 43 [fe,Xg] func127
abbrev agQ:=((Int×(aa aU)×af×(aa aU)×Int×Int×(aa aU)×Int×Int×af)×((Int×Int×Int×Bool×Int×Int×af)×af))
def E9(x:agQ):ah (agQ⊕(((Bool×af)×(af))⊕(((Int×(aa aU)×(aa aU)×Int×Int×af)×(af))⊕Empty))):=letI D:=x.1.2.2.2.2;letI C:=D.2.2;bif C.2.2.1<C.2.1 then xI C.1 C.2.2.1 λE=>bif (E.id==x.2.1.1)then az ((false,()),())else xG ((x.1.1,x.1.2.1,(),x.1.2.2.2.1,D.1,D.2.1,C.1,C.2.1,(W6 (C.2.2.1+1)),()),(x.2.1,()))else aT ((x.1.1,x.1.2.1,x.1.2.2.2.1,D.1,D.2.1,()),())
def agR:KY 52 (sj (bw f43) 0):=⟨2,lB 2 ⟨[(0,tI),(1,.lf (.aI .dV 0)),(6,.aO 6 0),(9,.lf (.aI .dV 0)),(10,tI),(11,tI),(36,.lf (.aI .dV 0)),(37,tI),(38,tI)],[(6,.aC HS)],[]⟩ [(1,gW),(4,adB)] E9,lp []⟩
abbrev agS:=((Int×(aa aU)×(aa aU)×Int×Int×af)×(af))
def Kj(x:agS):ah (agS⊕(((Bool×af)×(af))⊕((((aa aU)×af)×(af))⊕Empty))):=letI C:=x.1.2;letI D:=C.2.2.2.1;letI L:=(C.1.take D.toNat).drop (0:Int).toNat;bif D<C.2.2.1 then xI C.2.1 D λE=>letI O:=if 0 <= (0:Int)/\0 <= D/\D <= (C.1.length:Int)then bM E9 ((x.1.1,C.1,(),C.2.1,C.2.2.1,D,L,(L.length:Int),0,()),((E.id,E.dh,E.line,E.write,E.data,E.at_,()),())) (λT=>az ((T.1.1,()),())) λI=>xG ((I.1.1,I.1.2.1,I.1.2.2.1,I.1.2.2.2.1,(W6 (I.1.2.2.2.2.1+1)),()),())else none;(P1 x.1.1 E).bind λU=>bif (!U)then az ((false,()),())else bif D > 0 then xI C.1 (W6 (D-1)) λY=>(P0 Y E).bind λZ=>bif (!Z)then az ((false,()),())else O else O else aT ((C.1,()),())
def au6:KY 52 (bw f43):=⟨0,lB 0 adB [(1,gW),(2,⟨[(1,.lf (.aI .dV 0))],[],[]⟩)] Kj,lq [au4,au5] [agR,agR]⟩
def P2(D:Int)(C:aa aU):ah (Bool):=bM Kj ((D,C,C,(C.length:Int),0,()),()) (λE=>some E.1.1) λI=>some ((I.1.1.length:Int) <= 12)
def au7:=cu [(false,.int),(false,(.sl .dV))] cg (bV P2) 52 [] [au6] func43
def Cx(C:fE):ah (Bool):=(cC C.state 0 2).bind λD=>bif D then (cC C.since 0 1000000).bind λE=>bif E then (cC C.idle 0 1000000).bind λI=>some I else some false else some false
def agT:=bD [(true,.Power)] cg (bP Cx) 16 [fe] func46
abbrev agU:=(((aa cq)×af×(aa cq)×Int×Int×(aa cq)×Int×Int×af)×((Int×Int×Int×af)×af))
def Fa(x:agU):ah (agU⊕(((Bool×af)×(af))⊕((((aa cq)×(aa cq)×Int×Int×af)×(af))⊕Empty))):=letI D:=x.1.2.2;letI C:=D.2.2;letI E:=xG ((x.1.1,(),D.1,D.2.1,C.1,C.2.1,C.2.2.1,(W6 (C.2.2.2.1+1)),()),(x.2.1,()));bif C.2.2.2.1<C.2.2.1 then xI C.2.1 C.2.2.2.1 λI=>bif (x.2.1.1==I.line)then bif (x.2.1.2.1==I.code)then az ((false,()),())else E else E else aT ((x.1.1,D.1,D.2.1,C.1,()),())
def agV:KY 59 (sj (bw f47) 0):=⟨2,lB 2 ⟨[(0,.lf (.aI .gw 0)),(4,.aO 4 0),(7,.lf (.aI .gw 0)),(8,tI),(9,tI),(36,.lf (.aI .gw 0)),(37,tI),(38,tI)],[(4,.aC HV)],[]⟩ [(1,n7),(4,adx)] Fa,lp []⟩
abbrev agW:=(((aa cq)×(aa cq)×Int×Int×af)×(af))
def Kk(x:agW):ah (agW⊕(((Bool×af)×(af))⊕((((aa cq)×af)×(af))⊕Empty))):=letI I:=az ((false,()),());letI D:=x.1.2.2.2.1;letI L:=(x.1.1.take D.toNat).drop (0:Int).toNat;bif D<x.1.2.2.1 then xI x.1.2.1 D λC=>letI O:=(cC C.times 1 999).bind λT=>bif (!T)then I else if 0 <= (0:Int)/\0 <= D/\D <= (x.1.1.length:Int)then bM Fa ((x.1.1,(),x.1.2.1,x.1.2.2.1,D,L,(L.length:Int),0,()),((C.line,C.code,C.times,()),())) (λU=>az ((U.1.1,()),())) λE=>xG ((E.1.1,E.1.2.1,E.1.2.2.1,(W6 (E.1.2.2.2.1+1)),()),())else none;(cC C.line 0 1023).bind λY=>bif (!Y)then I else bif (C.code != 1)then bif (C.code != 2)then I else O else O else aT ((x.1.1,()),())
def au8:KY 59 (bw f47):=⟨0,lB 0 adx [(1,n7),(2,⟨[(0,.lf (.aI .gw 0))],[],[]⟩)] Kk,lq [fe] [agV,agV]⟩
def Kl(C:aa cq):ah (Bool):=bM Kk ((C,C,(C.length:Int),0,()),()) (λD=>some D.1.1) λE=>some ((E.1.1.length:Int) <= 6)
def agX:=cu [(false,(.sl .gw))] cg (bP Kl) 59 [] [au8] func47
def Fb(C:av):ah (Bool):=(su C.config C.box.bz).bind λD=>bif (!D)then some false else (su C.config C.box.next).bind λE=>bif (!E)then some false else (cC C.now 0 1000000).bind λI=>bif (!I)then some false else (J8 C.config.ax C.bk).bind λL=>bif (!L)then some false else (E7 C.config.ax C.ready).bind λO=>bif (!O)then some false else (Ke C.config.ax C.array).bind λT=>bif (!T)then some false else (J2 C.config.ax C.spare).bind λU=>bif (!U)then some false else bif (C.spare.bB != C.config.bB)then some false else (PZ C).bind λY=>bif (!Y)then some false else (E2 C.config.ax C.spare).bind λZ=>(Ah Z).bind λji=>(P2 ji C.queue).bind λfY=>bif (!fY)then some false else (E5 C.shares).bind λiz=>bif (!iz)then some false else bif ((C.shares.length:Int) != 4)then some false else (Cq C.drain).bind λiK=>bif (!iK)then some false else (Cx C.aR).bind λlN=>bif (!lN)then some false else bif (C.aR.state != C.bk.aR)then some false else bif C.aR.since > C.now then some false else (cC C.bY.every 1 100000).bind λjj=>bif jj then (cC C.bY.wait 1 C.bY.every).bind λjG=>bif jG then (Ah C.config.ax).bind λjW=>(cC C.bY.next 0 (W6 (jW-1))).bind λoZ=>bif oZ then (Kl C.errors).bind λxm=>bif xm then bif (C.trace.length:Int) <= 2000 then some ((C.cr.length:Int) <= 400)else some false else some false else some false else some false else some false
def au9:=bD BX cg (bP Fb) 155 [W8,Xa,auO,fe,agz,Xd,auW,agp,au3,au7,Xc,agt,agT,agX] func13
def Km(C:dM):ah (dM):=bif xZ C.weights then some (⟨C.dz,C.cap,C.dK,C.low,C.high,(xA C.weights),C.cN⟩:dM)else none
def ava:=bD HZ [(true,.mB,2)] (bP Km) 9 [] func129
def Kn(C:iR):ah (iR):=(Km C.bz).bind λD=>(Km C.next).bind λE=>some (⟨D,E,C.waits⟩:iR)
def avb:=bD [(true,.pz)] [(true,.pz,2)] (bP Kn) 12 [ava] func98
def Fc(C:cD):ah (cD):=bif xZ C.aB then some (⟨(xA C.aB),C.aR⟩:cD)else none
def agY:=bD [(true,.iS)] [(true,.iS,2)] (bP Fc) 9 [] func99
def Fe(C:dy):ah (dy):=bif xZ C.last then bif xZ C.bf then some (⟨(xA C.last),(xA C.bf)⟩:dy)else none else none
def agZ:=bD [(true,.lU)] [(true,.lU,2)] (bP Fe) 12 [] func100
def P3(C:bX):ah (bX):=bif xZ C.symbols then some (⟨(xA C.symbols),C.jb⟩:bX)else none
def avc:=bD [(true,.Cell)] [(true,.Cell,2)] (bP P3) 9 [] func195
def avd:bU:=⟨[(2,.aO 2 0),(3,.aO 3 0),(16,.lf (.aI .Cell 0)),(17,tI),(18,tI)],adm,[]⟩
def ave:aa (Nat×bU):=[(2,⟨[(2,.aO 2 0),(3,.aO 3 0)],adm,[]⟩)]
abbrev ag0:=((af×af×(aa bX)×Int×Int×af)×((af×af×af×af)×(af×af×af×af)×(aa bX)×(aa Int)×(aa Int)×(aa bX)×(aa Int)×(aa Int)×af))
def Ko(x:ag0):ah (ag0⊕(((af×af×af)×((af×af×af×af)×(af×af×af×af)×(aa bX)×(aa Int)×(aa Int)×(aa bX)×(aa Int)×(aa Int)×af))⊕Empty)):=letI E:=x.2.2.2;letI D:=x.1.2.2;letI I:=((),(),(),());letI C:=E.2.2;bif D.2.2.1<D.2.1 then xI D.1 D.2.2.1 λO=>(P3 O).bind λL=>bif bF (C.2.1.length+[L].length)then xG (((),(),D.1,D.2.1,(W6 (D.2.2.1+1)),()),(I,I,E.1,E.2.1,C.1,(C.2.1++[L]),C.2.2.1,C.2.2.2.1,()))else none else az (((),(),()),(I,I,E.1,E.2.1,C.1,C.2.1,C.2.2.1,C.2.2.2.1,()))
def avf:KY 31 (bw f101):=⟨0,lB 0 avd ave Ko,lp [avc]⟩
def Kp(C:dU):ah (dU):=bif xZ C.br then bif xZ C.bh then bA Ko (((),(),C.cells,(C.cells.length:Int),0,()),(((),(),(),()),((),(),(),()),([]:aa bX),([]:aa Int),([]:aa Int),([]:aa bX),(xA C.br),(xA C.bh),())) λE=>letI D:=E.2.2.2.2.2.2;some (⟨D.1,D.2.1,D.2.2.1⟩:dU)else none else none
def avg:=cu [(true,.Array)] [(true,.Array,4)] (bP Kp) 31 [] [avf] func101
def ag1(C:aa Int):ah ((aa Int)):=bif jP C then none else bif bF (([]:aa Int).length+C.length)then some (([]:aa Int)++C)else none
def P4(C:aa Int):ah ((aa Int)):=bif jP C then some []else ag1 C
def ag2:je:=iI [(false,(.sl .int))] [(false,(.sl .int),2)] (λx=>P4 x.1)
def avh:enters Tryz.prog 102/\iF Tryz.prog 102 ag2:=BR 8 [] [] func102 trivial qX (t:=.int) (g:=2) (F:=ag1) λx=>by kernel_rfl
def Ff(C:dn):ah (dn):=bif xZ C.aH then some (⟨(xA C.aH),C.wait,C.dL⟩:dn)else none
def ag3:=bD HX [(true,.mA,2)] (bP Ff) 9 [] func103
def Fg(C:ck):ah (ck):=bif xZ C.rows then bif xZ C.counts then some (⟨(xA C.rows),(xA C.counts),C.c9⟩:ck)else none else none
def ag4:=bD [(true,.hD)] [(true,.hD,2)] (bP Fg) 14 [] func104
def ag5(C:aa aJ):ah ((aa aJ)):=bif jP C then none else bif bF (([]:aa aJ).length+C.length)then some (([]:aa aJ)++C)else none
def Xh(C:aa aJ):ah ((aa aJ)):=bif jP C then some []else ag5 C
def ag6:je:=iI [(false,(.sl .Addr))] [(false,(.sl .Addr),2)] (λx=>Xh x.1)
def avi:enters Tryz.prog 105/\iF Tryz.prog 105 ag6:=BR 8 [] [] func105 trivial qX (t:=.Addr) (g:=2) (F:=ag5) λx=>by kernel_rfl
def ag7(C:aa aU):ah ((aa aU)):=bif jP C then none else bif bF (([]:aa aU).length+C.length)then some (([]:aa aU)++C)else none
def Xi(C:aa aU):ah ((aa aU)):=bif jP C then some []else ag7 C
def ag8:je:=iI [(false,(.sl .dV))] [(false,(.sl .dV),2)] (λx=>Xi x.1)
def avj:enters Tryz.prog 106/\iF Tryz.prog 106 ag8:=BR 8 [] [] func106 trivial qX (t:=.dV) (g:=2) (F:=ag7) λx=>by kernel_rfl
def ag9(C:aa cw):ah ((aa cw)):=bif jP C then none else bif bF (([]:aa cw).length+C.length)then some (([]:aa cw)++C)else none
def Xj(C:aa cw):ah ((aa cw)):=bif jP C then some []else ag9 C
def aha:je:=iI [(false,(.sl .fU))] [(false,(.sl .fU),2)] (λx=>Xj x.1)
def avk:enters Tryz.prog 107/\iF Tryz.prog 107 aha:=BR 8 [] [] func107 trivial qX (t:=.fU) (g:=2) (F:=ag9) λx=>by kernel_rfl
def ahb(C:aa cq):ah ((aa cq)):=bif jP C then none else bif bF (([]:aa cq).length+C.length)then some (([]:aa cq)++C)else none
def Xk(C:aa cq):ah ((aa cq)):=bif jP C then some []else ahb C
def ahc:je:=iI [(false,(.sl .gw))] [(false,(.sl .gw),2)] (λx=>Xk x.1)
def avl:enters Tryz.prog 108/\iF Tryz.prog 108 ahc:=BR 8 [] [] func108 trivial qX (t:=.gw) (g:=2) (F:=ahb) λx=>by kernel_rfl
def ahd(C:aa fk):ah ((aa fk)):=bif jP C then none else bif bF (([]:aa fk).length+C.length)then some (([]:aa fk)++C)else none
def Xl(C:aa fk):ah ((aa fk)):=bif jP C then some []else ahd C
def ahe:je:=iI [(false,(.sl .Event))] [(false,(.sl .Event),2)] (λx=>Xl x.1)
def avm:enters Tryz.prog 109/\iF Tryz.prog 109 ahe:=BR 8 [] [] func109 trivial qX (t:=.Event) (g:=2) (F:=ahd) λx=>by kernel_rfl
def ahf(C:aa eR):ah ((aa eR)):=bif jP C then none else bif bF (([]:aa eR).length+C.length)then some (([]:aa eR)++C)else none
def Xm(C:aa eR):ah ((aa eR)):=bif jP C then some []else ahf C
def ahg:je:=iI [(false,(.sl .mC))] [(false,(.sl .mC),2)] (λx=>Xm x.1)
def avn:enters Tryz.prog 110/\iF Tryz.prog 110 ahg:=BR 8 [] [] func110 trivial qX (t:=.mC) (g:=2) (F:=ahf) λx=>by kernel_rfl
def avo:bU:=⟨[(1,.aO 1 0),(2,.aO 2 0),(3,.aO 3 0),(36,.lf (.aI .hD 0)),(37,tI),(38,tI)],zz1,Oa⟩
def avp:aa (Nat×bU):=[(2,⟨ad2,zz1,Oa⟩)]
abbrev ahh:=((af×af×af×(aa ck)×Int×Int×af)×(av×av×(Int×Int×Int×Int×Int×Int×Int×Int×Int×Int×Int×Int×Int×Int×Int×Int×Int×Int×Int×Int×Int×Int×Bool×Int×Int×Int×Int×Int×Int×Int×Int×Int×Int×af×Int×Int×Int×Int×Int×Int×Int×af×Int×Int×Bool×Int×af×Int×af×af×af×af×af×Int×af×af×Int×Bool×af×(aa Int)×(aa aJ)×(aa aU)×(aa cw)×Bool×Int×Int×Int×Int×Int×Int×Int×Int×(aa cq)×(aa fk)×(aa eR)×af)×(aa Int)×(aa Int)×(aa eP)×(aa Int)×(aa Int)×(aa bX)×(aa Int)×(aa Int)×(aa Int)×(aa Int)×(aa ck)×af))
def Fh(x:ahh):ah (ahh⊕(((af×af×af×af)×(av×av×(Int×Int×Int×Int×Int×Int×Int×Int×Int×Int×Int×Int×Int×Int×Int×Int×Int×Int×Int×Int×Int×Int×Bool×Int×Int×Int×Int×Int×Int×Int×Int×Int×Int×af×Int×Int×Int×Int×Int×Int×Int×af×Int×Int×Bool×Int×af×Int×af×af×af×af×af×Int×af×af×Int×Bool×af×(aa Int)×(aa aJ)×(aa aU)×(aa cw)×Bool×Int×Int×Int×Int×Int×Int×Int×Int×(aa cq)×(aa fk)×(aa eR)×af)×(aa Int)×(aa Int)×(aa eP)×(aa Int)×(aa Int)×(aa bX)×(aa Int)×(aa Int)×(aa Int)×(aa Int)×(aa ck)×af))⊕Empty)):=letI E:=x.1.2.2.2;letI C:=x.2.2.2.2;letI I:=C.2.2.2.2;letI D:=I.2.2.2;bif E.2.2.1<E.2.1 then xI E.1 E.2.2.1 λO=>(Fg O).bind λL=>bif bF (D.2.2.2.1.length+[L].length)then xG (((),(),(),E.1,E.2.1,(W6 (E.2.2.1+1)),()),(x.2.1,x.2.2.1,x.2.2.2.1,C.1,C.2.1,C.2.2.1,C.2.2.2.1,I.1,I.2.1,I.2.2.1,D.1,D.2.1,D.2.2.1,(D.2.2.2.1++[L]),()))else none else az (((),(),(),()),(x.2.1,x.2.2.1,x.2.2.2.1,C.1,C.2.1,C.2.2.1,C.2.2.2.1,I.1,I.2.1,I.2.2.1,D.1,D.2.1,D.2.2.1,D.2.2.2.1,()))
def avq:KY 79 (bw f30):=⟨0,lB 0 avo avp Fh,lp [ag4]⟩
def Kq(C:av):ah (av):=(Kn C.box).bind λD=>(Fc C.bk).bind λy2=>(Fe C.ready).bind λy3=>(Kp C.array).bind λy4=>(P4 C.spare.map).bind λy5=>(Ff C.aL).bind λy6=>bA Fh (((),(),(),C.bH,(C.bH.length:Int),0,()),((⟨⟨⟨0,0,0,0⟩,⟨0,0,0,0,0,0,0,0,0,0,0,0,0,0,0,0,0⟩,⟨0,false⟩,0,0,0,⟨0,0⟩⟩,⟨⟨0,0,0,0,0,([]:aa Int),⟨0,0⟩⟩,⟨0,0,0,0,0,([]:aa Int),⟨0,0⟩⟩,false⟩,0,⟨([]:aa eP),0⟩,⟨([]:aa Int),([]:aa Int)⟩,⟨([]:aa bX),([]:aa Int),([]:aa Int)⟩,⟨0,([]:aa Int)⟩,⟨([]:aa Int),0,false⟩,([]:aa ck),([]:aa Int),([]:aa aJ),([]:aa aU),([]:aa cw),⟨false,0,0⟩,⟨0,0,0⟩,⟨0,0,0⟩,([]:aa cq),([]:aa fk),([]:aa eR)⟩:av),C,(C.config.ax.bR,C.config.ax.aB,C.config.ax.rows,C.config.ax.aM,C.config.aE.fB,C.config.aE.rp,C.config.aE.ef,C.config.aE.gn,C.config.aE.fo,C.config.aE.fC,C.config.aE.gp,C.config.aE.ga,C.config.aE.eT,C.config.aE.wr,C.config.aE.gd,C.config.aE.gq,C.config.aE.gO,C.config.aE.gu,C.config.aE.gv,C.config.aE.xp,C.config.aE.xs,C.config.mapping.order,C.config.mapping.hash,C.config.bB,C.config.interval,C.config.eD,C.config.cA.br,C.config.cA.bh,D.bz.dz,D.bz.cap,D.bz.dK,D.bz.low,D.bz.high,(),D.bz.cN.down,D.bz.cN.sleep,D.next.dz,D.next.cap,D.next.dK,D.next.low,D.next.high,(),D.next.cN.down,D.next.cN.sleep,D.waits,C.now,(),y2.aR,(),(),(),(),(),C.spare.bB,(),(),y6.wait,y6.dL,(),C.guard,C.pending,C.queue,C.shares,C.drain.on,C.drain.low,C.drain.high,C.aR.state,C.aR.since,C.aR.idle,C.bY.next,C.bY.every,C.bY.wait,C.errors,C.trace,C.cr,()),D.bz.weights,D.next.weights,y2.aB,y3.last,y3.bf,y4.cells,y4.br,y4.bh,y5,y6.aH,([]:aa ck),())) λfq=>letI I:=fq.2.2.1;letI E:=fq.2.2.2;letI u16:=E.1.2.2;letI u9:=E.2.2.2.2.2;letI sn:=u9.2.2.2;letI u7:=u16.2.2.2;letI sk:=u7.2.2.2;letI u2:=sk.2.2.2;letI O:=u2.2.2.2;letI T:=O.2.2.2.2;letI U:=T.2.2.2.2;letI Y:=U.2.2.2.2;letI kB:=Y.2.2.2.2;letI tO:=kB.2.2.2.2;letI L:=tO.2.2;letI u8:=L.2.2.2.2.2.2;letI B0:=u8.2.2.2.2.2.2.2.2.2.2.2;letI u1:=B0.2.2.2;letI Z:=u1.2.2.2.2.2.2.2;letI q8:=Z.2.2.2.2;(P4 I.guard).bind λfY=>(Xh I.pending).bind λiz=>(Xi I.queue).bind λiK=>(Xj I.shares).bind λlN=>(Xk I.errors).bind λjj=>(Xl I.trace).bind λjG=>(Xm I.cr).bind λjW=>some (⟨⟨⟨E.1.1,E.1.2.1,u16.1,u16.2.1⟩,⟨u16.2.2.1,u7.1,u7.2.1,u7.2.2.1,sk.1,sk.2.1,sk.2.2.1,u2.1,u2.2.1,u2.2.2.1,O.1,O.2.1,O.2.2.1,O.2.2.2.1,T.1,T.2.1,T.2.2.1⟩,⟨T.2.2.2.1,U.1⟩,U.2.1,U.2.2.1,U.2.2.2.1,⟨Y.1,Y.2.1⟩⟩,⟨⟨Y.2.2.1,Y.2.2.2.1,kB.1,kB.2.1,kB.2.2.1,E.2.1,⟨tO.1,tO.2.1⟩⟩,⟨L.1,L.2.1,L.2.2.1,L.2.2.2.1,L.2.2.2.2.1,E.2.2.1,⟨u8.1,u8.2.1⟩⟩,u8.2.2.1⟩,u8.2.2.2.1,⟨E.2.2.2.1,u8.2.2.2.2.2.1⟩,⟨E.2.2.2.2.1,u9.1⟩,⟨u9.2.1,u9.2.2.1,sn.1⟩,⟨B0.1,sn.2.1⟩,⟨sn.2.2.1,u1.1,u1.2.1⟩,sn.2.2.2.1,fY,iz,iK,lN,⟨Z.1,Z.2.1,Z.2.2.1⟩,⟨Z.2.2.2.1,q8.1,q8.2.1⟩,⟨q8.2.2.1,q8.2.2.2.1,q8.2.2.2.2.1⟩,jj,jG,jW⟩:av)
def avr:=cu BX [(true,.de,4)] (bP Kq) 79 [avb,agY,agZ,avg,⟨102,.p ag2,avh⟩,ag3,⟨105,.p ag6,avi⟩,⟨106,.p ag8,avj⟩,⟨107,.p aha,avk⟩,⟨108,.p ahc,avl⟩,⟨109,.p ahe,avm⟩,⟨110,.p ahg,avn⟩] [avq] func30
def Cy(C:Int)(D:Bool)(E:Int):ah (Bool):=bif (!D)then some (C==0)else (cC C 0 (W6 (E-1))).bind λI=>some I
def avs:=bD [(false,.int),(false,.bool),(false,.int)] cg (gA Cy) 15 [fe] func271
def P5(C:Int):ah (Bool):=some (C==1)
def avt:=bD lM cg (bP P5) 5 [] func272
def P6(C:Int):ah (Bool):=bif (C==2)then some true else some (C==3)
def avu:=bD lM cg (bP P6) 9 [] func273
def Xn(C:aF)(D E I:Int):ah (Bool):=(cC C.kind 1 9).bind λL=>bif L then (xK C.kind).bind λO=>(Cy C.ay O D).bind λT=>bif T then (P5 C.kind).bind λU=>(Cy C.row U E).bind λY=>bif Y then (P6 C.kind).bind λZ=>(Cy C.bL Z I).bind λy7=>some y7 else some false else some false else some false
def avv:=bD [(true,.Command),(false,.int),(false,.int),(false,.int)] cg (oY Xn) 39 [fe,PW,avs,avt,avu] func183
end Go.Proofs.YtglnbhiaknohlaaGreat
