/-
  Functions of the program as plain functions of contents, and that the code computes them. Nothing here is a claim.
-/
import Derived.Test.YtecofnkoloihpaaGreatVZ
import Derived.Test.YtecofnkoloihpaaGreatRows
import Derived.Test.YtecofnkoloihpaaGreatG1
import Derived.Test.YtecofnkoloihpaaGreatG2
import Derived.Test.YtecofnkoloihpaaGreatG3
import Derived.Test.YtecofnkoloihpaaGreatG4
import Derived.Test.YtecofnkoloihpaaGreatG5
import Derived.Test.YtecofnkoloihpaaGreatG6
import Derived.Test.YtecofnkoloihpaaGreatG7
namespace Go.Proofs.YtecofnkoloihpaaGreat
open Go.RowKit
set_option linter.unusedVariables false
set_option maxRecDepth 100000
def Ql(x0 x1:jr):ak (Bool):=(Qh x0.aJ x1.aJ).bind λy1=>bif (!y1)then some false else (Qi x0.cx x1.cx).bind λy2=>bif (!y2)then some false else (Qj x0.mapping x1.mapping).bind λy3=>bif (!y3)then some false else bif (x0.cF != x1.cF)then some false else bif (x0.interval != x1.interval)then some false else bif (x0.kI != x1.kI)then some false else (Qk x0.dZ x1.dZ).bind λy4=>bif (!y4)then some false else some true
def atT:KX:=⟨55,.p (aE [(true,.Config),(true,.Config)] [(false,.bool,0)] λx=>Ql x.1 x.2.1),kp 44 [atM,atO,atP,atQ] Tryz.func55⟩
abbrev af9:=(((af Int)×(af Int)×Int×ah)×(ah))
def aga(x:af9):ak (af9⊕(((Bool×ah)×(ah))⊕(((ah)×(ah))⊕Empty))):=bif x.1.2.2.1<(x.1.1.length:Int)then xI x.1.1 x.1.2.2.1 λe2=>xI x.1.2.1 x.1.2.2.1 λe4=>bif (e2 != e4)then ax ((false,()),())else xG ((x.1.1,x.1.2.1,(W6 (x.1.2.2.1+1)),()),())else bu ((),())
def atU:KY 26 (bz Tryz.f63):=⟨0,lB 0 ⟨[(0,.lf (.az .int 0)),(1,.lf (.az .int 0)),(5,tI)],[],[]⟩ [(1,⟨[(4,tB)],[],[]⟩),(2,⟨[],[],[]⟩)] aga,lp []⟩
def rN(x0 x1:af Int):ak (Bool):=bif ((x0.length:Int) != (x1.length:Int))then some false else bR aga ((x0,x1,0,()),()) (λz5=>some z5.1.1) λz6=>some true
def AP:KX:=⟨63,.p (aE [(false,(.sl .int)),(false,(.sl .int))] [(false,.bool,0)] λx=>rN x.1 x.2.1),kq 26 [] [atU] Tryz.func63⟩
def Qm(x0 x1:oq):ak (Bool):=bif (x0.down != x1.down)then some false else bif (x0.sleep != x1.sleep)then some false else some true
def atV:KX:=⟨289,.p (aE [(true,.pY),(true,.pY)] [(false,.bool,0)] λx=>Qm x.1 x.2.1),kp 15 [] Tryz.func289⟩
def Kz(x0 x1:gn):ak (Bool):=bif (x0.jb != x1.jb)then some false else bif (x0.cap != x1.cap)then some false else bif (x0.fY != x1.fY)then some false else bif (x0.low != x1.low)then some false else bif (x0.high != x1.high)then some false else (rN x0.weights x1.weights).bind λy1=>bif (!y1)then some false else (Qm x0.fZ x1.fZ).bind λy2=>bif (!y2)then some false else some true
def atW:KX:=⟨196,.p (aE [(true,.lz),(true,.lz)] [(false,.bool,0)] λx=>Kz x.1 x.2.1),kp 42 [AP,atV] Tryz.func196⟩
def Qn(x0 x1:kf):ak (Bool):=(Kz x0.cO x1.cO).bind λy1=>bif (!y1)then some false else (Kz x0.next x1.next).bind λy2=>bif (!y2)then some false else bif (!(x0.waits==x1.waits))then some false else some true
def atX:KX:=⟨56,.p (aE [(true,.nt),(true,.nt)] [(false,.bool,0)] λx=>Qn x.1 x.2.1),kp 22 [atW] Tryz.func56⟩
def KA(x0 x1:c8):ak (Bool):=bif (!(x0.open_==x1.open_))then some false else bif (x0.row != x1.row)then some false else some true
def atY:KX:=⟨290,.p (aE [(true,.fL),(true,.fL)] [(false,.bool,0)] λx=>KA x.1 x.2.1),kp 15 [] Tryz.func290⟩
abbrev agb:=(((af c8)×(af c8)×Int×ah)×(ah))
def agc(x:agb):ak (agb⊕(((Bool×ah)×(ah))⊕(((ah)×(ah))⊕Empty))):=bif x.1.2.2.1<(x.1.1.length:Int)then xI x.1.1 x.1.2.2.1 λe2=>xI x.1.2.1 x.1.2.2.1 λe4=>(KA e2 e4).bind λy5=>bif (!y5)then ax ((false,()),())else xG ((x.1.1,x.1.2.1,(W6 (x.1.2.2.1+1)),()),())else bu ((),())
def atZ:KY 27 (bz Tryz.f197):=⟨0,lB 0 ⟨[(0,.lf (.az .fL 0)),(1,.lf (.az .fL 0)),(5,tI)],[],[]⟩ [(1,⟨[(4,tB)],[],[]⟩),(2,⟨[],[],[]⟩)] agc,lp [atY]⟩
def Qo(x0 x1:af c8):ak (Bool):=bif ((x0.length:Int) != (x1.length:Int))then some false else bR agc ((x0,x1,0,()),()) (λz6=>some z6.1.1) λz7=>some true
def at0:KX:=⟨197,.p (aE [(false,(.sl .fL)),(false,(.sl .fL))] [(false,.bool,0)] λx=>Qo x.1 x.2.1),kq 27 [] [atZ] Tryz.func197⟩
def Qp(x0 x1:dy):ak (Bool):=(Qo x0.aI x1.aI).bind λy1=>bif (!y1)then some false else bif (x0.aN != x1.aN)then some false else some true
def at1:KX:=⟨57,.p (aE [(true,.jc),(true,.jc)] [(false,.bool,0)] λx=>Qp x.1 x.2.1),kp 16 [at0] Tryz.func57⟩
def Qq(x0 x1:dA):ak (Bool):=(rN x0.last x1.last).bind λy1=>bif (!y1)then some false else (rN x0.aZ x1.aZ).bind λy2=>bif (!y2)then some false else some true
def at2:KX:=⟨58,.p (aE [(true,.jA),(true,.jA)] [(false,.bool,0)] λx=>Qq x.1 x.2.1),kp 17 [AP] Tryz.func58⟩
def KB(x0 x1:bG):ak (Bool):=(rN x0.symbols x1.symbols).bind λy1=>bif (!y1)then some false else bif (!(x0.eF==x1.eF))then some false else some true
def at3:KX:=⟨291,.p (aE [(true,.Cell),(true,.Cell)] [(false,.bool,0)] λx=>KB x.1 x.2.1),kp 16 [AP] Tryz.func291⟩
abbrev agd:=(((af bG)×(af bG)×Int×ah)×(ah))
def agf(x:agd):ak (agd⊕(((Bool×ah)×(ah))⊕(((ah)×(ah))⊕Empty))):=bif x.1.2.2.1<(x.1.1.length:Int)then xI x.1.1 x.1.2.2.1 λe2=>xI x.1.2.1 x.1.2.2.1 λe4=>(KB e2 e4).bind λy5=>bif (!y5)then ax ((false,()),())else xG ((x.1.1,x.1.2.1,(W6 (x.1.2.2.1+1)),()),())else bu ((),())
def at4:KY 27 (bz Tryz.f198):=⟨0,lB 0 ⟨[(0,.lf (.az .Cell 0)),(1,.lf (.az .Cell 0)),(5,tI)],[],[]⟩ [(1,⟨[(4,tB)],[],[]⟩),(2,⟨[],[],[]⟩)] agf,lp [at3]⟩
def Qr(x0 x1:af bG):ak (Bool):=bif ((x0.length:Int) != (x1.length:Int))then some false else bR agf ((x0,x1,0,()),()) (λz6=>some z6.1.1) λz7=>some true
def at5:KX:=⟨198,.p (aE [(false,(.sl .Cell)),(false,(.sl .Cell))] [(false,.bool,0)] λx=>Qr x.1 x.2.1),kq 27 [] [at4] Tryz.func198⟩
def Qs(x0 x1:eZ):ak (Bool):=(Qr x0.cells x1.cells).bind λy1=>bif (!y1)then some false else (rN x0.bI x1.bI).bind λy2=>bif (!y2)then some false else (rN x0.bk x1.bk).bind λy3=>bif (!y3)then some false else some true
def at6:KX:=⟨59,.p (aE [(true,.Array),(true,.Array)] [(false,.bool,0)] λx=>Qs x.1 x.2.1),kp 23 [AP,at5] Tryz.func59⟩
def Qt(x0 x1:fe):ak (Bool):=bif (x0.cF != x1.cF)then some false else (rN x0.map x1.map).bind λy1=>bif (!y1)then some false else some true
def at7:KX:=⟨60,.p (aE [(true,.kg),(true,.kg)] [(false,.bool,0)] λx=>Qt x.1 x.2.1),kp 16 [AP] Tryz.func60⟩
def Qu(x0 x1:fI):ak (Bool):=(rN x0.cg x1.cg).bind λy1=>bif (!y1)then some false else bif (x0.wait != x1.wait)then some false else bif (!(x0.ja==x1.ja))then some false else some true
def at8:KX:=⟨61,.p (aE [(true,.ki),(true,.ki)] [(false,.bool,0)] λx=>Qu x.1 x.2.1),kp 21 [AP] Tryz.func61⟩
def KD(x0 x1:bO):ak (Bool):=(rN x0.rows x1.rows).bind λy1=>bif (!y1)then some false else (rN x0.counts x1.counts).bind λy2=>bif (!y2)then some false else bif (x0.cN != x1.cN)then some false else some true
def at9:KX:=⟨199,.p (aE [(true,.eN),(true,.eN)] [(false,.bool,0)] λx=>KD x.1 x.2.1),kp 22 [AP] Tryz.func199⟩
abbrev agh:=(((af bO)×(af bO)×Int×ah)×(ah))
def agi(x:agh):ak (agh⊕(((Bool×ah)×(ah))⊕(((ah)×(ah))⊕Empty))):=bif x.1.2.2.1<(x.1.1.length:Int)then xI x.1.1 x.1.2.2.1 λe2=>xI x.1.2.1 x.1.2.2.1 λe4=>(KD e2 e4).bind λy5=>bif (!y5)then ax ((false,()),())else xG ((x.1.1,x.1.2.1,(W6 (x.1.2.2.1+1)),()),())else bu ((),())
def aua:KY 27 (bz Tryz.f62):=⟨0,lB 0 ⟨[(0,.lf (.az .eN 0)),(1,.lf (.az .eN 0)),(5,tI)],[],[]⟩ [(1,⟨[(4,tB)],[],[]⟩),(2,⟨[],[],[]⟩)] agi,lp [at9]⟩
def Qv(x0 x1:af bO):ak (Bool):=bif ((x0.length:Int) != (x1.length:Int))then some false else bR agi ((x0,x1,0,()),()) (λz6=>some z6.1.1) λz7=>some true
def aub:KX:=⟨62,.p (aE [(false,(.sl .eN)),(false,(.sl .eN))] [(false,.bool,0)] λx=>Qv x.1 x.2.1),kq 27 [] [aua] Tryz.func62⟩
def KE(x0 x1:aP):ak (Bool):=bif (x0.ay != x1.ay)then some false else bif (x0.row != x1.row)then some false else bif (x0.bL != x1.bL)then some false else some true
def auc:KX:=⟨200,.p (aE [(true,.Addr),(true,.Addr)] [(false,.bool,0)] λx=>KE x.1 x.2.1),kp 20 [] Tryz.func200⟩
abbrev agj:=(((af aP)×(af aP)×Int×ah)×(ah))
def agk(x:agj):ak (agj⊕(((Bool×ah)×(ah))⊕(((ah)×(ah))⊕Empty))):=bif x.1.2.2.1<(x.1.1.length:Int)then xI x.1.1 x.1.2.2.1 λe2=>xI x.1.2.1 x.1.2.2.1 λe4=>(KE e2 e4).bind λy5=>bif (!y5)then ax ((false,()),())else xG ((x.1.1,x.1.2.1,(W6 (x.1.2.2.1+1)),()),())else bu ((),())
def aud:KY 27 (bz Tryz.f64):=⟨0,lB 0 ⟨[(0,.lf (.az .Addr 0)),(1,.lf (.az .Addr 0)),(5,tI)],[],[]⟩ [(1,⟨[(4,tB)],[],[]⟩),(2,⟨[],[],[]⟩)] agk,lp [auc]⟩
def Qx(x0 x1:af aP):ak (Bool):=bif ((x0.length:Int) != (x1.length:Int))then some false else bR agk ((x0,x1,0,()),()) (λz6=>some z6.1.1) λz7=>some true
def aue:KX:=⟨64,.p (aE [(false,(.sl .Addr)),(false,(.sl .Addr))] [(false,.bool,0)] λx=>Qx x.1 x.2.1),kq 27 [] [aud] Tryz.func64⟩
def KF(x0 x1:bN):ak (Bool):=bif (x0.id != x1.id)then some false else bif (x0.dX != x1.dX)then some false else bif (x0.line != x1.line)then some false else bif (!(x0.write==x1.write))then some false else bif (x0.data != x1.data)then some false else bif (x0.at_ != x1.at_)then some false else some true
def auf:KX:=⟨201,.p (aE [(true,.dR),(true,.dR)] [(false,.bool,0)] λx=>KF x.1 x.2.1),kp 35 [] Tryz.func201⟩
abbrev agl:=(((af bN)×(af bN)×Int×ah)×(ah))
def agm(x:agl):ak (agl⊕(((Bool×ah)×(ah))⊕(((ah)×(ah))⊕Empty))):=bif x.1.2.2.1<(x.1.1.length:Int)then xI x.1.1 x.1.2.2.1 λe2=>xI x.1.2.1 x.1.2.2.1 λe4=>(KF e2 e4).bind λy5=>bif (!y5)then ax ((false,()),())else xG ((x.1.1,x.1.2.1,(W6 (x.1.2.2.1+1)),()),())else bu ((),())
def aug:KY 27 (bz Tryz.f65):=⟨0,lB 0 ⟨[(0,.lf (.az .dR 0)),(1,.lf (.az .dR 0)),(5,tI)],[],[]⟩ [(1,⟨[(4,tB)],[],[]⟩),(2,⟨[],[],[]⟩)] agm,lp [auf]⟩
def Qy(x0 x1:af bN):ak (Bool):=bif ((x0.length:Int) != (x1.length:Int))then some false else bR agm ((x0,x1,0,()),()) (λz6=>some z6.1.1) λz7=>some true
def auh:KX:=⟨65,.p (aE [(false,(.sl .dR)),(false,(.sl .dR))] [(false,.bool,0)] λx=>Qy x.1 x.2.1),kq 27 [] [aug] Tryz.func65⟩
def KG(x0 x1:bC):ak (Bool):=bif (x0.weight != x1.weight)then some false else bif (x0.gN != x1.gN)then some false else some true
def aui:KX:=⟨202,.p (aE [(true,.dK),(true,.dK)] [(false,.bool,0)] λx=>KG x.1 x.2.1),kp 15 [] Tryz.func202⟩
abbrev agn:=(((af bC)×(af bC)×Int×ah)×(ah))
def ago(x:agn):ak (agn⊕(((Bool×ah)×(ah))⊕(((ah)×(ah))⊕Empty))):=bif x.1.2.2.1<(x.1.1.length:Int)then xI x.1.1 x.1.2.2.1 λe2=>xI x.1.2.1 x.1.2.2.1 λe4=>(KG e2 e4).bind λy5=>bif (!y5)then ax ((false,()),())else xG ((x.1.1,x.1.2.1,(W6 (x.1.2.2.1+1)),()),())else bu ((),())
def auj:KY 27 (bz Tryz.f66):=⟨0,lB 0 ⟨[(0,.lf (.az .dK 0)),(1,.lf (.az .dK 0)),(5,tI)],[],[]⟩ [(1,⟨[(4,tB)],[],[]⟩),(2,⟨[],[],[]⟩)] ago,lp [aui]⟩
def Qz(x0 x1:af bC):ak (Bool):=bif ((x0.length:Int) != (x1.length:Int))then some false else bR ago ((x0,x1,0,()),()) (λz6=>some z6.1.1) λz7=>some true
def auk:KX:=⟨66,.p (aE [(false,(.sl .dK)),(false,(.sl .dK))] [(false,.bool,0)] λx=>Qz x.1 x.2.1),kq 27 [] [auj] Tryz.func66⟩
def QA(x0 x1:mP):ak (Bool):=bif (!(x0.on==x1.on))then some false else bif (x0.low != x1.low)then some false else bif (x0.high != x1.high)then some false else some true
def aul:KX:=⟨67,.p (aE [(true,.pX),(true,.pX)] [(false,.bool,0)] λx=>QA x.1 x.2.1),kp 20 [] Tryz.func67⟩
def QB(x0 x1:gO):ak (Bool):=bif (x0.state != x1.state)then some false else bif (x0.since != x1.since)then some false else bif (x0.idle != x1.idle)then some false else some true
def aum:KX:=⟨68,.p (aE [(true,.Power),(true,.Power)] [(false,.bool,0)] λx=>QB x.1 x.2.1),kp 20 [] Tryz.func68⟩
def QC(x0 x1:s8):ak (Bool):=bif (x0.next != x1.next)then some false else bif (x0.every != x1.every)then some false else bif (x0.wait != x1.wait)then some false else some true
def aun:KX:=⟨69,.p (aE [(true,.rX),(true,.rX)] [(false,.bool,0)] λx=>QC x.1 x.2.1),kp 20 [] Tryz.func69⟩
def KH(x0 x1:bw):ak (Bool):=bif (x0.line != x1.line)then some false else bif (x0.code != x1.code)then some false else bif (x0.times != x1.times)then some false else some true
def auo:KX:=⟨203,.p (aE [(true,.dB),(true,.dB)] [(false,.bool,0)] λx=>KH x.1 x.2.1),kp 20 [] Tryz.func203⟩
abbrev agp:=(((af bw)×(af bw)×Int×ah)×(ah))
def agq(x:agp):ak (agp⊕(((Bool×ah)×(ah))⊕(((ah)×(ah))⊕Empty))):=bif x.1.2.2.1<(x.1.1.length:Int)then xI x.1.1 x.1.2.2.1 λe2=>xI x.1.2.1 x.1.2.2.1 λe4=>(KH e2 e4).bind λy5=>bif (!y5)then ax ((false,()),())else xG ((x.1.1,x.1.2.1,(W6 (x.1.2.2.1+1)),()),())else bu ((),())
def aup:KY 27 (bz Tryz.f70):=⟨0,lB 0 ⟨[(0,.lf (.az .dB 0)),(1,.lf (.az .dB 0)),(5,tI)],[],[]⟩ [(1,⟨[(4,tB)],[],[]⟩),(2,⟨[],[],[]⟩)] agq,lp [auo]⟩
def QD(x0 x1:af bw):ak (Bool):=bif ((x0.length:Int) != (x1.length:Int))then some false else bR agq ((x0,x1,0,()),()) (λz6=>some z6.1.1) λz7=>some true
def auq:KX:=⟨70,.p (aE [(false,(.sl .dB)),(false,(.sl .dB))] [(false,.bool,0)] λx=>QD x.1 x.2.1),kq 27 [] [aup] Tryz.func70⟩
def QE(x0 x1:bV):ak (Bool):=bif (x0.kind != x1.kind)then some false else bif (x0.ay != x1.ay)then some false else bif (x0.row != x1.row)then some false else bif (x0.bL != x1.bL)then some false else some true
def aur:KX:=⟨292,.p (aE [(true,.Command),(true,.Command)] [(false,.bool,0)] λx=>QE x.1 x.2.1),kp 25 [] Tryz.func292⟩
def KI(x0 x1:cw):ak (Bool):=bif (x0.at_ != x1.at_)then some false else (QE x0.cmd x1.cmd).bind λy1=>bif (!y1)then some false else some true
def aus:KX:=⟨204,.p (aE [(true,.Event),(true,.Event)] [(false,.bool,0)] λx=>KI x.1 x.2.1),kp 16 [aur] Tryz.func204⟩
abbrev agr:=(((af cw)×(af cw)×Int×ah)×(ah))
def ags(x:agr):ak (agr⊕(((Bool×ah)×(ah))⊕(((ah)×(ah))⊕Empty))):=bif x.1.2.2.1<(x.1.1.length:Int)then xI x.1.1 x.1.2.2.1 λe2=>xI x.1.2.1 x.1.2.2.1 λe4=>(KI e2 e4).bind λy5=>bif (!y5)then ax ((false,()),())else xG ((x.1.1,x.1.2.1,(W6 (x.1.2.2.1+1)),()),())else bu ((),())
def aut:KY 27 (bz Tryz.f71):=⟨0,lB 0 ⟨[(0,.lf (.az .Event 0)),(1,.lf (.az .Event 0)),(5,tI)],[],[]⟩ [(1,⟨[(4,tB)],[],[]⟩),(2,⟨[],[],[]⟩)] ags,lp [aus]⟩
def QF(x0 x1:af cw):ak (Bool):=bif ((x0.length:Int) != (x1.length:Int))then some false else bR ags ((x0,x1,0,()),()) (λz6=>some z6.1.1) λz7=>some true
def auu:KX:=⟨71,.p (aE [(false,(.sl .Event)),(false,(.sl .Event))] [(false,.bool,0)] λx=>QF x.1 x.2.1),kq 27 [] [aut] Tryz.func71⟩
def KJ(x0 x1:cD):ak (Bool):=bif (x0.id != x1.id)then some false else bif (x0.at_ != x1.at_)then some false else bif (x0.data != x1.data)then some false else bif (x0.code != x1.code)then some false else some true
def auv:KX:=⟨205,.p (aE [(true,.gD),(true,.gD)] [(false,.bool,0)] λx=>KJ x.1 x.2.1),kp 25 [] Tryz.func205⟩
abbrev agt:=(((af cD)×(af cD)×Int×ah)×(ah))
def agu(x:agt):ak (agt⊕(((Bool×ah)×(ah))⊕(((ah)×(ah))⊕Empty))):=bif x.1.2.2.1<(x.1.1.length:Int)then xI x.1.1 x.1.2.2.1 λe2=>xI x.1.2.1 x.1.2.2.1 λe4=>(KJ e2 e4).bind λy5=>bif (!y5)then ax ((false,()),())else xG ((x.1.1,x.1.2.1,(W6 (x.1.2.2.1+1)),()),())else bu ((),())
def auw:KY 27 (bz Tryz.f72):=⟨0,lB 0 ⟨[(0,.lf (.az .gD 0)),(1,.lf (.az .gD 0)),(5,tI)],[],[]⟩ [(1,⟨[(4,tB)],[],[]⟩),(2,⟨[],[],[]⟩)] agu,lp [auv]⟩
def QG(x0 x1:af cD):ak (Bool):=bif ((x0.length:Int) != (x1.length:Int))then some false else bR agu ((x0,x1,0,()),()) (λz6=>some z6.1.1) λz7=>some true
def auy:KX:=⟨72,.p (aE [(false,(.sl .gD)),(false,(.sl .gD))] [(false,.bool,0)] λx=>QG x.1 x.2.1),kq 27 [] [auw] Tryz.func72⟩
def C1(x0 x1:aF):ak (Bool):=(Ql x0.config x1.config).bind λy1=>bif (!y1)then some false else (Qn x0.box x1.box).bind λy2=>bif (!y2)then some false else bif (x0.now != x1.now)then some false else (Qp x0.bK x1.bK).bind λy3=>bif (!y3)then some false else (Qq x0.ready x1.ready).bind λy4=>bif (!y4)then some false else (Qs x0.array x1.array).bind λy5=>bif (!y5)then some false else (Qt x0.spare x1.spare).bind λy6=>bif (!y6)then some false else (Qu x0.bT x1.bT).bind λy7=>bif (!y7)then some false else (Qv x0.aW x1.aW).bind λy8=>bif (!y8)then some false else (rN x0.guard x1.guard).bind λy9=>bif (!y9)then some false else (Qx x0.pending x1.pending).bind λgA=>bif (!gA)then some false else (Qy x0.queue x1.queue).bind λfj=>bif (!fj)then some false else (Qz x0.shares x1.shares).bind λfF=>bif (!fF)then some false else (QA x0.drain x1.drain).bind λcH=>bif (!cH)then some false else (QB x0.aN x1.aN).bind λgY=>bif (!gY)then some false else (QC x0.cC x1.cC).bind λgH=>bif (!gH)then some false else (QD x0.errors x1.errors).bind λcE=>bif (!cE)then some false else (QF x0.trace x1.trace).bind λfG=>bif (!fG)then some false else (QG x0.bY x1.bY).bind λgI=>bif (!gI)then some false else some true
def auz:KX:=⟨9,.p (aE [(true,.cK),(true,.cK)] [(false,.bool,0)] λx=>C1 x.1 x.2.1),kp 118 [atT,atX,at1,at2,at6,at7,at8,aub,AP,aue,auh,auk,aul,aum,aun,auq,auu,auy] Tryz.func9⟩
abbrev agv:=((ah×Int×Int×ah)×((af Int)×ah))
def KM(x:agv):ak (agv⊕(((Int×ah)×((af Int)×ah))⊕Empty)):=bif x.1.2.2.1<(x.2.1.length:Int)then xC x.2.1 x.1.2.2.1 (if h2:x.1.2.2.1.toNat<x.2.1.length then (let e3:=x.2.1[x.1.2.2.1.toNat]'h2;xG (((),(W6 (x.1.2.1+1)),(W6 (x.1.2.2.1+1)),()),((x.2.1.set x.1.2.2.1.toNat x.1.2.1),())))else none)else ax ((x.1.2.1,()),(x.2.1,()))
def auA:KY 19 (bz Tryz.f80):=⟨0,lB 0 ⟨[(0,.lf (.own 20000)),(1,tI),(5,tI)],[(20000,.sl .int 2)],[]⟩ [(2,⟨[(1,tI)],[(20000,.sl .int 2)],[]⟩)] KM,lp []⟩
def iu(x0:af Int)(x1:Int):ak ((Int)×((af Int)×ah)):=bQ KM (((),x1,0,()),(x0,())) λz4=>some (z4.1.1,(z4.2.1,()))
def jI:pz:=⟨[.s .int 0,.v false .int],[(false,.int,0)],λx=>iu x.1 x.2.1⟩
theorem AQ:enters Tryz.prog 80/\uE Tryz.prog 80 jI:=kn 19 [] [auA] Tryz.func80
theorem auB:enters Tryz.prog 206/\mB Tryz.prog 206 (cj Tryz.prog Tryz.f206 1 [(80,.m jI)]):=uV (tO 1 [(80,.m jI)] Tryz.func206 ⟨AQ,trivial⟩)
theorem auC:enters Tryz.prog 73/\mB Tryz.prog 73 (cj Tryz.prog Tryz.f73 2 [(206,.i (cj Tryz.prog Tryz.f206 1 [(80,.m jI)]))]):=uV (tO 2 [(206,.i (cj Tryz.prog Tryz.f206 1 [(80,.m jI)]))] Tryz.func73 ⟨auB,trivial⟩)
abbrev agw:=((ah×Int×Int×ah)×((af c8)×ah))
def KN(x:agw):ak (agw⊕(((Int×ah)×((af c8)×ah))⊕Empty)):=bif x.1.2.2.1<(x.2.1.length:Int)then xC x.2.1 x.1.2.2.1 (if h2:x.1.2.2.1.toNat<x.2.1.length then (let e3:=x.2.1[x.1.2.2.1.toNat]'h2;xC (x.2.1.set x.1.2.2.1.toNat (⟨((x.1.2.1.tmod 3)==0),e3.row⟩:c8)) x.1.2.2.1 (if h5:x.1.2.2.1.toNat<(x.2.1.set x.1.2.2.1.toNat (⟨((x.1.2.1.tmod 3)==0),e3.row⟩:c8)).length then (let e6:=(x.2.1.set x.1.2.2.1.toNat (⟨((x.1.2.1.tmod 3)==0),e3.row⟩:c8))[x.1.2.2.1.toNat]'h5;xG (((),(W6 ((W6 (x.1.2.1+1))+1)),(W6 (x.1.2.2.1+1)),()),(((x.2.1.set x.1.2.2.1.toNat (⟨((x.1.2.1.tmod 3)==0),e3.row⟩:c8)).set x.1.2.2.1.toNat (⟨e6.open_,(W6 (x.1.2.1+1))⟩:c8)),())))else none))else none)else ax ((x.1.2.1,()),(x.2.1,()))
def auD:KY 29 (bz Tryz.f207):=⟨0,lB 0 ⟨[(0,.lf (.own 20000)),(1,tI),(5,tI)],[(20000,.sl .fL 2)],[]⟩ [(2,⟨[(1,tI)],[(20000,.sl .fL 2)],[]⟩)] KN,lp []⟩
def C2(x0:af c8)(x1:Int):ak ((Int)×((af c8)×ah)):=bQ KN (((),x1,0,()),(x0,())) λz7=>some (z7.1.1,(z7.2.1,()))
def yw:KX:=⟨207,.m ⟨[.s .fL 0,.v false .int],[(false,.int,0)],λx=>C2 x.1 x.2.1⟩,kn 29 [] [auD] Tryz.func207⟩
theorem auE:enters Tryz.prog 74/\mB Tryz.prog 74 (cj Tryz.prog Tryz.f74 1 [(yw.f,yw.c)]):=uV (tO 1 [(yw.f,yw.c)] Tryz.func74 ⟨yw.ok,trivial⟩)
theorem auF:enters Tryz.prog 75/\mB Tryz.prog 75 (cj Tryz.prog Tryz.f75 1 [(80,.m jI)]):=uV (tO 1 [(80,.m jI)] Tryz.func75 ⟨AQ,trivial⟩)
abbrev agx:=((ah×Int×Int×ah)×((af bG)×ah))
def KO(x:agx):ak (agx⊕(((Int×ah)×((af bG)×ah))⊕Empty)):=bif x.1.2.2.1<(x.2.1.length:Int)then xC x.2.1 x.1.2.2.1 (if h2:x.1.2.2.1.toNat<x.2.1.length then (let e3:=x.2.1[x.1.2.2.1.toNat]'h2;if h4:x.1.2.2.1.toNat<x.2.1.length then (let e5:=x.2.1[x.1.2.2.1.toNat]'h4;(iu e5.symbols x.1.2.1).bind λy6=>xC (x.2.1.set x.1.2.2.1.toNat (⟨y6.2.1,e5.eF⟩:bG)) x.1.2.2.1 (if h8:x.1.2.2.1.toNat<(x.2.1.set x.1.2.2.1.toNat (⟨y6.2.1,e5.eF⟩:bG)).length then (let e9:=(x.2.1.set x.1.2.2.1.toNat (⟨y6.2.1,e5.eF⟩:bG))[x.1.2.2.1.toNat]'h8;xG (((),(W6 (y6.1+1)),(W6 (x.1.2.2.1+1)),()),(((x.2.1.set x.1.2.2.1.toNat (⟨y6.2.1,e5.eF⟩:bG)).set x.1.2.2.1.toNat (⟨e9.symbols,((y6.1.tmod 3)==0)⟩:bG)),())))else none))else none)else none)else ax ((x.1.2.1,()),(x.2.1,()))
def auG:KY 29 (bz Tryz.f208):=⟨0,lB 0 ⟨[(0,.lf (.own 20000)),(1,tI),(5,tI)],[(20000,.sl .Cell 4)],[]⟩ [(2,⟨[(1,tI)],[(20000,.sl .Cell 4)],[]⟩)] KO,lp [⟨80,.d jI,AQ⟩]⟩
def FB(x0:af bG)(x1:Int):ak ((Int)×((af bG)×ah)):=bQ KO (((),x1,0,()),(x0,())) λaQ=>some (aQ.1.1,(aQ.2.1,()))
def yx:KX:=⟨208,.m ⟨[.s .Cell 2,.v false .int],[(false,.int,0)],λx=>FB x.1 x.2.1⟩,kn 29 [] [auG] Tryz.func208⟩
end Go.Proofs.YtecofnkoloihpaaGreat
