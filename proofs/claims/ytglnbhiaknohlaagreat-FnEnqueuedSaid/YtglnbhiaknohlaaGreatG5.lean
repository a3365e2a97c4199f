/-
  Functions of the program as plain functions of contents, and that the code computes them. Nothing here is a claim.
-/
import Derived.Test.YtglnbhiaknohlaaGreatVZ
import Derived.Test.YtglnbhiaknohlaaGreatRows
import Derived.Test.YtglnbhiaknohlaaGreatG1
import Derived.Test.YtglnbhiaknohlaaGreatG2
import Derived.Test.YtglnbhiaknohlaaGreatG3
import Derived.Test.YtglnbhiaknohlaaGreatG4
namespace Go.Proofs.YtglnbhiaknohlaaGreat
open Go.RowKit
set_option linter.unusedVariables false
set_option maxRecDepth 100000
def T6(C:bF):aj ((av)×(bF×af)):=(L7 C).bind λD=>(HY (⟨C.b,D.2.1.i,D.2.1.h⟩:bF)).bind λE=>(Np (⟨C.b,E.2.1.i,E.2.1.h⟩:bF) D.1 12).bind λI=>(Ni D.1 E.1 I.1).bind λJ=>some (J.1,((⟨C.b,I.2.1.i,I.2.1.h⟩:bF),()))
def ao6:KX:=⟨24,.m ⟨[.p .jm 0 0],[(true,.cr,4)],λx=>T6 x.1⟩,km 19 [al3,aoX,ack,ao5] Tryz.func24⟩
abbrev acn:=((af×Int×Int×af)×((aa Int)×af))
def H8(x:acn):aj (acn⊕(((af×Int×af)×((aa Int)×af))⊕Empty)):=letI u1:=x.1.2.2.1;letI u0:=aB (((),x.1.2.1,()),(x.2.1,()));bif u1<(x.2.1.length:Int)then bif u1<4000 then xI x.2.1 u1 λC=>xG (((),(bits .and .i64 (W6 ((W6 ((W6 (x.1.2.1*131))+(W6 C)))+7)) 1073741823),(W6 (u1+1)),()),(x.2.1,()))else u0 else u0
def aco:KY 32 (bE Tryz.f25):=⟨0,lB 0 ⟨[(0,.lf (.own 20000)),(3,tI),(4,tI)],[(20000,.sl .u8 0)],[]⟩ [(2,⟨[(0,.lf (.own 20000)),(3,tI)],[(20000,.sl .u8 0)],[]⟩)] H8,lp []⟩
def AZ(C:aa Int):aj Int:=bw H8 (((),(W6 (97301+(C.length:Int))),0,()),(C,())) λD=>some D.1.2.1
theorem acp:enters Tryz.prog 25/\K2 Tryz.prog 25 AZ:=alr (N:=32) (fn:=Tryz.f25) (code:=bE Tryz.f25) (Φ:=(oL [])) (Λ:=(lO [(0,aco.b)])) Tryz.func25 (by kernel_rfl) (by kernel_rfl) (by kernel_rfl) (by kernel_rfl) (by kernel_rfl) (vC _ trivial) (Tw (by kernel_rfl) _ ⟨⟨_,by kernel_rfl,aco.ok⟩,trivial⟩) (λl=>by kernel_rfl)
def Nq(C:aa Int):aj (av):=(AZ C).bind λD=>(T6 (⟨C,0,D⟩:bF)).bind λE=>some E.1
def ao7:KX:=⟨8,.p (aR [(false,(.sl .u8))] [(true,.cr,4)] λx=>Nq x.1),kp 6 [ao6,⟨25,.n AZ,acp⟩] Tryz.func8⟩
abbrev acq:=((af×af×Int×af)×(((aa Int)×Int×Int×af)×(aa Int)×af))
def H9(x:acq):aj (acq⊕(((af×af)×((aa Int)×af))⊕Empty)):=bif x.1.2.2.1<12 then (eJ (⟨x.2.1.1,x.2.1.2.1,x.2.1.2.2.1⟩:bF) 10000).bind λC=>bif aT (x.2.2.1.length+([C.1]:aa Int).length)then xG (((),(),(W6 (x.1.2.2.1+1)),()),((x.2.1.1,C.2.1.i,C.2.1.h,()),(x.2.2.1++([C.1]:aa Int)),()))else none else aB (((),()),(x.2.2.1,()))
def ao8:KY 19 (bE Tryz.f9):=⟨0,lB 0 ⟨[(3,.aH 1000000000107000 0),(4,.lf (.own 8)),(5,tI)],[(1000000000107000,.ax [.aA .u8 0,.int .i64,.int .i64]),(8,.sl .int 2)],[]⟩ [(2,⟨[(4,.lf (.own 8))],[(8,.sl .int 2)],[]⟩)] H9,lp [qH]⟩
def Nr(C:aa Int):aj ((aa Int)):=(AZ C).bind λD=>bw H9 (((),(),0,()),((C,0,D,()),([]:aa Int),())) λE=>some E.2.1
def ao9:KX:=⟨9,.p (aR [(false,(.sl .u8))] [(false,(.sl .int),2)] λx=>Nr x.1),kq 19 [⟨25,.n AZ,acp⟩] [ao8] Tryz.func9⟩
def Ns(C:aN)(D:c9):aj (aN):=(HS C D).bind λE=>bif (!E)then some (⟨0,0,0,0⟩:aN)else some (⟨C.ck,C.aF,(W6 (C.rows-D.bH)),C.aO⟩:aN)
def apa:KX:=⟨11,.p (aR [(true,.dX),(true,.jI)] [(true,.dX,0)] λx=>Ns x.1 x.2.1),kp 17 [ab8] Tryz.func11⟩
def cD(C D E:Int):aj (Bool):=bif C >= D then some (C <= E)else some false
def gN:KX:=⟨37,.p (aR [(false,.int),(false,.int),(false,.int)] [(false,.bool,0)] λx=>cD x.1 x.2.1 x.2.2.1),kp 15 [] Tryz.func37⟩
def ru(C:aN):aj (Bool):=(cD C.ck 1 2).bind λD=>bif D then (cD C.aF 1 4).bind λE=>bif E then (cD C.rows 2 16).bind λI=>bif I then (cD C.aO 1 8).bind λJ=>some J else some false else some false else some false
def A0:KX:=⟨118,.p (aR [(true,.dX)] [(false,.bool,0)] λx=>ru x.1),kp 21 [gN] Tryz.func118⟩
def nT(C:aN):aj (Int):=(ru C).bind λD=>bif (!D)then some 0 else some (W6 (C.ck*C.aF))
def vN:KX:=⟨113,.p (aR [(true,.dX)] [(false,.int,0)] λx=>nT x.1),kp 11 [A0] Tryz.func113⟩
def vO(C:aN):aj (Int):=(nT C).bind λD=>some (W6 ((W6 (D*C.rows))*C.aO))
def T7:KX:=⟨32,.p (aR [(true,.dX)] [(false,.int,0)] λx=>vO x.1),kp 11 [vN] Tryz.func32⟩
abbrev acr:=((Int×af×af×af×Int×Int×af)×((Int×Int×Int×Int×af)×(Int×af×af)×(Int×af×af)×(aa Int)×(aa Int)×af))
def DD(x:acr):aj (acr⊕(((Int×af×af×af×Int×af)×((Int×Int×Int×Int×af)×(Int×af×af)×(Int×af×af)×(aa Int)×(aa Int)×af))⊕Empty)):=letI u1:=x.2.2.2;letI u0:=x.1.2.2.2.2;bif u0.2.1<(W6 (x.2.1.2.2.1-x.1.1))then bif aT (u1.2.2.1.length+([u0.2.1]:aa Int).length)then xG ((x.1.1,(),(),(),u0.1,(W6 (u0.2.1+1)),()),(x.2.1,x.2.2.1,u1.1,u1.2.1,(u1.2.2.1++([u0.2.1]:aa Int)),()))else none else aB ((x.1.1,(),(),(),u0.1,()),(x.2.1,x.2.2.1,u1.1,u1.2.1,u1.2.2.1,()))
def apb:KY 48 (sD (bE Tryz.f120) 0):=⟨2,lB 2 ⟨[(1,tI),(2,.aH 2 0),(4,.aH 4 0),(6,.aH 6 0),(7,tI),(8,tI)],[(2,.ax [.int .i64,.int .i64,.int .i64,.int .i64]),(4,.ax [.int .i64,.own 90101]),(6,.ax [.int .i64,.own 90201]),(90101,.sl .int 2),(90201,.sl .int 2)],[]⟩ [(4,⟨[(1,tI),(2,.aH 2 0),(4,.aH 4 0),(6,.aH 6 0),(7,tI)],[(2,.ax [.int .i64,.int .i64,.int .i64,.int .i64]),(4,.ax [.int .i64,.own 90101]),(6,.ax [.int .i64,.own 90201]),(90101,.sl .int 2),(90201,.sl .int 2)],[]⟩)] DD,lp []⟩
abbrev acs:=((Int×af×af×af×Int×af)×((Int×Int×Int×Int×af)×(Int×af×af)×(Int×af×af)×(aa Int)×(aa Int)×af))
def Ia(x:acs):aj (acs⊕(((af×af×af)×((Int×af×af)×(Int×af×af)×(aa Int)×(aa Int)×af))⊕Empty)):=letI u0:=x.2.2.2;(nT (⟨x.2.1.1,x.2.1.2.1,x.2.1.2.2.1,x.2.1.2.2.2.1⟩:aN)).bind λD=>bif x.1.2.2.2.2.1<D then bw DD ((x.1.1,(),(),(),x.1.2.2.2.2.1,0,()),(x.2.1,x.2.2.1,u0.1,u0.2.1,u0.2.2.1,())) λC=>xG ((C.1.1,(),(),(),(W6 (C.1.2.2.2.2.1+1)),()),(C.2.1,C.2.2.1,C.2.2.2.1,C.2.2.2.2.1,C.2.2.2.2.2.1,()))else aB (((),(),()),(x.2.2.1,u0.1,u0.2.1,u0.2.2.1,()))
def apc:KY 48 (bE Tryz.f120):=⟨0,lB 0 ⟨[(1,tI),(2,.aH 2 0),(4,.aH 4 0),(6,.aH 6 0),(7,tI)],[(2,.ax [.int .i64,.int .i64,.int .i64,.int .i64]),(4,.ax [.int .i64,.own 90101]),(6,.ax [.int .i64,.own 90201]),(90101,.sl .int 2),(90201,.sl .int 2)],[]⟩ [(2,⟨[(4,.aH 4 0),(6,.aH 6 0)],[(4,.ax [.int .i64,.own 90101]),(6,.ax [.int .i64,.own 90201]),(90101,.sl .int 2),(90201,.sl .int 2)],[]⟩)] Ia,lq [vN] [apb]⟩
def Ib(C:aN)(D:Int):aj (c9×Bool):=letI u0:=some ((⟨0,[]⟩:c9),false);(ru C).bind λI=>bif (!I)then u0 else (cD D 0 2).bind λJ=>bif (!J)then u0 else bif (W6 (C.rows-D))<2 then u0 else bw Ia ((D,(),(),(),0,()),((C.ck,C.aF,C.rows,C.aO,()),(0,(),()),(D,(),()),([]:aa Int),([]:aa Int),())) λE=>some ((⟨E.2.2.1.1,E.2.2.2.2.1⟩:c9),true)
def acu:KX:=⟨120,.p (aR [(true,.dX),(false,.int)] [(true,.jI,2),(false,.bool,0)] λx=>Ib x.1 x.2.1),kq 48 [gN,A0] [apc] Tryz.func120⟩
def DE(E:aN)(C:c9)(D:Int):aj (Nat×Nat):=letI u0:=W6 (E.rows-C.bH);letI u2:=W6 (D*u0);letI u1:=W6 ((W6 (D+1))*u0);if 0 <= u2/\u2 <= u1/\u1 <= (C.map.length:Int)then some (u2.toNat,u1.toNat)else none
def acv:zW:=Tn [(true,.dX),(true,.jI),(false,.int)] 1 1 .int (λx=>DE x.1 x.2.1 x.2.2.1)
theorem apd:enters Tryz.prog 121/\K3 Tryz.prog 121 acv:=als (N:=23) (fn:=Tryz.f121) (code:=bE Tryz.f121) (Φ:=(oL [])) (Λ:=(lO [])) (t:=.int) Tryz.func121 (by kernel_rfl) (by kernel_rfl) (by kernel_rfl) (by kernel_rfl) (by kernel_rfl) (by kernel_rfl) (by kernel_rfl) (by kernel_rfl) (vC _ trivial) sE (λx=>by kernel_rfl)
abbrev acw:=((Int×Int×(aa Int)×Int×Int×af)×(af))
def Ic(x:acw):aj (acw⊕(((Int×af)×(af))⊕Empty)):=letI u0:=x.1.2.2;letI u1:=u0.2.2.1;bif u1<u0.2.1 then xI u0.1 u1 λC=>bif (C==x.1.1)then xG ((x.1.1,(W6 (x.1.2.1+1)),u0.1,u0.2.1,(W6 (u1+1)),()),())else xG ((x.1.1,x.1.2.1,u0.1,u0.2.1,(W6 (u1+1)),()),())else aB ((x.1.2.1,()),())
def ape:KY 21 (bE Tryz.f122):=⟨0,lB 0 ⟨[(1,tI),(5,tI),(8,.lf (.aA .int 0)),(9,tI),(10,tI)],[],[]⟩ [(2,⟨[(5,tI)],[],[]⟩)] Ic,lp []⟩
def Nt(C:aa Int)(D:Int):aj (Int):=bw Ic ((D,0,C,(C.length:Int),0,()),()) λE=>some E.1.1
def apf:KX:=⟨122,.p (aR [(false,(.sl .int)),(false,.int)] [(false,.int,0)] λx=>Nt x.1 x.2.1),kq 21 [] [ape] Tryz.func122⟩
abbrev acy:=((af×af×Int×Int×(aa Int)×(aa Int)×Int×Int×af)×((Int×Int×Int×Int×af)×(Int×(aa Int)×af)×af))
def DF(x:acy):aj (acy⊕(((Bool×af)×(af))⊕(((af×af×Int×Int×af)×((Int×Int×Int×Int×af)×(Int×(aa Int)×af)×af))⊕Empty))):=letI u2:=x.1.2.2;letI u1:=u2.2.2;letI u3:=u1.2.2.2.1;letI u0:=xG (((),(),u2.1,u2.2.1,u1.1,u1.2.1,u1.2.2.1,(W6 (u3+1)),()),(x.2.1,x.2.2.1,()));bif u3<u1.2.2.1 then xI u1.2.1 u3 λC=>bif (C != u3)then (cD C u2.1 (W6 (x.2.1.2.2.1-1))).bind λD=>bif (!D)then aB ((false,()),())else (Nt u1.1 C).bind λE=>bif E > 1 then aB ((false,()),())else u0 else u0 else bq (((),(),u2.1,u2.2.1,()),(x.2.1,x.2.2.1,()))
def apg:KY 71 (sD (bE Tryz.f41) 0):=⟨2,lB 2 ⟨[(2,.aH 2 0),(3,.aH 3 0),(7,tI),(8,tI),(9,.lf (.aA .int 0)),(45,.lf (.aA .int 0)),(46,tI),(47,tI)],[(2,.ax [.int .i64,.int .i64,.int .i64,.int .i64]),(3,.ax [.int .i64,.aA .int 0])],[]⟩ [(1,⟨[(4,tB)],[],[]⟩),(4,⟨[(2,.aH 2 0),(3,.aH 3 0),(7,tI),(8,tI)],[(2,.ax [.int .i64,.int .i64,.int .i64,.int .i64]),(3,.ax [.int .i64,.aA .int 0])],[]⟩)] DF,lp [gN,apf]⟩
abbrev acz:=((af×af×Int×Int×af)×((Int×Int×Int×Int×af)×(Int×(aa Int)×af)×af))
def Ie(x:acz):aj (acz⊕(((Bool×af)×(af))⊕(((af)×(af))⊕Empty))):=letI u3:=x.1.2.2.2.1;letI u2:=x.2.2.1;letI u1:=(⟨x.2.1.1,x.2.1.2.1,x.2.1.2.2.1,x.2.1.2.2.2.1⟩:aN);(nT u1).bind λE=>bif u3<E then (DE u1 (⟨u2.1,u2.2.1⟩:c9) u3).bind λC=>letI u0:=(u2.2.1.take C.2).drop C.1;bif Nat.ble C.1 C.2&&Nat.ble C.2 u2.2.1.length then cg DF (((),(),x.1.2.2.1,u3,u0,u0,(u0.length:Int),0,()),(x.2.1,u2,())) (λI=>aB ((I.1.1,()),())) λD=>xG (((),(),D.1.2.2.1,(W6 (D.1.2.2.2.1+1)),()),(D.2.1,D.2.2.1,()))else none else bq ((),())
def aph:KY 71 (bE Tryz.f41):=⟨0,lB 0 ⟨[(2,.aH 2 0),(3,.aH 3 0),(7,tI),(8,tI)],[(2,.ax [.int .i64,.int .i64,.int .i64,.int .i64]),(3,.ax [.int .i64,.aA .int 0])],[]⟩ [(1,⟨[(4,tB)],[],[]⟩),(2,⟨[],[],[]⟩)] Ie,lq [vN,⟨121,.v acv,apd⟩] [apg]⟩
def Ig(C:aN)(D:c9):aj (Bool):=(Ib C D.bH).bind λE=>bif (!E.2)then some false else bif ((D.map.length:Int) != (E.1.map.length:Int))then some false else cg Ie (((),(),(W6 (C.rows-D.bH)),0,()),((C.ck,C.aF,C.rows,C.aO,()),(D.bH,D.map,()),())) (λI=>some I.1.1) λJ=>some true
def acA:KX:=⟨41,.p (aR [(true,.dX),(true,.jI)] [(false,.bool,0)] λx=>Ig x.1 x.2.1),kq 71 [acu] [aph] Tryz.func41⟩
def A1(C:aN)(D:c9):aj (aN):=(Ig C D).bind λE=>bif (!E)then some (⟨0,0,0,0⟩:aN)else some (⟨C.ck,C.aF,(W6 (C.rows-D.bH)),C.aO⟩:aN)
def acB:KX:=⟨33,.p (aR [(true,.dX),(true,.jI)] [(true,.dX,0)] λx=>A1 x.1 x.2.1),kp 17 [acA] Tryz.func33⟩
abbrev acC:=((af×af×Int×Int×af)×(c8×(aa Int)×af))
def DG(x:acC):aj (acC⊕(((Bool×af)×(af))⊕(((af×af)×(c8×af))⊕Empty))):=letI u0:=x.1.2.2;bif u0.2.1<u0.1 then xL x.2.2.1 u0.2.1 λC=>(cD C 1 64).bind λD=>bif (!D)then aB ((false,()),())else xG (((),(),u0.1,(W6 (u0.2.1+1)),()),(x.2.1,x.2.2.1,()))else bq (((),()),(x.2.1,()))
def api:KY 75 (bE Tryz.f85):=⟨0,lB 0 ⟨[(1,.aH 1 0),(39,.lf (.own 39)),(40,tI),(41,tI)],[(1,.st .iY),(39,.sl .int 2)],[]⟩ [(1,⟨[(2,tB)],[],[]⟩),(2,⟨[(1,.aH 1 0)],[(1,.st .iY)],[]⟩)] DG,lp [gN]⟩
def DH(C:c8):aj (Bool):=letI u0:=([C.jG,C.rp,C.ga,C.mL,C.jH,C.nB,C.mM,C.mN,C.jk,C.wr,C.n8,C.n9,C.qN,C.oa,C.oR,C.xp,C.xs]:aa Int);cg DG (((),(),(u0.length:Int),0,()),(C,u0,())) (λD=>some D.1.1) λE=>letI u1:=E.2.1;bif u1.jG <= u1.ga then bif u1.mL <= u1.jH then bif u1.mM <= u1.mN then some (u1.n8 <= u1.n9)else some false else some false else some false
def acD:KX:=⟨85,.p (aR [(true,.iY)] [(false,.bool,0)] λx=>DH x.1),kq 75 [] [api] Tryz.func85⟩
def yC(C:c8):aj (Int):=(DH C).bind λD=>bif (!D)then some 0 else some (W6 (2*(W6 ((W6 ((W6 ((W6 ((W6 ((W6 ((W6 ((W6 ((W6 (C.oR+C.xp))+C.ga))+C.wr))+C.jk))+C.rp))+C.oa))+C.jG))+(W6 (8*C.jH))))+16))))
def apj:KX:=⟨19,.p (aR [(true,.iY)] [(false,.int,0)] λx=>yC x.1),kp 35 [acD] Tryz.func19⟩
def Ih(C:kC):aj (Bool):=(cD C.order 0 2).bind λD=>some D
def apk:KX:=⟨196,.p (aR [(true,.qO)] [(false,.bool,0)] λx=>Ih x.1),kp 6 [gN] Tryz.func196⟩
def Nu(C:eH):aj (Bool):=(Ib C.ay C.bH).bind λD=>(ru C.ay).bind λE=>bif E then (DH C.cc).bind λI=>bif I then (Ih C.mapping).bind λJ=>bif J then bif D.2 then (yC C.cc).bind λL=>(cD C.interval L 10000).bind λO=>bif O then (cD C.ir 1 16).bind λQ=>bif Q then (cD C.ew.bI (W6 (6*C.interval)) 100000).bind λT=>bif T then (cD C.ew.bG 0 100000).bind λU=>some U else some false else some false else some false else some false else some false else some false else some false
def apl:KX:=⟨115,.p (aR [(true,.Config)] [(false,.bool,0)] λx=>Nu x.1),kp 57 [apj,gN,acD,A0,acu,apk] Tryz.func115⟩
def A3(C:iq):aj (Bool):=bif C.low >= 0 then bif C.low<C.high then some (C.high <= 12)else some false else some false
def acE:KX:=⟨45,.p (aR [(true,.qa)] [(false,.bool,0)] λx=>A3 x.1),kp 18 [] Tryz.func45⟩
abbrev acF:=(((aa cq)×(aa cq)×Int×Int×af)×(af))
def Ii(x:acF):aj (acF⊕(((Bool×af)×(af))⊕((((aa cq)×af)×(af))⊕Empty))):=letI u0:=x.1.2.2;bif u0.2.1<u0.1 then xI x.1.2.1 u0.2.1 λC=>(cD C.weight 1 9).bind λD=>bif (!D)then aB ((false,()),())else (cD C.fz 0 C.weight).bind λE=>bif (!E)then aB ((false,()),())else xG ((x.1.1,x.1.2.1,u0.1,(W6 (u0.2.1+1)),()),())else bq ((x.1.1,()),())
def apm:KY 27 (bE Tryz.f44):=⟨0,lB 0 ⟨[(0,.lf (.aA .fJ 0)),(5,.lf (.aA .fJ 0)),(6,tI),(7,tI)],[],[]⟩ [(1,⟨[(2,tB)],[],[]⟩),(2,⟨[(0,.lf (.aA .fJ 0))],[],[]⟩)] Ii,lp [gN]⟩
def DI(C:aa cq):aj (Bool):=cg Ii ((C,C,(C.length:Int),0,()),()) (λD=>some D.1.1) λE=>(cD (E.1.1.length:Int) 1 4).bind λI=>some I
def acG:KX:=⟨44,.p (aR [(false,(.sl .fJ))] [(false,.bool,0)] λx=>DI x.1),kq 27 [gN] [apm] Tryz.func44⟩
abbrev acH:=((af×(aa Int)×Int×Int×af)×((aa cq)×af))
def Ij(x:acH):aj (acH⊕(((af×af)×((aa cq)×af))⊕Empty)):=letI u1:=x.1.2.2;bif u1.2.1<u1.1 then xI x.1.2.1 u1.2.1 λC=>letI u0:=([(⟨C,C⟩:cq)]:aa cq);bif aT (x.2.1.length+u0.length)then xG (((),x.1.2.1,u1.1,(W6 (u1.2.1+1)),()),((x.2.1++u0),()))else none else aB (((),()),(x.2.1,()))
def apn:KY 25 (bE Tryz.f55):=⟨0,lB 0 ⟨[(4,.lf (.own 7)),(8,.lf (.aA .int 0)),(9,tI),(10,tI)],[(7,.sl .fJ 2)],[]⟩ [(2,⟨[(4,.lf (.own 7))],[(7,.sl .fJ 2)],[]⟩)] Ij,lp []⟩
def A4(C:aa Int):aj ((aa cq)×Bool):=bw Ij (((),C,(C.length:Int),0,()),(([]:aa cq),())) λD=>(DI D.2.1).bind λE=>bif (!E)then some ([],false)else some (D.2.1,true)
def apo:KX:=⟨55,.p (aR [(false,(.sl .int))] [(false,(.sl .fJ),2),(false,.bool,0)] λx=>A4 x.1),kq 25 [acG] [apn] Tryz.func55⟩
def Ik(C:oc):aj (Bool):=(cD C.down 1 10000).bind λD=>bif D then bif C.sleep > C.down then some (C.sleep <= 20000)else some false else some false
def apq:KX:=⟨197,.p (aR [(true,.rV)] [(false,.bool,0)] λx=>Ik x.1),kp 18 [gN] Tryz.func197⟩
def Nv(C:dF):aj (Bool):=(A4 C.weights).bind λD=>letI u0:=(cD C.cap 0 100000).bind λE=>bif E then (cD C.eB 3 1000).bind λI=>bif I then (A3 (⟨false,C.low,C.high⟩:iq)).bind λJ=>bif J then bif ((C.weights.length:Int)==4)then bif D.2 then (Ik C.dW).bind λL=>some L else some false else some false else some false else some false else some false;bif (C.eT==0)then u0 else bif (C.eT==1)then u0 else some false
def apr:KX:=⟨116,.p (aR [(true,.jl)] [(false,.bool,0)] λx=>Nv x.1),kp 51 [gN,acE,apo,apq] Tryz.func116⟩
def yD(C:Int):aj (Int):=(cD C 3 1000).bind λD=>bif (!D)then some 0 else some (W6 ((W6 (2*C))+2))
def aps:KX:=⟨117,.p (aR [(false,.int)] [(false,.int,0)] λx=>yD x.1),kp 9 [gN] Tryz.func117⟩
def ry(C:eH)(D:dF):aj (Bool):=letI u0:=W6 (C.cc.ga+C.cc.rp);(Nu C).bind λE=>bif E then (Nv D).bind λI=>bif I then (yD D.eB).bind λJ=>bif (W6 (J+2)) <= C.ew.bG then if u0=0 then none else some ((W6 ((W6 (C.ir+1))*D.eB)) > (W6 ((W6 ((W6 (5*C.interval)).tdiv u0))+2)))else some false else some false else some false
def apt:KX:=⟨36,.p (aR [(true,.Config),(true,.jl)] [(false,.bool,0)] λx=>ry x.1 x.2.1),kp 42 [apl,apr,aps] Tryz.func36⟩
abbrev acI:=((af×(aa eP)×Int×Int×af)×((aa Int)×af))
def DJ(x:acI):aj (acI⊕(((af×af)×((aa Int)×af))⊕Empty)):=letI u1:=x.1.2.2.2.1;letI u0:=((),x.1.2.1,x.1.2.2.1,(W6 (u1+1)),());bif u1<x.1.2.2.1 then xI x.1.2.1 u1 λC=>bif C.open_ then bif aT (x.2.1.length+([u1]:aa Int).length)then xG (u0,((x.2.1++([u1]:aa Int)),()))else none else xG (u0,(x.2.1,()))else aB (((),()),(x.2.1,()))
def apu:KY 23 (bE Tryz.f87):=⟨0,lB 0 ⟨[(3,.lf (.own 6)),(8,.lf (.aA .iZ 0)),(9,tI),(10,tI)],[(6,.sl .int 2)],[]⟩ [(2,⟨[(3,.lf (.own 6))],[(6,.sl .int 2)],[]⟩)] DJ,lp []⟩
def A5(C:cK):aj ((aa Int)):=bw DJ (((),C.aF,(C.aF.length:Int),0,()),(([]:aa Int),())) λD=>some D.2.1
def apv:KX:=⟨87,.p (aR [(true,.kf)] [(false,(.sl .int),2)] λx=>A5 x.1),kq 23 [] [apu] Tryz.func87⟩
abbrev acJ:=((af×af×(aa eP)×Int×Int×af)×((Int×Int×Int×Int×af)×((aa eP)×Int×af)×af))
def Il(x:acJ):aj (acJ⊕(((Bool×af)×(af))⊕(((af×af)×(((aa eP)×Int×af)×af))⊕Empty))):=letI u1:=x.1.2.2;letI u0:=xG (((),(),u1.1,u1.2.1,(W6 (u1.2.2.1+1)),()),(x.2.1,x.2.2.1,()));bif u1.2.2.1<u1.2.1 then xI u1.1 u1.2.2.1 λC=>(cD C.row 0 (W6 (x.2.1.2.2.1-1))).bind λD=>bif (!D)then aB ((false,()),())else bif (!C.open_)then bif (C.row != 0)then aB ((false,()),())else u0 else u0 else bq (((),()),(x.2.2.1,()))
def apw:KY 58 (bE Tryz.f38):=⟨0,lB 0 ⟨[(2,.aH 2 0),(3,.aH 3 0),(25,.lf (.aA .iZ 0)),(26,tI),(27,tI)],[(2,.ax [.int .i64,.int .i64,.int .i64,.int .i64]),(3,.ax [.aA .iZ 0,.int .i64])],[]⟩ [(1,⟨[(4,tB)],[],[]⟩),(2,⟨[(3,.aH 3 0)],[(3,.ax [.aA .iZ 0,.int .i64])],[]⟩)] Il,lp [gN]⟩
def Im(C:aN)(D:cK):aj (Bool):=(ru C).bind λI=>bif (!I)then some false else (nT C).bind λJ=>bif ((D.aF.length:Int) != J)then some false else (cD D.bg 0 2).bind λL=>bif (!L)then some false else cg Il (((),(),D.aF,(D.aF.length:Int),0,()),((C.ck,C.aF,C.rows,C.aO,()),(D.aF,D.bg,()),())) (λO=>some O.1.1) λE=>bif (E.2.1.2.1 != 2)then some true else (A5 (⟨E.2.1.1,E.2.1.2.1⟩:cK)).bind λQ=>some ((Q.length:Int)==0)
def apx:KX:=⟨38,.p (aR [(true,.dX),(true,.kf)] [(false,.bool,0)] λx=>Im x.1 x.2.1),kq 58 [gN,apv,vN,A0] [apw] Tryz.func38⟩
def vP(C:Int):aj (Bool):=(cD C 1 5).bind λD=>some D
def apy:KX:=⟨184,.p (aR [(false,.int)] [(false,.bool,0)] λx=>vP x.1),kp 5 [gN] Tryz.func184⟩
def Io(E:aN)(D:Int):aj (aI×Bool):=letI u1:=W6 (D.tdiv 9);letI u0:=W6 ((D.tmod 9)+1);(nT E).bind λC=>bif u1<C then (vP u0).bind λI=>some ((⟨u0,u1,0,0⟩:aI),((decide (u1<C))==I))else (vP u0).bind λJ=>some ((⟨u0,0,0,0⟩:aI),((decide (u1<C))==J))
def apz:KX:=⟨88,.p (aR [(true,.dX),(false,.int)] [(true,.Command,0),(false,.bool,0)] λx=>Io x.1 x.2.1),kp 27 [vN,apy] Tryz.func88⟩
abbrev acK:=((af×af×(aa Int)×Int×Int×af)×((Int×Int×Int×Int×af)×((aa Int)×(aa Int)×af)×af))
def Ip(x:acK):aj (acK⊕(((Bool×af)×(af))⊕(((af×af)×(((aa Int)×(aa Int)×af)×af))⊕Empty))):=letI u1:=x.1.2.2;letI u2:=u1.2.2.1;letI u0:=xG (((),(),u1.1,u1.2.1,(W6 (u2+1)),()),(x.2.1,x.2.2.1,()));bif u2<u1.2.1 then xI u1.1 u2 λC=>(Io (⟨x.2.1.1,x.2.1.2.1,x.2.1.2.2.1,x.2.1.2.2.2.1⟩:aN) u2).bind λD=>(cD C (-1) 1000000).bind λE=>bif (!E)then aB ((false,()),())else bif (!D.2)then bif (C != (-1))then aB ((false,()),())else u0 else u0 else bq (((),()),(x.2.2.1,()))
def apA:KY 82 (bE Tryz.f39):=⟨0,lB 0 ⟨[(2,.aH 2 0),(3,.aH 3 0),(31,.lf (.aA .int 0)),(32,tI),(33,tI)],[(2,.ax [.int .i64,.int .i64,.int .i64,.int .i64]),(3,.ax [.aA .int 0,.aA .int 0])],[]⟩ [(1,⟨[(4,tB)],[],[]⟩),(2,⟨[(3,.aH 3 0)],[(3,.ax [.aA .int 0,.aA .int 0])],[]⟩)] Ip,lp [gN,apz]⟩
abbrev acL:=((af×(aa Int)×Int×Int×af)×(((aa Int)×(aa Int)×af)×af))
def Iq(x:acL):aj (acL⊕(((Bool×af)×(af))⊕(((af)×(af))⊕Empty))):=letI u1:=x.1.2.2.2.1;letI u0:=xG (((),x.1.2.1,x.1.2.2.1,(W6 (u1+1)),()),(x.2.1,()));bif u1<x.1.2.2.1 then xI x.1.2.1 u1 λC=>(cD C 0 1000000).bind λD=>bif (!D)then aB ((false,()),())else bif u1 > 0 then xI x.2.1.2.1 (W6 (u1-1)) λE=>bif E >= C then aB ((false,()),())else u0 else u0 else bq ((),())
def apB:KY 82 (bE Tryz.f39):=⟨2,lB 2 ⟨[(3,.aH 3 0),(57,.lf (.aA .int 0)),(58,tI),(59,tI)],[(3,.ax [.aA .int 0,.aA .int 0])],[]⟩ [(1,⟨[(4,tB)],[],[]⟩),(4,⟨[],[],[]⟩)] Iq,lp [gN]⟩
def DK(C:aN)(D:dM):aj (Bool):=(ru C).bind λI=>bif (!I)then some false else (nT C).bind λJ=>bif ((D.last.length:Int) != (W6 (9*(W6 (J+1)))))then some false else bif (D.bx.length:Int) > 4 then some false else cg Ip (((),(),D.last,(D.last.length:Int),0,()),((C.ck,C.aF,C.rows,C.aO,()),(D.last,D.bx,()),())) (λL=>some L.1.1) λE=>cg Iq (((),E.2.1.2.1,(E.2.1.2.1.length:Int),0,()),(E.2.1,())) (λO=>some O.1.1) λQ=>some true
def apC:KX:=⟨39,.p (aR [(true,.dX),(true,.l6)] [(false,.bool,0)] λx=>DK x.1 x.2.1),kq 82 [vN,A0] [apA,apB] Tryz.func39⟩
def A6(C:Int):aj (Bool):=(cD C 0 15).bind λD=>some D
def apD:KX:=⟨198,.p (aR [(false,.int)] [(false,.bool,0)] λx=>A6 x.1),kp 5 [gN] Tryz.func198⟩
abbrev acM:=(((aa Int)×Int×(aa Int)×Int×Int×af)×(af))
def vQ(x:acM):aj (acM⊕(((Bool×af)×(af))⊕((((aa Int)×Int×af)×(af))⊕Empty))):=letI u0:=x.1.2.2;bif u0.2.2.1<u0.2.1 then xI u0.1 u0.2.2.1 λC=>(A6 C).bind λD=>bif (!D)then aB ((false,()),())else xG ((x.1.1,x.1.2.1,u0.1,u0.2.1,(W6 (u0.2.2.1+1)),()),())else bq ((x.1.1,x.1.2.1,()),())
def apE:KY 21 (bE Tryz.f119):=⟨0,lB 0 ⟨[(0,.lf (.aA .int 0)),(1,tI),(7,.lf (.aA .int 0)),(8,tI),(9,tI)],[],[]⟩ [(1,⟨[(4,tB)],[],[]⟩),(2,⟨[(0,.lf (.aA .int 0)),(1,tI)],[],[]⟩)] vQ,lp [apD]⟩
def tX(C:aa Int)(E:Int):aj (Bool):=cg vQ ((C,E,C,(C.length:Int),0,()),()) (λI=>some I.1.1) λD=>some ((D.1.1.length:Int)==D.1.2.1)
def apF:KX:=⟨119,.p (aR [(false,(.sl .int)),(false,.int)] [(false,.bool,0)] λx=>tX x.1 x.2.1),kq 21 [] [apE] Tryz.func119⟩
abbrev acN:=((af×(aa bW)×Int×Int×af)×(((aa bW)×(aa Int)×(aa Int)×af)×af))
def Ir(x:acN):aj (acN⊕(((Bool×af)×(af))⊕(((af×af)×(((aa bW)×(aa Int)×(aa Int)×af)×af))⊕Empty))):=letI u0:=x.1.2.2;bif u0.2.1<u0.1 then xI x.1.2.1 u0.2.1 λC=>(tX C.symbols 11).bind λD=>bif (!D)then aB ((false,()),())else xG (((),x.1.2.1,u0.1,(W6 (u0.2.1+1)),()),(x.2.1,()))else bq (((),()),(x.2.1,()))
def apG:KY 74 (bE Tryz.f40):=⟨0,lB 0 ⟨[(3,.aH 3 0),(40,.lf (.aA .Cell 0)),(41,tI),(42,tI)],[(3,.ax [.aA .Cell 0,.aA .int 0,.aA .int 0])],[]⟩ [(1,⟨[(4,tB)],[],[]⟩),(2,⟨[(3,.aH 3 0)],[(3,.ax [.aA .Cell 0,.aA .int 0,.aA .int 0])],[]⟩)] Ir,lp [apF]⟩
abbrev acO:=((af×Int×Int×af)×(((aa bW)×(aa Int)×(aa Int)×af)×af))
def Is(x:acO):aj (acO⊕(((Bool×af)×(af))⊕(((af)×(af))⊕Empty))):=letI u0:=x.1.2.2.1;bif u0<x.1.2.1 then xI x.2.1.2.1 u0 λC=>(cD C 0 100000).bind λD=>bif (!D)then aB ((false,()),())else xI x.2.1.2.2.1 u0 λE=>(cD E 0 100000).bind λI=>bif (!I)then aB ((false,()),())else xG (((),x.1.2.1,(W6 (u0+1)),()),(x.2.1,()))else bq ((),())
def apH:KY 74 (bE Tryz.f40):=⟨2,lB 2 ⟨[(3,.aH 3 0),(53,tI),(54,tI)],[(3,.ax [.aA .Cell 0,.aA .int 0,.aA .int 0])],[]⟩ [(1,⟨[(4,tB)],[],[]⟩),(4,⟨[],[],[]⟩)] Is,lp [gN]⟩
def It(D:aN)(C:dP):aj (Bool):=(nT D).bind λE=>(ru D).bind λJ=>bif (!J)then some false else (vO D).bind λL=>bif ((C.cells.length:Int) != L)then some false else bif ((C.bI.length:Int) != (W6 (E*D.rows)))then some false else bif ((C.bG.length:Int) != (W6 (E*D.rows)))then some false else cg Ir (((),C.cells,(C.cells.length:Int),0,()),((C.cells,C.bI,C.bG,()),())) (λO=>some O.1.1) λI=>cg Is (((),(I.2.1.2.1.length:Int),0,()),(I.2.1,())) (λQ=>some Q.1.1) λT=>some true
def apI:KX:=⟨40,.p (aR [(true,.dX),(true,.Array)] [(false,.bool,0)] λx=>It x.1 x.2.1),kq 74 [T7,vN,A0] [apG,apH] Tryz.func40⟩
abbrev acP:=((af×(aa Int)×Int×Int×af)×(((aa Int)×Int×Bool×af)×af))
def Iu(x:acP):aj (acP⊕(((Bool×af)×(af))⊕(((af×af)×(((aa Int)×Int×Bool×af)×af))⊕Empty))):=letI u0:=x.1.2.2;bif u0.2.1<u0.1 then xI x.1.2.1 u0.2.1 λC=>(cD C (-2) 5).bind λD=>bif (!D)then aB ((false,()),())else xG (((),x.1.2.1,u0.1,(W6 (u0.2.1+1)),()),(x.2.1,()))else bq (((),()),(x.2.1,()))
def apJ:KY 25 (bE Tryz.f123):=⟨0,lB 0 ⟨[(1,.aH 1 0),(6,.lf (.aA .int 0)),(7,tI),(8,tI)],[(1,.ax [.aA .int 0,.int .i64,.bool])],[]⟩ [(1,⟨[(2,tB)],[],[]⟩),(2,⟨[(1,.aH 1 0)],[(1,.ax [.aA .int 0,.int .i64,.bool])],[]⟩)] Iu,lp [gN]⟩
def yE(C:dc):aj (Bool):=cg Iu (((),C.aU,(C.aU.length:Int),0,()),((C.aU,C.wait,C.dR,()),())) (λE=>some E.1.1) λD=>(cD (D.2.1.1.length:Int) 1 8).bind λI=>bif I then (cD D.2.1.2.1 1 10000).bind λJ=>some J else some false
def apK:KX:=⟨123,.p (aR [(true,.ki)] [(false,.bool,0)] λx=>yE x.1),kq 25 [gN] [apJ] Tryz.func123⟩
abbrev acQ:=(((aa Int)×Int×Int×Int×af)×(af))
def Iv(x:acQ):aj (acQ⊕(((Int×af)×(af))⊕(((af)×(af))⊕Empty))):=letI u0:=x.1.2.2.2.1;bif u0<x.1.2.2.1 then xI x.1.1 u0 λC=>bif (x.1.2.1==C)then aB ((u0,()),())else xG ((x.1.1,x.1.2.1,x.1.2.2.1,(W6 (u0+1)),()),())else bq ((),())
def apL:KY 19 (bE Tryz.f199):=⟨0,lB 0 ⟨[(0,.lf (.aA .int 0)),(1,tI),(7,tI),(8,tI)],[],[]⟩ [(1,⟨[(4,tI)],[],[]⟩),(2,⟨[],[],[]⟩)] Iv,lp []⟩
def A7(C:aa Int)(D:Int):aj (Int):=(iter Iv aZ ((C,D,(C.length:Int),0,()),())).bind (Sum.elim (λE=>some E.1.1) (Sum.elim (λI=>some (-1)) (λz=>nomatch z)))
def apM:KX:=⟨199,.p (aR [(false,(.sl .int)),(false,.int)] [(false,.int,0)] λx=>A7 x.1 x.2.1),kq 19 [] [apL] Tryz.func199⟩
abbrev acR:=((af×(aa Int)×Int×Int×af)×(((aa Int)×(aa Int)×Int×af)×af))
def Iw(x:acR):aj (acR⊕(((Bool×af)×(af))⊕(((af)×(af))⊕Empty))):=letI u3:=aB ((false,()),());letI u2:=x.1.2.2.2.1;letI u1:=xG (((),x.1.2.1,x.1.2.2.1,(W6 (u2+1)),()),(x.2.1,()));bif u2<x.1.2.2.1 then xI x.1.2.1 u2 λC=>letI u0:=bif (C != (-1))then (A7 x.2.1.1 C).bind λD=>bif (D != u2)then u3 else u1 else u1;(cD C (-1) 15).bind λE=>bif (!E)then u3 else xI x.2.1.2.1 u2 λI=>(cD I x.2.1.2.2.1 100000).bind λJ=>bif (!J)then u3 else bif (C==(-1))then xI x.2.1.2.1 u2 λL=>bif (L != 0)then u3 else u0 else u0 else bq ((),())
def apN:KY 72 (bE Tryz.f124):=⟨0,lB 0 ⟨[(1,.aH 1 0),(26,.lf (.aA .int 0)),(27,tI),(28,tI)],[(1,.ax [.aA .int 0,.aA .int 0,.int .i64])],[]⟩ [(1,⟨[(2,tB)],[],[]⟩),(2,⟨[],[],[]⟩)] Iw,lp [gN,apM]⟩
def A8(C:cw):aj (Bool):=letI u0:=(C.rows.length:Int);(cD u0 1 16).bind λD=>bif (!D)then some false else bif ((C.counts.length:Int) != u0)then some false else (cD C.ep 0 100000).bind λE=>bif (!E)then some false else cg Iw (((),C.rows,u0,0,()),((C.rows,C.counts,C.ep,()),())) (λI=>some I.1.1) λJ=>some true
def apO:KX:=⟨124,.p (aR [(true,.iu)] [(false,.bool,0)] λx=>A8 x.1),kq 72 [gN] [apN] Tryz.func124⟩
def A9(C:aN)(D:aL):aj (Bool):=(ru C).bind λE=>bif E then (nT C).bind λI=>(cD D.az 0 (W6 (I-1))).bind λJ=>bif J then (cD D.row 0 (W6 (C.rows-1))).bind λL=>bif L then (cD D.bT 0 (W6 (C.aO-1))).bind λO=>some O else some false else some false else some false
def apP:KX:=⟨125,.p (aR [(true,.dX),(true,.Addr)] [(false,.bool,0)] λx=>A9 x.1 x.2.1),kp 31 [gN,vN,A0] Tryz.func125⟩
abbrev acS:=(((aa aL)×af×Int×Int×af)×((Int×Int×Int×af)×af))
def Ix(x:acS):aj (acS⊕(((Int×af)×(af))⊕(((af)×(af))⊕Empty))):=letI u0:=x.1.2.2.2.1;bif u0<x.1.2.2.1 then xI x.1.1 u0 λC=>bif ((x.2.1.1==C.az)&&((x.2.1.2.1==C.row)&&((x.2.1.2.2.1==C.bT)&&true)))then aB ((u0,()),())else xG ((x.1.1,(),x.1.2.2.1,(W6 (u0+1)),()),(x.2.1,()))else bq ((),())
def apQ:KY 19 (bE Tryz.f126):=⟨0,lB 0 ⟨[(0,.lf (.aA .Addr 0)),(3,.aH 3 0),(7,tI),(8,tI)],[(3,.ax [.int .i64,.int .i64,.int .i64])],[]⟩ [(1,⟨[(4,tI)],[],[]⟩),(2,⟨[],[],[]⟩)] Ix,lp []⟩
def DL(D:aa aL)(C:aL):aj (Int):=(iter Ix aZ ((D,(),(D.length:Int),0,()),((C.az,C.row,C.bT,()),()))).bind (Sum.elim (λE=>some E.1.1) (Sum.elim (λI=>some (-1)) (λz=>nomatch z)))
def apR:KX:=⟨126,.p (aR [(false,(.sl .Addr)),(true,.Addr)] [(false,.int,0)] λx=>DL x.1 x.2.1),kq 19 [] [apQ] Tryz.func126⟩
abbrev acT:=((af×af×Int×Int×af)×(av×(Int×Int×Int×Int×af)×af))
def Nw(x:acT):aj (acT⊕(((Bool×af)×(af))⊕(((af×af×af)×(av×(Int×Int×Int×Int×af)×af))⊕Empty))):=letI u0:=x.1.2.2.2.1;bif u0<x.1.2.2.1 then xI x.2.1.bN u0 λC=>(A8 C).bind λD=>bif (!D)then aB ((false,()),())else xI x.2.1.guard u0 λE=>(cD E 3 1000).bind λI=>bif (!I)then aB ((false,()),())else xG (((),(),x.1.2.2.1,(W6 (u0+1)),()),(x.2.1,x.2.2.1,()))else bq (((),(),()),(x.2.1,x.2.2.1,()))
def apS:KY 94 (bE Tryz.f42):=⟨0,lB 0 ⟨[(1,.aH 1 0),(3,.aH 3 0),(47,tI),(48,tI)],[(1,.st .cr),(3,.ax [.int .i64,.int .i64,.int .i64,.int .i64])],[]⟩ [(1,⟨[(2,tB)],[],[]⟩),(2,⟨[(1,.aH 1 0),(3,.aH 3 0)],[(1,.st .cr),(3,.ax [.int .i64,.int .i64,.int .i64,.int .i64])],[]⟩)] Nw,lp [gN,apO]⟩
abbrev acU:=((af×af×(aa aL)×Int×Int×af)×(av×(Int×Int×Int×Int×af)×af))
def Ny(x:acU):aj (acU⊕(((Bool×af)×(af))⊕(((af)×(af))⊕Empty))):=letI u2:=x.2.2.1;letI u1:=aB ((false,()),());letI u0:=x.1.2.2;letI u3:=u0.2.2.1;bif u3<u0.2.1 then xI u0.1 u3 λC=>(A9 (⟨u2.1,u2.2.1,u2.2.2.1,u2.2.2.2.1⟩:aN) C).bind λD=>bif (!D)then u1 else bif (C.bT != 0)then u1 else (DL x.2.1.pending C).bind λE=>bif (E != u3)then u1 else xG (((),(),u0.1,u0.2.1,(W6 (u3+1)),()),(x.2.1,u2,()))else bq ((),())
def apT:KY 94 (bE Tryz.f42):=⟨2,lB 2 ⟨[(1,.aH 1 0),(3,.aH 3 0),(69,.lf (.aA .Addr 0)),(70,tI),(71,tI)],[(1,.st .cr),(3,.ax [.int .i64,.int .i64,.int .i64,.int .i64])],[]⟩ [(1,⟨[(2,tB)],[],[]⟩),(4,⟨[],[],[]⟩)] Ny,lp [apP,apR]⟩
def Nz(C:av):aj (Bool):=(nT C.config.ay).bind λE=>(yE C.bu).bind λI=>bif (!I)then some false else bif ((C.bu.aU.length:Int) != E)then some false else bif ((C.bN.length:Int) != E)then some false else bif ((C.guard.length:Int) != E)then some false else bif (C.pending.length:Int) > 128 then some false else cg Nw (((),(),(C.bN.length:Int),0,()),(C,(C.config.ay.ck,C.config.ay.aF,C.config.ay.rows,C.config.ay.aO,()),())) (λJ=>some J.1.1) λD=>cg Ny (((),(),D.2.1.pending,(D.2.1.pending.length:Int),0,()),(D.2.1,D.2.2.1,())) (λL=>some L.1.1) λO=>some true
def apU:KX:=⟨42,.p (aR [(true,.cr)] [(false,.bool,0)] λx=>Nz x.1),kq 94 [vN,apK] [apS,apT] Tryz.func42⟩
def Iy(C D:aM):aj (Bool):=bif C.at_<D.at_ then some true else bif (C.at_==D.at_)then some (C.id<D.id)else some false
def acV:KX:=⟨111,.p (aR [(true,.cY),(true,.cY)] [(false,.bool,0)] λx=>Iy x.1 x.2.1),kp 24 [] Tryz.func111⟩
end Go.Proofs.YtglnbhiaknohlaaGreat
