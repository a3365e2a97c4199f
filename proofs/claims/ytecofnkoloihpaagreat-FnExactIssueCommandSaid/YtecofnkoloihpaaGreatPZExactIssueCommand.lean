/-
  Plain laws. Nothing here is a claim.
-/
import Derived.Test.YtecofnkoloihpaaGreatPYExactIssueCommand
namespace Go.Proofs.YtecofnkoloihpaaGreat
open Go.RowKit
set_option linter.unusedVariables false
set_option linter.unusedSimpArgs false
set_option maxRecDepth 100000
theorem axN(x:aX):OX x=some x:=by
 unfold OX;rfl
theorem axO(x:aX):Qh x x=some true:=by
 unfold Qh;simp only[av,eV,eJ,bS,au]
theorem axP(x:dx):OY x=some x:=by
 unfold OY;rfl
theorem axQ(x:dx):Qi x x=some true:=by
 unfold Qi;simp only[av,eV,eJ,bS,au]
theorem axR(x:lu):OZ x=some x:=by
 unfold OZ;rfl
theorem axS(x:lu):Qj x x=some true:=by
 unfold Qj;simp only[av,eV,eJ,bS,au]
theorem axT(x:jz):O0 x=some x:=by
 unfold O0;rfl
theorem axU(x:jz):Qk x x=some true:=by
 unfold Qk;simp only[av,eV,eJ,bS,au]
theorem toConfig(x:jr):O1 x=some x:=by
 unfold O1;rw[axN x.aJ,av,axP x.cx,av,axR x.mapping,av,axT x.dZ,av]
theorem axV(x:jr):Ql x x=some true:=by
 unfold Ql;simp only[axO x.aJ,axQ x.cx,axS x.mapping,axU x.dZ,av,eV,eJ,bS,au]
theorem axW(x:kf)(h:XB x){n:Int}(h0:0<=n)(h1:n<=1048576):Sz n (FN x) (NS x n):=by
 obtain⟨i0,i1,i2⟩:=h;unfold NS
 refine Sz.bind (ah1 x.cO i0 h0 h1) λy0 a0 b0 z0=>?_
 refine Sz.bind (Sz.le (ah1 x.next i1 (n:=y0) a0 (by omega)) (by omega)) λy1 a1 b1 z1=>?_
 exact Sz.done a1 b1 ⟨z0,z1⟩
theorem axX(x:kf)(hz:FN x):O3 x=some x:=by
 obtain⟨XM,XN⟩:=hz;unfold O3;rw[ah2 x.cO XM,av,ah2 x.next XN,av]
theorem axY(x:kf)(hz:FN x):Qn x x=some true:=by
 obtain⟨XM,XN⟩:=hz;unfold Qn;simp only[ah3 x.cO XM,ah3 x.next XN,av,eV,eJ,bS,au]
theorem axZ(x:c8):Jv x=some x:=by
 unfold Jv;rfl
theorem ax0(x:c8):KA x x=some true:=by
 unfold KA;simp only[av,eV,eJ,bS,au]
theorem ax1(x:af c8)(h:(x.length<=maxLen/\∀ y∈x,XC y)){n:Int}(h0:0<=n)(h1:n<=1048576):Sz n (x.length<=1048576) (Vv x n):=by
 exact A4 h.1 h0 h1
theorem ax2(x:af c8)(hz:(x.length<=1048576)):O4 x=some x:=by
 have hl:=hz;have hh:=wJ (⟨false,(0:Int)⟩:c8) Jv x (λy hy=>axZ y) (by omega);unfold O4 bQ;rw[bB ⟨by omega,by omega,by omega⟩]
 refine(bJ (λo=>Option.bind o _) hh).trans ?_
 rfl
theorem ax3(x:af c8)(hz:(x.length<=1048576)):Qo x x=some true:=by
 have hl:=hz;have hh:=wK KA x (λy hy=>ax0 y) (by omega);unfold Qo bR;rw[show ((x.length:Int) != (x.length:Int))=false by simp,au]
 refine(bJ (λo=>Option.bind o _) hh).trans ?_
 rfl
theorem ax4(x:dy)(h:XD x){n:Int}(h0:0<=n)(h1:n<=1048576):Sz n (LK x) (NT x n):=by
 obtain⟨i0,i1⟩:=h;unfold NT
 refine Sz.bind (ax1 x.aI i0 h0 h1) λy0 a0 b0 z0=>?_
 exact Sz.done a0 b0 z0
theorem ax5(x:dy)(hz:LK x):O5 x=some x:=by
 have XO:=hz;unfold O5;rw[ax2 x.aI XO,av]
theorem ax6(x:dy)(hz:LK x):Qp x x=some true:=by
 have XO:=hz;unfold Qp;simp only[ax3 x.aI XO,av,eV,eJ,bS,au]
theorem ax7(x:dA)(h:XE x){n:Int}(h0:0<=n)(h1:n<=1048576):Sz n (Q8 x) (NU x n):=by
 obtain⟨i0,i1⟩:=h;unfold NU
 refine Sz.bind (vh x.last i0 h0 h1) λy0 a0 b0 z0=>?_
 refine Sz.bind (Sz.le (vh x.aZ i1 (n:=y0) a0 (by omega)) (by omega)) λy1 a1 b1 z1=>?_
 exact Sz.done a1 b1 ⟨z0,z1⟩
theorem ax8(x:dA)(hz:Q8 x):O6 x=some x:=by
 obtain⟨XP,XQ⟩:=hz;unfold O6;rw[vi x.last XP,av,vi x.aZ XQ,av]
theorem ax9(x:dA)(hz:Q8 x):Qq x x=some true:=by
 obtain⟨XP,XQ⟩:=hz;unfold Qq;simp only[vj x.last XP,vj x.aZ XQ,av,eV,eJ,bS,au]
theorem aya(x:bG)(h:Q5 x){n:Int}(h0:0<=n)(h1:n<=1048576):Sz n (vw x) (Iv x n):=by
 obtain⟨i0,i1⟩:=h;unfold Iv
 refine Sz.bind (vh x.symbols i0 h0 h1) λy0 a0 b0 z0=>?_
 exact Sz.done a0 b0 z0
theorem toCell(x:bG)(hz:vw x):Jw x=some x:=by
 have XR:=hz;unfold Jw;rw[vi x.symbols XR,av]
theorem ayb(x:bG)(hz:vw x):KB x x=some true:=by
 have XR:=hz;unfold KB;simp only[vj x.symbols XR,av,eV,eJ,bS,au]
theorem ayc(x:af bG)(h:(x.length<=maxLen/\∀ y∈x,Q5 y)){n:Int}(h0:0<=n)(h1:n<=1048576):Sz n (x.length<=1048576/\∀ y∈x,vw y) (NV x n):=by
 have hl:=h.1;unfold maxLen at hl;unfold NV bR;rw[aY (by omega) (by omega)];by_cases c:n-(x.length:Int)<0
 ·rw[bF c];exact⟨-1,rfl,.inl (by omega)⟩
 ·rw[bD c,au];exact Sz.imp (Sz.le (ah0 Iv x (Q:=λx=>vw x) (by omega) (λy hy m m0 m1=>aya y (h.2 y hy) m0 m1) (n:=n-(x.length:Int)) (by omega) (by omega)) (by omega)) λq=>⟨by omega,q⟩
theorem ayd(x:af bG)(hz:(x.length<=1048576/\∀ y∈x,vw y)):O7 x=some x:=by
 have hl:=hz.1;have hh:=wJ (⟨[],false⟩:bG) Jw x (λy hy=>toCell y (hz.2 y hy)) (by omega);unfold O7 bQ;rw[bB ⟨by omega,by omega,by omega⟩]
 refine(bJ (λo=>Option.bind o _) hh).trans ?_
 rfl
theorem aye(x:af bG)(hz:(x.length<=1048576/\∀ y∈x,vw y)):Qr x x=some true:=by
 have hl:=hz.1;have hh:=wK KB x (λy hy=>ayb y (hz.2 y hy)) (by omega);unfold Qr bR;rw[show ((x.length:Int) != (x.length:Int))=false by simp,au]
 refine(bJ (λo=>Option.bind o _) hh).trans ?_
 rfl
theorem ayf(x:eZ)(h:XF x){n:Int}(h0:0<=n)(h1:n<=1048576):Sz n (Ds x) (NW x n):=by
 obtain⟨i0,i1,i2⟩:=h;unfold NW
 refine Sz.bind (ayc x.cells i0 h0 h1) λy0 a0 b0 z0=>?_
 refine Sz.bind (Sz.le (vh x.bI i1 (n:=y0) a0 (by omega)) (by omega)) λy1 a1 b1 z1=>?_
 refine Sz.bind (Sz.le (vh x.bk i2 (n:=y1) a1 (by omega)) (by omega)) λy2 a2 b2 z2=>?_
 exact Sz.done a2 b2 ⟨z0,z1,z2⟩
theorem toArray(x:eZ)(hz:Ds x):O8 x=some x:=by
 obtain⟨XS,XT,XU⟩:=hz;unfold O8;rw[ayd x.cells XS,av,vi x.bI XT,av,vi x.bk XU,av]
theorem ayg(x:eZ)(hz:Ds x):Qs x x=some true:=by
 obtain⟨XS,XT,XU⟩:=hz;unfold Qs;simp only[aye x.cells XS,vj x.bI XT,vj x.bk XU,av,eV,eJ,bS,au]
theorem ayh(x:fe)(h:XG x){n:Int}(h0:0<=n)(h1:n<=1048576):Sz n (Q9 x) (NX x n):=by
 obtain⟨i0,i1⟩:=h;unfold NX
 refine Sz.bind (vh x.map i1 h0 h1) λy1 a1 b1 z1=>?_
 exact Sz.done a1 b1 z1
theorem ayi(x:fe)(hz:Q9 x):O9 x=some x:=by
 have XV:=hz;unfold O9;rw[vi x.map XV,av]
theorem ayj(x:fe)(hz:Q9 x):Qt x x=some true:=by
 have XV:=hz;unfold Qt;simp only[vj x.map XV,av,eV,eJ,bS,au]
theorem ayk(x:fI)(h:XH x){n:Int}(h0:0<=n)(h1:n<=1048576):Sz n (yK x) (NY x n):=by
 obtain⟨i0,i1,i2⟩:=h;unfold NY
 refine Sz.bind (vh x.cg i0 h0 h1) λy0 a0 b0 z0=>?_
 exact Sz.done a0 b0 z0
theorem ayl(x:fI)(hz:yK x):Pa x=some x:=by
 have XW:=hz;unfold Pa;rw[vi x.cg XW,av]
theorem aym(x:fI)(hz:yK x):Qu x x=some true:=by
 have XW:=hz;unfold Qu;simp only[vj x.cg XW,av,eV,eJ,bS,au]
theorem ayn(x:bO)(h:Q6 x){n:Int}(h0:0<=n)(h1:n<=1048576):Sz n (jm x) (Iw x n):=by
 obtain⟨i0,i1,i2⟩:=h;unfold Iw
 refine Sz.bind (vh x.rows i0 h0 h1) λy0 a0 b0 z0=>?_
 refine Sz.bind (Sz.le (vh x.counts i1 (n:=y0) a0 (by omega)) (by omega)) λy1 a1 b1 z1=>?_
 exact Sz.done a1 b1 ⟨z0,z1⟩
theorem ayo(x:bO)(hz:jm x):Jx x=some x:=by
 obtain⟨XX,XY⟩:=hz;unfold Jx;rw[vi x.rows XX,av,vi x.counts XY,av]
theorem ayp(x:bO)(hz:jm x):KD x x=some true:=by
 obtain⟨XX,XY⟩:=hz;unfold KD;simp only[vj x.rows XX,vj x.counts XY,av,eV,eJ,bS,au]
theorem ayq(x:af bO)(h:(x.length<=maxLen/\∀ y∈x,Q6 y)){n:Int}(h0:0<=n)(h1:n<=1048576):Sz n (x.length<=1048576/\∀ y∈x,jm y) (NZ x n):=by
 have hl:=h.1;unfold maxLen at hl;unfold NZ bR;rw[aY (by omega) (by omega)];by_cases c:n-(x.length:Int)<0
 ·rw[bF c];exact⟨-1,rfl,.inl (by omega)⟩
 ·rw[bD c,au];exact Sz.imp (Sz.le (ah0 Iw x (Q:=λx=>jm x) (by omega) (λy hy m m0 m1=>ayn y (h.2 y hy) m0 m1) (n:=n-(x.length:Int)) (by omega) (by omega)) (by omega)) λq=>⟨by omega,q⟩
theorem ayr(x:af bO)(hz:(x.length<=1048576/\∀ y∈x,jm y)):Pb x=some x:=by
 have hl:=hz.1;have hh:=wJ (⟨[],[],(0:Int)⟩:bO) Jx x (λy hy=>ayo y (hz.2 y hy)) (by omega);unfold Pb bQ;rw[bB ⟨by omega,by omega,by omega⟩]
 refine(bJ (λo=>Option.bind o _) hh).trans ?_
 rfl
theorem ays(x:af bO)(hz:(x.length<=1048576/\∀ y∈x,jm y)):Qv x x=some true:=by
 have hl:=hz.1;have hh:=wK KD x (λy hy=>ayp y (hz.2 y hy)) (by omega);unfold Qv bR;rw[show ((x.length:Int) != (x.length:Int))=false by simp,au]
 refine(bJ (λo=>Option.bind o _) hh).trans ?_
 rfl
theorem ayt(x:af aP)(h:(x.length<=maxLen/\∀ y∈x,Xx y)){n:Int}(h0:0<=n)(h1:n<=1048576):Sz n (x.length<=1048576) (Vw x n):=by
 exact A4 h.1 h0 h1
theorem ayu(x:af aP)(hz:(x.length<=1048576)):Pc x=some x:=by
 have hl:=hz;have hh:=wJ (⟨(0:Int),(0:Int),(0:Int)⟩:aP) Jy x (λy hy=>aw1 y) (by omega);unfold Pc bQ;rw[bB ⟨by omega,by omega,by omega⟩]
 refine(bJ (λo=>Option.bind o _) hh).trans ?_
 rfl
theorem ayv(x:af aP)(hz:(x.length<=1048576)):Qx x x=some true:=by
 have hl:=hz;have hh:=wK KE x (λy hy=>aw2 y) (by omega);unfold Qx bR;rw[show ((x.length:Int) != (x.length:Int))=false by simp,au]
 refine(bJ (λo=>Option.bind o _) hh).trans ?_
 rfl
theorem ayw(x:af bN)(h:(x.length<=maxLen/\∀ y∈x,Xw y)){n:Int}(h0:0<=n)(h1:n<=1048576):Sz n (x.length<=1048576) (Vx x n):=by
 exact A4 h.1 h0 h1
theorem ayx(x:af bN)(hz:(x.length<=1048576)):Pd x=some x:=by
 have hl:=hz;have hh:=wJ (⟨(0:Int),(0:Int),(0:Int),false,(0:Int),(0:Int)⟩:bN) Jz x (λy hy=>awZ y) (by omega);unfold Pd bQ;rw[bB ⟨by omega,by omega,by omega⟩]
 refine(bJ (λo=>Option.bind o _) hh).trans ?_
 rfl
theorem ayy(x:af bN)(hz:(x.length<=1048576)):Qy x x=some true:=by
 have hl:=hz;have hh:=wK KF x (λy hy=>aw0 y) (by omega);unfold Qy bR;rw[show ((x.length:Int) != (x.length:Int))=false by simp,au]
 refine(bJ (λo=>Option.bind o _) hh).trans ?_
 rfl
theorem ayz(x:bC):JA x=some x:=by
 unfold JA;rfl
theorem ayA(x:bC):KG x x=some true:=by
 unfold KG;simp only[av,eV,eJ,bS,au]
theorem ayB(x:af bC)(h:(x.length<=maxLen/\∀ y∈x,XI y)){n:Int}(h0:0<=n)(h1:n<=1048576):Sz n (x.length<=1048576) (Vy x n):=by
 exact A4 h.1 h0 h1
theorem ayC(x:af bC)(hz:(x.length<=1048576)):Pe x=some x:=by
 have hl:=hz;have hh:=wJ (⟨(0:Int),(0:Int)⟩:bC) JA x (λy hy=>ayz y) (by omega);unfold Pe bQ;rw[bB ⟨by omega,by omega,by omega⟩]
 refine(bJ (λo=>Option.bind o _) hh).trans ?_
 rfl
theorem ayD(x:af bC)(hz:(x.length<=1048576)):Qz x x=some true:=by
 have hl:=hz;have hh:=wK KG x (λy hy=>ayA y) (by omega);unfold Qz bR;rw[show ((x.length:Int) != (x.length:Int))=false by simp,au]
 refine(bJ (λo=>Option.bind o _) hh).trans ?_
 rfl
theorem ayE(x:mP):Pf x=some x:=by
 unfold Pf;rfl
theorem ayF(x:mP):QA x x=some true:=by
 unfold QA;simp only[av,eV,eJ,bS,au]
theorem ayG(x:gO):Pg x=some x:=by
 unfold Pg;rfl
theorem ayH(x:gO):QB x x=some true:=by
 unfold QB;simp only[av,eV,eJ,bS,au]
theorem ayI(x:s8):Ph x=some x:=by
 unfold Ph;rfl
theorem ayJ(x:s8):QC x x=some true:=by
 unfold QC;simp only[av,eV,eJ,bS,au]
theorem ayK(x:bw):JB x=some x:=by
 unfold JB;rfl
theorem ayL(x:bw):KH x x=some true:=by
 unfold KH;simp only[av,eV,eJ,bS,au]
theorem ayM(x:af bw)(h:(x.length<=maxLen/\∀ y∈x,XJ y)){n:Int}(h0:0<=n)(h1:n<=1048576):Sz n (x.length<=1048576) (Vz x n):=by
 exact A4 h.1 h0 h1
theorem ayN(x:af bw)(hz:(x.length<=1048576)):Pj x=some x:=by
 have hl:=hz;have hh:=wJ (⟨(0:Int),(0:Int),(0:Int)⟩:bw) JB x (λy hy=>ayK y) (by omega);unfold Pj bQ;rw[bB ⟨by omega,by omega,by omega⟩]
 refine(bJ (λo=>Option.bind o _) hh).trans ?_
 rfl
theorem ayO(x:af bw)(hz:(x.length<=1048576)):QD x x=some true:=by
 have hl:=hz;have hh:=wK KH x (λy hy=>ayL y) (by omega);unfold QD bR;rw[show ((x.length:Int) != (x.length:Int))=false by simp,au]
 refine(bJ (λo=>Option.bind o _) hh).trans ?_
 rfl
theorem aim(x:bV):CI x=some x:=by
 unfold CI;rfl
theorem ayP(x:bV):QE x x=some true:=by
 unfold QE;simp only[av,eV,eJ,bS,au]
theorem ayQ(x:cw):JC x=some x:=by
 unfold JC;rw[aim x.cmd,av]
theorem ayR(x:cw):KI x x=some true:=by
 unfold KI;simp only[ayP x.cmd,av,eV,eJ,bS,au]
theorem ayS(x:af cw)(h:(x.length<=maxLen/\∀ y∈x,XK y)){n:Int}(h0:0<=n)(h1:n<=1048576):Sz n (x.length<=1048576) (VA x n):=by
 exact A4 h.1 h0 h1
theorem ayT(x:af cw)(hz:(x.length<=1048576)):Pm x=some x:=by
 have hl:=hz;have hh:=wJ (⟨(0:Int),⟨(0:Int),(0:Int),(0:Int),(0:Int)⟩⟩:cw) JC x (λy hy=>ayQ y) (by omega);unfold Pm bQ;rw[bB ⟨by omega,by omega,by omega⟩]
 refine(bJ (λo=>Option.bind o _) hh).trans ?_
 rfl
theorem ayU(x:af cw)(hz:(x.length<=1048576)):QF x x=some true:=by
 have hl:=hz;have hh:=wK KI x (λy hy=>ayR y) (by omega);unfold QF bR;rw[show ((x.length:Int) != (x.length:Int))=false by simp,au]
 refine(bJ (λo=>Option.bind o _) hh).trans ?_
 rfl
theorem ayV(x:cD):JD x=some x:=by
 unfold JD;rfl
theorem ayW(x:cD):KJ x x=some true:=by
 unfold KJ;simp only[av,eV,eJ,bS,au]
theorem ayX(x:af cD)(h:(x.length<=maxLen/\∀ y∈x,XL y)){n:Int}(h0:0<=n)(h1:n<=1048576):Sz n (x.length<=1048576) (VB x n):=by
 exact A4 h.1 h0 h1
theorem ayY(x:af cD)(hz:(x.length<=1048576)):Pn x=some x:=by
 have hl:=hz;have hh:=wJ (⟨(0:Int),(0:Int),(0:Int),(0:Int)⟩:cD) JD x (λy hy=>ayV y) (by omega);unfold Pn bQ;rw[bB ⟨by omega,by omega,by omega⟩]
 refine(bJ (λo=>Option.bind o _) hh).trans ?_
 rfl
theorem ayZ(x:af cD)(hz:(x.length<=1048576)):QG x x=some true:=by
 have hl:=hz;have hh:=wK KJ x (λy hy=>ayW y) (by omega);unfold QG bR;rw[show ((x.length:Int) != (x.length:Int))=false by simp,au]
 refine(bJ (λo=>Option.bind o _) hh).trans ?_
 rfl
theorem ay0(x:aF)(h:LJ x){n:Int}(h0:0<=n)(h1:n<=1048576):Sz n (iE x) (N0 x n):=by
 obtain⟨i0,i1,i2,i3,i4,i5,i6,i7,i8,i9,i10,i11,i12,i13,i14,i15,i16,i17,i18⟩:=h;unfold N0
 refine Sz.bind (axW x.box i1 h0 h1) λy1 a1 b1 z1=>?_
 refine Sz.bind (Sz.le (ax4 x.bK i3 (n:=y1) a1 (by omega)) (by omega)) λy3 a3 b3 z3=>?_
 refine Sz.bind (Sz.le (ax7 x.ready i4 (n:=y3) a3 (by omega)) (by omega)) λy4 a4 b4 z4=>?_
 refine Sz.bind (Sz.le (ayf x.array i5 (n:=y4) a4 (by omega)) (by omega)) λy5 a5 b5 z5=>?_
 refine Sz.bind (Sz.le (ayh x.spare i6 (n:=y5) a5 (by omega)) (by omega)) λy6 a6 b6 z6=>?_
 refine Sz.bind (Sz.le (ayk x.bT i7 (n:=y6) a6 (by omega)) (by omega)) λy7 a7 b7 z7=>?_
 refine Sz.bind (Sz.le (ayq x.aW i8 (n:=y7) a7 (by omega)) (by omega)) λy8 a8 b8 z8=>?_
 refine Sz.bind (Sz.le (vh x.guard i9 (n:=y8) a8 (by omega)) (by omega)) λy9 a9 b9 z9=>?_
 refine Sz.bind (Sz.le (ayt x.pending i10 (n:=y9) a9 (by omega)) (by omega)) λgA o5 b10 aQ=>?_
 refine Sz.bind (Sz.le (ayw x.queue i11 (n:=gA) o5 (by omega)) (by omega)) λfj o6 b11 gu=>?_
 refine Sz.bind (Sz.le (ayB x.shares i12 (n:=fj) o6 (by omega)) (by omega)) λfF o7 b12 fO=>?_
 refine Sz.bind (Sz.le (ayM x.errors i16 (n:=fF) o7 (by omega)) (by omega)) λcE o8 b16 rJ=>?_
 refine Sz.bind (Sz.le (ayS x.trace i17 (n:=cE) o8 (by omega)) (by omega)) λfG vJ b17 wq=>?_
 refine Sz.bind (Sz.le (ayX x.bY i18 (n:=fG) vJ (by omega)) (by omega)) λgI wX b18 Cu=>?_
 exact Sz.done wX b18 ⟨z1,z3,z4,z5,z6,z7,z8,z9,aQ,gu,fO,rJ,wq,Cu⟩
theorem ay1(x:aF)(hz:iE x):CJ x=some x:=by
 obtain⟨XZ,X0,X3,X4,X5,X6,X7,X8,X9,Ya,Yb,Yc,Yd,Ye⟩:=hz;unfold CJ;rw[toConfig x.config,av,axX x.box XZ,av,ax5 x.bK X0,av,ax8 x.ready X3,av,toArray x.array X4,av,ayi x.spare X5,av,ayl x.bT X6,av,ayr x.aW X7,av,vi x.guard X8,av,ayu x.pending X9,av,ayx x.queue Ya,av,ayC x.shares Yb,av,ayE x.drain,av,ayG x.aN,av,ayI x.cC,av,ayN x.errors Yc,av,ayT x.trace Yd,av,ayY x.bY Ye,av]
theorem ain(x:aF)(hz:iE x):C1 x x=some true:=by
 obtain⟨XZ,X0,X3,X4,X5,X6,X7,X8,X9,Ya,Yb,Yc,Yd,Ye⟩:=hz;unfold C1;simp only[axV x.config,axY x.box XZ,ax6 x.bK X0,ax9 x.ready X3,ayg x.array X4,ayj x.spare X5,aym x.bT X6,ays x.aW X7,vj x.guard X8,ayv x.pending X9,ayy x.queue Ya,ayD x.shares Yb,ayF x.drain,ayH x.aN,ayJ x.cC,ayO x.errors Yc,ayU x.trace Yd,ayZ x.bY Ye,av,eV,eJ,bS,au]
def A5(c:jr)(p:gn):Bool:=(wu c p).getD false
theorem Ra(c:jr)(p:gn)(hl:p.weights.length<1073741823):wu c p=some (A5 c p):=by
 obtain⟨b,e,_⟩:=W9 c p hl;unfold A5;rw[e];rfl
theorem aio(c:jr)(p:gn)(hl:p.weights.length<1073741823):EN c p=some (A5 c p):=by
 obtain⟨b,e,e2,_⟩:=awc c p hl;unfold A5;rw[e,e2];rfl
theorem ba1(a x:Bool):(bif a then some x else some false)=some (a&&x):=by cases a<;>rfl
theorem ba2(a x:Bool):(bif !a then some false else some x)=some (a&&x):=by cases a<;>rfl
theorem ba3(a b:Int)(x:Bool):(bif a != b then some false else some x)=some (a==b&&x):=by
 rw[bne];cases a==b<;>rfl
theorem ba4(p:Prop)[Decidable p](x:Bool):(bif decide p then some false else some x)=some (!decide p&&x):=by cases decide p<;>rfl
def rV(c:aF):Bool:=
 A5 c.config c.box.cO&&(A5 c.config c.box.next&&(aM c.now 0 1000000&&(tX c.config.aJ c.bK&&(qD c.config.aJ c.ready&&(Dd c.config.aJ c.array&&(qE c.config.aJ c.spare&&(c.spare.cF==c.config.cF&&((qC c.bT&&Dm c)&&(Dh (jJ (og c.config.aJ c.spare)) c.queue&&(mZ c.shares&&((c.shares.length:Int)==4&&(yC c.drain&&(tY c.aN&&(c.aN.state==c.bK.aN&&(!decide (c.aN.since > c.now)&&(aM c.cC.every 1 100000&&(aM c.cC.wait 1 c.cC.every&&(aM c.cC.next 0 (W6 (jJ c.config.aJ-1))&&(tZ c.errors&&(decide ((c.trace.length:Int)<=2000)&&decide ((c.bY.length:Int)<=400)))))))))))))))))))))
theorem aip(c:aF)(hz:iE c):PJ c=some (rV c):=by
 obtain⟨⟨z1,z2⟩,z3,⟨z4,z5⟩,⟨⟨z6,LL⟩,z7,z8⟩,z9,aQ,⟨gu,Yf⟩,fO,jH,iY,fN,rJ,wq,Cu⟩:=hz;unfold Dn at z1 z2;have qF:∀ x∈c.array.cells,x.symbols.length<1073741824:=λx hx=>by
  have:=LL x hx;unfold vw at this;omega
 unfold yK at aQ;unfold PJ rV;simp only[Ra _ _ (show c.box.cO.weights.length<1073741823 by omega),Ra _ _ (show c.box.next.weights.length<1073741823 by omega),fC,ahp,Xj,avP _ _ qF,ahF,awy _ (show c.bT.cg.length<1073741824 by omega),Xm,WN,awj _ _ (show c.queue.length<1073741824 by omega),QV _ (show c.shares.length<1073741824 by omega),ahm,ahu,ahz _ (show c.errors.length<1073741824 by omega),av,ba1,ba2,ba3,ba4]
theorem aiq(c:aF)(hz:iE c):Ol c=some (rV c):=by
 obtain⟨⟨z1,z2⟩,z3,⟨z4,z5⟩,⟨⟨z6,LL⟩,z7,z8⟩,z9,aQ,⟨gu,Yf⟩,fO,jH,iY,fN,rJ,wq,Cu⟩:=hz;unfold Dn at z1 z2;have qF:∀ x∈c.array.cells,x.symbols.length<1073741824:=λx hx=>by
  have:=LL x hx;unfold vw at this;omega
 unfold yK at aQ;unfold Ol rV;simp only[aio _ _ (show c.box.cO.weights.length<1073741823 by omega),aio _ _ (show c.box.next.weights.length<1073741823 by omega),fP,awd,ahA,aw5 _ _ qF,ahG,ahr _ (show c.bT.cg.length<1073741824 by omega),awx,aww,WO,awh,W5 _ (show c.shares.length<1073741824 by omega),ahn,ahv,ahy,av,ba1,ba2,ba3,ba4,Bool.and_assoc]
theorem ay2{H:Type}{dg:TypeId×Value->H}{w:World}{base:Nat}{v:Value}{d:DataW H}{p:af MemPlace}(hv:Value.okWide Tryz.prog w .any base 65 v)(h:DataW.Trod dg Tryz.prog w 0 (λ_=>true) true 65 v d p):It .cK LJ w v:=
 acI axM Tryz.underlying65 hv h
abbrev ay3:=((ah×ah×ah×Int×ah)×(aF×(Int×Int×Int×Int×Int×Int×Int×Int×Int×Int×Int×Int×Int×Int×Int×Int×Int×Int×Int×Int×Int×Int×Bool×Int×Int×Int×Int×Int×Int×Int×Int×Int×Int×ah×Int×Int×Int×Int×Int×Int×Int×ah×Int×Int×Bool×Int×ah×Int×ah×ah×ah×ah×ah×Int×ah×ah×Int×Bool×(af bO)×(af Int)×(af aP)×(af bN)×(af bC)×Bool×Int×Int×Int×Int×Int×Int×Int×Int×(af bw)×(af cw)×(af cD)×ah)×(af bO)×(af Int)×(af Int)×(af c8)×(af Int)×(af Int)×(af bG)×(af Int)×(af Int)×(af Int)×(af Int)×ah))
abbrev ay4:=((ah×ah×ah×(af bO)×Int×Int×ah)×(aF×aF×(Int×Int×Int×Int×Int×Int×Int×Int×Int×Int×Int×Int×Int×Int×Int×Int×Int×Int×Int×Int×Int×Int×Bool×Int×Int×Int×Int×Int×Int×Int×Int×Int×Int×ah×Int×Int×Int×Int×Int×Int×Int×ah×Int×Int×Bool×Int×ah×Int×ah×ah×ah×ah×ah×Int×ah×ah×Int×Bool×ah×(af Int)×(af aP)×(af bN)×(af bC)×Bool×Int×Int×Int×Int×Int×Int×Int×Int×(af bw)×(af cw)×(af cD)×ah)×(af Int)×(af Int)×(af c8)×(af Int)×(af Int)×(af bG)×(af Int)×(af Int)×(af Int)×(af Int)×(af bO)×ah))
theorem jL{α:Type}(l:af α)(h:l.length<=1048577):bH (([]:af α).length+l.length)=true:=fl (by simp;omega)
theorem Yg(t:bO)(h:jm t):EH t=some t:=by
 unfold EH;have h1:=h.1;have h2:=h.2;rw[jL _ (by omega),aq,jL _ (by omega),aq];rfl
theorem air(t:bO)(h:jm t):JG t=some t:=Yg t h
theorem ay5(s:ay3)(T:af bO)(h0:s.1.2.2.2.1=0)(ho:s.2.2.2.1=[])(hT:s.2.2.1.2.2.2.2.2.2.2.2.2.2.2.2.2.2.2.2.2.2.2.2.2.2.2.2.2.2.2.2.2.2.2.2.2.2.2.2.2.2.2.2.2.2.2.2.2.2.2.2.2.2.2.2.2.2.2.2.2.2.1=T)(hz:T.length<=1048576/\∀ y∈T,jm y):iter EI bA s=some (.inl (((),(),(),()),(s.2.1,s.2.2.1,T,s.2.2.2.2))):=by
 subst hT;have e:=gJ (step:=EI) (s.2.2.1.2.2.2.2.2.2.2.2.2.2.2.2.2.2.2.2.2.2.2.2.2.2.2.2.2.2.2.2.2.2.2.2.2.2.2.2.2.2.2.2.2.2.2.2.2.2.2.2.2.2.2.2.2.2.2.2.2.2.1).length (λi=>(((),(),(),(i:Int),()),(s.2.1,s.2.2.1,(s.2.2.1.2.2.2.2.2.2.2.2.2.2.2.2.2.2.2.2.2.2.2.2.2.2.2.2.2.2.2.2.2.2.2.2.2.2.2.2.2.2.2.2.2.2.2.2.2.2.2.2.2.2.2.2.2.2.2.2.2.2.1).take i,s.2.2.2.2))) (.inl (((),(),(),()),(s.2.1,s.2.2.1,s.2.2.1.2.2.2.2.2.2.2.2.2.2.2.2.2.2.2.2.2.2.2.2.2.2.2.2.2.2.2.2.2.2.2.2.2.2.2.2.2.2.2.2.2.2.2.2.2.2.2.2.2.2.2.2.2.2.2.2.2.2.1,s.2.2.2.2))) bA (λk h=>by
  unfold EI ax xG xI;dsimp only;rw[bF (by omega),aq,aG ⟨by omega,by omega⟩];simp only[cc];rw[Yg _ (hz.2 _ (fW _)),av,fl (by simp;omega),aq,bZ (by omega),Lp h]) (by
  unfold EI ax xG xI;dsimp only;rw[bD (by omega),au,mL]) (cP (by omega))
 have es:s=(((),(),(),((0:Nat):Int),()),(s.2.1,s.2.2.1,(s.2.2.1.2.2.2.2.2.2.2.2.2.2.2.2.2.2.2.2.2.2.2.2.2.2.2.2.2.2.2.2.2.2.2.2.2.2.2.2.2.2.2.2.2.2.2.2.2.2.2.2.2.2.2.2.2.2.2.2.2.2.1).take 0,s.2.2.2.2)):=by
  rw[List.take_zero,<-ho,di,<-h0]
 rw[<-e,<-es]
theorem ay6(s:ay4)(h0:s.1.2.2.2.2.2.1=0)(hn:s.1.2.2.2.2.1=(s.1.2.2.2.1.length:Int))(ho:s.2.2.2.2.2.2.2.2.2.2.2.2.2.2.1=[])(hz:s.1.2.2.2.1.length<=1048576/\∀ y∈s.1.2.2.2.1,jm y):iter Fb bA s=some (.inl (((),(),(),()),(s.2.1,s.2.2.1,s.2.2.2.1,s.2.2.2.2.1,s.2.2.2.2.2.1,s.2.2.2.2.2.2.1,s.2.2.2.2.2.2.2.1,s.2.2.2.2.2.2.2.2.1,s.2.2.2.2.2.2.2.2.2.1,s.2.2.2.2.2.2.2.2.2.2.1,s.2.2.2.2.2.2.2.2.2.2.2.1,s.2.2.2.2.2.2.2.2.2.2.2.2.1,s.2.2.2.2.2.2.2.2.2.2.2.2.2.1,s.1.2.2.2.1,s.2.2.2.2.2.2.2.2.2.2.2.2.2.2.2))):=by
 have e:=gJ (step:=Fb) s.1.2.2.2.1.length (λi=>(((),(),(),s.1.2.2.2.1,(s.1.2.2.2.1.length:Int),(i:Int),()),(s.2.1,s.2.2.1,s.2.2.2.1,s.2.2.2.2.1,s.2.2.2.2.2.1,s.2.2.2.2.2.2.1,s.2.2.2.2.2.2.2.1,s.2.2.2.2.2.2.2.2.1,s.2.2.2.2.2.2.2.2.2.1,s.2.2.2.2.2.2.2.2.2.2.1,s.2.2.2.2.2.2.2.2.2.2.2.1,s.2.2.2.2.2.2.2.2.2.2.2.2.1,s.2.2.2.2.2.2.2.2.2.2.2.2.2.1,s.1.2.2.2.1.take i,s.2.2.2.2.2.2.2.2.2.2.2.2.2.2.2))) (.inl (((),(),(),()),(s.2.1,s.2.2.1,s.2.2.2.1,s.2.2.2.2.1,s.2.2.2.2.2.1,s.2.2.2.2.2.2.1,s.2.2.2.2.2.2.2.1,s.2.2.2.2.2.2.2.2.1,s.2.2.2.2.2.2.2.2.2.1,s.2.2.2.2.2.2.2.2.2.2.1,s.2.2.2.2.2.2.2.2.2.2.2.1,s.2.2.2.2.2.2.2.2.2.2.2.2.1,s.2.2.2.2.2.2.2.2.2.2.2.2.2.1,s.1.2.2.2.1,s.2.2.2.2.2.2.2.2.2.2.2.2.2.2.2))) bA (λk h=>by
  unfold Fb ax xG xI;dsimp only;rw[bF (by omega),aq,aG ⟨by omega,by omega⟩];simp only[cc];rw[air _ (hz.2 _ (fW _)),av,fl (by simp;omega),aq,bZ (by omega),Lp h]) (by
  unfold Fb ax xG xI;dsimp only;rw[bD (by omega),au,mL]) (cP (by omega))
 have es:s=(((),(),(),s.1.2.2.2.1,(s.1.2.2.2.1.length:Int),((0:Nat):Int),()),(s.2.1,s.2.2.1,s.2.2.2.1,s.2.2.2.2.1,s.2.2.2.2.2.1,s.2.2.2.2.2.2.1,s.2.2.2.2.2.2.2.1,s.2.2.2.2.2.2.2.2.1,s.2.2.2.2.2.2.2.2.2.1,s.2.2.2.2.2.2.2.2.2.2.1,s.2.2.2.2.2.2.2.2.2.2.2.1,s.2.2.2.2.2.2.2.2.2.2.2.2.1,s.2.2.2.2.2.2.2.2.2.2.2.2.2.1,s.1.2.2.2.1.take 0,s.2.2.2.2.2.2.2.2.2.2.2.2.2.2.2)):=by
  rw[List.take_zero,<-ho,di,<-h0,<-hn]
 rw[<-e,<-es]
theorem ais(l:af Int)(h:l.length<=1048577):Pr l=some l:=by
 cases l with
 |nil=>rfl
 | cons a l=>
  show (bif bH (([]:af Int).length+(a::l).length)then some (([]:af Int)++(a::l))else none)=_;rw[jL _ h];rfl
theorem ay7(l:af aP)(h:l.length<=1048577):V3 l=some l:=by
 cases l with
 |nil=>rfl
 | cons a l=>
  show (bif bH (([]:af aP).length+(a::l).length)then some (([]:af aP)++(a::l))else none)=_;rw[jL _ h];rfl
theorem ay8(l:af bN)(h:l.length<=1048577):V4 l=some l:=by
 cases l with
 |nil=>rfl
 | cons a l=>
  show (bif bH (([]:af bN).length+(a::l).length)then some (([]:af bN)++(a::l))else none)=_;rw[jL _ h];rfl
theorem ay9(l:af bC)(h:l.length<=1048577):V5 l=some l:=by
 cases l with
 |nil=>rfl
 | cons a l=>
  show (bif bH (([]:af bC).length+(a::l).length)then some (([]:af bC)++(a::l))else none)=_;rw[jL _ h];rfl
theorem aza(l:af bw)(h:l.length<=1048577):V6 l=some l:=by
 cases l with
 |nil=>rfl
 | cons a l=>
  show (bif bH (([]:af bw).length+(a::l).length)then some (([]:af bw)++(a::l))else none)=_;rw[jL _ h];rfl
theorem azb(l:af cw)(h:l.length<=1048577):V7 l=some l:=by
 cases l with
 |nil=>rfl
 | cons a l=>
  show (bif bH (([]:af cw).length+(a::l).length)then some (([]:af cw)++(a::l))else none)=_;rw[jL _ h];rfl
theorem azc(l:af cD)(h:l.length<=1048577):V8 l=some l:=by
 cases l with
 |nil=>rfl
 | cons a l=>
  show (bif bH (([]:af cD).length+(a::l).length)then some (([]:af cD)++(a::l))else none)=_;rw[jL _ h];rfl
theorem ait(b:kf)(h:FN b):N2 b=some b:=by
 have h1:b.cO.weights.length<=1048576:=h.1;have h2:b.next.weights.length<=1048576:=h.2
 unfold N2 N1;rw[jL _ (by omega),aq,av,jL _ (by omega),aq];rfl
theorem azd(b:kf)(h:FN b):V2 b=some b:=ait b h
theorem Yh(c:aF)(hz:iE c):Iz c=some c:=by
 obtain⟨z1,z2,z3,z4,z5,z6,z7,z8,z9,aQ,gu,fO,jH,iY⟩:=hz;have y2:c.bK.aI.length<=1048576:=z2;obtain⟨y3,y3'⟩:=z3;have y5:c.spare.map.length<=1048576:=z5;have y6:c.bT.cg.length<=1048576:=z6;unfold Iz bQ;rw[ait _ z1,av];unfold VC uW VD Iy;rw[jL _ (by omega),aq,av,jL _ (by omega),aq,jL _ (by omega),aq,av,avO _ (by have:=z4.1.1;omega) (by have:=z4.2.1;omega) (by have:=z4.2.2;omega) (λx hx=>by have:x.symbols.length<=1048576:=z4.1.2 x hx;omega),av,jL _ (by omega),aq,av,jL _ (by omega),aq,av]
 refine(bJ (λo=>Option.bind o _) (ay5 _ c.aW rfl rfl rfl z7)).trans ?_
 rw[av];simp only[iy];rw[jL c.guard (by omega),aq,jL c.pending (by omega),aq,jL c.queue (by omega),aq,jL c.shares (by omega),aq,jL c.errors (by omega),aq,jL c.trace (by omega),aq,jL c.bY (by omega),aq];rfl
theorem aiu(c:aF)(hz:iE c):Pu c=some c:=by
 obtain⟨z1,z2,z3,z4,z5,z6,z7,z8,z9,aQ,gu,fO,jH,iY⟩:=hz;have y2:c.bK.aI.length<=1048576:=z2;obtain⟨y3,y3'⟩:=z3;have y5:c.spare.map.length<=1048576:=z5;have y6:c.bT.cg.length<=1048576:=z6;unfold Pu bQ;rw[azd _ z1,av];unfold E9 Fa JF;rw[jL _ (by omega),aq,av,jL _ (by omega),aq,jL _ (by omega),aq,av,avN _ (by have:=z4.1.1;omega) (by have:=z4.2.1;omega) (by have:=z4.2.2;omega) (λx hx=>by have:x.symbols.length<=1048576:=z4.1.2 x hx;omega),av,ais _ (by omega),av,jL _ (by omega),aq,av]
 refine(bJ (λo=>Option.bind o _) (ay6 _ rfl rfl rfl z7)).trans ?_
 rw[av];simp only[iy];rw[ais c.guard (by omega),av,ay7 c.pending (by omega),av,ay8 c.queue (by omega),av,ay9 c.shares (by omega),av,aza c.errors (by omega),av,azb c.trace (by omega),av,azc c.bY (by omega),av];rfl
def cA{T:Type}(g:T->Int->T×Int):af T->Int->af T×Int
 |[],k=>([],k)
 |x::l,k=>((g x k).1::(cA g l (g x k).2).1,(cA g l (g x k).2).2)
theorem aiv{T:Type}(g:T->Int->T×Int)(x:T):∀ (l:af T) (k:Int),cA g (l++[x]) k=((cA g l k).1++[(g x (cA g l k).2).1],(g x (cA g l k).2).2)
 |[],k=>rfl
 | y :: l,k=>by
  rw[List.cons_append];unfold cA;rw[aiv g x l];rfl
theorem FO{T:Type}(g:T->Int->T×Int):∀ (l:af T) (k:Int),(cA g l k).1.length=l.length
 |[],k=>rfl
 | y :: l,k=>by
  unfold cA;rw[nj,nj,FO g l]
theorem LM{T:Type}(g:T->Int->T×Int)(s:Nat):∀ (l:af T) (k:Int),(∀ x∈l,∀ k,k<=(g x k).2/\(g x k).2<=k+s)->k<=(cA g l k).2/\(cA g l k).2<=k+((s*l.length:Nat):Int)
 |[],k,_=>by simp[cA]
 | y :: l,k,h=>by
  have h1:=h y (.head _) k;have h2:=LM g s l (g y k).2 λx hx=>h x (.tail _ hx)
  have h3:s*(y::l).length=s*l.length+s:=by rw[nj,Nat.mul_succ]
  show k<=(cA g l (g y k).2).2/\(cA g l (g y k).2).2<=_;rw[h3];omega
theorem aiw{T:Type}(g:T->Int->T×Int)(l:af T)(k:Int){i:Nat}(hi:i<l.length):cA g (l.take (i+1)) k=((cA g (l.take i) k).1++[(g l[i] (cA g (l.take i) k).2).1],(g l[i] (cA g (l.take i) k).2).2):=by
 rw[Lp hi,aiv]
theorem aix{T:Type}(g:T->Int->T×Int):∀ (l:af T) (k:Int) (i:Nat) (hi:i<l.length) (hj:i<(cA g l k).1.length),(cA g l k).1[i]=(g l[i] (cA g (l.take i) k).2).1
 |[],k,i,hi,hj=>by simp at hi
 |y::l,k,0,hi,hj=>rfl
 |y::l,k,i+1,hi,hj=>aix g l (g y k).2 i (by simpa using hi) (by rw[FO];simpa using hi)
theorem Yi{s n i:Nat}(hs:s<=2097154)(hi:i<=n)(hn:n<=1048576):s*i<=2199025352704:=Nat.le_trans (Nat.mul_le_mul hs (Nat.le_trans hi hn)) (by decide)
theorem wM{T:Type}(g:T->Int->T×Int)(s:Nat)(B:Int)(st:((ah×Int×Int×ah)×(af T×ah))->ak (((ah×Int×Int×ah)×(af T×ah))⊕(((Int×ah)×(af T×ah))⊕Empty)))(l:af T)(hl:l.length<=1048576)(hs:s<=2097154)(hb:∀ x∈l,∀ k,k<=(g x k).2/\(g x k).2<=k+s)
  (Yj:∀(a:af T) (i:Nat) (k:Int) (h:i<a.length),i<1048576->a[i]∈l->0<=k->k<=B+2199025352704->st (((),k,(i:Int),()),(a,()))=some (.inl (((),(g a[i] k).2,((i+1:Nat):Int),()),(a.set i (g a[i] k).1,()))))
  (nI:∀(a:af T) (k:Int),st (((),k,(a.length:Int),()),(a,()))=some (.inr (.inl ((k,()),(a,()))))) (k:Int) (h0:0<=k) (h1:k<=B):iter st bA (((),k,(0:Int),()),(l,()))=some (.inl (((cA g l k).2,()),((cA g l k).1,()))):=by
 have e:=gJ (step:=st) l.length (λi=>(((),(cA g (l.take i) k).2,(i:Int),()),((cA g (l.take i) k).1++l.drop i,()))) (.inl (((cA g l k).2,()),((cA g l k).1,()))) bA (λi hi=>by
  have mR:=LM g s (l.take i) k λx hx=>hb x (List.mem_of_mem_take hx)
  have hm:=Yi hs (Nat.le_of_lt hi) hl;have ht:(l.take i).length=i:=by rw[jN];omega
  have hg:(cA g (l.take i) k).1.length=i:=by rw[FO,ht]
  rw[ht]at mR;have ha:((cA g (l.take i) k).1++l.drop i).length=l.length:=by rw[List.length_append,hg,List.length_drop];omega
  have hx:((cA g (l.take i) k).1++l.drop i)[i]'(by omega)=l[i]:=by
   rw[List.getElem_append_right (by omega),List.getElem_drop];congr 1;omega
  have hq:=Yj _ i (cA g (l.take i) k).2 (by omega:i<((cA g (l.take i) k).1++l.drop i).length) (by omega) (by rw[hx];exact fW _) (by omega) (by omega);rw[hx]at hq;refine hq.trans ?_;rw[aiw g l k hi,List.set_append_right _ _ (by omega),hg,Nat.sub_self,List.drop_eq_getElem_cons hi,List.set_cons_zero,List.append_assoc];rfl) (by
  have hq:=nI (cA g l k).1 (cA g l k).2;rw[FO]at hq;rw[mL,List.drop_length,List.append_nil];exact hq) (cP (by omega))
 exact e
theorem wN{T:Type}(g:T->Int->T×Int)(s:Nat)(B:Int)(st:((af T×Int×Int×ah)×ah)->ak (((af T×Int×Int×ah)×ah)⊕(((Int×ah)×ah)⊕(((Int×ah)×ah)⊕Empty))))(l:af T)(hl:l.length<=1048576)(hs:s<=2097154)(hb:∀ x∈l,∀ k,k<=(g x k).2/\(g x k).2<=k+s)
  (Yj:∀(a:af T) (x:T) (i:Nat) (k:Int) (h:i<a.length),i<1048576->x∈l->a[i]=(g x k).1->0<=k->k<=B+2199025352704->st ((a,k,(i:Int),()),())=some (.inl ((a,(g x k).2,((i+1:Nat):Int),()),())))
  (nI:∀(a:af T) (k:Int),st ((a,k,(a.length:Int),()),())=some (.inr (.inr (.inl ((k,()),()))))) (k:Int) (h0:0<=k) (h1:k<=B):iter st bA (((cA g l k).1,k,(0:Int),()),())=some (.inr (.inl (((cA g l k).2,()),()))):=by
 have e:=gJ (step:=st) l.length (λi=>(((cA g l k).1,(cA g (l.take i) k).2,(i:Int),()),())) (.inr (.inl (((cA g l k).2,()),()))) bA (λi hi=>by
  have mR:=LM g s (l.take i) k λx hx=>hb x (List.mem_of_mem_take hx)
  have hm:=Yi hs (Nat.le_of_lt hi) hl;have ht:(l.take i).length=i:=by rw[jN];omega
  rw[ht]at mR;have hg:=FO g l k;have hq:=Yj (cA g l k).1 l[i] i (cA g (l.take i) k).2 (by omega) (by omega) (fW _) (aix g l k i hi (by omega)) (by omega) (by omega);rw[aiw g l k hi];exact hq) (by
  have hq:=nI (cA g l k).1 (cA g l k).2;rw[FO]at hq;rw[mL];exact hq) (cP (by omega))
 exact e
def MH{T:Type}(mark:af T->Int->ak (Int×(af T×ah)))(held:af T->Int->ak Int)(l:af T):Prop:=∀k:Int,0<=k->k<=1152921504606846976->∃m l',mark l k=some (m,(l',()))/\held l' k=some m/\k<=m/\m<=k+2199025352704
theorem wO{T:Type}{mark:af T->Int->ak (Int×(af T×ah))}{held:af T->Int->ak Int}{l:af T}(g:T->Int->T×Int)(s:Nat)(hl:l.length<=1048576)(hs:s<=2097154)(hb:∀ x∈l,∀ k,k<=(g x k).2/\(g x k).2<=k+s)(hm:∀ k:Int,0<=k->k<=1152921504606846976->mark l k=some ((cA g l k).2,((cA g l k).1,())))(hh:∀ k:Int,0<=k->k<=1152921504606846976->held (cA g l k).1 k=some (cA g l k).2):MH mark held l:=λk h0 h1=>by
 have:=LM g s l k hb;have:=Yi hs (gj _) hl;exact⟨_,_,hm k h0 h1,hh k h0 h1,by omega,by omega⟩
def gL(_ k:Int):Int×Int:=(k,k+1)
theorem Rb(x k:Int):k<=(gL x k).2/\(gL x k).2<=k+(1:Nat):=by
 unfold gL;dsimp only;omega
theorem Rc(l:af Int)(hl:l.length<=1048576)(k:Int)(h0:0<=k)(h1:k<=2305843009213693952):iu l k=some ((cA gL l k).2,((cA gL l k).1,())):=by
 unfold iu bQ;rw[wM gL 1 2305843009213693952 KM l hl (by omega) (λx _=>Rb x) (λa i k h hi _ h0 h1=>by
  have c2:0<=(i:Int):=by omega
  unfold KM xC ax xG;dsimp only[kD];rw[bF (by omega),aq];simp only[ni,cc,c2,h,and_self,dite_true,qM,List.set_set];rw[bZ (by omega),aY (n:=k+1) (by omega) (by omega)];rfl) (λa k=>by
  unfold KM xC ax xG;dsimp only[kD];rw[bD (by omega),au]) k h0 h1]
 rfl
theorem Rd(l:af Int)(hl:l.length<=1048576)(k:Int)(h0:0<=k)(h1:k<=2305843009213693952):qA (cA gL l k).1 k=some (cA gL l k).2:=by
 unfold qA bR;rw[wN gL 1 2305843009213693952 K5 l hl (by omega) (λx _=>Rb x) (λa x i k h hi _ hx h0 h1=>by
  have c2:0<=(i:Int):=by omega
  unfold K5 ax bu xG xI;dsimp only;rw[bF (by omega),aq];simp only[cc,c2,h,and_self,dite_true,hx];rw[bZ (by omega),aY (n:=k+1) (by omega) (by omega)];simp only[gL,eV,eJ,bS,au]) (λa k=>by
  unfold K5 ax bu xG xI;dsimp only;rw[bD (by omega),au]) k h0 h1]
 rfl
theorem yL(l:af Int)(hl:l.length<=1048576):MH iu qA l:=wO gL 1 hl (by omega) (λx _=>Rb x) (λk h0 h1=>Rc l hl k h0 (by omega)) (λk h0 h1=>Rd l hl k h0 (by omega))
def vA(_:c8)(k:Int):c8×Int:=(⟨((k).tmod 3==0),k+1⟩,k+1+1)
theorem Yk(x:c8)(k:Int):k<=(vA x k).2/\(vA x k).2<=k+(2:Nat):=by
 unfold vA;dsimp only;omega
theorem aze(l:af c8)(hl:l.length<=1048576)(k:Int)(h0:0<=k)(h1:k<=1152921504606846976):C2 l k=some ((cA vA l k).2,((cA vA l k).1,())):=by
 unfold C2 bQ;rw[wM vA 2 1152921504606846976 KN l hl (by omega) (λx _=>Yk x) (λa i k h hi _ h0 h1=>by
  have c2:0<=(i:Int):=by omega
  unfold KN xC ax xG;dsimp only[kD];rw[bF (by omega),aq];simp only[ni,cc,c2,h,and_self,dite_true,qM,List.set_set];rw[bZ (by omega),aY (n:=k+1) (by omega) (by omega),aY (n:=k+1+1) (by omega) (by omega)];rfl) (λa k=>by
  unfold KN xC ax xG;dsimp only[kD];rw[bD (by omega),au]) k h0 h1]
 rfl
theorem azf(l:af c8)(hl:l.length<=1048576)(k:Int)(h0:0<=k)(h1:k<=1152921504606846976):K7 (cA vA l k).1 k=some (cA vA l k).2:=by
 unfold K7 bR;rw[wN vA 2 1152921504606846976 K6 l hl (by omega) (λx _=>Yk x) (λa x i k h hi _ hx h0 h1=>by
  have c2:0<=(i:Int):=by omega
  unfold K6 ax bu xG xI;dsimp only;rw[bF (by omega),aq];simp only[cc,c2,h,and_self,dite_true,hx];rw[bZ (by omega),aY (n:=k+1) (by omega) (by omega),aY (n:=k+1+1) (by omega) (by omega)];simp only[vA,eV,eJ,bS,au]) (λa k=>by
  unfold K6 ax bu xG xI;dsimp only;rw[bD (by omega),au]) k h0 h1]
 rfl
theorem azg(l:af c8)(hl:l.length<=1048576):MH C2 K7 l:=wO vA 2 hl (by omega) (λx _=>Yk x) (λk h0 h1=>aze l hl k h0 (by omega)) (λk h0 h1=>azf l hl k h0 (by omega))
def vB(_:aP)(k:Int):aP×Int:=(⟨k,k+1,k+1+1⟩,k+1+1+1)
theorem Yl(x:aP)(k:Int):k<=(vB x k).2/\(vB x k).2<=k+(3:Nat):=by
 unfold vB;dsimp only;omega
theorem azh(l:af aP)(hl:l.length<=1048576)(k:Int)(h0:0<=k)(h1:k<=1152921504606846976):C3 l k=some ((cA vB l k).2,((cA vB l k).1,())):=by
 unfold C3 bQ;rw[wM vB 3 1152921504606846976 KR l hl (by omega) (λx _=>Yl x) (λa i k h hi _ h0 h1=>by
  have c2:0<=(i:Int):=by omega
  unfold KR xC ax xG;dsimp only[kD];rw[bF (by omega),aq];simp only[ni,cc,c2,h,and_self,dite_true,qM,List.set_set];rw[bZ (by omega),aY (n:=k+1) (by omega) (by omega),aY (n:=k+1+1) (by omega) (by omega),aY (n:=k+1+1+1) (by omega) (by omega)];rfl) (λa k=>by
  unfold KR xC ax xG;dsimp only[kD];rw[bD (by omega),au]) k h0 h1]
 rfl
theorem azi(l:af aP)(hl:l.length<=1048576)(k:Int)(h0:0<=k)(h1:k<=1152921504606846976):Lb (cA vB l k).1 k=some (cA vB l k).2:=by
 unfold Lb bR;rw[wN vB 3 1152921504606846976 La l hl (by omega) (λx _=>Yl x) (λa x i k h hi _ hx h0 h1=>by
  have c2:0<=(i:Int):=by omega
  unfold La ax bu xG xI;dsimp only;rw[bF (by omega),aq];simp only[cc,c2,h,and_self,dite_true,hx];rw[bZ (by omega),aY (n:=k+1) (by omega) (by omega),aY (n:=k+1+1) (by omega) (by omega),aY (n:=k+1+1+1) (by omega) (by omega)];simp only[vB,eV,eJ,bS,au]) (λa k=>by
  unfold La ax bu xG xI;dsimp only;rw[bD (by omega),au]) k h0 h1]
 rfl
theorem azj(l:af aP)(hl:l.length<=1048576):MH C3 Lb l:=wO vB 3 hl (by omega) (λx _=>Yl x) (λk h0 h1=>azh l hl k h0 (by omega)) (λk h0 h1=>azi l hl k h0 (by omega))
def vC(_:bN)(k:Int):bN×Int:=(⟨k,k+1,k+1+1,((k+1+1+1).tmod 3==0),k+1+1+1+1,k+1+1+1+1+1⟩,k+1+1+1+1+1+1)
theorem Ym(x:bN)(k:Int):k<=(vC x k).2/\(vC x k).2<=k+(6:Nat):=by
 unfold vC;dsimp only;omega
theorem azk(l:af bN)(hl:l.length<=1048576)(k:Int)(h0:0<=k)(h1:k<=1152921504606846976):C4 l k=some ((cA vC l k).2,((cA vC l k).1,())):=by
 unfold C4 bQ;rw[wM vC 6 1152921504606846976 KT l hl (by omega) (λx _=>Ym x) (λa i k h hi _ h0 h1=>by
  have c2:0<=(i:Int):=by omega
  unfold KT xC ax xG;dsimp only[kD];rw[bF (by omega),aq];simp only[ni,cc,c2,h,and_self,dite_true,qM,List.set_set];rw[bZ (by omega),aY (n:=k+1) (by omega) (by omega),aY (n:=k+1+1) (by omega) (by omega),aY (n:=k+1+1+1) (by omega) (by omega),aY (n:=k+1+1+1+1) (by omega) (by omega),aY (n:=k+1+1+1+1+1) (by omega) (by omega),aY (n:=k+1+1+1+1+1+1) (by omega) (by omega)];rfl) (λa k=>by
  unfold KT xC ax xG;dsimp only[kD];rw[bD (by omega),au]) k h0 h1]
 rfl
theorem azl(l:af bN)(hl:l.length<=1048576)(k:Int)(h0:0<=k)(h1:k<=1152921504606846976):Ld (cA vC l k).1 k=some (cA vC l k).2:=by
 unfold Ld bR;rw[wN vC 6 1152921504606846976 Lc l hl (by omega) (λx _=>Ym x) (λa x i k h hi _ hx h0 h1=>by
  have c2:0<=(i:Int):=by omega
  unfold Lc ax bu xG xI;dsimp only;rw[bF (by omega),aq];simp only[cc,c2,h,and_self,dite_true,hx];rw[bZ (by omega),aY (n:=k+1) (by omega) (by omega),aY (n:=k+1+1) (by omega) (by omega),aY (n:=k+1+1+1) (by omega) (by omega),aY (n:=k+1+1+1+1) (by omega) (by omega),aY (n:=k+1+1+1+1+1) (by omega) (by omega),aY (n:=k+1+1+1+1+1+1) (by omega) (by omega)];simp only[vC,eV,eJ,bS,au]) (λa k=>by
  unfold Lc ax bu xG xI;dsimp only;rw[bD (by omega),au]) k h0 h1]
 rfl
theorem azm(l:af bN)(hl:l.length<=1048576):MH C4 Ld l:=wO vC 6 hl (by omega) (λx _=>Ym x) (λk h0 h1=>azk l hl k h0 (by omega)) (λk h0 h1=>azl l hl k h0 (by omega))
def vD(_:bC)(k:Int):bC×Int:=(⟨k,k+1⟩,k+1+1)
theorem Yn(x:bC)(k:Int):k<=(vD x k).2/\(vD x k).2<=k+(2:Nat):=by
 unfold vD;dsimp only;omega
theorem azn(l:af bC)(hl:l.length<=1048576)(k:Int)(h0:0<=k)(h1:k<=1152921504606846976):C5 l k=some ((cA vD l k).2,((cA vD l k).1,())):=by
 unfold C5 bQ;rw[wM vD 2 1152921504606846976 KV l hl (by omega) (λx _=>Yn x) (λa i k h hi _ h0 h1=>by
  have c2:0<=(i:Int):=by omega
  unfold KV xC ax xG;dsimp only[kD];rw[bF (by omega),aq];simp only[ni,cc,c2,h,and_self,dite_true,qM,List.set_set];rw[bZ (by omega),aY (n:=k+1) (by omega) (by omega),aY (n:=k+1+1) (by omega) (by omega)];rfl) (λa k=>by
  unfold KV xC ax xG;dsimp only[kD];rw[bD (by omega),au]) k h0 h1]
 rfl
theorem azo(l:af bC)(hl:l.length<=1048576)(k:Int)(h0:0<=k)(h1:k<=1152921504606846976):Lg (cA vD l k).1 k=some (cA vD l k).2:=by
 unfold Lg bR;rw[wN vD 2 1152921504606846976 Le l hl (by omega) (λx _=>Yn x) (λa x i k h hi _ hx h0 h1=>by
  have c2:0<=(i:Int):=by omega
  unfold Le ax bu xG xI;dsimp only;rw[bF (by omega),aq];simp only[cc,c2,h,and_self,dite_true,hx];rw[bZ (by omega),aY (n:=k+1) (by omega) (by omega),aY (n:=k+1+1) (by omega) (by omega)];simp only[vD,eV,eJ,bS,au]) (λa k=>by
  unfold Le ax bu xG xI;dsimp only;rw[bD (by omega),au]) k h0 h1]
 rfl
theorem azp(l:af bC)(hl:l.length<=1048576):MH C5 Lg l:=wO vD 2 hl (by omega) (λx _=>Yn x) (λk h0 h1=>azn l hl k h0 (by omega)) (λk h0 h1=>azo l hl k h0 (by omega))
def vE(_:bw)(k:Int):bw×Int:=(⟨k,k+1,k+1+1⟩,k+1+1+1)
theorem Yo(x:bw)(k:Int):k<=(vE x k).2/\(vE x k).2<=k+(3:Nat):=by
 unfold vE;dsimp only;omega
theorem azq(l:af bw)(hl:l.length<=1048576)(k:Int)(h0:0<=k)(h1:k<=1152921504606846976):C6 l k=some ((cA vE l k).2,((cA vE l k).1,())):=by
 unfold C6 bQ;rw[wM vE 3 1152921504606846976 KZ l hl (by omega) (λx _=>Yo x) (λa i k h hi _ h0 h1=>by
  have c2:0<=(i:Int):=by omega
  unfold KZ xC ax xG;dsimp only[kD];rw[bF (by omega),aq];simp only[ni,cc,c2,h,and_self,dite_true,qM,List.set_set];rw[bZ (by omega),aY (n:=k+1) (by omega) (by omega),aY (n:=k+1+1) (by omega) (by omega),aY (n:=k+1+1+1) (by omega) (by omega)];rfl) (λa k=>by
  unfold KZ xC ax xG;dsimp only[kD];rw[bD (by omega),au]) k h0 h1]
 rfl
theorem azr(l:af bw)(hl:l.length<=1048576)(k:Int)(h0:0<=k)(h1:k<=1152921504606846976):Li (cA vE l k).1 k=some (cA vE l k).2:=by
 unfold Li bR;rw[wN vE 3 1152921504606846976 Lh l hl (by omega) (λx _=>Yo x) (λa x i k h hi _ hx h0 h1=>by
  have c2:0<=(i:Int):=by omega
  unfold Lh ax bu xG xI;dsimp only;rw[bF (by omega),aq];simp only[cc,c2,h,and_self,dite_true,hx];rw[bZ (by omega),aY (n:=k+1) (by omega) (by omega),aY (n:=k+1+1) (by omega) (by omega),aY (n:=k+1+1+1) (by omega) (by omega)];simp only[vE,eV,eJ,bS,au]) (λa k=>by
  unfold Lh ax bu xG xI;dsimp only;rw[bD (by omega),au]) k h0 h1]
 rfl
theorem azs(l:af bw)(hl:l.length<=1048576):MH C6 Li l:=wO vE 3 hl (by omega) (λx _=>Yo x) (λk h0 h1=>azq l hl k h0 (by omega)) (λk h0 h1=>azr l hl k h0 (by omega))
def vF(_:cw)(k:Int):cw×Int:=(⟨k,⟨k+1,k+1+1,k+1+1+1,k+1+1+1+1⟩⟩,k+1+1+1+1+1)
theorem Yp(x:cw)(k:Int):k<=(vF x k).2/\(vF x k).2<=k+(5:Nat):=by
 unfold vF;dsimp only;omega
theorem azt(l:af cw)(hl:l.length<=1048576)(k:Int)(h0:0<=k)(h1:k<=1152921504606846976):C7 l k=some ((cA vF l k).2,((cA vF l k).1,())):=by
 unfold C7 bQ;rw[wM vF 5 1152921504606846976 K1 l hl (by omega) (λx _=>Yp x) (λa i k h hi _ h0 h1=>by
  have c2:0<=(i:Int):=by omega
  unfold K1 xC ax xG;dsimp only[kD];rw[bF (by omega),aq];simp only[ni,cc,c2,h,and_self,dite_true,qM,List.set_set];rw[bZ (by omega),aY (n:=k+1) (by omega) (by omega),aY (n:=k+1+1) (by omega) (by omega),aY (n:=k+1+1+1) (by omega) (by omega),aY (n:=k+1+1+1+1) (by omega) (by omega),aY (n:=k+1+1+1+1+1) (by omega) (by omega)];rfl) (λa k=>by
  unfold K1 xC ax xG;dsimp only[kD];rw[bD (by omega),au]) k h0 h1]
 rfl
theorem azu(l:af cw)(hl:l.length<=1048576)(k:Int)(h0:0<=k)(h1:k<=1152921504606846976):Lk (cA vF l k).1 k=some (cA vF l k).2:=by
 unfold Lk bR;rw[wN vF 5 1152921504606846976 Lj l hl (by omega) (λx _=>Yp x) (λa x i k h hi _ hx h0 h1=>by
  have c2:0<=(i:Int):=by omega
  unfold Lj ax bu xG xI;dsimp only;rw[bF (by omega),aq];simp only[cc,c2,h,and_self,dite_true,hx];rw[bZ (by omega),aY (n:=k+1) (by omega) (by omega),aY (n:=k+1+1) (by omega) (by omega),aY (n:=k+1+1+1) (by omega) (by omega),aY (n:=k+1+1+1+1) (by omega) (by omega),aY (n:=k+1+1+1+1+1) (by omega) (by omega)];simp only[vF,eV,eJ,bS,au]) (λa k=>by
  unfold Lj ax bu xG xI;dsimp only;rw[bD (by omega),au]) k h0 h1]
 rfl
theorem azv(l:af cw)(hl:l.length<=1048576):MH C7 Lk l:=wO vF 5 hl (by omega) (λx _=>Yp x) (λk h0 h1=>azt l hl k h0 (by omega)) (λk h0 h1=>azu l hl k h0 (by omega))
def vG(_:cD)(k:Int):cD×Int:=(⟨k,k+1,k+1+1,k+1+1+1⟩,k+1+1+1+1)
theorem Yq(x:cD)(k:Int):k<=(vG x k).2/\(vG x k).2<=k+(4:Nat):=by
 unfold vG;dsimp only;omega
theorem azw(l:af cD)(hl:l.length<=1048576)(k:Int)(h0:0<=k)(h1:k<=1152921504606846976):C8 l k=some ((cA vG l k).2,((cA vG l k).1,())):=by
 unfold C8 bQ;rw[wM vG 4 1152921504606846976 K3 l hl (by omega) (λx _=>Yq x) (λa i k h hi _ h0 h1=>by
  have c2:0<=(i:Int):=by omega
  unfold K3 xC ax xG;dsimp only[kD];rw[bF (by omega),aq];simp only[ni,cc,c2,h,and_self,dite_true,qM,List.set_set];rw[bZ (by omega),aY (n:=k+1) (by omega) (by omega),aY (n:=k+1+1) (by omega) (by omega),aY (n:=k+1+1+1) (by omega) (by omega),aY (n:=k+1+1+1+1) (by omega) (by omega)];rfl) (λa k=>by
  unfold K3 xC ax xG;dsimp only[kD];rw[bD (by omega),au]) k h0 h1]
 rfl
theorem azx(l:af cD)(hl:l.length<=1048576)(k:Int)(h0:0<=k)(h1:k<=1152921504606846976):Ln (cA vG l k).1 k=some (cA vG l k).2:=by
 unfold Ln bR;rw[wN vG 4 1152921504606846976 Ll l hl (by omega) (λx _=>Yq x) (λa x i k h hi _ hx h0 h1=>by
  have c2:0<=(i:Int):=by omega
  unfold Ll ax bu xG xI;dsimp only;rw[bF (by omega),aq];simp only[cc,c2,h,and_self,dite_true,hx];rw[bZ (by omega),aY (n:=k+1) (by omega) (by omega),aY (n:=k+1+1) (by omega) (by omega),aY (n:=k+1+1+1) (by omega) (by omega),aY (n:=k+1+1+1+1) (by omega) (by omega)];simp only[vG,eV,eJ,bS,au]) (λa k=>by
  unfold Ll ax bu xG xI;dsimp only;rw[bD (by omega),au]) k h0 h1]
 rfl
theorem azy(l:af cD)(hl:l.length<=1048576):MH C8 Ln l:=wO vG 4 hl (by omega) (λx _=>Yq x) (λk h0 h1=>azw l hl k h0 (by omega)) (λk h0 h1=>azx l hl k h0 (by omega))
theorem yM(l:af Int)(h:l.length<=1048576)(k:Int):k<=(cA gL l k).2/\(cA gL l k).2<=k+1048576:=by
 have:=LM gL 1 l k λx _=>Rb x
 omega
def A6(x:bG)(k:Int):bG×Int:=(⟨(cA gL x.symbols k).1,((cA gL x.symbols k).2.tmod 3==0)⟩,(cA gL x.symbols k).2+1)
theorem Yr(x:bG)(h:x.symbols.length<=1048576)(k:Int):k<=(A6 x k).2/\(A6 x k).2<=k+(1048577:Nat):=by
 have:=yM x.symbols h k;unfold A6;dsimp only;omega
theorem azz(l:af bG)(hl:l.length<=1048576)(hz:∀ y∈l,y.symbols.length<=1048576):MH FB QI l:=wO A6 1048577 hl (by omega) (λx hx=>Yr x (hz x hx)) (λk h0 h1=>by
 unfold FB bQ;rw[wM A6 1048577 1152921504606846976 KO l hl (by omega) (λx hx=>Yr x (hz x hx)) (λa i k h hi hx h0 h1=>by
  have c2:0<=(i:Int):=by omega
  have hb:=yM a[i].symbols (hz _ hx) k;unfold KO xC ax xG;dsimp only[kD];rw[bF (by omega),aq];simp only[ni,cc,c2,h,and_self,dite_true];rw[Rc _ (hz _ hx) k h0 (by omega),av];simp only[qM,List.set_set];rw[bZ (by omega),aY (n:=(cA gL a[i].symbols k).2+1) (by omega) (by omega)];rfl) (λa k=>by
  unfold KO xC ax xG;dsimp only[kD];rw[bD (by omega),au]) k h0 h1]
 rfl) (λk h0 h1=>by
 unfold QI bR;rw[wN A6 1048577 1152921504606846976 K8 l hl (by omega) (λx hx=>Yr x (hz x hx)) (λa x i k h hi hm hx h0 h1=>by
  have c2:0<=(i:Int):=by omega
  have hb:=yM x.symbols (hz _ hm) k;unfold K8 ax bu xG xI;dsimp only;rw[bF (by omega),aq];simp only[cc,c2,h,and_self,dite_true,hx];rw[show (A6 x k).1.symbols=(cA gL x.symbols k).1 from rfl,Rd _ (hz _ hm) k h0 (by omega),av,bD (by omega),bZ (by omega),aY (n:=(cA gL x.symbols k).2+1) (by omega) (by omega)];simp only[A6,eJ,bS,au]) (λa k=>by
  unfold K8 ax bu xG xI;dsimp only;rw[bD (by omega),au]) k h0 h1]
 rfl)
def yN(x:bO)(k:Int):bO×Int:=(⟨(cA gL x.rows k).1,(cA gL x.counts (cA gL x.rows k).2).1,(cA gL x.counts (cA gL x.rows k).2).2⟩,(cA gL x.counts (cA gL x.rows k).2).2+1)
theorem Ys(x:bO)(h:x.rows.length<=1048576/\x.counts.length<=1048576)(k:Int):k<=(yN x k).2/\(yN x k).2<=k+(2097153:Nat):=by
 have:=yM x.rows h.1 k;have:=yM x.counts h.2 (cA gL x.rows k).2;unfold yN;dsimp only;omega
theorem azA(l:af bO)(hl:l.length<=1048576)(hz:∀ y∈l,y.rows.length<=1048576/\y.counts.length<=1048576):MH FC QJ l:=wO yN 2097153 hl (by omega) (λx hx=>Ys x (hz x hx)) (λk h0 h1=>by
 unfold FC bQ;rw[wM yN 2097153 1152921504606846976 KP l hl (by omega) (λx hx=>Ys x (hz x hx)) (λa i k h hi hx h0 h1=>by
  have c2:0<=(i:Int):=by omega
  have hb:=yM a[i].rows (hz _ hx).1 k;have ga:=yM a[i].counts (hz _ hx).2 (cA gL a[i].rows k).2;unfold KP xC ax xG;dsimp only[kD];rw[bF (by omega),aq];simp only[ni,cc,c2,h,and_self,dite_true];rw[Rc _ (hz _ hx).1 k h0 (by omega),av];simp only[qM,List.set_set];rw[Rc _ (hz _ hx).2 _ (by omega) (by omega),av];simp only[qM,List.set_set];rw[bZ (by omega),aY (n:=(cA gL a[i].counts (cA gL a[i].rows k).2).2+1) (by omega) (by omega)];rfl) (λa k=>by
  unfold KP xC ax xG;dsimp only[kD];rw[bD (by omega),au]) k h0 h1]
 rfl) (λk h0 h1=>by
 unfold QJ bR;rw[wN yN 2097153 1152921504606846976 K9 l hl (by omega) (λx hx=>Ys x (hz x hx)) (λa x i k h hi hm hx h0 h1=>by
  have c2:0<=(i:Int):=by omega
  have hb:=yM x.rows (hz _ hm).1 k;have ga:=yM x.counts (hz _ hm).2 (cA gL x.rows k).2;unfold K9 ax bu xG xI;dsimp only;rw[bF (by omega),aq];simp only[cc,c2,h,and_self,dite_true,hx];rw[show (yN x k).1.rows=(cA gL x.rows k).1 from rfl,Rd _ (hz _ hm).1 k h0 (by omega),av,bD (by omega),au,show (yN x k).1.counts=(cA gL x.counts (cA gL x.rows k).2).1 from rfl,Rd _ (hz _ hm).2 _ (by omega) (by omega),av,bD (by omega),bZ (by omega),aY (n:=(cA gL x.counts (cA gL x.rows k).2).2+1) (by omega) (by omega)];simp only[yN,eV,au]) (λa k=>by
  unfold K9 ax bu xG xI;dsimp only;rw[bD (by omega),au]) k h0 h1]
 rfl)
theorem aiy{β:Type}(c:aF)(hz:iE c)(B:(Int×(af Int×ah))->(Int×(af Int×ah))->(Int×(af c8×ah))->(Int×(af Int×ah))->(Int×(af Int×ah))->(Int×(af bG×ah))->(Int×(af Int×ah))->(Int×(af Int×ah))->(Int×(af Int×ah))->(Int×(af Int×ah))->(Int×(af bO×ah))->(Int×(af Int×ah))->(Int×(af aP×ah))->(Int×(af bN×ah))->(Int×(af bC×ah))->(Int×(af bw×ah))->(Int×(af cw×ah))->(Int×(af cD×ah))->ak β)(z:ak β)(h:∀ r0 r1 r2 r3 r4 r5 r6 r7 r8 r9 vm vn vo vp vr vt vu wL,0<=wL.1->Lo (⟨c.config,⟨⟨c.box.cO.jb,c.box.cO.cap,c.box.cO.fY,c.box.cO.low,c.box.cO.high,r0.2.1,c.box.cO.fZ⟩,⟨c.box.next.jb,c.box.next.cap,c.box.next.fY,c.box.next.low,c.box.next.high,r1.2.1,c.box.next.fZ⟩,c.box.waits⟩,c.now,⟨r2.2.1,c.bK.aN⟩,⟨r3.2.1,r4.2.1⟩,⟨r5.2.1,r6.2.1,r7.2.1⟩,⟨c.spare.cF,r8.2.1⟩,⟨r9.2.1,c.bT.wait,c.bT.ja⟩,vm.2.1,vn.2.1,vo.2.1,vp.2.1,vr.2.1,c.drain,c.aN,c.cC,vt.2.1,vu.2.1,wL.2.1⟩:aF) (1:Int)=some wL.1->B r0 r1 r2 r3 r4 r5 r6 r7 r8 r9 vm vn vo vp vr vt vu wL=z):((iu c.box.cO.weights (1:Int)).bind λr0=>(iu c.box.next.weights r0.1).bind λr1=>(C2 c.bK.aI r1.1).bind λr2=>(iu c.ready.last r2.1).bind λr3=>(iu c.ready.aZ r3.1).bind λr4=>(FB c.array.cells r4.1).bind λr5=>(iu c.array.bI r5.1).bind λr6=>(iu c.array.bk r6.1).bind λr7=>(iu c.spare.map r7.1).bind λr8=>(iu c.bT.cg r8.1).bind λr9=>(FC c.aW r9.1).bind λvm=>(iu c.guard vm.1).bind λvn=>(C3 c.pending vn.1).bind λvo=>(C4 c.queue vo.1).bind λvp=>(C5 c.shares vp.1).bind λvr=>(C6 c.errors vr.1).bind λvt=>(C7 c.trace vt.1).bind λvu=>(C8 c.bY vu.1).bind λwL=>B r0 r1 r2 r3 r4 r5 r6 r7 r8 r9 vm vn vo vp vr vt vu wL)=z:=by
 obtain⟨⟨z1,z2⟩,z3,⟨z4,z5⟩,⟨⟨z6,LL⟩,z7,z8⟩,z9,aQ,⟨gu,Yf⟩,fO,jH,iY,fN,rJ,wq,Cu⟩:=hz;obtain⟨m0,l0,e0,d0,a0,b0⟩:=yL c.box.cO.weights z1 1 (by omega) (by omega);obtain⟨m1,l1,e1,d1,a1,b1⟩:=yL c.box.next.weights z2 m0 (by omega) (by omega)
 obtain⟨m2,l2,e2,d2,a2,b2⟩:=azg c.bK.aI z3 m1 (by omega) (by omega);obtain⟨m3,l3,e3,d3,a3,b3⟩:=yL c.ready.last z4 m2 (by omega) (by omega);obtain⟨m4,l4,e4,d4,a4,b4⟩:=yL c.ready.aZ z5 m3 (by omega) (by omega);obtain⟨m5,l5,e5,d5,a5,b5⟩:=azz c.array.cells z6 LL m4 (by omega) (by omega);obtain⟨m6,l6,e6,d6,a6,b6⟩:=yL c.array.bI z7 m5 (by omega) (by omega);obtain⟨m7,l7,e7,d7,a7,b7⟩:=yL c.array.bk z8 m6 (by omega) (by omega);obtain⟨m8,l8,e8,d8,a8,b8⟩:=yL c.spare.map z9 m7 (by omega) (by omega);obtain⟨m9,l9,e9,d9,a9,b9⟩:=yL c.bT.cg aQ m8 (by omega) (by omega);obtain⟨Yt,l10,fD,d10,o5,b10⟩:=azA c.aW gu Yf m9 (by omega) (by omega);obtain⟨Yu,l11,fB,d11,o6,b11⟩:=yL c.guard fO Yt (by omega) (by omega);obtain⟨Yv,l12,fk,d12,o7,b12⟩:=azj c.pending jH Yu (by omega) (by omega);obtain⟨FG,l13,nL,d13,qN,b13⟩:=azm c.queue iY Yv (by omega) (by omega);obtain⟨Yw,l14,oW,d14,qO,b14⟩:=azp c.shares fN FG (by omega) (by omega);obtain⟨Yx,l15,mY,d15,pZ,b15⟩:=azs c.errors rJ Yw (by omega) (by omega);obtain⟨Yy,l16,dL,d16,o8,b16⟩:=azv c.trace wq Yx (by omega) (by omega);obtain⟨m17,l17,jV,d17,vJ,b17⟩:=azy c.bY Cu Yy (by omega) (by omega)
 refine(bJ (λo=>Option.bind o _) e0).trans ?_
 rw[av]
 refine(bJ (λo=>Option.bind o _) e1).trans ?_
 rw[av]
 refine(bJ (λo=>Option.bind o _) e2).trans ?_
 rw[av]
 refine(bJ (λo=>Option.bind o _) e3).trans ?_
 rw[av]
 refine(bJ (λo=>Option.bind o _) e4).trans ?_
 rw[av]
 refine(bJ (λo=>Option.bind o _) e5).trans ?_
 rw[av]
 refine(bJ (λo=>Option.bind o _) e6).trans ?_
 rw[av]
 refine(bJ (λo=>Option.bind o _) e7).trans ?_
 rw[av]
 refine(bJ (λo=>Option.bind o _) e8).trans ?_
 rw[av]
 refine(bJ (λo=>Option.bind o _) e9).trans ?_
 rw[av]
 refine(bJ (λo=>Option.bind o _) fD).trans ?_
 rw[av]
 refine(bJ (λo=>Option.bind o _) fB).trans ?_
 rw[av]
 refine(bJ (λo=>Option.bind o _) fk).trans ?_
 rw[av]
 refine(bJ (λo=>Option.bind o _) nL).trans ?_
 rw[av]
 refine(bJ (λo=>Option.bind o _) oW).trans ?_
 rw[av]
 refine(bJ (λo=>Option.bind o _) mY).trans ?_
 rw[av]
 refine(bJ (λo=>Option.bind o _) dL).trans ?_
 rw[av]
 refine(bJ (λo=>Option.bind o _) jV).trans ?_
 rw[av];refine h (m0,(l0,())) (m1,(l1,())) (m2,(l2,())) (m3,(l3,())) (m4,(l4,())) (m5,(l5,())) (m6,(l6,())) (m7,(l7,())) (m8,(l8,())) (m9,(l9,())) (Yt,(l10,())) (Yu,(l11,())) (Yv,(l12,())) (FG,(l13,())) (Yw,(l14,())) (Yx,(l15,())) (Yy,(l16,())) (m17,(l17,())) (by dsimp only;omega) ?_;unfold Lo Wt QH Wu Wv Ww Wx Wy;simp only[d0,d1,d2,d3,d4,d5,d6,d7,d8,d9,d10,d11,d12,d13,d14,d15,d16,d17,av,bD (show ¬ m0<0 by omega),bD (show ¬ m1<0 by omega),bD (show ¬ m2<0 by omega),bD (show ¬ m3<0 by omega),bD (show ¬ m4<0 by omega),bD (show ¬ m5<0 by omega),bD (show ¬ m6<0 by omega),bD (show ¬ m7<0 by omega),bD (show ¬ m8<0 by omega),bD (show ¬ m9<0 by omega),bD (show ¬ Yt<0 by omega),bD (show ¬ Yu<0 by omega),bD (show ¬ Yv<0 by omega),bD (show ¬ FG<0 by omega),bD (show ¬ Yw<0 by omega),bD (show ¬ Yx<0 by omega),bD (show ¬ Yy<0 by omega),bD (show ¬ m17<0 by omega),au]
def nb(l:af UInt8):af Int:=l.map λb=>(b.toNat:Int)
def eE(c:aF)(a:eZ):aF:=⟨c.config,c.box,c.now,c.bK,c.ready,a,c.spare,c.bT,c.aW,c.guard,c.pending,c.queue,c.shares,c.drain,c.aN,c.cC,c.errors,c.trace,c.bY⟩
def wP:bG:=⟨[],false⟩
def Dt(d:bG):bG:=⟨(d.symbols.set 0 (bits .xor .i64 (d.symbols.getD 0 0) 5)).set 1 (bits .xor .i64 (d.symbols.getD 1 0) 10),d.eF⟩
def lI(base:Nat):Nat->af bG->af bG
 |0,cs=>cs
 |n+1,cs=>(lI base n cs).set (base+n) (Dt ((lI base n cs).getD (base+n) wP))
theorem LN(base:Nat):∀ (n:Nat) (cs:af bG),(lI base n cs).length=cs.length
 |0,_=>rfl
 | n+1,cs=>by
  show ((lI base n cs).set _ _).length=_;rw[ni,LN base n]
theorem azB{d:bG}(h:Sy d.symbols):Sy (Dt d).symbols:=by
 have l0:0<d.symbols.length:=by rw[h.1];omega
 have l1:1<d.symbols.length:=by rw[h.1];omega
 have e0:d.symbols.getD 0 0=d.symbols[0]:=by rw[fX,cu l0];rfl
 have e1:d.symbols.getD 1 0=d.symbols[1]:=by rw[fX,cu l1];rfl
 have x0:=ahb (h.get (k:=0) l0) (b:=5) ⟨by omega,by omega⟩;have x1:=ahb (h.get (k:=1) l1) (b:=10) ⟨by omega,by omega⟩;unfold Dt;rw[e0,e1];exact(h.set (k:=0) ⟨x0.1,x0.2.1⟩).set (k:=1) ⟨x1.1,x1.2.1⟩
theorem Re{base:Nat}:∀ (n:Nat) {cs:af bG},base+n<=cs.length->(∀ c∈cs,Sy c.symbols)->∀ c∈lI base n cs,Sy c.symbols
 |0,cs,_,h=>h
 | n+1,cs,hl,h=>by
  have ih:=Re (base:=base) n (cs:=cs) (by omega) h;have hlen:=LN base n cs;refine Sy.cB ih (azB ?_);have hb:base+n<(lI base n cs).length:=by omega
  rw[fX,cu hb];exact Sy.mem ih hb
def wQ(g:aX)(l:jz)(a:eZ)(b r:Int):eZ:=
 ⟨bif AT l a (b*g.rows+r).toNat then lI ((b*g.rows+r)*g.aL).toNat g.aL.toNat a.cells else a.cells,a.bI.set (b*g.rows+r).toNat 0,wE g.rows r (b*g.rows+r).toNat a.bk⟩
theorem LO{g:aX}(hg:dw g=true){b r k:Int}(h1:0<=b)(h2:b<bq g)(h3:0<=r)(h4:r<g.rows)(h5:0<=k)(h6:k<g.aL):0<=(b*g.rows+r)*g.aL/\(b*g.rows+r)*g.aL+k<jJ g/\0<=b*g.rows+r/\b*g.rows+r<iU g:=by
 have er:bq g*g.rows=iU g:=by simp[iU,hg]
 obtain⟨r0,r1,r2⟩:=yA h1 h2 h3 h4;rw[er]at r2;obtain⟨q0,q1,q2⟩:=yA r1 r2 h5 h6;have el:iU g*g.aL=jJ g:=by simp[iU,jJ,hg]
 rw[el]at q2;exact⟨q0,q2,r1,r2⟩
theorem azC{g:aX}(hg:dw g=true)(c:aF){b r:Int}(hc:(c.array.cells.length:Int)=jJ g)(hs:∀ x∈c.array.cells,Sy x.symbols)(h1:0<=b)(h2:b<bq g)(h3:0<=r)(h4:r<g.rows):
  iter CW bA (((),b,r,(),(0:Int),()),(c,(g.cQ,g.aI,g.rows,g.aL,()),()))=some (.inl (((),b,r,(),()),(eE c ⟨lI ((b*g.rows+r)*g.aL).toNat g.aL.toNat c.array.cells,c.array.bI,c.array.bk⟩,(g.cQ,g.aI,g.rows,g.aL,()),()))):=by
 obtain⟨_,_,_,_,g5,g6,g7,g8⟩:=iC hg;have b1:=tT g;obtain⟨n,hn⟩:=kH (show 0<=g.aL by omega);obtain⟨B,hB⟩:∃B,B=((b*g.rows+r)*g.aL).toNat:=⟨_,rfl⟩
 have p6:g.aL.toNat=n:=by omega
 rw[<-hB,p6];have iG:B+n<=c.array.cells.length:=by
  have:=LO hg h1 h2 h3 h4 (show 0<=g.aL-1 by omega) (by omega);omega
 have e:=gJ (step:=CW) n (λk=>(((),b,r,(),(k:Int),()),(eE c ⟨lI B k c.array.cells,c.array.bI,c.array.bk⟩,(g.cQ,g.aI,g.rows,g.aL,()),()))) (.inl (((),b,r,(),()),(eE c ⟨lI B n c.array.cells,c.array.bI,c.array.bk⟩,(g.cQ,g.aI,g.rows,g.aL,()),()))) bA (λk hk=>by
  have NQ:jX g ⟨b,r,(k:Int)⟩=true:=FF hg h1 h2 h3 h4 (by dsimp only;omega) (by dsimp only;omega);have hix:rP g ⟨b,r,(k:Int)⟩=((B+k:Nat):Int):=by
   have:=LO hg h1 h2 h3 h4 (show 0<=(k:Int) by omega) (by omega);unfold rP;rw[NQ,aq];dsimp only;omega
  have hlen:=LN B k c.array.cells;have qF:=Re k (by omega:B+k<=c.array.cells.length) hs;show CW (((),b,r,(),(k:Int),()),(eE c ⟨lI B k c.array.cells,c.array.bI,c.array.bk⟩,(g.cQ,g.aI,g.rows,g.aL,()),()))=some (.inl (((),b,r,(),((k+1:Nat):Int),()),(eE c ⟨(lI B k c.array.cells).set (B+k) (Dt ((lI B k c.array.cells).getD (B+k) wP)),c.array.bI,c.array.bk⟩,(g.cQ,g.aI,g.rows,g.aL,()),())));generalize lI B k c.array.cells=cs at hlen qF;have bW:B+k<cs.length:=by omega
  have s1:=Sy.mem qF bW;have l1:(0:Nat)<cs[B+k].symbols.length:=by rw[s1.1];omega
  have l2:(1:Nat)<cs[B+k].symbols.length:=by rw[s1.1];omega
  have c2:decide ((k:Int)<g.aL)=true:=bF (by omega);have Cf:cs.getD (B+k) wP=cs[B+k]:=by rw[fX,cu bW];rfl
  have f0:cs[B+k].symbols.getD 0 0=cs[B+k].symbols[0]:=by rw[fX,cu l1];rfl
  have f1:cs[B+k].symbols.getD 1 0=cs[B+k].symbols[1]:=by rw[fX,cu l2];rfl
  rw[Cf];unfold Dt;rw[f0,f1];unfold CW eE xC ax xG;dsimp only;rw[c2,aq,tW g,WT,av,hix];generalize B+k=j at bW s1 l1 l2;simp (disch:=omega) [bW,bZ,l1,l2]) (by unfold CW xC ax xG;simp[hn]) (cP (by omega))
 exact e
theorem azD(c:aF){R k:Int}{nb:af Int}(hl:nb.length<1000)(hn:∀ n∈nb,0<=n/\n<R)(h0:0<=k)(hk:k+R<=(c.array.bk.length:Int))(hH:c.array.bk.length<1000000)(hb:∀ x∈c.array.bk,0<=x/\x<=100000):
  iter AM bA (((),k,(),(nb.length:Int),(0:Int),()),(c,nb,()))=some (.inl ((),(eE c ⟨c.array.cells,c.array.bI,nb.foldl (λh n=>qB (k+n).toNat h) c.array.bk⟩,()))):=by
 have e:=gJ (step:=AM) nb.length (λi=>(((),k,(),(nb.length:Int),(i:Int),()),(eE c ⟨c.array.cells,c.array.bI,(nb.take i).foldl (λh n=>qB (k+n).toNat h) c.array.bk⟩,nb,()))) (.inl ((),(eE c ⟨c.array.cells,c.array.bI,nb.foldl (λh n=>qB (k+n).toNat h) c.array.bk⟩,()))) bA (λj h=>by
  have hx:=hn _ (fW h);have hL:=ah5 k (nb.take j) c.array.bk;have hB:=ah6 k (nb.take j) c.array.bk hb;rw[List.take_succ_eq_append_getElem h,List.foldl_append];simp only[List.foldl_cons,List.foldl_nil];generalize (nb.take j).foldl (λh n=>qB (k+n).toNat h) c.array.bk=G at hL hB;obtain⟨q,hq⟩:=kH (show 0<=k+nb[j] by omega);have Yz:q<G.length:=by omega
  have hg:=hB _ (fW Yz);have e1:W6 (k+nb[j])=(q:Int):=by rw[hq];exact aY (by omega) (by omega)
  have e2:W6 (G[q]+1)=G[q]+1:=aY (by omega) (by omega);rw[hq,cc,W0 Yz];unfold AM eE xC ax xG;simp (disch:=omega) [h,e1,Yz,e2,bZ,De]) (by unfold AM xC ax xG;simp) (cP (by omega))
 rw[di,List.take_zero,List.foldl_nil]at e;exact e
theorem aiz{g:aX}(hg:dw g=true)(l:jz){B:Int}(hB:0<=B){a:eZ}(ha:lH g B a){b r:Int}(h1:0<=b)(h2:b<bq g)(h3:0<=r)(h4:r<g.rows):lH g B (wQ g l a b r):=by
 obtain⟨_,_,_,_,g5,g6,g7,g8⟩:=iC hg;have b1:=tT g;have iG:((b*g.rows+r)*g.aL).toNat+g.aL.toNat<=a.cells.length:=by
  have:=LO hg h1 h2 h3 h4 (show 0<=g.aL-1 by omega) (by omega);have:=ha.cells;omega
 unfold wQ;refine⟨?_,?_,by simp[ha.bI],by simp[avT,ha.bk],Lw ha.ahc ⟨by omega,by omega⟩,avV ha.Lu⟩
 ·dsimp only;cases AT l a (b*g.rows+r).toNat with
  |false=>exact ha.cells
  |true=>rw[aq,LN];exact ha.cells
 ·dsimp only;cases AT l a (b*g.rows+r).toNat with
  |false=>exact ha.syms
  |true=>rw[aq];exact Re _ iG ha.syms
theorem aiA{g:aX}(hg:dw g=true)(l:jz){B:Int}(c:aF)(ha:lH g B c.array){b r:Int}(h1:0<=b)(h2:b<bq g)(h3:0<=r)(h4:r<g.rows):Ki g l c b r=some ((),(eE c (wQ g l c.array b r),())):=by
 obtain⟨_,_,_,_,g5,g6,g7,g8⟩:=iC hg;have b2:=va g;have er:bq g*g.rows=iU g:=by simp[iU,hg]
 obtain⟨r0,r1,r2⟩:=yA h1 h2 h3 h4;rw[er]at r2;have hk:b*g.rows+g.rows<=iU g:=by
  have:=(yA h1 h2 (show 0<=g.rows-1 by omega) (show g.rows-1<g.rows by omega)).2.2;omega
 have a1:=ha.bI;have a2:=ha.bk;have e1:W6 (b*g.rows)=b*g.rows:=aY (by omega) (by omega);have e2:W6 (b*g.rows+r)=b*g.rows+r:=aY (by omega) (by omega);have eL:=azC hg c ha.cells ha.syms h1 h2 h3 h4;unfold wQ;generalize lI ((b*g.rows+r)*g.aL).toNat g.aL.toNat c.array.cells=cs at eL;obtain⟨i,hi⟩:=kH r1;obtain⟨k,Rf⟩:∃k,k=b*g.rows:=⟨_,rfl⟩
 rw[<-Rf]at hi hk e1 e2 r0 r1 r2;unfold Ki xC bQ;rw[<-Rf,e1,e2];rw[hi]at r2;rw[hi,cc];have i1:i<c.array.bI.length:=by omega
 have i2:i<c.array.bk.length:=by omega
 have Hy:PU g l c.array b r=some (AT l c.array i):=by
  have:=ahe g l c.array i i1 i2;unfold EY xI at this;unfold PU xI;have YA:W6 (i:Int)=i:=aY (by omega) (by omega);simp only[<-Rf,e1,hi,YA];exact this
 rw[Hy,av];have b1:=Lw ha.Lu (k:=i) (v:=0) ⟨by omega,by omega⟩;have v5:=Xz g5 g6 h3 h4;have sk:=aw8 g.rows r;have YB:∀ cells:af bG,iter AM bA (((),k,(),((oh g.rows r).length:Int),(0:Int),()),(eE c ⟨cells,c.array.bI.set i 0,c.array.bk.set i 0⟩,oh g.rows r,()))=some (.inl ((),(eE c ⟨cells,c.array.bI.set i 0,wE g.rows r i c.array.bk⟩,()))):=λcells=>by
  have:=azD (eE c ⟨cells,c.array.bI.set i 0,c.array.bk.set i 0⟩) (R:=g.rows) (k:=k) (nb:=oh g.rows r) (by omega) (aw7 h3 h4) r0 (by simp[eE];omega) (by simp[eE];omega) b1;simp only[eE]at this ⊢;rw[aw9 hi r0 h3]at this;exact this
 have h2x:Wp=AM:=rfl;unfold eE at YB eL ⊢;cases AT l c.array i with
 | false=>
  simp[i1,i2,v5,h2x,YB]
 | true=>
  rw[aq,eL];have YA:W6 (i:Int)=i:=aY (by omega) (by omega);simp[<-Rf,e1,YA,hi,i1,i2,v5,YB]
theorem azE{g:aX}(hg:dw g=true)(c:aF){b r:Int}(hc:(c.array.cells.length:Int)=jJ g)(hs:∀ x∈c.array.cells,Sy x.symbols)(h1:0<=b)(h2:b<bq g)(h3:0<=r)(h4:r<g.rows):
  iter AE bA (((),r,(),b*g.rows+r,(0:Int),()),(c,(g.cQ,g.aI,g.rows,g.aL,()),()))=some (.inl (((),r,(),b*g.rows+r,()),(eE c ⟨lI ((b*g.rows+r)*g.aL).toNat g.aL.toNat c.array.cells,c.array.bI,c.array.bk⟩,(g.cQ,g.aI,g.rows,g.aL,()),()))):=by
 obtain⟨_,_,_,_,g5,g6,g7,g8⟩:=iC hg;have b1:=tT g;have b2:=va g;obtain⟨n,hn⟩:=kH (show 0<=g.aL by omega);obtain⟨B,hB⟩:∃B,B=((b*g.rows+r)*g.aL).toNat:=⟨_,rfl⟩
 have p6:g.aL.toNat=n:=by omega
 rw[<-hB,p6];have iG:B+n<=c.array.cells.length:=by
  have:=LO hg h1 h2 h3 h4 (show 0<=g.aL-1 by omega) (by omega);omega
 have e:=gJ (step:=AE) n (λk=>(((),r,(),b*g.rows+r,(k:Int),()),(eE c ⟨lI B k c.array.cells,c.array.bI,c.array.bk⟩,(g.cQ,g.aI,g.rows,g.aL,()),()))) (.inl (((),r,(),b*g.rows+r,()),(eE c ⟨lI B n c.array.cells,c.array.bI,c.array.bk⟩,(g.cQ,g.aI,g.rows,g.aL,()),()))) bA (λk hk=>by
  have NQ:=LO hg h1 h2 h3 h4 (show 0<=(k:Int) by omega) (by omega);have e1:W6 ((b*g.rows+r)*g.aL)=(b*g.rows+r)*g.aL:=aY (by omega) (by omega);have e2:W6 ((b*g.rows+r)*g.aL+(k:Int))=((B+k:Nat):Int):=by rw[aY (by omega) (by omega)];omega
  have hlen:=LN B k c.array.cells;have qF:=Re k (by omega:B+k<=c.array.cells.length) hs;show AE (((),r,(),b*g.rows+r,(k:Int),()),(eE c ⟨lI B k c.array.cells,c.array.bI,c.array.bk⟩,(g.cQ,g.aI,g.rows,g.aL,()),()))=some (.inl (((),r,(),b*g.rows+r,((k+1:Nat):Int),()),(eE c ⟨(lI B k c.array.cells).set (B+k) (Dt ((lI B k c.array.cells).getD (B+k) wP)),c.array.bI,c.array.bk⟩,(g.cQ,g.aI,g.rows,g.aL,()),())));generalize lI B k c.array.cells=cs at hlen qF;have bW:B+k<cs.length:=by omega
  have s1:=Sy.mem qF bW;have l1:(0:Nat)<cs[B+k].symbols.length:=by rw[s1.1];omega
  have l2:(1:Nat)<cs[B+k].symbols.length:=by rw[s1.1];omega
  have c2:decide ((k:Int)<g.aL)=true:=bF (by omega);have Cf:cs.getD (B+k) wP=cs[B+k]:=by rw[fX,cu bW];rfl
  have f0:cs[B+k].symbols.getD 0 0=cs[B+k].symbols[0]:=by rw[fX,cu l1];rfl
  have f1:cs[B+k].symbols.getD 1 0=cs[B+k].symbols[1]:=by rw[fX,cu l2];rfl
  rw[Cf];unfold Dt;rw[f0,f1];unfold AE eE xC ax xG;dsimp only;have t0:(0:Int).toNat=0:=rfl;have t1:(1:Int).toNat=1:=rfl;have p0:(0:Int)<=0:=Int.le_refl 0;have p1:(0:Int)<=1:=by omega
  rw[c2,aq];simp only[e1,e2,cc];have cj:(0:Int)<=((B+k:Nat):Int):=by omega
  simp only[cj,bW,p0,p1,t0,t1,l1,l2,and_self,dite_true,ni,qM,List.set_set,kD];have w:=bZ (i:=k) (by omega);simp only[w,List.getElem_set_ne (show (0:Nat)≠1 by decide)]) (by unfold AE xC ax xG;simp[hn]) (cP (by omega))
 exact e
theorem aiB{x:Int}(h:0<=x/\x<=100000):(if (100000:Int)<W6 (x+1)then (100000:Int)else W6 (x+1))=De 1 x:=by
 rw[aY (n:=x+1) (by omega) (by omega)];rfl
def Rg(ck:aF)(AG dj E0:Int)(oX:af Int):ak (ah×(aF×ah)):=bif (decide (AG<(W6 (E0-(1:Int)))))then if ZV:0<=(W6 (dj+(1:Int)))/\(W6 (dj+(1:Int))).toNat<oX.length then if GC:(W6 (dj+(1:Int))).toNat<oX.length then (let Jg:=oX[(W6 (dj+(1:Int))).toNat]'GC;if Mf:0<=(W6 (dj+(1:Int)))/\(W6 (dj+(1:Int))).toNat<oX.length then if GD:(W6 (dj+(1:Int))).toNat<oX.length then (let e63:=oX[(W6 (dj+(1:Int))).toNat]'GD;some ((),((⟨ck.config,ck.box,ck.now,ck.bK,ck.ready,⟨ck.array.cells,(ck.array.bI.set dj.toNat (0:Int)),(oX.set (W6 (dj+(1:Int))).toNat (if (100000:Int)<(W6 (Jg+(1:Int)))then (100000:Int)else (W6 (Jg+(1:Int)))))⟩,ck.spare,ck.bT,ck.aW,ck.guard,ck.pending,ck.queue,ck.shares,ck.drain,ck.aN,ck.cC,ck.errors,ck.trace,ck.bY⟩:aF),())))else none else none)else none else none else some ((),((⟨ck.config,ck.box,ck.now,ck.bK,ck.ready,⟨ck.array.cells,(ck.array.bI.set dj.toNat (0:Int)),oX⟩,ck.spare,ck.bT,ck.aW,ck.guard,ck.pending,ck.queue,ck.shares,ck.drain,ck.aN,ck.cC,ck.errors,ck.trace,ck.bY⟩:aF),()))
def Rh(ck:aF)(AG dj E0:Int):ak (ah×(aF×ah)):=if ZR:0<=dj/\dj.toNat<ck.array.bI.length then if Bi:dj.toNat<ck.array.bI.length then (let VS:=ck.array.bI[dj.toNat]'Bi;if ZS:0<=dj/\dj.toNat<ck.array.bk.length then if Bj:dj.toNat<ck.array.bk.length then (let VT:=ck.array.bk[dj.toNat]'Bj;(bif (decide (AG > (0:Int)))then if ZT:0<=(W6 (dj-(1:Int)))/\(W6 (dj-(1:Int))).toNat<(ck.array.bk.set dj.toNat (0:Int)).length then if Bk:(W6 (dj-(1:Int))).toNat<(ck.array.bk.set dj.toNat (0:Int)).length then (let CE:=(ck.array.bk.set dj.toNat (0:Int))[(W6 (dj-(1:Int))).toNat]'Bk;if ZU:0<=(W6 (dj-(1:Int)))/\(W6 (dj-(1:Int))).toNat<(ck.array.bk.set dj.toNat (0:Int)).length then if GB:(W6 (dj-(1:Int))).toNat<(ck.array.bk.set dj.toNat (0:Int)).length then (let e56:=(ck.array.bk.set dj.toNat (0:Int))[(W6 (dj-(1:Int))).toNat]'GB;(Rg ck AG dj E0 ((ck.array.bk.set dj.toNat (0:Int)).set (W6 (dj-(1:Int))).toNat (if (100000:Int)<(W6 (CE+(1:Int)))then (100000:Int)else (W6 (CE+(1:Int)))))))else none else none)else none else none else (Rg ck AG dj E0 (ck.array.bk.set dj.toNat (0:Int)))))else none else none)else none else none
theorem aiC{d:aF}{R r:Int}{i:Nat}{H:af Int}(hl:H.length<1000000)(A7:r<R-1->i+1<H.length)(w3:W6 (R-1)=R-1)(bh:∀ x∈H,0<=x/\x<=100000)(hi:i<1000000):Rg d r (i:Int) R H=some ((),(eE d ⟨d.array.cells,d.array.bI.set i 0,bif decide (r<R-1)then qB (i+1) H else H⟩,())):=by
 have w2:W6 ((i:Int)+1)=((i+1:Nat):Int):=bZ (by omega);unfold Rg eE;rw[w3,w2];simp only[cc];by_cases p2:r<R-1
 ·have q:i+1<H.length:=A7 p2;rw[bF p2,aq,aq,aG ⟨by omega,q⟩,aG q,aG ⟨by omega,q⟩,aG q,aiB (bh _ (fW q)),W0 q]
 ·rw[bD p2,au,au]
theorem aiD{d:aF}{R r:Int}{i:Nat}(i1:i<d.array.bI.length)(i2:i<d.array.bk.length)(hl:d.array.bk.length<1000000)(Dq:0<r->1<=i)(A7:r<R-1->i+1<d.array.bk.length)(w3:W6 (R-1)=R-1)(bh:∀ x∈d.array.bk,0<=x/\x<=100000):Rh d r (i:Int) R=some ((),(eE d ⟨d.array.cells,d.array.bI.set i 0,wE R r i d.array.bk⟩,())):=by
 have b1:=Lw bh (k:=i) (v:=0) ⟨by omega,by omega⟩;have hL:(d.array.bk.set i 0).length=d.array.bk.length:=by simp
 unfold Rh wE AU;simp only[cc];rw[aG ⟨by omega,i1⟩,aG i1,aG ⟨by omega,i2⟩,aG i2];obtain⟨H,hH⟩:∃H,d.array.bk.set i 0=H:=⟨_,rfl⟩
 rw[hH]at b1 hL;simp only[hH];by_cases p1:0<r
 ·have p1':=Dq p1;have w1:W6 ((i:Int)-1)=((i-1:Nat):Int):=by rw[aY (by omega) (by omega)];omega
  have q:i-1<H.length:=by omega
  simp only[w1,cc];rw[bF p1,aq,aq,aG ⟨by omega,q⟩,aG q,aG ⟨by omega,q⟩,aG q,aiB (b1 _ (fW q)),<-W0 q];exact aiC (by rw[Lx];omega) (λh=>by rw[Lx];have:=A7 h;omega) w3 (QN b1) (by omega)
 ·rw[bD p1,au,au];exact aiC (by omega) (λh=>by have:=A7 h;omega) w3 b1 (by omega)
theorem aiE{g:aX}(hg:dw g=true)(l:jz){B:Int}(c:aF)(ha:lH g B c.array){b r:Int}(h1:0<=b)(h2:b<bq g)(h3:0<=r)(h4:r<g.rows):Jf g l c b r=some ((),(eE c (wQ g l c.array b r),())):=by
 obtain⟨_,_,_,_,g5,g6,g7,g8⟩:=iC hg;have b2:=va g;have er:bq g*g.rows=iU g:=by simp[iU,hg]
 obtain⟨r0,r1,r2⟩:=yA h1 h2 h3 h4;rw[er]at r2;have A7:r<g.rows-1->b*g.rows+r+1<iU g:=λh=>by
  have:=(yA h1 h2 (show 0<=r+1 by omega) (show r+1<g.rows by omega)).2.2;omega
 have Dq:0<r->1<=b*g.rows+r:=λh=>by omega
 have a1:=ha.bI;have a2:=ha.bk;have e1:W6 (b*g.rows)=b*g.rows:=aY (by omega) (by omega);have e2:W6 (b*g.rows+r)=b*g.rows+r:=aY (by omega) (by omega);have w3:W6 (g.rows-1)=g.rows-1:=aY (by omega) (by omega);have eL:=azE hg c ha.cells ha.syms h1 h2 h3 h4;unfold wQ;generalize lI ((b*g.rows+r)*g.aL).toNat g.aL.toNat c.array.cells=cs at eL;have hx:Jf g l c b r=(EY g l c.array (W6 (W6 (b*g.rows)+r))).bind λy1=>bif y1 then (iter AE bA (((),r,(),W6 (W6 (b*g.rows)+r),(0:Int),()),(c,(g.cQ,g.aI,g.rows,g.aL,()),()))).bind (Sum.elim (λtQ=>Rh tQ.2.1 tQ.1.2.1 tQ.1.2.2.2.1 tQ.2.2.1.2.2.1) (λz=>nomatch z))else Rh c r (W6 (W6 (b*g.rows)+r)) g.rows:=rfl
 rw[hx,e1,e2];obtain⟨i,hi⟩:=kH r1;rw[hi]at eL Dq A7 r2 ⊢;rw[cc,ahe g l c.array i (by omega) (by omega),av];cases AT l c.array i with
 |false=>exact aiD (d:=c) (r:=r) (R:=g.rows) (i:=i) (by omega) (by omega) (by omega) (λh=>by have:=Dq h;omega) (λh=>by have:=A7 h;omega) w3 ha.Lu
 | true=>
  rw[aq,eL,av];exact aiD (d:=eE c ⟨cs,c.array.bI,c.array.bk⟩) (r:=r) (R:=g.rows) (i:=i) (by show i<c.array.bI.length;omega) (by show i<c.array.bk.length;omega) (by show c.array.bk.length<_;omega) (λh=>by have:=Dq h;omega) (λh=>by show _<c.array.bk.length;have:=A7 h;omega) w3 ha.Lu
theorem azF{c:jr}{p:gn}(hl:p.weights.length<1073741823)(h:A5 c p=true):kY c.cx=true:=by
 obtain⟨b,e,e2⟩:=W9 c p hl;have hb:b=true:=by
  rw[Ra c p hl]at e;injection e with e;rw[<-e,h]
 have:=e2 hb;simp only[rT,bx]at this;exact this.2.1
def ld(i:Nat):bV:=⟨(i:Int) % 9+1,if (i:Int) % 9+1<=5 then (i:Int) / 9 else 0,0,0⟩
def yO(n m:Int):Int:=if n > m then n else m
def Ri(g:aX)(t:dx)(l:af Int)(c:bV)(m:Int)(i:Nat):Int:=match l[i]? with
 |some n=>bif decide (n<0)then m else yO (n+wI g t (ld i) c) m
 |none=>m
def vH(g:aX)(t:dx)(l:af Int)(c:bV)(k:Nat):Int:=(List.range k).foldl (Ri g t l c) 0
def ud(g:aX)(t:dx)(r:dA)(c:bV):Int:=
 bif c.kind==1&&(r.aZ.length:Int)==4 then yO (r.aZ.getD 0 0+t.jy) (vH g t r.last c r.last.length)else vH g t r.last c r.last.length
theorem YC(g:aX)(t:dx)(l:af Int)(c:bV)(k:Nat):vH g t l c (k+1)=Ri g t l c (vH g t l c k) k:=by
 unfold vH;rw[List.range_succ,List.foldl_append];rfl
theorem YD{g:aX}{t:dx}{l:af Int}{c:bV}{m:Int}{i:Nat}(h:i<l.length):Ri g t l c m i=bif decide (l[i]<0)then m else yO (l[i]+wI g t (ld i) c) m:=by
 unfold Ri;rw[cu h]
theorem azG{a b C:Int}(ha:a<=C)(hb:0<=b/\b<=C):0<=yO a b/\yO a b<=C:=by
 unfold yO;split<;>omega
structure FP (g:aX) (t:dx) (r:dA):Prop where
 geo:dw g=true
 Du:kY t=true
 len:r.last.length<1000
 last:∀(i:Nat) (h:i<r.last.length),(-1<=r.last[i]/\r.last[i]<=1000000)/\(r.last[i] = -1\/rU g i=true)
 a4:r.aZ.length<=4
 act:∀x∈r.aZ,0<=x/\x<=1000000
theorem azH{g:aX}{t:dx}{r:dA}(ht:kY t=true)(h:qD g r=true):FP g t r:=by
 have hb:=g9 g;simp only[qD,bx,dQ,jY]at h;obtain⟨h1,h2,h3,h4,h5⟩:=h;have h2:(r.last.length:Int)=9*(bq g+1):=by simpa using h2
 have h3:¬ (r.aZ.length:Int) > 4:=by simpa using h3
 refine⟨h1,ht,by omega,λi hi=>?_,by omega,λx hx=>?_⟩
 ·have e:=h4 i hi;rw[Xg hi]at e;simp only[bx,fE]at e;refine⟨de.1 e.1,?_⟩;rcases e.2 with e2 | e2
  ·exact .inr e2
  ·exact .inl (by simpa using e2)
 ·obtain⟨i,hi,rfl⟩:=o3.1 hx;have e:=h5 i hi;cases i with
  |zero=>rw[Xh hi]at e;exact de.1 e
  |succ i=>rw[Xi hi]at e;simp only[bx]at e;exact de.1 e.1
theorem aiF(i:Nat):1<=(ld i).kind/\(ld i).kind<=9:=by
 unfold ld;dsimp only;omega
theorem azI{g:aX}{i:Nat}(hu:rU g i=true):(ld i).kind<=5->0<=(ld i).ay/\(ld i).ay<bq g:=by
 unfold rU at hu;unfold ld;dsimp only;intro h;rw[bB h];rw[bF h]at hu;have hu:(i:Int) / 9<bq g:=by simpa using hu
 omega
theorem azJ{g:aX}{i:Nat}(hi:i<1000)(hu:rU g i=true):∃ b,CK g (i:Int)=some (ld i,b):=by
 have kr:=hu;unfold rU at hu;unfold CK ld;rw[pQ,av,Int.tdiv_eq_ediv_of_nonneg (by omega),uf (by omega),aY (by omega) (by omega),aY (by omega) (by omega),Lz,av];cases hd:decide ((i:Int) / 9<bq g)with
 | true=>
  rw[hd]at hu;have h5:(i:Int) % 9+1<=5:=by simpa using hu
  rw[aq,bB h5];exact⟨_,rfl⟩
 | false=>
  rw[hd]at hu;have h5:¬ (i:Int) % 9+1<=5:=by
   intro h;rw[bF h]at hu;cases hu
  rw[au,cm h5];exact⟨_,rfl⟩
theorem Rj{g:aX}{t:dx}{r:dA}(h:FP g t r)(c:bV):∀ k,k<=r.last.length->0<=vH g t r.last c k/\vH g t r.last c k<=1000128
 |0,_=>⟨Int.le_refl _,by show (0:Int)<=_;omega⟩
 | k+1,hk=>by
  have ih:=Rj h c k (by omega);rw[YC,YD (by omega)];have hg:=Xv h.Du g (ld k) c;have hl:=(h.last k (by omega)).1;cases decide (r.last[k]<0)with
  |true=>exact ih
  |false=>exact azG (by omega) ih
theorem azK{g:aX}{t:dx}{r:dA}{c:bV}(h:FP g t r)(hc:iL g c=true):Oq g t r c=some (ud g t r c):=by
 have hb:=λk hk=>Rj h c k hk
 have kc:1<=c.kind/\c.kind<=9:=by
  simp only[iL,bx]at hc;exact de.1 hc.2.1
 have e:=gJ (step:=Ja) r.last.length (λi=>(((),(),(),(),vH g t r.last c i,(i:Int),()),((g.cQ,g.aI,g.rows,g.aL,()),t,(r.last,r.aZ,()),(c.kind,c.ay,c.row,c.bL,()),()))) (.inl (((),(),(),vH g t r.last c r.last.length,()),(t,(r.last,r.aZ,()),(c.kind,c.ay,c.row,c.bL,()),()))) bA (λk hk=>by
  have h1:=h.len;have h2:=(h.last k hk).1;have h3:=hb k (by omega);have hg:=Xv h.Du g (ld k) c;unfold Ja ax xG xI;dsimp only;rw[bF (by omega),aq,aG ⟨by omega,by omega⟩,bZ (by omega)];simp only[cc];rw[YC,YD hk];cases hd:decide (r.last[k]<0)with
  |true=>rfl
  | false=>
   have hx:AB g t (ld k) c=some (wI g t (ld k) c):=awJ h.geo h.Du (aiF k) kc;have e1:W6 ((k:Int).tmod 9+1)=(k:Int) % 9+1:=by rw[uf (by omega),aY (by omega) (by omega)]
   have e2:W6 ((k:Int).tdiv 9)=(k:Int) / 9:=by rw[Int.tdiv_eq_ediv_of_nonneg (by omega),aY (by omega) (by omega)]
   unfold ld at hx;rw[au,au,e1,e2];by_cases h5:(k:Int) % 9+1<=5
   ·rw[bB h5]at hx;rw[bF h5,aq,aG ⟨by omega,hk⟩,tW];show Option.bind (AB g t _ c) _=_;rw[hx,av,aY (n:=r.last[k]+_) (by unfold ld at hg;rw[bB h5]at hg;omega) (by unfold ld at hg;rw[bB h5]at hg;omega)];unfold ld yO;rw[bB h5]
   ·rw[cm h5]at hx;rw[bD h5,au,aG ⟨by omega,hk⟩,tW];show Option.bind (AB g t _ c) _=_;rw[hx,av,aY (n:=r.last[k]+_) (by unfold ld at hg;rw[cm h5]at hg;omega) (by unfold ld at hg;rw[cm h5]at hg;omega)];unfold ld yO;rw[cm h5]) (by
  unfold Ja ax xG xI;dsimp only;rw[bD (by omega),au]) (cP (by have:=h.len;omega))
 rw[di]at e;unfold Oq ud xI bQ
 refine(bJ (λo=>Option.bind o _) e).trans ?_
 rw[av];simp only[iy];have hL:=hb r.last.length (gj _);have hf:=ahX h.Du;cases c.kind==(1:Int)with
 |false=>rfl
 | true=>
  cases h4:(r.aZ.length:Int)==(4:Int)with
  |false=>rfl
  | true=>
   have h4:(r.aZ.length:Int)=4:=by simpa using h4
   have h0:0<r.aZ.length:=by omega
   have ha:=h.act _ (fW h0);rw[aq,aq,aG ⟨by omega,h0⟩];show some (if W6 (r.aZ[0]+t.jy) > _ then W6 (r.aZ[0]+t.jy)else _)=_;rw[aY (by omega) (by omega),fX,cu h0];rfl
theorem azL{g:aX}{t:dx}{r:dA}(h:FP g t r)(c:bV):0<=ud g t r c:=by
 have hL:=Rj h c r.last.length (gj _);unfold ud yO;cases c.kind==1&&(r.aZ.length:Int)==4 with
 |false=>exact hL.1
 | true=>
  rw[aq];split<;>omega
theorem azM{g:aX}{t:dx}{r:dA}{c:bV}(h:FP g t r)(hr:qD g r=true)(hc:iL g c=true):PO g t r c=some (bif decide (ud g t r c > 1000000)then -1 else ud g t r c):=by
 have hb:=λk hk=>Rj h c k hk
 have kc:(1<=c.kind/\c.kind<=9)/\(c.kind<=5->0<=c.ay/\c.ay<bq g):=by
  simp only[iL,bx]at hc
  refine⟨de.1 hc.2.1,λh5=>?_⟩
  have h1:=hc.2.2.1;rw[LH (de.1 hc.2.1),bF h5]at h1;have:=de.1 h1;omega
 have e:=gJ (step:=Ke) r.last.length (λi=>(((),(),(),(),vH g t r.last c i,r.last,(r.last.length:Int),(i:Int),()),((g.cQ,g.aI,g.rows,g.aL,()),t,(r.last,r.aZ,()),(c.kind,c.ay,c.row,c.bL,()),()))) (.inl (((),(),(),vH g t r.last c r.last.length,()),(t,(r.last,r.aZ,()),(c.kind,c.ay,c.row,c.bL,()),()))) bA (λk hk=>by
  have h1:=h.len;have h2:=(h.last k hk).1;have h3:=hb k (by omega);have hg:=Xv h.Du g (ld k) c;unfold Ke ax xG xI;dsimp only;rw[bF (by omega),aq,aG ⟨by omega,by omega⟩,bZ (by omega)];simp only[cc];rw[YC,YD hk];cases hd:decide (r.last[k]<0)with
  |true=>rfl
  | false=>
   have aBa:¬ r.last[k]<0:=by simpa using hd
   have hu:rU g k=true:=by
    rcases(h.last k hk).2 with h9|h9
    ·omega
    ·exact h9
   obtain⟨b,eb⟩:=azJ (g:=g) (i:=k) (by omega) hu;rw[au,au,tW,eb,av];show Option.bind (Kd g t (ld k) c) _=_;rw[awI t h.geo (aiF k) kc.1 (azI hu) kc.2,av,aY (n:=r.last[k]+_) (by omega) (by omega)];rfl) (by
  unfold Ke ax xG xI;dsimp only;rw[bD (by omega),au]) (cP (by have:=h.len;omega))
 rw[di]at e;unfold PO ud xI bQ;rw[QO,av,h.Du,bS,au,Xj,av,hr,bS,au,Xp,av,hc,bS,au]
 refine(bJ (λo=>Option.bind o _) e).trans ?_
 rw[av];simp only[iy];have hL:=hb r.last.length (gj _);have hf:=ahX h.Du;have YE:∀m:Int,(bif decide (m > 1000000)then some (-1:Int)else some m)=some (bif decide (m > 1000000)then -1 else m):=λm=>by cases decide (m > 1000000)<;>rfl
 cases c.kind==(1:Int)with
 |false=>exact YE _
 | true=>
  cases h4:(r.aZ.length:Int)==(4:Int)with
  |false=>exact YE _
  | true=>
   have h4:(r.aZ.length:Int)=4:=by simpa using h4
   have h0:0<r.aZ.length:=by omega
   have ha:=h.act _ (fW h0);rw[aq,aq,aG ⟨by omega,h0⟩];show (bif decide ((if W6 (r.aZ[0]+t.jy) > _ then W6 (r.aZ[0]+t.jy)else _) > 1000000)then _ else some (if W6 (r.aZ[0]+t.jy) > _ then W6 (r.aZ[0]+t.jy)else _))=_;rw[aY (by omega) (by omega),fX,cu h0];exact YE _
def A8(c:aF)(x:bV):Bool:=A1 c.bK x&&(decide (ud c.config.aJ c.config.cx c.ready x<=1000000)&&decide (ud c.config.aJ c.config.cx c.ready x<=c.now))
structure Pk (c:aF):Prop where
 z:iE c
 ok:rV c=true
 rk:tX c.config.aJ c.bK=true
 rdy:qD c.config.aJ c.ready=true
 R:FP c.config.aJ c.config.cx c.ready
 bl:(c.bK.aI.length:Int)=bq c.config.aJ
theorem Pk.of{c:aF}(hz:iE c)(h:rV c=true):Pk c:=by
 have z1:c.box.cO.weights.length<=1048576:=hz.1.1;have h0:=h;simp only[rV,bx]at h;obtain⟨h1,h2,h3,h4,h5,h6,h7,h8,h9,eP,iF,jP,iN,jQ,gP,jd,ou,lC,mh,s9,ug,rY⟩:=h;have hb:(c.bK.aI.length:Int)=bq c.config.aJ:=by
  simp only[tX,bx]at h4
  simpa using h4.2.1
 exact⟨hz,h0,h4,h5,azH (azF (by omega) h1) h5,hb⟩
theorem azN{g:aX}{x:bV}(hc:iL g x=true):(1<=x.kind/\x.kind<=9)/\(x.kind<=5->0<=x.ay/\x.ay<bq g):=by
 simp only[iL,bx]at hc
 refine⟨de.1 hc.2.1,λh5=>?_⟩
 have h1:=hc.2.2.1;rw[LH (de.1 hc.2.1),bF h5]at h1;have:=de.1 h1;omega
theorem azO{c:aF}(h:Pk c){x:bV}(hc:iL c.config.aJ x=true):Ot c x=some (A8 c x):=by
 obtain⟨k1,k2⟩:=azN hc;have hb:=g9 c.config.aJ;have hl:=h.bl;unfold Ot A8;rw[awE k1 (λh5=>⟨(k2 h5).1,by have:=k2 h5;omega⟩) (by omega),av,azK h.R hc,av];cases A1 c.bK x with
 |false=>rfl
 | true=>
  cases decide (ud c.config.aJ c.config.cx c.ready x<=1000000)<;>rfl
theorem azP{c:aF}(h:Pk c){x:bV}(hc:iL c.config.aJ x=true):Fs c x=some (A8 c x):=by
 have h0:=azL h.R x;unfold Fs A8;rw[Xq,av,h.rk,hc,cM,cM,azM h.R h.rdy hc,av];cases A1 c.bK x with
 |false=>rfl
 | true=>
  rw[bS,au,cM];by_cases hm:ud c.config.aJ c.config.cx c.ready x<=1000000
  ·have br:(ud c.config.aJ c.config.cx c.ready x != -1)=true:=by rw[bne_iff_ne];omega
   rw[bD (by omega),au,bF hm,cM,br,aq]
  ·rw[bF (by omega),aq,bD hm,Bool.false_and];rfl
theorem aiG{r:fI}(h:qC r=true):r.cg.length<=8/\1<=r.cg.length:=by
 simp only[qC,bx]at h;have:=de.1 h.2.1;omega
def FQ(may:Nat->Bool)(v:Nat->Int)(Dv:Int)(i:Nat):Int:=bif may i&&(decide (Dv<0) ||decide (v i > v Dv.toNat))then (i:Int)else Dv
def mc(may:Nat->Bool)(v:Nat->Int)(k:Nat):Int:=(List.range k).foldl (FQ may v) (-1)
theorem Rk(may:Nat->Bool)(v:Nat->Int)(k:Nat):mc may v (k+1)=FQ may v (mc may v k) k:=by
 unfold mc;rw[List.range_succ,List.foldl_append];rfl
theorem LP(may:Nat->Bool)(v:Nat->Int):∀ k,-1<=mc may v k/\mc may v k<k
 |0=>⟨Int.le_refl _,by show (-1:Int)<0;omega⟩
 | k+1=>by
  have ih:=LP may v k;rw[Rk];unfold FQ;cases may k&&(decide (mc may v k<0) ||decide (v k > v (mc may v k).toNat))with
  |true=>rw[aq];omega
  |false=>rw[au];omega
theorem aiH(may:Nat->Bool)(v:Nat->Int):∀ k,mc may v k = -1\/may (mc may v k).toNat=true
 |0=>.inl rfl
 | k+1=>by
  have ih:=aiH may v k;rw[Rk];unfold FQ;cases hm:may k with
  |false=>rw[Bool.false_and,au];exact ih
  | true=>
   cases decide (mc may v k<0) ||decide (v k > v (mc may v k).toNat)with
   |true=>exact .inr (by rw[cM,aq,cc];exact hm)
   |false=>exact ih
theorem aiI{may:Nat->Bool}(v:Nat->Int){i:Nat}(h:may i=true):∀ k,i<k->0<=mc may v k
 |0,hk=>by omega
 | k+1,hk=>by
  have hb:=LP may v k;rw[Rk];unfold FQ;by_cases hik:i=k
  ·subst hik;rw[h,cM];by_cases hn:mc may v i<0
   ·rw[bF hn,Bool.true_or,aq];omega
   ·cases decide (mc may v i<0) || decide (v i > v (mc may v i).toNat)with
    |true=>rw[aq];omega
    |false=>rw[au];omega
  ·have ih:=aiI v h k (by omega);cases may k&&(decide (mc may v k<0) || decide (v k > v (mc may v k).toNat))with
   |true=>rw[aq];omega
   |false=>rw[au];exact ih
def FR(l:af bC)(w:af Bool):Int:=mc (λi=>w.getD i false) (λi=>(l.getD i ⟨0,0⟩).gN) (min l.length w.length)
theorem YF(l:af bC)(w:af Bool)(hl:l.length<1073741824):Fx l w=some (FR l w):=by
 unfold Fx FR bQ;generalize hk:min l.length w.length=n;have e:=gJ (step:=Ko) n (λi=>((l,w,mc (λi=>w.getD i false) (λi=>(l.getD i ⟨0,0⟩).gN) i,(i:Int),()),())) (.inl ((mc (λi=>w.getD i false) (λi=>(l.getD i ⟨0,0⟩).gN) n,()),())) bA (λi h=>by
  have h1:i<l.length:=by omega
  have h2:i<w.length:=by omega
  have hb:=LP (λi=>w.getD i false) (λi=>(l.getD i ⟨0,0⟩).gN) i;rw[Rk];generalize mc (λi=>w.getD i false) (λi=>(l.getD i ⟨0,0⟩).gN) i=Dv at hb;unfold Ko FQ ax xG xI;dsimp only;rw[bF (by omega),aq,bF (by omega),aq,aG ⟨by omega,by omega⟩,bZ (by omega)];simp only[cc,fX,cu h2,cu h1,Option.getD_some];cases w[i]with
  |false=>rfl
  | true=>
   rw[aq,cM];by_cases hn:Dv<0
   ·rw[bF hn];rfl
   ·have h3:Dv.toNat<l.length:=by omega
    rw[bD hn,au,aG ⟨by omega,h1⟩,aG ⟨by omega,h3⟩,Bool.false_or,cu h3,Option.getD_some];cases decide (l[i].gN > l[Dv.toNat].gN)<;>rfl) (by
  unfold Ko ax xG xI;dsimp only;by_cases h1:n<l.length
  ·rw[bF (by omega),aq,bD (by omega),au]
  ·rw[bD (by omega),au]) (cP (by omega))
 rw[di]at e
 refine(bJ (λo=>Option.bind o _) e).trans ?_
 rfl
theorem azQ:OH=Fx:=rfl
def wR(s:bC):bC:=⟨s.weight,s.weight⟩
def sZ(l:af bC):af bC:=l.map wR
theorem aiJ(l:af bC)(w:af Bool)(hl:l.length<1073741824):iter Fy bA ((w,(),(l.length:Int),(0:Int),()),(l,()))=some (.inl ((w,(),()),(sZ l,()))):=by
 have e:=gJ (step:=Fy) l.length (λi=>((w,(),(l.length:Int),(i:Int),()),(upto wR l i,()))) (.inl ((w,(),()),(sZ l,()))) bA (λi h=>by
  have hlen:=WL wR l i;unfold Fy xC ax xG;dsimp only;rw[bF (by omega),aq,aG ⟨by omega,by omega⟩,aG (by omega),aG ⟨by omega,by omega⟩,aG (by omega),bZ (by omega)];simp only[cc];rw[agR wR l i h,<-agS wR l i h];rfl) (by
  unfold Fy xC ax xG;dsimp only;rw[bD (by omega),au,agQ];rfl) (cP hl)
 rw[di,agP]at e;exact e
theorem azR(l:af bC)(w:af Bool)(hl:l.length<1073741824):iter E2 bA ((w,(),(0:Int),()),(l,()))=some (.inl ((w,(),()),(sZ l,()))):=by
 have e:=gJ (step:=E2) l.length (λi=>((w,(),(i:Int),()),(upto wR l i,()))) (.inl ((w,(),()),(sZ l,()))) bA (λi h=>by
  have hlen:=WL wR l i;unfold E2 xC ax xG;dsimp only;rw[bF (by omega),aq,aG ⟨by omega,by omega⟩,aG (by omega),aG ⟨by omega,by omega⟩,aG (by omega),bZ (by omega)];simp only[cc];rw[agR wR l i h,<-agS wR l i h];rfl) (by
  have hlen:=WL wR l l.length;unfold E2 xC ax xG;dsimp only;rw[bD (by omega),au,agQ];rfl) (cP hl)
 rw[di,agP]at e;exact e
theorem azS(l:af bC)(w:af Bool)(hl:l.length<1073741823):OI l w=yp l w:=by
 unfold OI yp xC bQ;rw[List.nil_append,azQ,YF l w (by omega),av,QV _ (by omega),W5 _ (by omega),av,av];rw[aiJ l w (by omega),azR l w (by omega)];rfl
theorem aiK{l:af bC}(w:af Bool)(hl:l.length<1073741823)(hs:mZ l=true)(hw:l.length=w.length):∃ y t,yp l w=some (y,t)/\y.length=l.length:=by
 unfold yp xC bQ;have hb:=LP (λi=>w.getD i false) (λi=>(l.getD i ⟨0,0⟩).gN) (min l.length w.length);have Ro:(sZ l).length=l.length:=by simp[sZ]
 have ga:=LP (λi=>w.getD i false) (λi=>((sZ l).getD i ⟨0,0⟩).gN) (min (sZ l).length w.length);have hm:=aiH (λi=>w.getD i false) (λi=>(l.getD i ⟨0,0⟩).gN) (min l.length w.length);rw[List.nil_append,YF l w (by omega),av,QV _ (by omega),av,hs,bS,au,List.length_nil,fV,fl (by omega),aq];unfold FR;generalize hr:mc (λi=>w.getD i false) (λi=>(l.getD i ⟨0,0⟩).gN) (min l.length w.length)=b at *
 by_cases h0:b<0
 ·rw[bF h0];exact⟨_,_,rfl,by simp[Ro]⟩
 ·have h1:b.toNat<l.length:=by omega
  rw[bD h0,au,aG ⟨by omega,h1⟩,aG h1];dsimp only;cases l[b.toNat].gN==0 with
  | false=>
   rw[au,aG ⟨by omega,h1⟩,aG h1,aG ⟨by omega,h1⟩,aG h1];exact⟨_,_,rfl,by simp[Ro]⟩
  | true=>
   rw[aq,aiJ l w (by omega),av];simp only[iy];rw[YF _ w (by omega),av];have hp:0<=FR (sZ l) w:=aiI _ (i:=b.toNat) (by rcases hm with h|h;exact absurd h (by omega);exact h) _ (by rw[Ro];omega);have hq:FR (sZ l) w<((min (sZ l).length w.length:Nat):Int):=ga.2;have h3:(FR (sZ l) w).toNat<(sZ l).length:=by omega
   rw[aG ⟨hp,h3⟩,aG h3,aG ⟨hp,h3⟩,aG h3];exact⟨_,_,rfl,by simp[Ro]⟩
def A9(m:lu)(n:Int)(a:aP):aP:=bif m.hash then ⟨(a.ay+a.row) % n,a.row,a.bL⟩else a
def wS(g:aX)(m:lu)(l:Int):aP:=A9 m (bq g)
 (bif m.order==0 then ⟨l / g.aL % bq g,l / g.aL / bq g,l % g.aL⟩else bif m.order==1 then ⟨l % bq g,l / bq g / g.aL,l / bq g % g.aL⟩else ⟨l / g.aL / g.rows,l / g.aL % g.rows,l % g.aL⟩)
theorem FT{l a b:Int}(h0:0<=l)(hb:0<b)(h:l<a*b):0<=l / b/\l / b<a/\l / b<=l:=by
 refine⟨Int.ediv_nonneg h0 (by omega),Int.ediv_lt_of_lt_mul hb h,?_⟩;exact Int.ediv_le_self _ h0
theorem Ba{l b:Int}(hb:0<b):0<=l % b/\l % b<b:=⟨Int.emod_nonneg _ (by omega),Int.emod_lt_of_pos _ hb⟩
theorem YG{m:lu}{n:Int}{a:aP}(hn:0<n)(hb:0<=a.ay/\a.ay<n):0<=(A9 m n a).ay/\(A9 m n a).ay<n/\(A9 m n a).row=a.row/\(A9 m n a).bL=a.bL:=by
 unfold A9;cases m.hash with
 |false=>exact⟨hb.1,hb.2,rfl,rfl⟩
 |true=>exact⟨(Ba hn).1,(Ba hn).2,rfl,rfl⟩
theorem YH{m:lu}{n b r c:Int}(hn:0<n)(MI:n<=8)(h1:0<=b/\b<=100000)(h2:0<=r/\r<=100000):(bif m.hash then if n=0 then none else some ((⟨(W6 (b+r)).tmod n,r,c⟩:aP),true)else some ((⟨b,r,c⟩:aP),true))=some (A9 m n ⟨b,r,c⟩,true):=by
 unfold A9;cases m.hash with
 |false=>rfl
 |true=>rw[aq,cm (by omega),aY (by omega) (by omega),uf (by omega),aq]
theorem azT{g:aX}{m:lu}{l:Int}(hg:dw g=true)(hm:aM m.order 0 2=true)(h0:0<=l)(hl:l<jJ g):Kf g m l=some (wS g m l,true)/\Ou g m l=some (wS g m l,true)/\jX g (wS g m l)=true:=by
 have hb:=g9 g;have hp:=agT hg;have hL:=tT g;have gb:=iC hg;have eL:jJ g=bq g*g.rows*g.aL:=by simp[jJ,hg]
 have rZ:aM l 0 (W6 (jJ g-1))=true:=by rw[aY (by omega) (by omega)];exact de.2 ⟨h0,by omega⟩
 have ho:=de.1 hm;rw[eL]at hl;have Rp:¬ bq g=0:=by omega
 have xE:¬ g.aL=0:=by omega
 have dn:¬ g.rows=0:=by omega
 have aiL:∀ (f:ak (aP×Bool)),f=(bif (m.order==(0:Int))then if g.aL=0 then none else if g.aL=0 then none else if bq g=0 then none else if g.aL=0 then none else if bq g=0 then none else bif m.hash then if bq g=0 then none else some ((⟨((W6 (((W6 (l.tdiv g.aL)).tmod (bq g))+(W6 ((W6 (l.tdiv g.aL)).tdiv (bq g))))).tmod (bq g)),(W6 ((W6 (l.tdiv g.aL)).tdiv (bq g))),(l.tmod g.aL)⟩:aP),true)else some ((⟨((W6 (l.tdiv g.aL)).tmod (bq g)),(W6 ((W6 (l.tdiv g.aL)).tdiv (bq g))),(l.tmod g.aL)⟩:aP),true)else bif (m.order==(1:Int))then if bq g=0 then none else if bq g=0 then none else if g.aL=0 then none else if bq g=0 then none else if g.aL=0 then none else bif m.hash then if bq g=0 then none else some ((⟨((W6 ((l.tmod (bq g))+(W6 ((W6 (l.tdiv (bq g))).tdiv g.aL)))).tmod (bq g)),(W6 ((W6 (l.tdiv (bq g))).tdiv g.aL)),((W6 (l.tdiv (bq g))).tmod g.aL)⟩:aP),true)else some ((⟨(l.tmod (bq g)),(W6 ((W6 (l.tdiv (bq g))).tdiv g.aL)),((W6 (l.tdiv (bq g))).tmod g.aL)⟩:aP),true)else if g.aL=0 then none else if g.aL=0 then none else if g.rows=0 then none else if g.aL=0 then none else if g.rows=0 then none else bif m.hash then if bq g=0 then none else some ((⟨((W6 ((W6 ((W6 (l.tdiv g.aL)).tdiv g.rows))+((W6 (l.tdiv g.aL)).tmod g.rows))).tmod (bq g)),((W6 (l.tdiv g.aL)).tmod g.rows),(l.tmod g.aL)⟩:aP),true)else some ((⟨(W6 ((W6 (l.tdiv g.aL)).tdiv g.rows)),((W6 (l.tdiv g.aL)).tmod g.rows),(l.tmod g.aL)⟩:aP),true))->f=some (wS g m l,true)/\jX g (wS g m l)=true:=by
  rintro f rfl;simp only[cm Rp,cm xE,cm dn];unfold wS;by_cases o0:m.order=0
  ·have a1:=FT (a:=bq g*g.rows) h0 (show 0<g.aL by omega) hl;have a2:=FT (l:=l / g.aL) (a:=g.rows) (b:=bq g) a1.1 (by omega) (by rw[Int.mul_comm];exact a1.2.1);have a3:=Ba (l:=l / g.aL) (b:=bq g) (by omega);have a4:=Ba (l:=l) (b:=g.aL) (by omega);rw[o0,eJ,aq,aq,Int.tdiv_eq_ediv_of_nonneg h0,uf h0,aY (n:=l / g.aL) (by omega) (by omega),Int.tdiv_eq_ediv_of_nonneg a1.1,uf a1.1,aY (n:=l / g.aL / bq g) (by omega) (by omega)];obtain⟨k1,k2,k3,k4⟩:=YG (m:=m) (n:=bq g) (a:=⟨l / g.aL % bq g,l / g.aL / bq g,l % g.aL⟩) (by omega) a3;refine⟨?_,FF hg k1 k2 (by rw[k3];exact a2.1) (by rw[k3];exact a2.2.1) (by rw[k4];exact a4.1) (by rw[k4];exact a4.2)⟩;refine Eq.trans ?_ (YH (by omega) (by omega) (by omega) (by omega));rw[cm Rp]
  ·rw[kX o0,au,au];by_cases o1:m.order=1
   ·have a1:=FT (a:=g.rows*g.aL) h0 (show 0<bq g by omega) (by rw[Int.mul_comm,<-Int.mul_assoc];exact hl);have a2:=FT (l:=l / bq g) (a:=g.rows) (b:=g.aL) a1.1 (by omega) a1.2.1;have a3:=Ba (l:=l) (b:=bq g) (by omega);have a4:=Ba (l:=l / bq g) (b:=g.aL) (by omega);rw[o1,eJ,aq,aq,Int.tdiv_eq_ediv_of_nonneg h0,uf h0,aY (n:=l / bq g) (by omega) (by omega),Int.tdiv_eq_ediv_of_nonneg a1.1,uf a1.1,aY (n:=l / bq g / g.aL) (by omega) (by omega)];obtain⟨k1,k2,k3,k4⟩:=YG (m:=m) (n:=bq g) (a:=⟨l % bq g,l / bq g / g.aL,l / bq g % g.aL⟩) (by omega) a3;refine⟨?_,FF hg k1 k2 (by rw[k3];exact a2.1) (by rw[k3];exact a2.2.1) (by rw[k4];exact a4.1) (by rw[k4];exact a4.2)⟩;refine Eq.trans ?_ (YH (by omega) (by omega) (by omega) (by omega));rw[cm Rp]
   ·have a1:=FT (a:=bq g*g.rows) h0 (show 0<g.aL by omega) hl;have a2:=FT (l:=l / g.aL) (a:=bq g) (b:=g.rows) a1.1 (by omega) a1.2.1;have a3:=Ba (l:=l / g.aL) (b:=g.rows) (by omega);have a4:=Ba (l:=l) (b:=g.aL) (by omega);rw[kX o1,au,au,Int.tdiv_eq_ediv_of_nonneg h0,uf h0,aY (n:=l / g.aL) (by omega) (by omega),Int.tdiv_eq_ediv_of_nonneg a1.1,uf a1.1,aY (n:=l / g.aL / g.rows) (by omega) (by omega)];obtain⟨k1,k2,k3,k4⟩:=YG (m:=m) (n:=bq g) (a:=⟨l / g.aL / g.rows,l / g.aL % g.rows,l % g.aL⟩) (by omega) ⟨a2.1,a2.2.1⟩;refine⟨?_,FF hg k1 k2 (by rw[k3];exact a3.1) (by rw[k3];exact a3.2) (by rw[k4];exact a4.1) (by rw[k4];exact a4.2)⟩;refine Eq.trans ?_ (YH (by omega) (by omega) (by omega) (by omega));rw[cm Rp]
 have e1:Kf g m l=some (wS g m l,true)/\jX g (wS g m l)=true:=by
  refine aiL _ ?_;unfold Kf;rw[yz,av,hg,bS,au,W3,av,hm,bS,au,WN,av,fC,av,rZ,bS,au,pQ,av]
 refine⟨e1.1,(aiL _ ?_).1,e1.2⟩;unfold Ou;rw[show EL m=some (aM m.order 0 2)from W3 m,av,hm,bS,au,WO,av,fP,av,rZ,bS,au,tS,av]
def hD(c:aF)(l:Int):aP:=
 let a:=wS (og c.config.aJ c.spare) c.config.mapping l
 ⟨a.ay,c.spare.map.getD (a.ay*(c.config.aJ.rows-c.spare.cF)+a.row).toNat 0,a.bL⟩
theorem aiM{g:aX}{s:fe}(h:qE g s=true):og g s=⟨g.cQ,g.aI,g.rows-s.cF,g.aL⟩/\dw g=true/\dw (og g s)=true/\bq (og g s)=bq g/\0<=s.cF/\s.cF<=2/\2<=g.rows-s.cF/\g.rows<=16:=by
 have h0:=h;simp only[qE,bx]at h;obtain⟨hg,h1,h2,h3,h4⟩:=QT h.1;have gb:=iC hg;have e:og g s=⟨g.cQ,g.aI,g.rows-s.cF,g.aL⟩:=by
  unfold og;rw[h0,aq,aY (by omega) (by omega)]
 have vN:dw (og g s)=true:=by
  rw[e];unfold dw;simp only[bx,de];refine⟨⟨⟨?_,?_⟩,?_⟩,?_⟩<;>omega
 refine⟨e,hg,vN,?_,h1,h2,h3,h4⟩;unfold bq;rw[hg,vN,e]
theorem azU{g:aX}{s:fe}(h:qE g s=true){b r:Int}(hb:0<=b/\b<bq g)(hr:0<=r/\r<g.rows-s.cF):(b*(g.rows-s.cF)+r).toNat<s.map.length/\0<=s.map.getD (b*(g.rows-s.cF)+r).toNat 0/\s.map.getD (b*(g.rows-s.cF)+r).toNat 0<g.rows:=by
 obtain⟨_,hg,_,_,h1,h2,h3,h4⟩:=aiM h;have hbn:=g9 g;simp only[qE,bx,beq_iff_eq,dQ,jY]at h;obtain⟨_,hl,ha⟩:=h;obtain⟨b,rfl⟩:=kH hb.1;obtain⟨r,rfl⟩:=kH hr.1;obtain⟨R,hR⟩:=kH (show 0<=g.rows-s.cF by omega);obtain⟨bn,hn⟩:=kH hbn.1;rw[hR,hn,cc,cc]at hl;have hl:s.map.length=bn*R:=by exact_mod_cast hl
 have oD:b<bn:=by omega
 have mS:r<R:=by omega
 have e:((b:Int)*(g.rows-s.cF)+(r:Int)).toNat=b*R+r:=by rw[hR,<-Int.natCast_mul,<-Int.natCast_add,cc]
 have bW:=Dl (R:=R) oD (show r+1<=R from mS);have hi:b*R+r<s.map.length:=by omega
 have h5:=ha b (by omega) r (by omega);rw[e];refine⟨hi,?_⟩;rw[fX,cu hi,Option.getD_some];have uo:(kZ s.map R b)[r]?=some s.map[b*R+r]:=by rw[LA,List.getElem?_take_of_lt mS,List.getElem?_drop,cu hi]
 rw[hR,cc]at h5;unfold sW at h5;rw[uo]at h5;simp only[fE,bx,beq_iff_eq,de]at h5;rcases h5 with h5|h5
 ·omega
 ·have:=h5.1;omega
theorem azV{c:aF}(h:Pk c)(hs:qE c.config.aJ c.spare=true)(he:c.spare.cF=c.config.cF)(hm:aM c.config.mapping.order 0 2=true){l:Int}(h0:0<=l)(hl:l<jJ (og c.config.aJ c.spare)):wB c l=some (hD c l,true)/\tP c l=some (hD c l)/\jX c.config.aJ (hD c l)=true:=by
 obtain⟨e1,hg,vN,eb,s1,s2,s3,s4⟩:=aiM hs;obtain⟨m1,m2,m3⟩:=azT vN hm h0 hl;obtain⟨_,b1,b2,b3,b4,b5,b6⟩:=FE m3;rw[eb]at b2;have gb:=iC hg;have hb:=g9 c.config.aJ;have er:(og c.config.aJ c.spare).rows=c.config.aJ.rows-c.spare.cF:=by rw[e1]
 have ec:(og c.config.aJ c.spare).aL=c.config.aJ.aL:=by rw[e1]
 rw[er]at b4;rw[ec]at b6;obtain⟨k1,k2,k3⟩:=azU hs ⟨b1,b2⟩ ⟨b3,b4⟩;have hmul:=yA b1 b2 b3 b4;have hM:=WM (a:=bq c.config.aJ) (b:=c.config.aJ.rows-c.spare.cF) (A:=8) (B:=16) hb.1 hb.2 (by omega) (by omega);unfold hD;generalize hA:wS (og c.config.aJ c.spare) c.config.mapping l=A at *
 dsimp only;refine⟨?_,?_,FF hg b1 b2 k2 k3 b5 b6⟩
 ·unfold wB;rw[Xm,av,m1,av];dsimp only;rw[bS,au];unfold Wm xI;have hx:PR (og c.config.aJ c.spare) A.ay A.row=some true:=by
   unfold PR;rw[WQ,av,FF (a:=⟨A.ay,A.row,0⟩) vN b1 (by rw[eb];exact b2) b3 (by rw[er];exact b4) (Int.le_refl 0) (by rw[ec];show (0:Int)<_;omega)]
  obtain⟨b,hbN⟩:=kH b1;obtain⟨r,hrN⟩:=kH b3;obtain⟨R,hR⟩:=kH (show 0<=c.config.aJ.rows-c.spare.cF by omega);obtain⟨bn,hn⟩:=kH hb.1;have iA:c.spare.map.length=bn*R:=by
   simp only[qE,bx,beq_iff_eq]at hs;have:=hs.2.1;rw[hR,hn,cc,cc]at this
   exact_mod_cast this
  have oD:b<bn:=by omega
  have mS:r<R:=by omega
  have bW:=Dl (R:=R) oD (show r+1<=R from mS);have aBb:=Dl (R:=R) oD (gj R);have hi:b*R+r<c.spare.map.length:=by omega
  rw[Xm,av,hx,av,bS,au,hbN,ahE hR (by omega) (by omega) oD iA,av];have ht:((c.spare.map.take ((b+1)*R)).drop (b*R))=kZ c.spare.map R b:=rfl;have kN:(kZ c.spare.map R b).length=R:=Xl (by rw[iA];exact kG R oD);have hgx:(kZ c.spare.map R b)[r]?=some c.spare.map[b*R+r]:=by rw[LA,List.getElem?_take_of_lt mS,List.getElem?_drop,cu hi]
  have hgy:(kZ c.spare.map R b)[r]'(by omega)=c.spare.map[b*R+r]:=by
   have:=cu (l:=kZ c.spare.map R b) (i:=r) (by omega);rw[hgx]at this;injection this with this;exact this.symm
  dsimp only;rw[mJ (by rw[jo];omega),mJ (by rw[jo,iA];omega),cM,aq,hrN,aG ⟨by omega,by rw[ht,kN,cc];exact mS⟩];simp only[cc,ht,hgy,av];rw[hR,<-Int.natCast_mul,<-Int.natCast_add,cc,fX,cu hi,Option.getD_some]
 ·unfold tP xI;have hw:W6 (c.config.aJ.rows-c.config.cF)=c.config.aJ.rows-c.spare.cF:=by rw[<-he];exact aY (by omega) (by omega)
  have hw1:W6 (A.ay*(c.config.aJ.rows-c.spare.cF))=A.ay*(c.config.aJ.rows-c.spare.cF):=aY (by omega) (by omega);have xR:W6 (A.ay*(c.config.aJ.rows-c.spare.cF)+A.row)=A.ay*(c.config.aJ.rows-c.spare.cF)+A.row:=aY (by omega) (by omega);simp only[hw];rw[<-e1,m2,av];simp only[hw1,xR];rw[aG ⟨hmul.2.1,k1⟩,fX,cu k1,Option.getD_some]
theorem aiN{c:jr}{p:gn}(hl:p.weights.length<1073741823)(h:A5 c p=true):rT c=true/\yD p=true:=by
 obtain⟨b,e,e2⟩:=W9 c p hl;have hb:b=true:=by
  rw[Ra c p hl]at e;injection e with e;rw[<-e,h]
 subst hb;have hc:=e2 rfl;refine⟨hc,?_⟩;unfold wu at e;obtain⟨y,e1⟩:=W8 p.fY;simp only[W4,W7 _ hl,e1,av,hc]at e;cases hp:yD p with
 |true=>rfl
 | false=>
  rw[hp]at e;exact absurd e (by simp)
structure Pq (c:aF):Prop where
 p:Pk c
 sp:qE c.config.aJ c.spare=true
 se:c.spare.cF=c.config.cF
 mo:aM c.config.mapping.order 0 2=true
 q:∀r∈c.queue,(0<=r.line/\r.line<jJ (og c.config.aJ c.spare))/\(0<=r.dX/\r.dX<=3)/\(0<=r.at_/\r.at_<=1000000)
 ql:c.queue.length<=12
 pe:∀a∈c.pending,jX c.config.aJ a=true
 pl:c.pending.length<=128
 rf:qC c.bT=true
 dl:(c.bT.cg.length:Int)=bq c.config.aJ
 sh:mZ c.shares=true
 shl:c.shares.length=4
 dr:yC c.drain=true
 pw:tY c.aN=true
 ps:c.aN.state=c.bK.aN
 nw:0<=c.now/\c.now<=1000000
 cap:0<=c.box.cO.cap/\c.box.cO.cap<=100000
 fZ:FJ c.box.cO.fZ=true
theorem Pq.of{c:aF}(hz:iE c)(h:rV c=true):Pq c:=by
 have hp:=Pk.of hz h;have z1:c.box.cO.weights.length<=1048576:=hz.1.1;simp only[rV,bx]at h;obtain⟨h1,h2,h3,h4,h5,h6,h7,h8,h9,eP,iF,jP,iN,jQ,gP,jd,ou,lC,mh,s9,ug,rY⟩:=h;obtain⟨f1,f2⟩:=aiN (by omega) h1;simp only[rT,bx]at f1;simp only[yD,bx]at f2;obtain⟨f3,f4,f5,f6,f7,f8,f9⟩:=f2;simp only[Dm,bx,beq_iff_eq,nq,decide_eq_false_iff_not,dQ,jY]at h9;obtain⟨h9,g1,g2,g3,g4,g5,g6⟩:=h9;simp only[Dh,bx,dQ,jY,decide_eq_true_eq]at eP;obtain⟨q1,q2⟩:=eP;have fk:c.shares.length=4:=by
  have jP:(c.shares.length:Int)=4:=by simpa using jP
  omega
 refine⟨hp,h7,by simpa using h8,f1.2.2.1,λr hr=>?_,by omega,λa ha=>?_,by omega,h9,g1,iF,fk,iN,jQ,by simpa using gP,de.1 h3,de.1 f4,f9⟩
 ·obtain⟨i,hi,rfl⟩:=o3.1 hr;have hb:=q1 i hi;unfold ve at hb;rw[cu hi]at hb;simp only[sV,bx,decide_eq_true_eq]at hb;obtain⟨⟨k1,k2,k3,k4,k5,k6,k7⟩,_⟩:=hb;exact⟨⟨k3,k4⟩,de.1 k2,de.1 k7⟩
 ·obtain⟨i,hi,rfl⟩:=o3.1 ha;have hb:=g6 i hi;unfold yG at hb;rw[cu hi]at hb;simp only[bx]at hb;exact hb.1
def ue(r:dy)(a:aP)(w:Bool):bV:=
 bif !(A0 r a.ay).open_ then ⟨1,a.ay,a.row,0⟩else bif (A0 r a.ay).row != a.row then ⟨4,a.ay,0,0⟩else bif w then ⟨3,a.ay,0,a.bL⟩else ⟨2,a.ay,0,a.bL⟩
theorem azW{r:dy}{b:Int}(h:b.toNat<r.aI.length):A0 r b=r.aI[b.toNat]:=by
 unfold A0;rw[fX,cu h];rfl
theorem YI{b:Int}{n:Nat}(h0:0<=b)(h:b.toNat<n)(hn:n<=1048576):aM b 0 (W6 ((n:Int)-1))=true:=by
 rw[aY (by omega) (by omega)];exact de.2 ⟨h0,by omega⟩
theorem azX{r:dy}{a:aP}(w:Bool)(h0:0<=a.ay)(h:a.ay.toNat<r.aI.length)(hl:r.aI.length<=1048576):CU r a w=some (ue r a w):=by
 unfold CU ue xI;rw[fC,av,YI h0 h hl,bS,au,aG ⟨h0,h⟩,azW h];dsimp only;cases r.aI[a.ay.toNat].open_ with
 |false=>rfl
 | true=>
  rw[bS,au,aG ⟨h0,h⟩,au];cases r.aI[a.ay.toNat].row != a.row<;>cases w<;>rfl
def qG(t:bO)(row:Int):ak Nat:=match t.rows.findIdx? (λe=>e==row)with
 |some i=>some i
 |none=>t.counts.findIdx? (λe=>e==t.cN)
def kF(t:bO)(row:Int):bO:=match t.rows.findIdx? (λe=>e==row)with
 |some i=>⟨t.rows,t.counts.set i (t.counts.getD i 0+1),t.cN⟩
 | none=>match t.counts.findIdx? (λe=>e==t.cN)with
  |some i=>⟨t.rows.set i row,t.counts.set i (t.cN+1),t.cN⟩
  |none=>⟨t.rows,t.counts,t.cN+1⟩
def wT(t:bO)(row ef:Int):bO×Bool:=bif oe t&&(aM row 0 15&&aM ef 2 1000)then (bif oe (kF t row)then (kF t row,match qG t row with
    |some i=>((kF t row).counts.getD i 0).tmod ef==0
    |none=>false)else (t,false))else (t,false)
structure Tk (t:bO):Prop where
 rl:t.rows.length<=16
 cl:t.counts.length=t.rows.length
 sp:0<=t.cN/\t.cN<=100000
 cs:∀i (h:i<t.counts.length),0<=t.counts[i]/\t.counts[i]<=100000
theorem Tk.of{t:bO}(h:oe t=true):Tk t:=by
 simp only[oe,bx,beq_iff_eq,dQ,jY]at h;obtain⟨h1,h2,h3,h4⟩:=h;have h1:=de.1 h1;have h3:=de.1 h3
 refine⟨by omega,by omega,h3,λi hi=>?_⟩
 have hb:=h4 i (by omega);rw[Xd (by omega) hi,bx,bx]at hb;have:=de.1 hb.2.1;omega
theorem Rq{T:Type}{p:T->Bool}{l:af T}{i:Nat}(h:l.findIdx? p=some i):∃ hi:i<l.length,p l[i]=true:=by
 obtain⟨hi,hp,_⟩:=s7.1 h;exact⟨hi,hp⟩
theorem azY{t:bO}(h:Tk t)(row:Int):Ox t row=some ((match qG t row with | some i=>(i:Int) | none=>-1),(kF t row,())):=by
 have r1:=h.rl;have r2:=h.cl;have e0:=wF (step:=Jb) t.rows (λe=>e==row) (λi=>(((),row,(i:Int),()),(((),(),t.cN,()),t.rows,t.counts,()))) (λi=>.inl (((i:Int),()),(((),(),t.cN,()),t.rows,t.counts.set i (t.counts.getD i 0+1),()))) (.inr (.inl (((),row,()),(((),(),t.cN,()),t.rows,t.counts,())))) bA (λk hk=>by
  have lV:k<t.counts.length:=by omega
  have hc:=h.cs k lV;unfold Jb xC ax bu xG;dsimp only;rw[bF (by omega),aq,aG ⟨by omega,by omega⟩,aG (by omega)];simp only[cc];cases t.rows[k]==row with
  |false=>rw[au,au,bZ (by omega)]
  | true=>
   rw[aq,aq,aG ⟨by omega,lV⟩,aG lV,aG ⟨by omega,lV⟩,aG lV,aY (n:=t.counts[k]+1) (by omega) (by omega),fX,cu lV];rfl) (by
  unfold Jb xC ax bu xG;dsimp only;rw[bD (by omega),au]) (cP (by omega))
 have e2:=wF (step:=Jc) t.counts (λe=>e==t.cN) (λi=>(((),row,(i:Int),()),(((),(),t.cN,()),t.rows,t.counts,()))) (λi=>.inl (((i:Int),()),(((),(),t.cN,()),t.rows.set i row,t.counts.set i (t.cN+1),()))) (.inr (.inl (((),()),(((),(),t.cN,()),t.rows,t.counts,())))) bA (λk hk=>by
  have lV:k<t.rows.length:=by omega
  have hc:=h.sp;unfold Jc xC ax bu xG;dsimp only;rw[bF (by omega),aq,aG ⟨by omega,by omega⟩,aG (by omega)];simp only[cc];cases t.counts[k]==t.cN with
  |false=>rw[au,au,bZ (by omega)]
  |true=>rw[aq,aq,aG ⟨by omega,lV⟩,aG lV,aG ⟨by omega,hk⟩,aG hk,aY (n:=t.cN+1) (by omega) (by omega)]) (by
  unfold Jc xC ax bu xG;dsimp only;rw[bD (by omega),au]) (cP (by omega))
 have qW:=h.sp;unfold Ox qG kF bR
 refine(bJ (λo=>Option.bind o _) e0).trans ?_
 rw[av];cases h0:t.rows.findIdx? (λe=>e==row)with
 |some i=>rfl
 | none=>
  simp only[iy,Sum.elim_inr]
  refine(bJ (λo=>Option.bind o _) e2).trans ?_
  rw[av];cases h2:t.counts.findIdx? (λe=>e==t.cN)with
  |some i=>rfl
  | none=>
   simp only[iy,Sum.elim_inr];rw[aY (n:=t.cN+1) (by omega) (by omega)]
theorem YJ{t:bO}(row:Int):(kF t row).rows.length=t.rows.length/\(kF t row).counts.length=t.counts.length:=by
 unfold kF;cases t.rows.findIdx? (λe=>e==row)with
 |some i=>simp
 | none=>
  cases t.counts.findIdx? (λe=>e==t.cN)with
  |some i=>simp
  |none=>simp
theorem aiO{t:bO}(h:Tk t){row:Int}{i:Nat}(hi:qG t row=some i):i<t.counts.length:=by
 have:=h.cl;unfold qG at hi;split at hi
 next j hj=>injection hi with hi;subst hi;obtain⟨h1,_⟩:=Rq hj;omega
 ·exact(Rq hi).1
theorem aiP(t:bO)(hz:jm t)(row ef:Int):Jd t row ef=some (wT t row ef):=by
 unfold Jd wT xC;rw[Yg t hz,av,Xf,av];cases ht:oe t with
 |false=>rfl
 | true=>
  have tk:=Tk.of ht;rw[bS,au,fP,av,cM];cases h1:aM row 0 15 with
  |false=>rfl
  | true=>
   rw[bS,au,fP,av,cM];cases h2:aM ef 2 1000 with
   |false=>rfl
   | true=>
    have hl:=de.1 h2;rw[bS,au,aq,azY tk,av,Xf,av];dsimp only;cases h3:oe (kF t row)with
    | false=>
     rw[Bool.not_false,aq,av,au]
    | true=>
     rw[bS,au,aq];cases h4:qG t row with
     |none=>rfl
     | some i=>
      have hi:i<(kF t row).counts.length:=by rw[(YJ row).2];exact aiO tk h4
      dsimp only;simp only[cc];rw[bF (by omega),aq,aG ⟨by omega,hi⟩,aG hi,cm (by omega),fX,cu hi];rfl
theorem azZ(t:bO)(hz:jm t)(row ef:Int):PW t row ef=some (wT t row ef):=by
 have sw:∀x:Int,(λe:Int=>x==e)=λe=>e==x:=λx=>funext λe=>by rw[Bool.eq_iff_iff,beq_iff_eq,beq_iff_eq];exact eq_comm
 unfold PW wT xC;rw[air t hz,av,Xe,av];dsimp only;cases ht:oe t with
 |false=>rfl
 | true=>
  have tk:=Tk.of ht;have r1:=tk.rl;have r2:=tk.cl;have qW:=tk.sp;rw[bS,au,fC,av,cM];cases h1:aM row 0 15 with
  |false=>rfl
  | true=>
   rw[bS,au,fC,av,cM];cases h2:aM ef 2 1000 with
   |false=>rfl
   | true=>
    have hl:=de.1 h2;rw[bS,au,aq,Xc _ _ (by omega),av,sw row];have YK:∀ (iJ:Int) (t':bO),t'=kF t row->(iJ=match qG t row with | some i=>(i:Int) | none=>-1)->
      ((AL t').bind λpO=>bif (!pO)then ((some t).bind λuY=>some (uY,false))else (bif (decide (iJ >= (0:Int)))then if o9:0<=iJ/\iJ.toNat<t'.counts.length then if wY:iJ.toNat<t'.counts.length then (if ef=0 then none else some (t',(t'.counts[iJ.toNat]'wY).tmod ef==(0:Int)))else none else none else some (t',false)))=some (bif oe (kF t row)then (kF t row,match qG t row with
        |some i=>((kF t row).counts.getD i 0).tmod ef==0
        |none=>false)else (t,false)):=by
     intro iJ t' e1 e2;subst e1;rw[Xe,av];cases h3:oe (kF t row)with
     |false=>rfl
     | true=>
      rw[bS,au,aq,e2];cases h4:qG t row with
      |none=>rfl
      | some i=>
       have hi:i<(kF t row).counts.length:=by rw[(YJ row).2];exact aiO tk h4
       simp only[cc];rw[bF (by omega),aq,aG ⟨by omega,hi⟩,aG hi,cm (by omega),fX,cu hi];rfl
    cases h0:t.rows.findIdx? (λe=>e==row)with
    | some i=>
     obtain⟨hi,_⟩:=Rq h0;have FU:i<t.counts.length:=by omega
     have hc:=tk.cs i FU;have eI:qG t row=some i:=by unfold qG;rw[h0]
     have eT:kF t row=⟨t.rows,t.counts.set i (t.counts[i]+1),t.cN⟩:=by unfold kF;simp only[h0];rw[fX,cu FU];rfl
     have e1:iK (λe=>e==row) t.rows=(i:Int):=by unfold iK;rw[h0]
     rw[e1,bD (by omega),au];simp only[cc];rw[bF (by omega),aq,aG ⟨by omega,FU⟩,aG FU,aG ⟨by omega,FU⟩,aG FU];have hw:W6 (t.counts[i]+1)=t.counts[i]+1:=aY (by omega) (by omega);simp only[hw];exact YK (i:Int) ⟨t.rows,t.counts.set i (t.counts[i]+1),t.cN⟩ eT.symm (by rw[eI])
    | none=>
     have e1:iK (λe=>e==row) t.rows = -1:=by unfold iK;rw[h0]
     rw[e1,bF (by omega),aq,Xc _ _ (by omega),av,sw t.cN];cases sx:t.counts.findIdx? (λe=>e==t.cN)with
     | some i=>
      obtain⟨hi,hp⟩:=Rq sx;have hir:i<t.rows.length:=by omega
      have hp:t.counts[i]=t.cN:=by simpa using hp
      have eI:qG t row=some i:=by unfold qG;rw[h0];exact sx
      have eT:kF t row=⟨t.rows.set i row,t.counts.set i (t.cN+1),t.cN⟩:=by unfold kF;rw[h0];simp only[sx]
      have e3:iK (λe=>e==t.cN) t.counts=(i:Int):=by unfold iK;rw[sx]
      rw[e3];simp only[cc];rw[bF (by omega),aq,aG ⟨by omega,hir⟩,aG hir,aq,aG ⟨by omega,hi⟩,aG hi,aG ⟨by omega,hi⟩,aG hi];have hw:W6 (t.cN+1)=t.cN+1:=aY (by omega) (by omega);simp only[hp,hw];exact YK (i:Int) ⟨t.rows.set i row,t.counts.set i (t.cN+1),t.cN⟩ eT.symm (by rw[eI])
     | none=>
      have eI:qG t row=none:=by unfold qG;rw[h0];exact sx
      have eT:kF t row=⟨t.rows,t.counts,t.cN+1⟩:=by unfold kF;rw[h0];simp only[sx]
      have e3:iK (λe=>e==t.cN) t.counts = -1:=by unfold iK;rw[sx]
      have hw:W6 (t.cN+1)=t.cN+1:=aY (by omega) (by omega);rw[e3,bD (by omega),au,au];simp only[hw];exact YK (-1) ⟨t.rows,t.counts,t.cN+1⟩ eT.symm (by rw[eI])
def Dw(k:Int):bO:=⟨List.replicate k.toNat (-1),List.replicate k.toNat 0,0⟩
theorem az0{k:Int}(h:aM k 1 16=true):P1 k=some (Dw k,true):=by
 have hb:=de.1 h;unfold P1;have e:Cs ([(-1:Int)]:af Int) k=some (List.replicate k.toNat (-1)):=by
  unfold Cs;rw[bF hb.1,bF hb.2];rfl
 rw[fC,av,h,bS,au,e,av,bB ⟨by omega,Int.le_refl _,by omega⟩];rfl
theorem az1{k:Int}(h:aM k 1 16=true):OC k=some (Dw k,true):=by
 have hb:=de.1 h;obtain⟨n,rfl⟩:=kH (show 0<=k by omega);unfold OC;rw[fP,av,h,bS,au,awT n (by omega),av,bB ⟨by omega,Int.le_refl _,by omega⟩];rfl
def Dx(r:fI)(b:Int):fI:=bif decide (r.cg.getD b.toNat 0 = -2)then r else ⟨r.cg.set b.toNat (r.cg.getD b.toNat 0-1),r.wait,r.ja⟩
theorem aiQ{r:fI}(h:qC r=true):∀ x∈r.cg,-2<=x/\x<=5:=by
 simp only[qC,bx,dQ,AY]at h;exact λx hx=>de.1 (h.1 x hx)
theorem aiR{α β:Type}{o:ak (α×β)}{a:α}(h:o.map Prod.fst=some a):∃ b,o=some (a,b):=by
 cases o with
 |none=>cases h
 | some x=>
  obtain⟨x1,x2⟩:=x;injection h with h;exact⟨x2,by rw[<-h]⟩
theorem az2{r:fI}(h:qC r=true){b:Int}(h0:0<=b)(h1:b.toNat<r.cg.length):∃ y,OE r b=some (Dx r b,y):=by
 have hl:=aiG h;have hx:=aiQ h _ (fW h1);have hg:r.cg.getD b.toNat 0=r.cg[b.toNat]:=by rw[fX,cu h1];rfl
 unfold OE Iy Dx xC xI;rw[fl (by simp;omega),aq,av,ahr _ (by omega),av,h,bS,au,fP,av,YI h0 h1 (by omega),bS,au,aG ⟨h0,h1⟩,hg];dsimp only;by_cases h2:r.cg[b.toNat] = -2
 ·rw[bF (show r.cg[b.toNat] <= -2 by omega),bF h2];exact⟨_,rfl⟩
 ·rw[bD (show ¬ r.cg[b.toNat] <= -2 by omega),bD h2,au,au,List.nil_append,aG ⟨h0,h1⟩,aG ⟨h0,h1⟩,aG h1,aY (n:=r.cg[b.toNat]-1) (by omega) (by omega)];exact⟨_,rfl⟩
theorem az3{r:fI}(h:qC r=true){b:Int}(h0:0<=b)(h1:b.toNat<r.cg.length):∃ y,P2 r b=some (Dx r b,y):=by
 have hl:=aiG h;have hx:=aiQ h _ (fW h1);have hg:r.cg.getD b.toNat 0=r.cg[b.toNat]:=by rw[fX,cu h1];rfl
 unfold P2 JF Dx xC xI;rw[fl (by simp;omega),aq,av,ahq _ (by omega),av,h,bS,au,fC,av,YI h0 h1 (by omega),bS,au,aG ⟨h0,h1⟩,hg];dsimp only;by_cases h2:r.cg[b.toNat] = -2
 ·rw[bF h2,show (r.cg[b.toNat] == -2)=true by rw[h2];rfl];exact⟨_,rfl⟩
 ·rw[kX h2,bD h2,au,au,List.nil_append,aG ⟨h0,h1⟩,aG h1,aG ⟨h0,h1⟩,aG h1,aY (n:=r.cg[b.toNat]-1) (by omega) (by omega)];exact⟨_,rfl⟩
def LQ(p:gO)(k now:Int):gO:=bif tY p&&aM now p.since 1000000 then
 (bif (k==6)&&(p.state==0)then ⟨1,now,p.idle⟩else bif (k==8)&&(p.state==0)then ⟨2,now,p.idle⟩else bif (k==7)&&(p.state==1)then ⟨0,now,p.idle⟩else bif (k==9)&&(p.state==2)then ⟨0,now,p.idle⟩else p)else p
theorem Rr(p:gO){k:Int}(hk:6<=k/\k<=9)(now:Int):∃ y,Qe p k now=some (LQ p k now,y):=by
 refine aiR ?_;unfold Qe LQ;rw[ahu,av];cases tY p with
 |false=>rfl
 | true=>
  rw[bS,au,fC,av];cases aM now p.since 1000000 with
  |false=>rfl
  | true=>
   have:k=6\/k=7\/k=8\/k=9:=by omega
   rcases this with rfl|rfl|rfl|rfl
   ·cases h:p.state==0<;>simp[bne,h]
   ·cases h:p.state==1<;>simp[bne,h]
   ·cases h:p.state==0<;>simp[bne,h]
   ·cases h:p.state==2<;>simp[bne,h]
theorem Rs(p:gO){k:Int}(hk:6<=k/\k<=9)(now:Int):∃ y,OU p k now=some (LQ p k now,y):=by
 refine aiR ?_;unfold OU LQ;simp only[ahv,av,fP];have:k=6\/k=7\/k=8\/k=9:=by omega
 rcases this with rfl|rfl|rfl|rfl
 ·cases tY p<;>cases aM now p.since 1000000<;>cases h:p.state==0<;>simp[bne,h]
 ·cases tY p<;>cases aM now p.since 1000000<;>cases h:p.state==1<;>simp[bne,h]
 ·cases tY p<;>cases aM now p.since 1000000<;>cases h:p.state==0<;>simp[bne,h]
 ·cases tY p<;>cases aM now p.since 1000000<;>cases h:p.state==2<;>simp[bne,h]
theorem aiS{α β T:Type}{step:α->ak (α⊕β)}(p:T->Bool)(S:Nat->Nat->af T->α)(Z:Nat->af T->β)
  (hs:∀i j s (hj:j<s.length),i<=j->j<1073741824->step (S i j s)=some (.inl (bif p s[j]then S i (j+1) s else S (i+1) (j+1) (s.set i s[j]))))
  (hz:∀i s,i<=s.length->step (S i s.length s)=some (.inr (Z i s))):
  ∀(n i j fuel:Nat) (s:af T),j+n=s.length->i<=j->s.length<1073741824->n<fuel->∃s' i',iter step fuel (S i j s)=some (Z i' s')/\s'.length=s.length/\i'<=s.length/\s'.take i'=s.take i++(s.drop j).filter (λx=>!p x):=by
 intro n
 induction n with
 | zero=>
  intro i j fuel s hn hi hl hf;obtain⟨f,rfl⟩:∃f,fuel=f+1:=⟨fuel-1,by omega⟩
  have ej:j=s.length:=by omega
  subst ej;refine⟨s,i,?_,rfl,hi,by simp⟩;unfold iter;rw[hz i s hi]
 | succ n ih=>
  intro i j fuel s hn hi hl hf;obtain⟨f,rfl⟩:∃f,fuel=f+1:=⟨fuel-1,by omega⟩
  have hj:j<s.length:=by omega
  unfold iter;rw[hs i j s hj hi (by omega)];have hd:s.drop j=s[j]::s.drop (j+1):=List.drop_eq_getElem_cons hj;cases hp:p s[j]with
  | true=>
   obtain⟨s',i',h1,h2,h3,h4⟩:=ih i (j+1) f s (by omega) (by omega) hl (by omega);refine⟨s',i',h1,h2,h3,?_⟩;rw[h4,hd,List.filter_cons_of_neg (by simp[hp])]
  | false=>
   obtain⟨s',i',h1,h2,h3,h4⟩:=ih (i+1) (j+1) f (s.set i s[j]) (by simp;omega) (by omega) (by simp;omega) (by omega);refine⟨s',i',h1,by simpa using h2,by simpa using h3,?_⟩;rw[h4,hd,List.filter_cons_of_pos (by simp[hp]),List.drop_set_of_lt (by omega),List.take_add_one,List.getElem?_set_self (by omega),List.take_set_of_le (by omega)];simp
theorem YL{T:Type}{p:T->Bool}{l:af T}{k:Nat}(h:l.findIdx? p=some k):l.filter (λx=>!p x)=l.take k++(l.drop (k+1)).filter (λx=>!p x):=by
 obtain⟨hk,hp,hq⟩:=s7.1 h;have e:l=l.take k++l[k] :: l.drop (k+1):=by
  rw[<-List.drop_eq_getElem_cons hk,List.take_append_drop]
 have e1:(l.take k).filter (λx=>!p x)=l.take k:=by
  rw[List.filter_eq_self];intro a ha;obtain⟨i,hi,rfl⟩:=o3.1 ha;rw[jN]at hi;rw[List.getElem_take]
  simpa using hq i (by omega)
 conv=>lhs;rw[e]
 rw[List.filter_append,List.filter_cons_of_neg (by simp[hp]),e1]
theorem YM{T:Type}(s r:af T)(i:Nat)(h:i<=s.length):(splice s i r).take i=s.take i:=by
 unfold splice;rw[List.append_assoc,List.take_append_of_le_length (by simp;omega),List.take_take,Nat.min_self]
theorem az4(l:af aP)(a:aP)(hl:l.length<1073741824):PY l a=some (iK (gK a) l):=by
 unfold PY iK;have e:=wF (step:=Kj) l (gK a) (λi=>((l,a,(l.length:Int),(i:Int),()),())) (λi=>.inl (((i:Int),()),())) (.inr (.inl ((),()))) bA (λk h=>by
  unfold Kj gK ax bu xG xI;dsimp only;rw[bF (by omega),aq,aG ⟨by omega,by omega⟩];simp only[cc];rw[bZ (by omega)];cases (l[k].ay==a.ay&&(l[k].row==a.row&&(l[k].bL==a.bL&&true)))<;>rfl) (by
  unfold Kj ax bu xG xI;dsimp only;rw[bD (by omega),au]) (cP hl)
 rw[di]at e;rw[e];cases l.findIdx? (gK a)<;>rfl
theorem az5(l:af aP)(x:bV)(hl:l.length<1073741824):Qf l x=some (iK (λa=>a.ay==x.ay) l):=by
 unfold Qf iK;have e:=wF (step:=Kx) l (λa=>a.ay==x.ay) (λi=>((l,x,(l.length:Int),(i:Int),()),())) (λi=>.inl (((i:Int),()),())) (.inr (.inl ((),()))) bA (λk h=>by
  unfold Kx ax bu xG xI;dsimp only;rw[bF (by omega),aq,aG ⟨by omega,by omega⟩];simp only[cc];rw[bZ (by omega)];cases (l[k].ay==x.ay)<;>rfl) (by
  unfold Kx ax bu xG xI;dsimp only;rw[bD (by omega),au]) (cP hl)
 rw[di]at e;rw[e];cases l.findIdx? (λa=>a.ay==x.ay)<;>rfl
theorem az6(l:af aP)(a:aP)(hl:l.length<1000000):PZ l a=some (l.filter (λx=>!gK a x),([],())):=by
 unfold PZ;rw[az4 l a (by omega),av];unfold iK;cases hf:l.findIdx? (gK a)with
 | none=>
  have e:l.filter (λx=>!gK a x)=l:=by
   rw[List.filter_eq_self];intro x hx;have:=List.findIdx?_eq_none_iff.1 hf x hx;simp[this]
  rw[e];rfl
 | some k=>
  obtain⟨hk,hp,hq⟩:=s7.1 hf;rw[YL hf];simp only;rw[kX (show ¬ (k:Int) = -1 by omega),au,bZ (by omega)];obtain⟨s',i',h1,h2,h3,h4⟩:=aiS (step:=Kk) (gK a) (λi j s=>(((),a,(i:Int),(j:Int),()),(s,()))) (λi s=>.inl (((),(i:Int),()),(s,()))) (λi j s hj hi hb=>by
   unfold Kk gK xC ax xG;dsimp only;rw[bF (by omega),aq,aG ⟨by omega,by omega⟩,aG (by omega)];simp only[cc];rw[bZ (by omega),bZ (by omega),aG ⟨by omega,by omega⟩,aG (by omega)];cases (s[j].ay==a.ay&&(s[j].row==a.row&&(s[j].bL==a.bL&&true)))<;>rfl) (λi s hi=>by
   unfold Kk xC ax xG;dsimp only;rw[bD (by omega),au]) (l.length-(k+1)) k (k+1) bA l (by omega) (by omega) (by omega) (by unfold bA;omega)
  rw[h1,av,iy];dsimp only;rw[bB ⟨by omega,by omega,by omega⟩,bB ⟨by omega,by omega⟩,bB ⟨by omega,by omega,by
   rw[ta _ _ _ (by simp;omega)];omega⟩]
  rw[YM _ _ _ (by omega),cc,h4]
theorem az7(l:af aP)(c:bV)(hl:l.length<1000000):Qg l c=some (l.filter (λx=>!(x.ay==c.ay)),([],())):=by
 unfold Qg;rw[az5 l c (by omega),av];unfold iK;cases hf:l.findIdx? (λa=>a.ay==c.ay)with
 | none=>
  have e:l.filter (λx=>!(x.ay==c.ay))=l:=by
   rw[List.filter_eq_self];intro x hx;have:=List.findIdx?_eq_none_iff.1 hf x hx;simp[this]
  rw[e];rfl
 | some k=>
  obtain⟨hk,hp,hq⟩:=s7.1 hf;rw[YL hf];simp only;rw[kX (show ¬ (k:Int) = -1 by omega),au,bZ (by omega)];obtain⟨s',i',h1,h2,h3,h4⟩:=aiS (step:=Ky) (λx=>x.ay==c.ay) (λi j s=>(((),c,(i:Int),(j:Int),()),(s,()))) (λi s=>.inl (((),(i:Int),()),(s,()))) (λi j s hj hi hb=>by
   unfold Ky xC ax xG;dsimp only;rw[bF (by omega),aq,aG ⟨by omega,by omega⟩,aG (by omega)];simp only[cc];rw[bZ (by omega),bZ (by omega),aG ⟨by omega,by omega⟩,aG (by omega)];cases (s[j].ay==c.ay)<;>rfl) (λi s hi=>by
   unfold Ky xC ax xG;dsimp only;rw[bD (by omega),au]) (l.length-(k+1)) k (k+1) bA l (by omega) (by omega) (by omega) (by unfold bA;omega)
  rw[h1,av,iy];dsimp only;rw[bB ⟨by omega,by omega,by omega⟩,bB ⟨by omega,by omega⟩,bB ⟨by omega,by omega,by
   rw[ta _ _ _ (by simp;omega)];omega⟩]
  rw[YM _ _ _ (by omega),cc,h4]
def qH(b:Int)(pd:af aP)(n:Int):af aP:=bif pd.any (gK ⟨b,n,0⟩)then pd else pd++[⟨b,n,0⟩]
def pT(c:aF)(t:af bO)(gd:af Int)(pd:af aP):aF:=⟨c.config,c.box,c.now,c.bK,c.ready,c.array,c.spare,c.bT,t,gd,pd,c.queue,c.shares,c.drain,c.aN,c.cC,c.errors,c.trace,c.bY⟩
theorem aiT{T:Type}(p:T->Bool)(l:af T):decide (iK p l<0) = !l.any p/\decide (iK p l >= 0)=l.any p:=by
 unfold iK;cases hf:l.findIdx? p with
 | none=>
  have e:l.any p=false:=by
   rw[List.any_eq_false];intro x hx;simp[List.findIdx?_eq_none_iff.1 hf x hx]
  rw[e];exact⟨rfl,rfl⟩
 | some k=>
  obtain⟨hk,hp,hq⟩:=s7.1 hf;have e:l.any p=true:=List.any_eq_true.2 ⟨_,fW hk,hp⟩;rw[e];exact⟨bD (by simp only;omega),bF (by simp only;omega)⟩
theorem Rt(b:Int):∀ (ns:af Int) (pd:af aP),(ns.foldl (qH b) pd).length<=pd.length+ns.length
 |[],pd=>gj _
 | n :: ns,pd=>by
  have:=Rt b ns (qH b pd n);have h2:(qH b pd n).length<=pd.length+1:=by
   unfold qH;cases pd.any (gK ⟨b,n,0⟩)<;>simp
  simp only[List.foldl_cons,nj];omega
theorem aiU{T U:Type}(f:U->T->U)(l:af T)(u:U){k:Nat}(h:k<l.length):(l.take (k+1)).foldl f u=f ((l.take k).foldl f u) l[k]:=by
 rw[List.take_add_one,cu h,List.foldl_append];rfl
theorem az8(c:aF)(x:bV)(ns:af Int)(hn:ns.length<=1000)(hp:c.pending.length<=1000):iter Fw bA (((),(),(),(ns.length:Int),(0:Int),()),(c,(x.kind,x.ay,x.row,x.bL,()),ns,()))=some (.inl ((),(pT c c.aW c.guard (ns.foldl (qH x.ay) c.pending),()))):=by
 have e:=gJ (step:=Fw) ns.length (λi=>(((),(),(),(ns.length:Int),(i:Int),()),(pT c c.aW c.guard ((ns.take i).foldl (qH x.ay) c.pending),(x.kind,x.ay,x.row,x.bL,()),ns,()))) (.inl ((),(pT c c.aW c.guard ((ns.take ns.length).foldl (qH x.ay) c.pending),()))) bA (λk h=>by
  have hl:=Rt x.ay (ns.take k) c.pending;rw[jN]at hl;rw[aiU _ _ _ h];generalize (ns.take k).foldl (qH x.ay) c.pending=pd at hl;unfold Fw qH pT Wo xC ax xG;dsimp only;rw[bF (by omega),aq,aG ⟨by omega,by omega⟩,aG (by omega)];simp only[cc];rw[ahH _ _ (by omega),av,av,(aiT _ _).2,bZ (by omega),fl (by simp;omega)];cases pd.any (gK ⟨x.ay,ns[k],0⟩)<;>rfl) (by
  unfold Fw pT xC ax xG;dsimp only;rw[bD (by omega),au]) (cP (by omega))
 rw[di,List.take_zero,mL]at e;exact e
theorem az9(c:aF)(x:bV)(ns:af Int)(hn:ns.length<=1000)(hp:c.pending.length<=1000):iter u5 bA (((),(),true,(),(0:Int),()),(c,(x.kind,x.ay,x.row,x.bL,()),ns,()))=some (.inl ((),(pT c c.aW c.guard (ns.foldl (qH x.ay) c.pending),()))):=by
 have e:=gJ (step:=u5) ns.length (λi=>(((),(),true,(),(i:Int),()),(pT c c.aW c.guard ((ns.take i).foldl (qH x.ay) c.pending),(x.kind,x.ay,x.row,x.bL,()),ns,()))) (.inl ((),(pT c c.aW c.guard ((ns.take ns.length).foldl (qH x.ay) c.pending),()))) bA (λk h=>by
  have hl:=Rt x.ay (ns.take k) c.pending;rw[jN]at hl;rw[aiU _ _ _ h];generalize (ns.take k).foldl (qH x.ay) c.pending=pd at hl;unfold u5 qH pT xC ax xG;dsimp only;rw[bF (by omega),aq,aq,aG ⟨by omega,by omega⟩,aG (by omega)];simp only[cc];rw[Xn _ _ (by omega),av,(aiT _ _).1,bZ (by omega),fl (by simp;omega)];cases pd.any (gK ⟨x.ay,ns[k],0⟩)<;>rfl) (by
  unfold u5 pT xC ax xG;dsimp only;rw[bD (by omega),au]) (cP (by omega))
 rw[di,List.take_zero,mL]at e;exact e
theorem aAa(c:aF)(x:bV)(ns:af Int):iter u5 bA (((),(),false,(),(0:Int),()),(c,(x.kind,x.ay,x.row,x.bL,()),ns,()))=some (.inl ((),(c,()))):=by
 have e:=gJ (step:=u5) 0 (λi=>(((),(),false,(),(i:Int),()),(c,(x.kind,x.ay,x.row,x.bL,()),ns,()))) (.inl ((),(c,()))) bA (λk h=>by omega) (by
  unfold u5 xC ax xG;dsimp only;cases decide (((0:Nat):Int)<(ns.length:Int))<;>rfl) (cP (by omega))
 rw[di]at e;exact e
def zT:bO:=⟨[],[],0⟩
def Bb(c:aF)(x:bV):bO×Bool:=wT (c.aW.getD x.ay.toNat zT) x.row (c.guard.getD x.ay.toNat 0)
def wU(c:aF)(x:bV):af aP:=c.pending.filter (λa=>!gK ⟨x.ay,x.row,0⟩ a)
def Dy(c:aF)(x:bV):aF:=
 pT (eE c (wQ c.config.aJ c.config.dZ c.array x.ay x.row)) (c.aW.set x.ay.toNat (Bb c x).1) c.guard (bif (Bb c x).2 then (oh c.config.aJ.rows x.row).foldl (qH x.ay) (wU c x)else wU c x)
theorem rW{T:Type}{l:af T}{i:Nat}(d:T)(h:i<l.length):l.getD i d=l[i]:=by
 rw[fX,cu h];rfl
theorem YN(R r:Int):(oh R r).length<=2:=by
 unfold oh;cases decide (0<r)<;>cases decide (r<R-1)<;>simp
theorem YO{T:Type}(p:T->Bool)(l:af T):(l.filter p).length<=l.length:=List.length_filter_le p l
theorem aAb{B:Int}(c:aF)(x:bV)(hg:dw c.config.aJ=true)(ha:lH c.config.aJ B c.array)(hp:c.pending.length<=200)(hz:∀ t∈c.aW,jm t)(h1:0<=x.ay)(h2:x.ay<bq c.config.aJ)(h3:0<=x.row)(h4:x.row<c.config.aJ.rows)(ht:x.ay.toNat<c.aW.length)(hd:x.ay.toNat<c.guard.length):P0 c x=some ((),(Dy c x,())):=by
 obtain⟨_,_,_,_,g5,g6,g7,g8⟩:=iC hg;have e1:=aiA hg c.config.dZ c ha h1 h2 h3 h4;have e2:=az6 c.pending ⟨x.ay,x.row,0⟩ (by omega);have hf:(wU c x).length<=c.pending.length:=List.length_filter_le _ _;have sk:=YN c.config.aJ.rows x.row;simp only[eE]at e1;unfold P0 xC bQ
 refine(bJ (λo=>Option.bind o _) e1).trans ?_
 rw[av];dsimp only
 refine(bJ (λo=>Option.bind o _) e2).trans ?_
 rw[av];dsimp only;rw[aG ⟨h1,ht⟩,aG ht,aG ⟨h1,hd⟩,aG hd,aG ht,aG ht];rw[azZ _ (hz _ (fW ht)),av,aG ⟨h1,ht⟩,aG ht];unfold Dy Bb;rw[rW _ ht,rW _ hd];cases (wT (c.aW[x.ay.toNat]'ht) x.row (c.guard[x.ay.toNat]'hd)).2 with
 |false=>rfl
 | true=>
  rw[bS,au,Xz (by omega) (by omega) h3 h4,av]
  refine(bJ (λo=>Option.bind o _) (az8 (pT (eE c (wQ c.config.aJ c.config.dZ c.array x.ay x.row)) (c.aW.set x.ay.toNat (wT (c.aW[x.ay.toNat]'ht) x.row (c.guard[x.ay.toNat]'hd)).1) c.guard (wU c x)) x (oh c.config.aJ.rows x.row) (by omega) (by unfold pT;dsimp only;omega))).trans ?_
  rfl
def Ru(l:af aP):Prop:=∀i (h:i<l.length),(l.take i).any (gK l[i])=false
theorem aiV{a b:aP}:gK a b=true ↔ a=b:=by
 obtain⟨a1,a2,a3⟩:=a;obtain⟨b1,b2,b3⟩:=b;simp only[gK,bx,beq_iff_eq,and_true,aP.mk.injEq];constructor
 ·rintro⟨rfl,rfl,rfl⟩;exact⟨rfl,rfl,rfl⟩
 ·rintro⟨rfl,rfl,rfl⟩;exact⟨rfl,rfl,rfl⟩
theorem Ru.cut{l:af aP}(h:Ru l){a:aP}{k:Nat}(hk:l.findIdx? (gK a)=some k):l.take k++l.drop (k+1)=l.filter (λx=>!gK a x):=by
 obtain⟨k1,hp,hq⟩:=s7.1 hk;rw[YL hk];congr 1;symm;rw[List.filter_eq_self];intro x hx;obtain⟨i,hi,rfl⟩:=o3.1 hx;rw[List.length_drop]at hi;rw[List.getElem_drop];cases hs:gK a (l[k+1+i]'(by omega))with
 |false=>rfl
 | true=>
  exfalso;have e1:=aiV.1 hs;have e2:=aiV.1 hp;have:=List.any_eq_false.1 (h (k+1+i) (by omega)) l[k] (o3.2 ⟨k,by rw[jN];omega,by rw[List.getElem_take]⟩);rw[<-e1,<-e2]at this;simp[gK]at this
theorem aAc{B:Int}(c:aF)(x:bV)(hg:dw c.config.aJ=true)(ha:lH c.config.aJ B c.array)(hp:c.pending.length<=200)(hu:Ru c.pending)(hz:∀ t∈c.aW,jm t)(h1:0<=x.ay)(h2:x.ay<bq c.config.aJ)(h3:0<=x.row)(h4:x.row<c.config.aJ.rows)(ht:x.ay.toNat<c.aW.length)(hd:x.ay.toNat<c.guard.length):OA c x=some ((),(Dy c x,())):=by
 obtain⟨_,_,_,_,g5,g6,g7,g8⟩:=iC hg;have e1:=aiE hg c.config.dZ c ha h1 h2 h3 h4;have e2:=Xn c.pending ⟨x.ay,x.row,0⟩ (by omega);have hf:(wU c x).length<=c.pending.length:=List.length_filter_le _ _;have sk:=YN c.config.aJ.rows x.row;have hN:Oy c.config.aJ.rows x.row=some (oh c.config.aJ.rows x.row):=Xz (by omega) (by omega) h3 h4;simp only[eE]at e1;unfold OA xC bQ
 refine(bJ (λo=>Option.bind o _) e1).trans ?_
 rw[av];dsimp only
 refine(bJ (λo=>Option.bind o _) e2).trans ?_
 rw[av];have MV:∀ pd:af aP,pd=wU c x->∀ t:bO×Bool,t=Bb c x->(iter u5 bA (((),(),t.2,(),(0:Int),()),((⟨c.config,c.box,c.now,c.bK,c.ready,wQ c.config.aJ c.config.dZ c.array x.ay x.row,c.spare,c.bT,(c.aW.set x.ay.toNat t.1),c.guard,pd,c.queue,c.shares,c.drain,c.aN,c.cC,c.errors,c.trace,c.bY⟩:aF),(x.kind,x.ay,x.row,x.bL,()),oh c.config.aJ.rows x.row,()))).bind (Sum.elim (λyh=>some ((),(yh.2.1,()))) (λz=>nomatch z))=some ((),(Dy c x,())):=by
  rintro pd rfl ⟨t1,t2⟩ ht;unfold Dy;rw[<-ht];cases t2 with
  | false=>
   refine(bJ (λo=>Option.bind o _) (aAa _ x _)).trans ?_
   rfl
  | true=>
   refine(bJ (λo=>Option.bind o _) (az9 _ x _ (by omega) (by dsimp only;omega))).trans ?_
   rfl
 have hT:Bb c x=wT (c.aW[x.ay.toNat]'ht) x.row (c.guard[x.ay.toNat]'hd):=by
  unfold Bb;rw[rW _ ht,rW _ hd]
 unfold iK;cases hi:c.pending.findIdx? (gK ⟨x.ay,x.row,0⟩)with
 | none=>
  have e:wU c x=c.pending:=by
   unfold wU;rw[List.filter_eq_self];intro a ha;have:=List.findIdx?_eq_none_iff.1 hi a ha;simp[this]
  dsimp only;rw[bD (by omega),au,aG ⟨h1,ht⟩,aG ht,aG ⟨h1,hd⟩,aG hd,aG ht,aG ht];rw[aiP _ (hz _ (fW ht)),av,aG ⟨h1,ht⟩,aG ht,hN,av];exact MV _ e.symm _ hT.symm
 | some k=>
  obtain⟨k1,hp1,hq⟩:=s7.1 hi;have e:=hu.cut hi;dsimp only;rw[bF (by omega),aq,bZ (by omega),bB ⟨by omega,by omega,by omega⟩,bB ⟨by omega,by omega,by omega⟩];simp only[cc,Int.toNat_zero,List.drop_zero,List.nil_append,mL];rw[fl (by simp;omega),aq,fl (by simp;omega),aq,aG ⟨h1,ht⟩,aG ht,aG ⟨h1,hd⟩,aG hd,aG ht,aG ht];rw[aiP _ (hz _ (fW ht)),av,aG ⟨h1,ht⟩,aG ht,hN,av];exact MV _ e _ hT.symm
theorem Dz{U:Type}(f:U->Nat->U)(u:U)(k:Nat):(List.range (k+1)).foldl f u=f ((List.range k).foldl f u) k:=by
 rw[List.range_succ,List.foldl_append];rfl
def pU(g:aX)(l:jz)(a:eZ)(b:Int)(n:Nat):eZ:=(List.range n).foldl (λa (r:Nat)=>wQ g l a b (r:Int)) a
theorem LR{g:aX}(hg:dw g=true)(l:jz){B:Int}(hB:0<=B){a:eZ}(ha:lH g B a){b:Int}(h1:0<=b)(h2:b<bq g):∀ n:Nat,(n:Int)<=g.rows->lH g B (pU g l a b n)
 |0,_=>ha
 | n+1,h=>by
  unfold pU;rw[Dz];exact aiz hg l hB (LR hg l hB ha h1 h2 n (by omega)) h1 h2 (by omega) (by omega)
theorem aiW{B:Int}(hB:0<=B)(c:aF)(hg:dw c.config.aJ=true)(ha:lH c.config.aJ B c.array){b:Int}(h1:0<=b)(h2:b<bq c.config.aJ):Km c b=some ((),(eE c (pU c.config.aJ c.config.dZ c.array b c.config.aJ.rows.toNat),())):=by
 obtain⟨_,_,_,_,g5,g6,g7,g8⟩:=iC hg;have e:=gJ (step:=Kl) c.config.aJ.rows.toNat (λi=>(((),b,(i:Int),()),(eE c (pU c.config.aJ c.config.dZ c.array b i),()))) (.inl ((),(eE c (pU c.config.aJ c.config.dZ c.array b c.config.aJ.rows.toNat),()))) bA (λk h=>by
  have e1:=aiA hg c.config.dZ (eE c (pU c.config.aJ c.config.dZ c.array b k)) (LR hg c.config.dZ hB ha h1 h2 k (by omega)) h1 h2 (show 0<=(k:Int) by omega) (by omega);simp only[eE]at e1;unfold Kl eE ax xG;dsimp only;rw[bF (by omega),aq,e1,av,bZ (by omega)];dsimp only;unfold pU;rw[Dz]) (by
  unfold Kl eE ax xG;dsimp only;rw[bD (by omega),au]) (cP (by omega))
 rw[di]at e;unfold Km bQ
 refine(bJ (λo=>Option.bind o _) e).trans ?_
 rfl
theorem aAd{B:Int}(hB:0<=B)(c:aF)(hg:dw c.config.aJ=true)(ha:lH c.config.aJ B c.array){b:Int}(h1:0<=b)(h2:b<bq c.config.aJ):OD c.config.aJ c.config.dZ c b=some ((),(eE c (pU c.config.aJ c.config.dZ c.array b c.config.aJ.rows.toNat),())):=by
 obtain⟨_,_,_,_,g5,g6,g7,g8⟩:=iC hg;have e:=gJ (step:=Jj) c.config.aJ.rows.toNat (λi=>(((),b,(),(),(i:Int),()),(eE c (pU c.config.aJ c.config.dZ c.array b i),(c.config.aJ.cQ,c.config.aJ.aI,c.config.aJ.rows,c.config.aJ.aL,()),(c.config.dZ.bI,c.config.dZ.bk,()),()))) (.inl ((),(eE c (pU c.config.aJ c.config.dZ c.array b c.config.aJ.rows.toNat),()))) bA (λk h=>by
  have e1:=aiE hg c.config.dZ (eE c (pU c.config.aJ c.config.dZ c.array b k)) (LR hg c.config.dZ hB ha h1 h2 k (by omega)) h1 h2 (show 0<=(k:Int) by omega) (by omega);simp only[eE]at e1;unfold Jj eE ax xG;dsimp only;rw[bF (by omega),aq,e1,av,bZ (by omega)];dsimp only;unfold pU;rw[Dz]) (by
  unfold Jj eE ax xG;dsimp only;rw[bD (by omega),au]) (cP (by omega))
 rw[di]at e;unfold OD bQ
 refine(bJ (λo=>Option.bind o _) e).trans ?_
 rfl
def LS(c:aF)(b:Int)(pd:af aP):aF:=
 pT (eE c (pU c.config.aJ c.config.dZ c.array b c.config.aJ.rows.toNat)) (c.aW.set b.toNat (Dw c.config.kI)) (c.guard.set b.toNat c.box.cO.fY) pd
theorem aiX(c:aF)(hk:aM c.config.kI 1 16=true){b:Int}(h1:0<=b)(ht:b.toNat<c.aW.length)(hd:b.toNat<c.guard.length):Kn c b=some ((),(pT c (c.aW.set b.toNat (Dw c.config.kI)) (c.guard.set b.toNat c.box.cO.fY) c.pending,())):=by
 unfold Kn xC;rw[az0 hk,av,aG ⟨h1,ht⟩,aG ht,aG ⟨h1,hd⟩,aG hd];rfl
theorem aAe(c:aF)(b:Int)(hp:c.pending.length<=1000):iter E1 bA (((),b,(),(0:Int),()),(c,([]:af aP),()))=some (.inl (((),(),()),(c,c.pending.filter (λa=>!(a.ay==b)),()))):=by
 have e:=gJ (step:=E1) c.pending.length (λi=>(((),b,(),(i:Int),()),(c,(c.pending.take i).filter (λa=>!(a.ay==b)),()))) (.inl (((),(),()),(c,(c.pending.take c.pending.length).filter (λa=>!(a.ay==b)),()))) bA (λk h=>by
  have hl:=YO (λa:aP=>!(a.ay==b)) (c.pending.take k);rw[jN]at hl;have e1:c.pending.take (k+1)=c.pending.take k++[c.pending[k]]:=by rw[List.take_add_one,cu h];rfl
  rw[e1,List.filter_append];generalize (c.pending.take k).filter (λa=>!(a.ay==b))=ls at hl;unfold E1 xC ax xG;dsimp only;rw[bF (by omega),aq,aG ⟨by omega,by omega⟩,aG (by omega)];simp only[cc];rw[bZ (by omega),bne];cases hb:c.pending[k].ay==b with
  |true=>rw[List.filter_cons_of_neg (by simp[hb])];simp
  | false=>
   rw[Bool.not_false,aq,aG ⟨by omega,by omega⟩,aG (by omega),fl (by simp;omega),aq,List.filter_cons_of_pos (by simp[hb])];rfl) (by
  unfold E1 xC ax xG;dsimp only;rw[bD (by omega),au]) (cP (by omega))
 rw[di,mL]at e;exact e
theorem aiY{B:Int}(hB:0<=B)(c:aF)(hg:dw c.config.aJ=true)(ha:lH c.config.aJ B c.array)(hk:aM c.config.kI 1 16=true)(hp:c.pending.length<=200){b:Int}(h1:0<=b)(h2:b<bq c.config.aJ)(ht:b.toNat<c.aW.length)(hd:b.toNat<c.guard.length):Jk c b=some ((),(LS c b (c.pending.filter (λa=>!(a.ay==b))),())):=by
 have e1:=aAd hB c hg ha h1 h2;simp only[eE]at e1;unfold Jk xC bQ
 refine(bJ (λo=>Option.bind o _) e1).trans ?_
 rw[av];dsimp only;rw[az1 hk,av,aG ⟨h1,ht⟩,aG ht,aG ⟨h1,hd⟩,aG hd]
 refine(bJ (λo=>Option.bind o _) (aAe _ b (by dsimp only;omega))).trans ?_
 rfl
def iM(c:aF)(k:Nat)(pd:af aP):aF:=
 ⟨c.config,c.box,c.now,c.bK,c.ready,(List.range k).foldl (λa (b:Nat)=>pU c.config.aJ c.config.dZ a (b:Int) c.config.aJ.rows.toNat) c.array,c.spare,⟨(List.range k).foldl (λd b=>d.set b 0) c.bT.cg,c.bT.wait,c.bT.ja⟩,(List.range k).foldl (λd b=>d.set b (Dw c.config.kI)) c.aW,(List.range k).foldl (λd b=>d.set b c.box.cO.fY) c.guard,pd,c.queue,c.shares,c.drain,c.aN,c.cC,c.errors,c.trace,c.bY⟩
theorem FV{T:Type}(x:T)(l:af T):∀ k:Nat,((List.range k).foldl (λd b=>d.set b x) l).length=l.length
 |0=>rfl
 |k+1=>by rw[Dz,ni,FV x l k]
theorem YP{g:aX}(hg:dw g=true)(l:jz){B:Int}(hB:0<=B){a:eZ}(ha:lH g B a):∀ k:Nat,(k:Int)<=bq g->lH g B ((List.range k).foldl (λa (b:Nat)=>pU g l a (b:Int) g.rows.toNat) a)
 |0,_=>ha
 | k+1,h=>by
  obtain⟨_,_,_,_,g5,g6,g7,g8⟩:=iC hg;rw[Dz];exact LR hg l hB (YP hg l hB ha k (by omega)) (by omega) (by omega) _ (by omega)
structure vI (B:Int) (c:aF):Prop where
 hB:0<=B
 g:dw c.config.aJ=true
 a:lH c.config.aJ B c.array
 k:aM c.config.kI 1 16=true
 p:c.pending.length<=200
 t:(c.aW.length:Int)=bq c.config.aJ
 d:(c.guard.length:Int)=bq c.config.aJ
 r:(c.bT.cg.length:Int)=bq c.config.aJ
theorem vI.wak{B:Int}{c:aF}(h:vI B c)(k:Nat)(hk:(k:Int)<=bq c.config.aJ)(pd:af aP)(hp:pd.length<=200):vI B (iM c k pd):=
 ⟨h.hB,h.g,YP h.g c.config.dZ h.hB h.a k hk,h.k,hp,(bJ (λn:Nat=>(n:Int)) (FV _ _ k)).trans h.t,(bJ (λn:Nat=>(n:Int)) (FV _ _ k)).trans h.d,(bJ (λn:Nat=>(n:Int)) (FV _ _ k)).trans h.r⟩
theorem aiZ(c:aF)(k:Nat)(pd qd:af aP):iM c (k+1) qd=⟨c.config,c.box,c.now,c.bK,c.ready,(LS (iM c k pd) (k:Int) qd).array,c.spare,⟨(iM c k pd).bT.cg.set k 0,c.bT.wait,c.bT.ja⟩,(LS (iM c k pd) (k:Int) qd).aW,(LS (iM c k pd) (k:Int) qd).guard,qd,c.queue,c.shares,c.drain,c.aN,c.cC,c.errors,c.trace,c.bY⟩:=by
 unfold iM;simp only[Dz];rfl
theorem aAf{B:Int}{c:aF}(h:vI B c):iter yu bA (((),(c.aW.length:Int),(0:Int),()),(iM c 0 [],()))=some (.inl ((),(iM c c.aW.length [],()))):=by
 have b1:=g9 c.config.aJ;have htr:=h.t;have e:=gJ (step:=yu) c.aW.length (λi=>(((),(c.aW.length:Int),(i:Int),()),(iM c i [],()))) (.inl ((),(iM c c.aW.length [],()))) bA (λk hk=>by
  have hw:=h.wak k (by omega) [] (by simp);have w1:=hw.t;have w2:=hw.d;have w3:=hw.r;have oD:bq (iM c k []).config.aJ=bq c.config.aJ:=rfl;rw[oD]at w1 w2 w3;have e1:=aiW hw.hB _ hw.g hw.a (b:=(k:Int)) (by omega) (by rw[oD];omega);have e2:=aiX (eE (iM c k []) (pU (iM c k []).config.aJ (iM c k []).config.dZ (iM c k []).array (k:Int) (iM c k []).config.aJ.rows.toNat)) hw.k (b:=(k:Int)) (by omega) (by show (k:Int).toNat<(iM c k []).aW.length;omega) (by show (k:Int).toNat<(iM c k []).guard.length;omega);rw[aiZ c k [] []];unfold yu xC ax xG;dsimp only;rw[bF (by omega),aq,e1,av,e2,av,bZ (by omega)];have w4:k<(iM c k []).bT.cg.length:=by omega
  rw[aG ⟨by omega,by show (k:Int).toNat<(iM c k []).bT.cg.length;omega⟩,aG (by show (k:Int).toNat<(iM c k []).bT.cg.length;omega)];rfl) (by
  unfold yu xC ax xG;dsimp only;rw[bD (by omega),au]) (cP (by omega))
 rw[di]at e;exact e
def qI(pd:af aP):Nat->af aP
 |0=>pd
 |k+1=>(qI pd k).filter (λa=>!(a.ay==(k:Int)))
theorem ai0(pd:af aP):∀ k,(qI pd k).length<=pd.length
 |0=>gj _
 |k+1=>Nat.le_trans (YO _ _) (ai0 pd k)
theorem ai1(pd:af aP){a:aP}:∀ k,a∈qI pd k->a∈pd/\∀ b:Nat,b<k->a.ay≠(b:Int)
 |0,h=>⟨h,λb hb=>by omega⟩
 | k+1,h=>by
  unfold qI at h;obtain⟨h1,h2⟩:=List.mem_filter.1 h;obtain⟨h3,h4⟩:=ai1 pd k h1
  refine⟨h3,λb hb=>?_⟩
  by_cases e:b=k
  ·subst e
   simpa using h2
  ·exact h4 b (by omega)
theorem aAg{pd:af aP}{k:Nat}(h:∀ a∈pd,0<=a.ay/\a.ay<(k:Int)):qI pd k=[]:=by
 rw[List.eq_nil_iff_forall_not_mem];intro a ha;obtain⟨h1,h2⟩:=ai1 pd k ha;have:=h a h1;exact h2 a.ay.toNat (by omega) (by omega)
theorem aAh{B:Int}{c:aF}(h:vI B c)(hr:c.bK.aI.length=c.aW.length)(hq:∀ a∈c.pending,0<=a.ay/\a.ay<bq c.config.aJ):iter CH bA (((),(0:Int),()),(c,()))=some (.inl ((),(iM c c.aW.length [],()))):=by
 have b1:=g9 c.config.aJ;have htr:=h.t;have e:=gJ (step:=CH) c.aW.length (λi=>(((),(i:Int),()),(iM c i (qI c.pending i),()))) (.inl ((),(iM c c.aW.length (qI c.pending c.aW.length),()))) bA (λk hk=>by
  have hw:=h.wak k (by omega) (qI c.pending k) (Nat.le_trans (ai0 _ _) h.p);have w1:=hw.t;have w2:=hw.d;have w3:=hw.r;have oD:bq (iM c k (qI c.pending k)).config.aJ=bq c.config.aJ:=rfl;rw[oD]at w1 w2 w3;have e1:=aiY hw.hB _ hw.g hw.a hw.k hw.p (b:=(k:Int)) (by omega) (by rw[oD];omega) (by omega) (by omega);rw[aiZ c k (qI c.pending k) (qI c.pending (k+1))];unfold CH xC ax xG;dsimp only;rw[bF (by show (k:Int)<((c.bK.aI.length:Nat):Int);omega),aq,e1,av,bZ (by omega)];rw[aG ⟨by omega,by show (k:Int).toNat<(iM c k (qI c.pending k)).bT.cg.length;omega⟩,aG (by show (k:Int).toNat<(iM c k (qI c.pending k)).bT.cg.length;omega)];rfl) (by
  unfold CH xC ax xG;dsimp only;rw[bD (by show ¬ ((c.aW.length:Nat):Int)<((c.bK.aI.length:Nat):Int);omega),au]) (cP (by omega))
 have hn:qI c.pending c.aW.length=[]:=aAg (λa ha=>by have:=hq a ha;omega);have e0:iM c 0 (qI c.pending 0)=c:=rfl;rw[di,hn,e0]at e;exact e
def wv(l:af Int):Nat->Int
 |0=>0
 |i+1=>bits .or .i64 (wv l i) (W6 (l.getD i 0*2 ^ (min (4*(i:Int)).toNat IntKind.i64.bits)))
theorem ai2{l:af Int}(h:l.length=8)(hd:∀ s∈l,0<=s/\s<=15):sU l 8=true:=by
 simp only[sU,bx,dQ,decide_eq_true_eq,wD,de];exact⟨λx hx=>hd x hx,by rw[h];rfl⟩
theorem aAi{l:af Int}(h:l.length=8)(hd:∀ s∈l,0<=s/\s<=15):P7 l=some (wv l 8,true):=by
 unfold P7 bQ;rw[aha _ _ (by omega),ai2 h hd,av];have e:=gJ (step:=Ku) 8 (λi=>((wv l i,l,(l.length:Int),(i:Int),()),())) (.inl ((wv l 8,()),())) bA (λi hi=>by
  have bW:i<l.length:=by omega
  have e1:W6 (4*(i:Int))=4*(i:Int):=aY (by omega) (by omega);have hz:¬ 4*(i:Int)<0:=by omega
  have eg:l.getD i 0=l[i]:=by rw[fX,cu bW];rfl
  have ew:wv l (i+1)=bits .or .i64 (wv l i) (W6 (l.getD i 0*2 ^ (min (4*(i:Int)).toNat IntKind.i64.bits))):=rfl;unfold Ku ax xG xI;rw[ew,eg];simp (disch:=omega) [bW,e1,hz,bZ]) (by unfold Ku ax xG xI;simp[h]) (cP (by omega))
 rw[di]at e;simp only[bS,au];have e0:wv l 0=0:=rfl;rw[e0]at e;rw[e];rfl
theorem aAj{l:af Int}(h:l.length=8)(hd:∀ s∈l,0<=s/\s<=15):ON l=some (wv l 8,true):=by
 unfold ON bQ;rw[Lt _ _ (by omega),ai2 h hd,av];have e:=gJ (step:=Jr) 8 (λi=>((l,wv l i,(i:Int),()),())) (.inl ((wv l 8,()),())) bA (λi hi=>by
  have bW:i<l.length:=by omega
  have e1:W6 (4*(i:Int))=4*(i:Int):=aY (by omega) (by omega);have e2:IntKind.u64.wrap (4*(i:Int))=4*(i:Int):=ah7 (by omega) (by omega);have hz:¬ 4*(i:Int)<0:=by omega
  have eg:l.getD i 0=l[i]:=by rw[fX,cu bW];rfl
  have ew:wv l (i+1)=bits .or .i64 (wv l i) (W6 (l.getD i 0*2 ^ (min (4*(i:Int)).toNat IntKind.i64.bits))):=rfl;unfold Jr ax xG xI;rw[ew,eg];simp (disch:=omega) [bW,e1,e2,hz,bZ]) (by unfold Jr ax xG xI;simp[h]) (cP (by omega))
 rw[di]at e;simp only[bS,au];have e0:wv l 0=0:=rfl;rw[e0]at e;rw[e];rfl
theorem aAk{w:af Nat}(hw:ek w)(hl:w.length=11):OO (bf w)=some (bf (w.drop 3)):=by
 have hs:=(Lv hw hl).ok;have hlen:(bf w).length=11:=by rw[gT,hl]
 have hd:(bf w).drop 3=bf (w.drop 3):=by simp[bf,List.map_drop]
 unfold OO;rw[Lt _ _ (by rw[gT];omega),hs,av];generalize bf w=W at hlen hd ⊢;rw[<-hd];have h1:W.take 11=W:=by rw[<-hlen,mL]
 simp[hlen,bH,h1]
theorem ai3{w:af Nat}(hw:ek w)(hl:w.length=11):(bf (w.drop 3)).length=8/\∀ s∈bf (w.drop 3),0<=s/\s<=15:=by
 refine⟨by rw[gT];simp[hl],λs hs=>?_⟩
 simp only[bf,List.mem_map]at hs;obtain⟨x,hx,rfl⟩:=hs;have:=hw x (List.mem_of_mem_drop hx);omega
def Bc(w:af Nat):Int:=bif (gU w).2.1==2 then 0 else wv (bf ((gU w).1.drop 3)) 8
theorem aAl{w:af Nat}(hw:ek w)(hl:w.length=11):P9 (bf w)=some (Bc w,(gU w).2.1,(gU w).2.2):=by
 obtain⟨c1,c2,_⟩:=Dr hw hl;obtain⟨d1,d2⟩:=ai3 c2 c1;unfold P9 Bc;rw[aia hw hl,av];dsimp only;cases h:(gU w).2.1==2 with
 |true=>simp
 | false=>
  rw[au,au,axp c2 c1,av,aAi d1 d2];rfl
theorem aAm{w:af Nat}(hw:ek w)(hl:w.length=11):OP (bf w)=some (Bc w,(gU w).2.1,(gU w).2.2):=by
 obtain⟨c1,c2,_⟩:=Dr hw hl;obtain⟨d1,d2⟩:=ai3 c2 c1;unfold OP Bc;rw[axi hw hl,av];dsimp only;cases h:(gU w).2.1==2 with
 |true=>simp
 | false=>
  rw[au,au,aAk c2 c1,av,aAj d1 d2];rfl
def nw(c:bG):af Nat:=c.symbols.map Int.toNat
theorem Rv{c:bG}(h:Sy c.symbols):bf (nw c)=c.symbols/\ek (nw c)/\(nw c).length=11:=by
 obtain⟨h1,h2⟩:=ahd c.symbols h.2;exact⟨h1,h2,by simp[nw,h.1]⟩
def qJ(c:bG):Int:=bif c.eF then 2 else (gU (nw c)).2.1
def DA(c:bG):bG:=bif c.eF then c else bif (gU (nw c)).2.1==1 then ⟨bf (gU (nw c)).1,c.eF⟩else bif (gU (nw c)).2.1==2 then ⟨c.symbols,true⟩else c
theorem aAn{l:af bG}{j:Nat}(h:j<l.length):l.set j l[j]=l:=List.set_getElem_self h
theorem aAo{c:bG}(h:Sy c.symbols):Sy (DA c).symbols:=by
 obtain⟨n1,n2,n3⟩:=Rv h;obtain⟨c1,c2,_⟩:=Dr n2 n3;unfold DA;cases c.eF with
 |true=>exact h
 | false=>
  cases (gU (nw c)).2.1==1 with
  |true=>exact Lv c2 c1
  |false=>cases (gU (nw c)).2.1==2<;>exact h
def FW(x:Int)(k:Nat):Int:=bits .and .i64 (x.fdiv (2 ^ (min (4*(k:Int)).toNat IntKind.i64.bits))) 15
def me(x:Int):Nat->af Int
 |0=>[]
 |k+1=>me x k++[FW x k]
theorem Rw(x:Int):∀ k,(me x k).length=k
 |0=>rfl
 |k+1=>by simp[me,Rw x k]
theorem ai4(x:Int):∀ k,∀ s∈me x k,0<=s/\s<=15
 |0,s,h=>by cases h
 | k+1,s,h=>by
  rcases List.mem_append.1 h with h|h
  ·exact ai4 x k s h
  ·rw[List.mem_singleton.1 h];exact axa _
theorem aAp{x:Int}(h0:0<=x)(h1:x<=4294967295):OK x=some (me x 8):=by
 have c1:aM x 0 4294967295=true:=by rw[de];omega
 unfold OK bQ;have e:=gJ (step:=Jp) 8 (λk=>((x,(),(k:Int),()),(me x k,()))) (.inl (((),()),(me x 8,()))) bA (λk hk=>by
  have bW:(k:Int)<8:=by omega
  have ho:bH ((me x k).length+1)=true:=fl (by rw[Rw];omega);have e1:W6 (4*(k:Int))=4*(k:Int):=aY (by omega) (by omega);have e2:IntKind.u64.wrap (4*(k:Int))=4*(k:Int):=ah7 (by omega) (by omega);have hz:¬ 4*(k:Int)<0:=by omega
  unfold Jp IW ax xG;simp (disch:=omega) [bW,fP,c1,e1,e2,hz,ho,bZ,me,FW]) (by
  unfold Jp ax xG;simp) (cP (by omega))
 rw[di]at e;have e0:me x 0=[]:=rfl;rw[e0]at e;rw[e];rfl
theorem aAq{x:Int}(h0:0<=x)(h1:x<=4294967295):P4 x=some (me x 8):=by
 have c1:aM x 0 4294967295=true:=by rw[de];omega
 unfold P4 CP bQ;rw[fC,av,av,c1,bS,au];have e:=gJ (step:=Ks) 8 (λk=>((x,(),(k:Int),()),(me x k,()))) (.inl (((),()),(me x 8,()))) bA (λk hk=>by
  have bW:(k:Int)<8:=by omega
  have ho:bH ((me x k).length+1)=true:=fl (by rw[Rw];omega);have e1:W6 (4*(k:Int))=4*(k:Int):=aY (by omega) (by omega);have hz:¬ 4*(k:Int)<0:=by omega
  unfold Ks ax xG;simp (disch:=omega) [bW,e1,hz,ho,bZ,me,FW]) (by
  unfold Ks ax xG;simp) (cP (by omega))
 rw[di]at e;have e0:me x 0=[]:=rfl;rw[e0]at e;rw[e];rfl
theorem ai5:(kE λx=>kE λy=>kE λz=>(λa0 a1 a2=>Nat.beq (gm (gm 2 (a0 ^^^ a1) ^^^ gm 5 (a0 ^^^ a2)) 13) y&&(Nat.beq (gm (gm 3 (a0 ^^^ a2) ^^^ gm 5 (a0 ^^^ a1)) 13) z&&Nat.beq (a0 ^^^ (y ^^^ z)) x)) (gm x (pw 0) ^^^ (gm y (pw 0) ^^^ gm z (pw 0))) (gm x (pw 0) ^^^ (gm y (pw 1) ^^^ gm z (pw 2))) (gm x (pw 0) ^^^ (gm y (pw 2) ^^^ gm z (pw 4))))=true:=by kernel_rfl
theorem aAr{x y z:Nat}{d:af Nat}(j:Nat):bX (x :: y :: z :: d) j 11=(gm x (pw (0*j)) ^^^ (gm y (pw (1*j)) ^^^ gm z (pw (2*j)))) ^^^ bX (0 :: 0 :: 0 :: d) j 11:=by
 simp only[bX,List.getD_cons_zero,List.getD_cons_succ,Nat.xor_assoc,Nat.zero_xor,QL (vb _)]
theorem FX{a b:Nat}(h:a ^^^ b=0):a=b:=by
 have h2:(a ^^^ b) ^^^ b=0 ^^^ b:=by rw[h]
 rw[Nat.xor_assoc,Nat.xor_self,Nat.xor_zero,Nat.zero_xor]at h2;exact h2
theorem ai6{w v:af Nat}(hw:ek w)(hv:ek v)(lw:w.length=11)(lv:v.length=11)(hd:w.drop 3=v.drop 3)(zw:oY w=true)(zv:oY v=true):w=v:=by
 obtain⟨x,y,z,d,rfl⟩:∃ x y z d,w=x :: y :: z :: d:=by
  match w,lw with
  |x::y::z::d,_=>exact⟨x,y,z,d,rfl⟩
 obtain⟨x',y',z',d',rfl⟩:∃ x y z d,v=x :: y :: z :: d:=by
  match v,lv with
  |x::y::z::d,_=>exact⟨x,y,z,d,rfl⟩
 have hd:d=d':=hd;subst hd;simp only[oY,bx]at zw zv;obtain⟨w0,w1,w2⟩:=zw;obtain⟨v0,v1,v2⟩:=zv;rw[aAr]at w0 w1 w2 v0 v1 v2;have w0:gm x (pw 0) ^^^ (gm y (pw 0) ^^^ gm z (pw 0))=bX (0::0::0::d) 0 11:=FX (cr w0);have w1:gm x (pw 0) ^^^ (gm y (pw 1) ^^^ gm z (pw 2))=bX (0::0::0::d) 1 11:=FX (cr w1);have w2:gm x (pw 0) ^^^ (gm y (pw 2) ^^^ gm z (pw 4))=bX (0::0::0::d) 2 11:=FX (cr w2);have v0:gm x' (pw 0) ^^^ (gm y' (pw 0) ^^^ gm z' (pw 0))=bX (0::0::0::d) 0 11:=FX (cr v0);have v1:gm x' (pw 0) ^^^ (gm y' (pw 1) ^^^ gm z' (pw 2))=bX (0::0::0::d) 1 11:=FX (cr v1);have v2:gm x' (pw 0) ^^^ (gm y' (pw 2) ^^^ gm z' (pw 4))=bX (0::0::0::d) 2 11:=FX (cr v2);have m:∀{l:af Nat} {n:Nat},ek l->n∈l->n<16:=λh hn=>h _ hn
 have k1:=iD (iD (iD ai5 (m hw (n:=x) (by simp))) (m hw (n:=y) (by simp))) (m hw (n:=z) (by simp));have k2:=iD (iD (iD ai5 (m hv (n:=x') (by simp))) (m hv (n:=y') (by simp))) (m hv (n:=z') (by simp));simp only[bx]at k1 k2;obtain⟨a1,a2,a3⟩:=k1;obtain⟨b1,b2,b3⟩:=k2;have a1:=cr a1;have a2:=cr a2;have a3:=cr a3;have b1:=cr b1;have b2:=cr b2;have b3:=cr b3;rw[w0,w1,w2]at a1 a2;rw[w0]at a3;rw[v0,v1,v2]at b1 b2;rw[v0]at b3;have ey:y=y':=by rw[<-a1,<-b1]
 have ez:z=z':=by rw[<-a2,<-b2]
 subst ey ez;have ex:x=x':=by rw[<-a3,<-b3]
 rw[ex]
theorem ai7(w r:af Nat):∀ k,k<=3->(rQ w r k).drop 3=w.drop 3
 |0,_=>rfl
 | k+1,h=>by
  show (List.set _ _ _).drop 3=_;rw[List.drop_set_of_lt (by omega),ai7 w r k (by omega)]
theorem ai8{a b:af Nat}(h:bf a=bf b):a=b:=(List.map_inj_right (λx y h=>by
 have h:(x:Int)=(y:Int):=h;omega)).1 h
theorem aAs{d:af Nat}(hd:ek d)(hl:d.length=8):∃ w,AI (bf d)=some (bf w)/\w.length=11/\ek w/\w.drop 3=d/\oY w=true:=by
 have hz:ek (0 :: 0 :: 0 :: d):=by
  intro x hx;simp only[jq]at hx;rcases hx with rfl|rfl|rfl|hx
  ·decide
  ·decide
  ·decide
  ·exact hd x hx
 have rR:(0::0::0::d).length=11:=by simp[hl]
 obtain⟨w,e,h1,h2,h3,h4,h5⟩:=avK hd hl;refine⟨w,e,h1,h2,?_,by simp[oY,h3,h4,h5]⟩;have e1:AI (bf d)=some (bf (rQ (0 :: 0 :: 0 :: d) (out (0 :: 0 :: 0 :: d) 8) 3)):=by
  unfold AI bQ;have c0:((d.length:Int)==(8:Int))=true:=by rw[hl];rfl
  have c1:bH ((List.replicate (3:Int).toNat (0:Int)).length+(bf d).length)=true:=by
   rw[gT,hl];rfl
  have c2:bH (([]:af Int).length+(bf (0 :: 0 :: 0 :: d)).length)=true:=by
   rw[gT,rR];rfl
  have c3:W6 (((bf (0 :: 0 :: 0 :: d)).length:Int)-(1:Int))=10:=by
   rw[gT,rR];rfl
  have eW:List.replicate (3:Int).toNat (0:Int)++bf d=bf (0::0::0::d):=rfl;rw[ag2 hd (by omega),av,c0,show (!true)=false from rfl,au,bB (by decide),c1,aq,eW,ag1,av,iy];dsimp only;rw[List.nil_append,c2,aq,c3,ag3 hz rR,av,iy];dsimp only;rw[ag9 rR (by rw[Da,rR]),av,iy]
 rw[e1]at e;injection e with e;rw[<-ai8 e,ai7 _ _ 3 (gj _)];rfl
def DB(x:Int):af Int:=(FA x).getD []
theorem Rx{x:Int}(h0:0<=x)(h1:x<=4294967295):FA x=some (DB x)/\CF x=some (DB x)/\Sy (DB x)/\∃ w,DB x=bf w/\w.length=11/\ek w/\bf (w.drop 3)=me x 8/\oY w=true:=by
 have c1:aM x 0 4294967295=true:=by rw[de];omega
 obtain⟨t1,t2⟩:=ahd (me x 8) (ai4 x 8);have tl:((me x 8).map Int.toNat).length=8:=by rw[gB,Rw]
 obtain⟨w,e1,l1,d1,p1,q1,q2,q3⟩:=avA t2 tl;obtain⟨v,e2,l2,d2,p2,z2⟩:=aAs t2 tl;have z1:oY w=true:=by simp[oY,q1,q2,q3]
 have ewv:=ai6 d1 d2 l1 l2 (by rw[p1,p2]) z1 z2;subst ewv;rw[t1]at e1 e2;have ei:FA x=some (bf w):=by
  unfold FA CP;rw[fC,av,av,c1,bS,au,aAq h0 h1,av,e1,av]
 have es:CF x=some (bf w):=by
  unfold CF;rw[aAp h0 h1,av,e2,av]
 have ee:DB x=bf w:=by unfold DB;rw[ei];rfl
 rw[ee];refine⟨ei,es,Lv d1 l1,w,rfl,l1,d1,by rw[p1,t1],z1⟩
theorem aAt{a b:Nat}(ha:a<9223372036854775808)(hb:b<9223372036854775808):bits .or .i64 (a:Int) (b:Int)=((a ||| b:Nat):Int):=by
 have e:bits .or .i64 (a:Int) (b:Int)=W6 ((BitVec.ofInt 64 (a:Int) |||BitVec.ofInt 64 (b:Int)).toNat:Int):=rfl;have h:a |||b<2 ^ 63:=Nat.or_lt_two_pow (by omega) (by omega);have h1:BitVec.ofInt 64 (a:Int)=BitVec.ofNat 64 a:=BitVec.ofInt_natCast 64 a;have h2:BitVec.ofInt 64 (b:Int)=BitVec.ofNat 64 b:=BitVec.ofInt_natCast 64 b;rw[e,h1,h2,BitVec.toNat_or,BitVec.toNat_ofNat,BitVec.toNat_ofNat,Nat.mod_eq_of_lt (by omega),Nat.mod_eq_of_lt (by omega),aY (by omega) (by omega)]
theorem aAu(a:Nat)(ha:a<9223372036854775808):bits .and .i64 (a:Int) 15=((a % 16:Nat):Int):=by
 have e:bits .and .i64 (a:Int) 15=W6 ((BitVec.ofInt 64 (a:Int) &&& BitVec.ofInt 64 15).toNat:Int):=rfl;have h1:BitVec.ofInt 64 (a:Int)=BitVec.ofNat 64 a:=BitVec.ofInt_natCast 64 a;have h2:(BitVec.ofInt 64 15).toNat=15:=rfl;have h3:a &&& 15=a % 16:=Nat.and_two_pow_sub_one_eq_mod a 4;rw[e,h1,BitVec.toNat_and,BitVec.toNat_ofNat,Nat.mod_eq_of_lt (by omega),h2,h3,aY (by omega) (by omega)]
def nv(d:af Nat):Nat->Nat
 |0=>0
 |k+1=>nv d k+d.getD k 0*16 ^ k
theorem LU{d:af Nat}(hd:ek d):∀ k,nv d k<16 ^ k
 |0=>Nat.one_pos
 | k+1=>by
  have h1:=LU hd k;have h2:=hd.get k;have h3:d.getD k 0*16 ^ k<=15*16 ^ k:=kG _ (by omega);show nv d k+d.getD k 0*16 ^ k<16 ^ (k+1);rw[Nat.pow_succ];omega
theorem ai9(k:Nat)(hk:k<8):(min (4*(k:Int)).toNat IntKind.i64.bits)=4*k:=by
 have:IntKind.i64.bits=64:=rfl;rw[this];omega
theorem YQ{d:af Nat}(hd:ek d)(hl:d.length=8):∀ k,k<=8->wv (bf d) k=(nv d k:Int)
 |0,_=>rfl
 | k+1,h=>by
  have h1:=LU hd k;have h2:=hd.get k;have hp:(16:Nat) ^ k<=16 ^ 7:=Nat.pow_le_pow_right (by decide) (by omega);have dL:(2:Nat) ^ (4*k)=16 ^ k:=by rw[Nat.pow_mul]
  have h3:d.getD k 0*16 ^ k<=15*16 ^ k:=kG _ (by omega);have hg:(bf d).getD k 0=((d.getD k 0:Nat):Int):=by
   rw[fX,cu (by rw[gT];omega)];exact vc (by rw[gT];omega)
  have hm:((d.getD k 0:Nat):Int)*2 ^ (4*k)=((d.getD k 0*16 ^ k:Nat):Int):=by
   rw[<-dL]
   push_cast
   rfl
  show bits .or .i64 (wv (bf d) k) (W6 ((bf d).getD k 0*2 ^ (min (4*(k:Int)).toNat IntKind.i64.bits)))=((nv d k+d.getD k 0*16 ^ k:Nat):Int)
  rw[YQ hd hl k (by omega),ai9 k (by omega),hg,hm,aY (by omega) (by omega),aAt (by omega) (by omega)];congr 1;have:=Nat.two_pow_add_eq_or_of_lt (i:=4*k) (b:=nv d k) (by rw[dL];exact h1) (d.getD k 0);rw[dL,Nat.mul_comm]at this;rw[Nat.or_comm,<-this];omega
theorem aja{d:af Nat}(hd:ek d):∀ n k,k<n->nv d n / 16 ^ k % 16=d.getD k 0
 |0,k,h=>by omega
 | n+1,k,h=>by
  have h1:=LU hd n;have h2:=hd.get n;show (nv d n+d.getD n 0*16 ^ n) / 16 ^ k % 16=_;by_cases e:k=n
  ·subst e;rw[Nat.add_mul_div_right _ _ (Nat.pow_pos (by decide)),Nat.div_eq_of_lt h1,fV];omega
  ·have e2:n=(n-k-1)+1+k:=by omega
   have e3:d.getD n 0*16 ^ n=(d.getD n 0*16 ^ (n-k-1)*16)*16 ^ k:=by
    conv=>lhs;rw[show (16:Nat) ^ n=16 ^ ((n-k-1)+1+k) by rw[<-e2],Nat.pow_add,Nat.pow_succ]
    simp only[Nat.mul_assoc]
   rw[e3,Nat.add_mul_div_right _ _ (Nat.pow_pos (by decide)),Nat.add_mul_mod_self_right,aja hd n k (by omega)]
theorem aAv{d:af Nat}(hd:ek d)(hl:d.length=8):me (wv (bf d) 8) 8=bf d:=by
 have bW:nv d 8<16 ^ 8:=LU hd 8;rw[YQ hd hl 8 (gj _)];have key:∀ k,k<=8->me (nv d 8:Int) k=bf (d.take k):=by
  intro k
  induction k with
  |zero=>intro _;rfl
  | succ k ih=>
   intro hk;have dL:(2:Nat) ^ (4*k)=16 ^ k:=by rw[Nat.pow_mul]
   have hq:(nv d 8:Int).fdiv (2 ^ (4*k))=((nv d 8 / 16 ^ k:Nat):Int):=by
    have e2:(2:Int) ^ (4*k)=((2 ^ (4*k):Nat):Int):=by push_cast;rfl
    rw[e2,Int.fdiv_eq_ediv_of_nonneg _ (Int.natCast_nonneg _),dL];rfl
   have hs:FW (nv d 8:Int) k=((d.getD k 0:Nat):Int):=by
    unfold FW;rw[ai9 k (by omega),hq,aAu _ (Nat.lt_of_le_of_lt (Nat.div_le_self _ _) (by omega)),aja hd 8 k (by omega)]
   show me (nv d 8:Int) k++[FW (nv d 8:Int) k]=_;rw[ih (by omega),hs,List.take_add_one,cu (by omega),fX,cu (by omega)];exact(List.map_append (f:=λn:Nat=>(n:Int)) (l₁:=d.take k) (l₂:=[d[k]])).symm
 rw[key 8 (gj _),<-hl,mL]
theorem aAw{d:af Nat}(hd:ek d)(hl:d.length=8):0<=wv (bf d) 8/\wv (bf d) 8<=4294967295:=by
 have bW:nv d 8<16 ^ 8:=LU hd 8;rw[YQ hd hl 8 (gj _)];omega
theorem aAx{w:af Nat}(hw:ek w)(hl:w.length=11)(h:(gU w).2.1=1):CF (Bc w)=some (bf (gU w).1):=by
 obtain⟨c1,c2,_⟩:=Dr hw hl;have hz:=axo hw hl (by omega);have hd:ek ((gU w).1.drop 3):=λx hx=>c2 x (List.mem_of_mem_drop hx)
 have QY:((gU w).1.drop 3).length=8:=by rw[List.length_drop,c1]
 have he:Bc w=wv (bf ((gU w).1.drop 3)) 8:=by
  unfold Bc;rw[h];rfl
 obtain⟨b0,b1⟩:=aAw hd QY;obtain⟨_,e2,_,v,ev,vl,v16,vd,vz⟩:=Rx b0 b1;rw[aAv hd QY]at vd;have:=ai6 v16 c2 vl c1 (ai8 vd) vz hz;rw[he,e2,ev,this]
def LV(d:bG):Int:=bif d.eF then 0 else Bc (nw d)
def FY(c:aF)(j:Nat)(d:bG):aF:=eE c ⟨c.array.cells.set j d,c.array.bI,c.array.bk⟩
theorem ajb{c:aF}{j:Nat}(h:j<c.array.cells.length):FY c j c.array.cells[j]=c:=by
 unfold FY eE;rw[aAn h]
theorem aAy{c:aF}{j:Nat}(hj:j<c.array.cells.length)(hs:Sy c.array.cells[j].symbols):Qc c (j:Int)=some ((LV c.array.cells[j],qJ c.array.cells[j]),(FY c j (DA c.array.cells[j]),())):=by
 obtain⟨n1,n2,n3⟩:=Rv hs;have e1:=aia n2 n3;have e2:=aAl n2 n3;rw[n1]at e1 e2;have ec:=ajb hj;unfold Qc qJ DA LV xC;rw[aG ⟨by omega,by omega⟩,aG (by omega)];simp only[cc];cases hp:c.array.cells[j].eF with
 | true=>
  rw[aq,aq,aq,aq,ec]
 | false=>
  rw[au,au,au,au,aG hj,aG hj,e1,av,aG hj,aG hj,e2,av];dsimp only;rcases(Dr n2 n3).2.2 with q|q|q
  ·rw[q,kX (by omega),au,kX (by omega),au,au,au,ec]
  ·rw[q,eJ,aq,aq,aG hj,hp];rfl
  ·rw[q,kX (by omega),au,eJ,aq,au,aq,aG hj];rfl
theorem aAz{c:aF}{j:Nat}(hj:j<c.array.cells.length)(hs:Sy c.array.cells[j].symbols):OS c (j:Int)=some ((LV c.array.cells[j],qJ c.array.cells[j]),(FY c j (DA c.array.cells[j]),())):=by
 obtain⟨n1,n2,n3⟩:=Rv hs;have e2:=aAm n2 n3;rw[n1]at e2;have ec:=ajb hj;unfold OS qJ DA LV xC;rw[aG ⟨by omega,by omega⟩,aG (by omega)];simp only[cc];cases hp:c.array.cells[j].eF with
 | true=>
  rw[aq,aq,aq,aq,ec]
 | false=>
  rw[au,au,au,au,aG hj,e2,av];dsimp only;rcases(Dr n2 n3).2.2 with q|q|q
  ·rw[q,kX (by omega),au,kX (by omega),au,au,au,ec]
  ·rw[q,eJ,aq,aAx n2 n3 q,av,aG ⟨by omega,hj⟩,aG hj,kX (by omega),au,aq,hp];rfl
  ·rw[q,kX (by omega),au,eJ,aq,au,aq,aG ⟨by omega,hj⟩,aG hj];rfl
theorem ajc{c:aF}(h:Pq c){r:bN}(hr:r∈c.queue):wB c r.line=some (hD c r.line,true)/\tP c r.line=some (hD c r.line)/\jX c.config.aJ (hD c r.line)=true:=
 azV h.p h.sp h.se h.mo (h.q r hr).1.1 (h.q r hr).1.2
def ajd(e:bw):bw:=⟨e.line,e.code,(if (999:Int)<(W6 (e.times+(1:Int)))then (999:Int)else (W6 (e.times+(1:Int))))⟩
def zEE:bw:=⟨0,0,0⟩
def Bd(l:af bw)(line code:Int):af bw:=match l.findIdx? (lZ ⟨line,code,1⟩)with
 |some i=>l.set i (ajd (l.getD i zEE))
 |none=>bif ((l.length:Int)==(6:Int))then l.drop 1++[⟨line,code,1⟩]else l++[⟨line,code,1⟩]
theorem aAA{l:af bw}(h:tZ l=true){line code:Int}(h1:0<=line/\line<=1023)(h2:code=1\/code=2):Qa l line code=some (Bd l line code,true):=by
 have hl:l.length<=6:=by
  simp only[tZ,bx,decide_eq_true_eq]at h;omega
 have c1:aM line 0 1023=true:=de.2 h1;unfold Qa Kv Bd bR;rw[fl (by simp;omega),aq,av,ahz _ (by omega),av,h,bS,au,fC,av,c1,bS,au,List.nil_append];have e:=wF (step:=Kw) l (lZ ⟨line,code,1⟩) (λk=>((line,code,(),(),(l.length:Int),(k:Int),()),(l,()))) (λi=>.inl (((),true,()),(l.set i (ajd (l.getD i zEE)),()))) (.inr (.inl ((line,code,(),()),(l,())))) bA (λk hk=>by
  unfold Kw lZ xC ax bu xG;dsimp only;rw[bF (by omega),aq,aG ⟨by omega,by omega⟩,aG (by omega)];simp only[cc];rw[aG ⟨by omega,by omega⟩,aG (by omega),bZ (by omega),rW _ hk];cases l[k].line==line<;>cases l[k].code==code<;>rfl) (by
  unfold Kw xC ax bu xG;dsimp only;rw[bD (by omega),au]) (cP (by omega))
 rw[di]at e;have e2:iter Wr bA ((line,code,(),(),(l.length:Int),(0:Int),()),(l,()))=_:=e;rcases h2 with rfl|rfl
 ·rw[eV,au,e2];cases l.findIdx? (lZ ⟨line,1,1⟩)with
  |some i=>rfl
  | none=>
   rw[av,Sum.elim_inr,iy];dsimp only;cases h6:(l.length:Int)==(6:Int)with
   |false=>rw[au,au,fl (by simp;omega)];rfl
   | true=>
    have h6:=eq_of_beq h6;rw[aq,aq,bB ⟨by omega,by omega,by omega⟩,fl (by simp;omega),aq,av,fl (by simp;omega),aq];simp
 ·rw[iZ (by omega),aq,eV,au,e];cases l.findIdx? (lZ ⟨line,2,1⟩)with
  |some i=>rfl
  | none=>
   rw[av,Sum.elim_inr,iy];dsimp only;cases h6:(l.length:Int)==(6:Int)with
   |false=>rw[au,au,fl (by simp;omega)];rfl
   | true=>
    have h6:=eq_of_beq h6;rw[aq,aq,bB ⟨by omega,by omega,by omega⟩,fl (by simp;omega),aq,av,fl (by simp;omega),aq];simp
theorem aAB{l:af bw}(h:tZ l=true){line code:Int}(h1:0<=line/\line<=1023)(h2:code=1\/code=2):OQ l line code=some (Bd l line code,true):=by
 have hl:l.length<=6:=by
  simp only[tZ,bx,decide_eq_true_eq]at h;omega
 have c1:aM line 0 1023=true:=de.2 h1;have c2:aM 1 1 999=true:=rfl;have e3:ER ⟨line,code,1⟩=some true:=by
  unfold ER;rw[fP,av,c1,aq,fP,c2];rcases h2 with rfl|rfl<;>rfl
 unfold OQ Bd xC;rw[fl (by simp;omega),aq,ahy,av,h,bS,au,e3,av,bS,au];have e4:=ahx l ⟨line,code,1⟩ (by omega);dsimp only at e4;rw[e4,av,List.nil_append];unfold iK;cases hi:l.findIdx? (lZ ⟨line,code,1⟩)with
 | some i=>
  obtain⟨bW,hp,hq⟩:=s7.1 hi;dsimp only;rw[bF (by omega),aq,aG ⟨by omega,by omega⟩,aG (by omega),aG ⟨by omega,by omega⟩,aG (by omega)];simp only[cc];rw[rW _ bW];rfl
 | none=>
  dsimp only;rw[bD (by omega),au];by_cases h6:l.length=6
  ·rw[bF (by omega),aq,show ((l.length:Int)==(6:Int))=true by rw[h6];rfl,aq,bB ⟨by omega,by omega,by omega⟩,fl (by simp;omega),aq,fl (by simp;omega),aq];simp
  ·rw[bD (by omega),au,kX (by omega),au,fl (by simp;omega),aq]
def YR(c:aF)(l:af bw):aF:=⟨c.config,c.box,c.now,c.bK,c.ready,c.array,c.spare,c.bT,c.aW,c.guard,c.pending,c.queue,c.shares,c.drain,c.aN,c.cC,l,c.trace,c.bY⟩
def LW(c:aF)(n code:Int):aF:=bif code != 0 then YR c (Bd c.errors n code)else c
theorem aje{c:aF}(h:tZ c.errors=true){n code:Int}(h1:0<=n/\n<=1023)(h2:code=0\/code=1\/code=2):Qb c n code=some ((),(LW c n code,()))/\OR c n code=some ((),(LW c n code,())):=by
 unfold Qb OR LW;rcases h2 with rfl|h2
 ·exact⟨rfl,rfl⟩
 ·rw[aAA h h1 h2,aAB h h1 h2,iZ (by omega)];exact⟨rfl,rfl⟩
def ajf(q:af bN):Prop:=∀i (h:i<q.length),(q.take i).any (λx=>x.id==q[i].id)=false
theorem aAC{q:af bN}{i:Nat}(h:i<q.length)(hl:q.length<=12):P3 q (i:Int) (W6 ((i:Int)+1))=some (q.take i++q.drop (i+1),([],())):=by
 have hs:(splice q i ((q.take ((q.length:Int).toNat)).drop (i+1))).length=q.length:=by
  rw[ta _ _ _ (by simp;omega)]
 have ht:((q.take ((q.length:Int).toNat)).drop (i+1))=q.drop (i+1):=by rw[cc,mL]
 unfold P3;rw[bZ (by omega),bB ⟨by omega,by omega,by omega,by omega⟩,kX (by omega),au,bB ⟨by omega,by omega,by omega⟩,bB ⟨by omega,by omega,by omega⟩];simp only[cc]at hs ⊢;rw[bB ⟨by omega,by omega,by omega,by omega⟩,bB ⟨by omega,by omega,by omega⟩,bB ⟨by omega,by omega⟩];have e1:i+(q.length-(i+1))-0=i+(q.length-(i+1)):=by omega
 rw[e1,YM _ _ _ (by omega)];unfold splice;rw[mL,List.take_append_of_le_length (by simp;omega),List.take_of_length_le (by simp;omega)]
theorem aAD{q:af bN}(hu:ajf q){i:Nat}(h:i<q.length)(hl:q.length<=12):OG q q[i].id=some (q.take i++q.drop (i+1),true):=by
 have hf:q.findIdx? (λr=>r.id==q[i].id)=some i:=by
  rw[s7]
  refine⟨h,by simp,λj hj=>?_⟩
  have:=List.any_eq_false.1 (hu i h) q[j] (o3.2 ⟨j,by rw[jN];omega,by rw[List.getElem_take]⟩)
  simpa using this
 unfold OG;rw[Xa _ _ (by omega),av];unfold iK;rw[hf];dsimp only;rw[bD (by omega),au,bB ⟨by omega,by omega,by omega⟩,fl (by simp;omega),aq,bZ (by omega),bB ⟨by omega,by omega,by omega⟩,fl (by simp;omega),aq];simp only[cc,Int.toNat_zero,List.drop_zero,List.nil_append,mL]
def Be:bN:=⟨0,0,0,false,0,0⟩
def DC(s:af bC)(t:Int):af bC:=match yp s ((List.replicate 4 false).set t.toNat true)with
 |some (l,_)=>l
 |none=>[]
def wV(c:aF)(i:Nat)(a:eZ)(e:af bw)(x:cD):aF:=
 ⟨c.config,c.box,c.now,c.bK,c.ready,a,c.spare,c.bT,c.aW,c.guard,c.pending,c.queue.take i++c.queue.drop (i+1),DC c.shares (c.queue.getD i Be).dX,c.drain,c.aN,c.cC,e,c.trace,c.bY++[x]⟩
def DD(c:aF)(i:Nat):aF:=
 let r:=c.queue.getD i Be
 let n:=uc c.config.aJ (hD c r.line)
 bif r.write then wV c i ⟨c.array.cells.set n ⟨DB r.data,false⟩,c.array.bI,c.array.bk⟩ c.errors ⟨r.id,c.now,0,0⟩
 else wV c i ⟨c.array.cells.set n (DA (c.array.cells.getD n wP)),c.array.bI,c.array.bk⟩ (bif qJ (c.array.cells.getD n wP) != 0 then Bd c.errors (n:Int) (qJ (c.array.cells.getD n wP))else c.errors) ⟨r.id,c.now,LV (c.array.cells.getD n wP),qJ (c.array.cells.getD n wP)⟩
theorem ajg{d:bG}(h:Sy d.symbols):qJ d=0\/qJ d=1\/qJ d=2:=by
 obtain⟨n1,n2,n3⟩:=Rv h;unfold qJ;cases d.eF with
 |true=>exact .inr (.inr rfl)
 |false=>exact(Dr n2 n3).2.2
structure qK (c:aF) (i:Nat) (B:Int):Prop where
 ad:∀r∈c.queue,wB c r.line=some (hD c r.line,true)/\tP c r.line=some (hD c r.line)/\jX c.config.aJ (hD c r.line)=true
 tn:∀r∈c.queue,0<=r.dX/\r.dX<=3
 ql:c.queue.length<=12
 sh:mZ c.shares=true
 shl:c.shares.length=4
 u:ajf c.queue
 i:i<c.queue.length
 d:∀r∈c.queue,0<=r.data/\r.data<=4294967295
 a:lH c.config.aJ B c.array
 e:tZ c.errors=true
 r:c.bY.length<=1000
theorem qK.facts{c:aF}{i:Nat}{B:Int}(h:qK c i B){r:bN}(hm:r∈c.queue):wB c r.line=some (hD c r.line,true)/\tP c r.line=some (hD c r.line)/\rP c.config.aJ (hD c r.line)=(uc c.config.aJ (hD c r.line):Int)/\uc c.config.aJ (hD c r.line)<c.array.cells.length/\(uc c.config.aJ (hD c r.line):Int)<=1023/\yp c.shares ((List.replicate 4 false).set r.dX.toNat true)=some (DC c.shares r.dX,(yp c.shares ((List.replicate 4 false).set r.dX.toNat true)).get!.2)/\0<=r.dX/\r.dX.toNat<4:=by
 obtain⟨a1,a2,a3⟩:=h.ad _ hm;have ht:=h.tn _ hm;obtain⟨b1,b2⟩:=aw6 a3;have hc:=h.a.cells;have hl:=tT c.config.aJ;obtain⟨y,t,e,_⟩:=aiK ((List.replicate 4 false).set r.dX.toNat true) (by have:=h.shl;omega) h.sh (by simp[h.shl]);refine⟨a1,a2,b1,by omega,by omega,?_,ht.1,by omega⟩;unfold DC;rw[e];rfl
theorem ajh{c:aF}{i:Nat}{B:Int}(h:qK c i B):Qd c (i:Int)=some ((),(DD c i,())):=by
 have hi:=h.i;obtain⟨f1,f2,f3,f4,f5,f6,f7,f8⟩:=h.facts (fW hi);have hd:=h.d _ (fW hi);have qF:=h.a.syms _ (fW f4);have hq:c.queue.getD i Be=c.queue[i]:=rW _ hi;have hr:=h.r;unfold Qd xC;rw[aG ⟨by omega,by omega⟩,aG (by omega)];simp only[cc];rw[f1,av,aAC hi h.ql,av,bB (by decide)];have e4:(4:Int).toNat=4:=rfl;rw[e4,aG ⟨f7,by simpa using f8⟩,aG (by simpa using f8)];dsimp only;rw[f6,av];dsimp only;unfold DD;rw[hq];dsimp only;cases hw:c.queue[i].write with
 | true=>
  rw[aq,aq,WT,av,f3,(Rx hd.1 hd.2).1,av,aG ⟨by omega,by omega⟩,aG (by omega),fl (by simp;omega),aq];unfold wV;rw[hq];rfl
 | false=>
  rw[au,au,WT,av,f3,rW _ f4]
  refine(bJ (λo=>Option.bind o _) (aAy (c:=⟨c.config,c.box,c.now,c.bK,c.ready,c.array,c.spare,c.bT,c.aW,c.guard,c.pending,c.queue.take i++c.queue.drop (i+1),DC c.shares c.queue[i].dX,c.drain,c.aN,c.cC,c.errors,c.trace,c.bY⟩) f4 qF)).trans ?_
  rw[av];unfold FY eE;dsimp only;rw[fl (by simp;omega),aq,av]
  refine(bJ (λo=>Option.bind o _) (aje (by exact h.e) ⟨by omega,f5⟩ (ajg qF)).1).trans ?_
  rw[av];unfold LW wV YR;rw[hq];dsimp only;cases qJ c.array.cells[uc c.config.aJ (hD c c.queue[i].line)] != 0<;>rfl
theorem aji{c:aF}{i:Nat}{B:Int}(h:qK c i B):OT c (i:Int)=some ((),(DD c i,())):=by
 have hi:=h.i;obtain⟨f1,f2,f3,f4,f5,f6,f7,f8⟩:=h.facts (fW hi);have hd:=h.d _ (fW hi);have qF:=h.a.syms _ (fW f4);have hq:c.queue.getD i Be=c.queue[i]:=rW _ hi;have hr:=h.r;unfold OT xC;rw[aG ⟨by omega,by omega⟩,aG (by omega)];simp only[cc];rw[f2,av,avm,av,f3,aAD h.u hi h.ql,av,bB (by decide)];have e4:(4:Int).toNat=4:=rfl;rw[e4,aG ⟨f7,by simpa using f8⟩,aG (by simpa using f8)];dsimp only;rw[azS _ _ (by have:=h.shl;omega),f6,av];dsimp only;unfold DD;rw[hq];dsimp only;cases hw:c.queue[i].write with
 | true=>
  rw[aq,aq,(Rx hd.1 hd.2).2.1,av,aG ⟨by omega,by omega⟩,aG (by omega),fl (by simp;omega),aq];unfold wV;rw[hq];rfl
 | false=>
  rw[au,au,rW _ f4]
  refine(bJ (λo=>Option.bind o _) (aAz (c:=⟨c.config,c.box,c.now,c.bK,c.ready,c.array,c.spare,c.bT,c.aW,c.guard,c.pending,c.queue.take i++c.queue.drop (i+1),DC c.shares c.queue[i].dX,c.drain,c.aN,c.cC,c.errors,c.trace,c.bY⟩) f4 qF)).trans ?_
  rw[av];dsimp only
  refine(bJ (λo=>Option.bind o _) (aje (by exact h.e) ⟨by omega,f5⟩ (ajg qF)).2).trans ?_
  rw[av];unfold LW wV YR FY eE;rw[hq];dsimp only;cases qJ c.array.cells[uc c.config.aJ (hD c c.queue[i].line)] != 0 with
  | true=>
   rw[aq,aq];dsimp only;rw[fl (by simp;omega)];rfl
  | false=>
   rw[au,au];dsimp only;rw[fl (by simp;omega)];rfl
def jv(c:aF)(x:bV):aF:=⟨c.config,c.box,c.now,wH c.bK x,yJ c.config.aJ c.ready ⟨c.now,x⟩,c.array,c.spare,c.bT,c.aW,c.guard,c.pending,c.queue,c.shares,c.drain,c.aN,c.cC,c.errors,c.trace++[⟨c.now,x⟩],c.bY⟩
def aAE(c:aF)(p:gO):aF:=⟨c.config,c.box,c.now,c.bK,c.ready,c.array,c.spare,c.bT,c.aW,c.guard,c.pending,c.queue,c.shares,c.drain,p,c.cC,c.errors,c.trace,c.bY⟩
def aAF(c:aF)(r:fI):aF:=⟨c.config,c.box,c.now,c.bK,c.ready,c.array,c.spare,r,c.aW,c.guard,c.pending,c.queue,c.shares,c.drain,c.aN,c.cC,c.errors,c.trace,c.bY⟩
def ajj(c:aF)(r:dy):aF:=⟨c.config,c.box,c.now,r,c.ready,c.array,c.spare,c.bT,c.aW,c.guard,c.pending,c.queue,c.shares,c.drain,c.aN,c.cC,c.errors,c.trace,c.bY⟩
def LX(c:aF)(k:Int):aF:=aAE c (LQ c.aN k c.now)
def ajk(c:aF)(b:Int):aF:=aAF (LS c b (c.pending.filter (λa=>!(a.ay==b)))) (Dx c.bT b)
def DE(c:aF)(x:bV)(i:Int):aF:=
 bif x.kind==1 then Dy (jv c x) x else
 bif x.kind==5 then ajk (jv c x) x.ay else
 bif x.kind==2 ||x.kind==3 then DD (jv c x) i.toNat else
 bif x.kind==4 then jv c x else
 bif x.kind==9 then iM (LX (jv c x) 9) c.aW.length []else LX (jv c x) x.kind
structure Bs (c:aF):Prop where
 w:vI 100000 c
 u:Ru c.pending
 pk:∀a∈c.pending,0<=a.ay/\a.ay<bq c.config.aJ
 zt:∀t∈c.aW,jm t
 rf:qC c.bT=true
 bl:(c.bK.aI.length:Int)=bq c.config.aJ
 l1:c.ready.last.length<1073741824
 l2:c.ready.aZ.length<1073741824
 tl:c.trace.length<10000
theorem Bs.jv{c:aF}(h:Bs c)(x:bV):vI 100000 (jv c x):=⟨h.w.hB,h.w.g,h.w.a,h.w.k,h.w.p,h.w.t,h.w.d,h.w.r⟩
theorem qK.jv{c:aF}{n:Nat}{B:Int}(h:qK c n B)(x:bV):qK (jv c x) n B:=⟨h.ad,h.tn,h.ql,h.sh,h.shl,h.u,h.i,h.d,h.a,h.e,h.r⟩
theorem aAG{c:aF}(h:vI 100000 c):iter yu bA (((),(c.aW.length:Int),(0:Int),()),((⟨c.config,c.box,c.now,c.bK,c.ready,c.array,c.spare,c.bT,c.aW,c.guard,([]:af aP),c.queue,c.shares,c.drain,c.aN,c.cC,c.errors,c.trace,c.bY⟩:aF),()))=some (.inl ((),(iM c c.aW.length [],()))):=aAf h
theorem aAH{c:aF}{x:bV}(hk:1<=x.kind/\x.kind<=9)(hb:x.kind<=5->0<=x.ay/\x.ay.toNat<c.bK.aI.length):OV c x=some ((),(ajj c (wH c.bK x),())):=by
 unfold OV wH ajj xC;rcases kinds hk with h|h|h|h|h|h|h|h|h<;>(try (have hb:=hb (by omega)))<;>simp[h,hb]
theorem YS{g:aX}{x:bV}(h:iL g x=true)(hk:x.kind=1):0<=x.row/\x.row<g.rows:=by
 simp only[iL,bx]at h;have h3:=h.2.2.2.1;rw[wG,hk,show ((1:Int)==1)=true from rfl,aq,de]at h3;omega
theorem aAI{c:aF}(h:Bs c){x:bV}(ha:sX c.config.aJ c.bK x=true){i:Int}(hs:x.kind=2\/x.kind=3->qK c i.toNat 100000/\0<=i):AO c x i=some ((),(DE c x i,())):=by
 obtain⟨hg,hlen,hk,hb⟩:=QZ ha;have hc:iL c.config.aJ x=true:=by
  simp only[sX,bx]at ha;exact ha.2.1
 have b1:=g9 c.config.aJ;have w:=h.jv x;have ht:=h.w.t;have hd:=h.w.d;have hr:=h.w.r;have Ry:=h.tl;have er:Kg c.config.aJ c.bK x=some (wH c.bK x,true):=by
  rw[awG _ _ _ (by omega)];unfold Xr;rw[ha];rfl
 unfold AO DE bQ;rw[fl (by simp;omega),aq,awN _ _ _ h.l1 h.l2,av,er,av];rcases kinds hk with q|q|q|q|q|q|q|q|q<;>rw[q]<;>simp only[Int.reduceBEq,Int.reduceBNe,aq,au,Bool.or_true,Bool.or_false,Bool.true_or,Bool.false_or,Bool.or_self]
 ·obtain⟨iW,nY⟩:=hb (by omega);obtain⟨r0,r1⟩:=YS hc q
  refine(bJ (λo=>Option.bind o _) (aAb (c:=jv c x) x w.g w.a w.p h.zt iW (by show x.ay<bq c.config.aJ;omega) r0 r1 (by show x.ay.toNat<c.aW.length;omega) (by show x.ay.toNat<c.guard.length;omega))).trans ?_
  rfl
 ·obtain⟨s,s0⟩:=hs (.inl q);have e:=ajh (s.jv x);rw[Int.toNat_of_nonneg s0]at e
  refine(bJ (λo=>Option.bind o _) e).trans ?_
  rfl
 ·obtain⟨s,s0⟩:=hs (.inr q);have e:=ajh (s.jv x);rw[Int.toNat_of_nonneg s0]at e
  refine(bJ (λo=>Option.bind o _) e).trans ?_
  rfl
 ·rfl
 ·obtain⟨iW,nY⟩:=hb (by omega);obtain⟨y,e4⟩:=az3 h.rf (b:=x.ay) iW (by omega)
  refine(bJ (λo=>Option.bind o _) (aiW w.hB (jv c x) w.g w.a iW (by show x.ay<bq c.config.aJ;omega))).trans ?_
  rw[av];unfold eE;dsimp only;rw[az7 _ _ (by show c.pending.length<1000000;have:=h.w.p;omega),av];dsimp only
  refine(bJ (λo=>Option.bind o _) (aiX _ (by exact w.k) iW (by show x.ay.toNat<c.aW.length;omega) (by show x.ay.toNat<c.guard.length;omega))).trans ?_
  rw[av];unfold pT;dsimp only
  refine(bJ (λo=>Option.bind o _) e4).trans ?_
  rfl
 ·obtain⟨y,e⟩:=Rr c.aN (k:=6) (by omega) c.now;rw[e,av];rfl
 ·obtain⟨y,e⟩:=Rr c.aN (k:=7) (by omega) c.now;rw[e,av];rfl
 ·obtain⟨y,e⟩:=Rr c.aN (k:=8) (by omega) c.now;rw[e,av];rfl
 ·obtain⟨y,e⟩:=Rr c.aN (k:=9) (by omega) c.now;rw[e,av]
  refine(bJ (λo=>Option.bind o _) (aAG (c:=LX (jv c x) 9) ⟨w.hB,w.g,w.a,w.k,w.p,w.t,w.d,w.r⟩)).trans ?_
  rfl
theorem aAJ{c:aF}(h:Bs c){x:bV}(ha:sX c.config.aJ c.bK x=true){i:Int}(hs:x.kind=2\/x.kind=3->qK c i.toNat 100000/\0<=i):OW c x i=some ((),(DE c x i,())):=by
 obtain⟨hg,hlen,hk,hb⟩:=QZ ha;have hc:iL c.config.aJ x=true:=by
  simp only[sX,bx]at ha;exact ha.2.1
 have b1:=g9 c.config.aJ;have w:=h.jv x;have ht:=h.w.t;have hd:=h.w.d;have hr:=h.w.r;have Ry:=h.tl;unfold OW DE bQ;rw[fl (by simp;omega),aq,awO _ _ _ h.l1 h.l2,av]
 refine(bJ (λo=>Option.bind o _) (aAH hk (λh5=>by have:=hb h5;exact⟨this.1,this.2⟩))).trans ?_
 rw[av];rcases kinds hk with q|q|q|q|q|q|q|q|q<;>rw[q]<;>simp only[Int.reduceBEq,Int.reduceBNe,aq,au,Bool.or_true,Bool.or_false,Bool.true_or,Bool.false_or,Bool.or_self]
 ·obtain⟨iW,nY⟩:=hb (by omega);obtain⟨r0,r1⟩:=YS hc q
  refine(bJ (λo=>Option.bind o _) (aAc (c:=jv c x) x w.g w.a w.p h.u h.zt iW (by show x.ay<bq c.config.aJ;omega) r0 r1 (by show x.ay.toNat<c.aW.length;omega) (by show x.ay.toNat<c.guard.length;omega))).trans ?_
  rfl
 ·obtain⟨s,s0⟩:=hs (.inl q);have e:=aji (s.jv x);rw[Int.toNat_of_nonneg s0]at e
  refine(bJ (λo=>Option.bind o _) e).trans ?_
  rfl
 ·obtain⟨s,s0⟩:=hs (.inr q);have e:=aji (s.jv x);rw[Int.toNat_of_nonneg s0]at e
  refine(bJ (λo=>Option.bind o _) e).trans ?_
  rfl
 ·rfl
 ·obtain⟨iW,nY⟩:=hb (by omega);obtain⟨y,e4⟩:=az2 h.rf (b:=x.ay) iW (by omega)
  refine(bJ (λo=>Option.bind o _) (aiY w.hB (jv c x) w.g w.a w.k w.p iW (by show x.ay<bq c.config.aJ;omega) (by show x.ay.toNat<c.aW.length;omega) (by show x.ay.toNat<c.guard.length;omega))).trans ?_
  rw[av]
  refine(bJ (λo=>Option.bind o _) e4).trans ?_
  rfl
 ·obtain⟨y,e⟩:=Rs c.aN (k:=6) (by omega) c.now
  refine(bJ (λo=>Option.bind o _) e).trans ?_
  rfl
 ·obtain⟨y,e⟩:=Rs c.aN (k:=7) (by omega) c.now
  refine(bJ (λo=>Option.bind o _) e).trans ?_
  rfl
 ·obtain⟨y,e⟩:=Rs c.aN (k:=8) (by omega) c.now
  refine(bJ (λo=>Option.bind o _) e).trans ?_
  rfl
 ·obtain⟨y,e⟩:=Rs c.aN (k:=9) (by omega) c.now
  refine(bJ (λo=>Option.bind o _) e).trans ?_
  rw[av]
  refine(bJ (λo=>Option.bind o _) (aAh (c:=LX (jv c x) 9) ⟨w.hB,w.g,w.a,w.k,w.p,w.t,w.d,w.r⟩ (by show (wH c.bK x).aI.length=c.aW.length;rw[ahP];omega) h.pk)).trans ?_
  rfl
theorem aAK{l m:af Int}(h:l.length=m.length)(ha:(l.zip m).all yB=true):(∀ x∈l,0<=x/\x<=100000)/\∀ x∈m,0<=x/\x<=100000:=by
 rw[dQ]at ha;have key:∀ i (h1:i<l.length) (h2:i<m.length),(0<=l[i]/\l[i]<=100000)/\(0<=m[i]/\m[i]<=100000):=λi h1 h2=>by
  have hz:i<(l.zip m).length:=by rw[List.length_zip];omega
  have:=ha _ (fW hz);rw[List.getElem_zip]at this;simp only[yB,bx,de]at this;exact this
 constructor
 ·intro x hx;obtain⟨i,hi,rfl⟩:=o3.1 hx;exact(key i hi (by omega)).1
 ·intro x hx;obtain⟨i,hi,rfl⟩:=o3.1 hx;exact(key i (by omega) hi).2
theorem lH.ajl{g:aX}{a:eZ}(h:Dd g a=true):lH g 100000 a:=by
 simp only[Dd,bx,decide_eq_true_eq]at h;obtain⟨h1,h2,h3,h4,h5,h6⟩:=h;obtain⟨k1,k2⟩:=aAK (by omega) h6
 refine⟨h2,λc hc=>?_,h3,h4,k1,k2⟩
 exact Sy.of (dQ.1 h5 c hc)
theorem Bs.of{c:aF}(hz:iE c)(h:rV c=true)(Ry:c.trace.length<10000):Bs c:=by
 have hq:=Pq.of hz h;have z1:c.box.cO.weights.length<=1048576:=hz.1.1;have h0:=h;simp only[rV,bx]at h;obtain⟨h1,h2,h3,h4,h5,h6,h7,h8,h9,eP,iF,jP,iN,jQ,gP,jd,ou,lC,mh,s9,ug,rY⟩:=h;obtain⟨f1,f2⟩:=aiN (by omega) h1;simp only[rT,bx]at f1;simp only[Dm,bx,beq_iff_eq,nq,decide_eq_false_iff_not,dQ,jY]at h9;obtain⟨h9,g1,g2,g3,g4,g5,g6⟩:=h9;have iP:=hq.pl;obtain⟨hg,rl,ra⟩:=Q1 h5;have b1:=g9 c.config.aJ
 refine⟨⟨by decide,hg,lH.ajl h6,f1.2.2.2.2.2.1,by omega,g2,g3,g1⟩,λi hi=>?_,λa ha=>?_,hz.2.2.2.2.2.2.1.2,h9,hq.p.bl,by omega,by omega,Ry⟩
 ·have hb:=g6 i hi;unfold yG at hb;rw[cu hi]at hb;simp only[bx,nq]at hb;exact hb.2.2
 ·obtain⟨_,k1,k2,_⟩:=FE (hq.pe a ha);exact⟨k1,k2⟩
theorem qK.of{c:aF}(hz:iE c)(h:rV c=true){n:Nat}(hn:n<c.queue.length)(hr:c.bY.length<=1000):qK c n 100000:=by
 have hq:=Pq.of hz h;have h0:=h;simp only[rV,bx]at h;obtain⟨h1,h2,h3,h4,h5,h6,h7,h8,h9,eP,iF,jP,iN,jQ,gP,jd,ou,lC,mh,s9,ug,rY⟩:=h;simp only[Dh,bx,dQ,jY,decide_eq_true_eq]at eP;obtain⟨q1,q2⟩:=eP
 refine⟨λr hr=>ajc hq hr,λr hr=>(hq.q r hr).2.1,hq.ql,hq.sh,hq.shl,λi hi=>?_,hn,λr hr=>?_,lH.ajl h6,s9,hr⟩
 ·cases i with
  |zero=>simp
  | succ i=>
   have hb:=q1 (i+1) hi;rw[Xb hi]at hb;simp only[bx,nq]at hb;exact hb.2.2
 ·obtain⟨i,hi,rfl⟩:=o3.1 hr;have hb:=q1 i hi;unfold ve at hb;rw[cu hi]at hb;simp only[sV,QW,bx,de]at hb;exact hb.1.2.2.2.2.1
theorem LY{g:aX}{B:Int}{a:eZ}(h:lH g B a):Ds a:=by
 have h1:=h.cells;have h2:=h.bI;have h3:=h.bk;have b1:=tT g;have b2:=va g;exact⟨⟨by omega,λc hc=>by unfold vw;rw[(h.syms c hc).1];omega⟩,by omega,by omega⟩
theorem YT{l:af bO}(h:l.length<=1048576/\∀ y∈l,jm y){t:bO}(ht:jm t)(i:Nat):(l.set i t).length<=1048576/\∀ y∈l.set i t,jm y:=by
 refine⟨by rw[ni];exact h.1,λy hy=>?_⟩
 rcases List.mem_or_eq_of_mem_set hy with hy|rfl
 ·exact h.2 y hy
 ·exact ht
theorem ajm{k:Int}(h:aM k 1 16=true):jm (Dw k):=by
 have:=de.1 h;unfold Dw jm;simp only[List.length_replicate];omega
theorem aAL{t:bO}(h:jm t)(row ef:Int):jm (wT t row ef).1:=by
 have hl:=YJ (t:=t) row;unfold jm at h ⊢;unfold wT;cases oe t&&(aM row 0 15&&aM ef 2 1000)with
 |false=>exact h
 | true=>
  rw[aq];cases oe (kF t row)with
  |false=>exact h
  | true=>
   rw[aq];show (kF t row).rows.length<=_/\(kF t row).counts.length<=_;omega
theorem aAM{c:aF}(hz:iE c)(hr:c.ready.aZ.length<=4)(ht:c.trace.length<=10000)(x:bV):iE (jv c x):=by
 obtain⟨z1,z2,⟨z3,z4⟩,z5,z6,z7,z8,z9,aQ,gu,fO,jH,iY,fN⟩:=hz;have ha:=awU c.config.aJ c.ready ⟨c.now,x⟩;refine⟨z1,by unfold LK at z2 ⊢;show (wH c.bK x).aI.length<=_;rw[ahP];exact z2,⟨by show (yJ _ _ _).last.length<=_;rw[ha.1];exact z3,Nat.le_trans (ha.2 hr) (by decide)⟩,z5,z6,z7,z8,z9,aQ,gu,fO,jH,by simp[jv];omega,fN⟩
theorem Rz{c:aF}(hz:iE c){a:eZ}(ha:Ds a){r:fI}(hr:yK r){t:af bO}(ht:t.length<=1048576/\∀ y∈t,jm y){gd:af Int}(hg:gd.length<=1048576){pd:af aP}(hp:pd.length<=1048576)(pw:gO):iE ⟨c.config,c.box,c.now,c.bK,c.ready,a,c.spare,r,t,gd,pd,c.queue,c.shares,c.drain,pw,c.cC,c.errors,c.trace,c.bY⟩:=by
 obtain⟨z1,z2,z3,z5,z6,z7,z8,z9,aQ,gu,fO,jH,iY,fN⟩:=hz;exact⟨z1,z2,z3,ha,z6,hr,ht,hg,hp,gu,fO,jH,iY,fN⟩
theorem aAN{c:aF}(hz:iE c)(h:vI 100000 c)(x:bV)(h1:0<=x.ay)(h2:x.ay<bq c.config.aJ)(h3:0<=x.row)(h4:x.row<c.config.aJ.rows):iE (Dy c x):=by
 have zt:=hz.2.2.2.2.2.2.1;have hb:x.ay.toNat<c.aW.length:=by have:=h.t;omega
 have hp:=h.p;refine Rz hz (LY (aiz h.g c.config.dZ h.hB h.a h1 h2 h3 h4)) hz.2.2.2.2.2.1 (YT zt ?_ _) hz.2.2.2.2.2.2.2.1 ?_ c.aN
 ·unfold Bb;rw[rW _ hb];exact aAL (zt.2 _ (fW hb)) _ _
 ·have hf:(wU c x).length<=c.pending.length:=List.length_filter_le _ _;have hn:=YN c.config.aJ.rows x.row;have ha:=Rt x.ay (oh c.config.aJ.rows x.row) (wU c x);cases (Bb c x).2 with
  |false=>rw[au];omega
  |true=>rw[aq];omega
theorem aAO(r:fI)(b:Int):(Dx r b).cg.length=r.cg.length:=by
 unfold Dx;cases decide (r.cg.getD b.toNat 0 = -2)<;>simp
theorem aAP{c:aF}(hz:iE c)(h:vI 100000 c){b:Int}(h1:0<=b)(h2:b<bq c.config.aJ):iE (ajk c b):=by
 obtain⟨_,_,_,_,g5,g6,g7,g8⟩:=iC h.g;have zt:=hz.2.2.2.2.2.2.1;have hp:=h.p;have hf:=YO (λa:aP=>!(a.ay==b)) c.pending;exact Rz hz (LY (LR h.g c.config.dZ h.hB h.a h1 h2 _ (by omega))) (by unfold yK;rw[aAO];exact hz.2.2.2.2.2.1) (YT zt (ajm h.k) _) (by show (c.guard.set _ _).length<=_;rw[ni];exact hz.2.2.2.2.2.2.2.1) (by show (c.pending.filter (λa=>!(a.ay==b))).length<=_;omega) c.aN
theorem ajn{l:af bO}(h:l.length<=1048576/\∀ y∈l,jm y){t:bO}(ht:jm t):∀ k:Nat,((List.range k).foldl (λd b=>d.set b t) l).length<=1048576/\∀ y∈(List.range k).foldl (λd b=>d.set b t) l,jm y
 |0=>h
 |k+1=>by rw[Dz];exact YT (ajn h ht k) ht k
theorem aAQ{c:aF}(hz:iE c)(h:vI 100000 c)(k:Nat)(hk:(k:Int)<=bq c.config.aJ):iE (iM c k []):=
 Rz hz (LY (YP h.g c.config.dZ h.hB h.a k hk)) (by unfold yK;rw[FV];exact hz.2.2.2.2.2.1) (ajn hz.2.2.2.2.2.2.1 (ajm h.k) k) (by rw[FV];exact hz.2.2.2.2.2.2.2.1) (by simp) c.aN
theorem aAR{l:af bw}(n code:Int):(Bd l n code).length<=l.length+1:=by
 unfold Bd;cases l.findIdx? (lZ ⟨n,code,1⟩)with
 |some i=>simp
 | none=>
  dsimp only;cases (l.length:Int)==(6:Int)<;>simp<;>omega
theorem ajo{c:aF}(hz:iE c){i:Nat}(h:qK c i 100000):iE (DD c i):=by
 obtain⟨z1,z2,z3,z5,z6,z7,z8,z9,aQ,gu,fO,jH,iY,fN⟩:=hz;have hi:=h.i;have hql:=h.ql;have hr:=h.r;obtain⟨f1,f2,f3,f4,f5,f6,f7,f8⟩:=h.facts (fW hi);have hq:c.queue.getD i Be=c.queue[i]:=rW _ hi;have hd:=h.d _ (fW hi);have Vf:(DC c.shares c.queue[i].dX).length<=1048576:=by
  obtain⟨y,t,e,hl⟩:=aiK ((List.replicate 4 false).set c.queue[i].dX.toNat true) (by have:=h.shl;omega) h.sh (by simp[h.shl]);unfold DC;rw[e];have:=h.shl;show y.length<=_;omega
 have jR:c.errors.length<=6:=by
  have he:=h.e;simp only[tZ,bx,decide_eq_true_eq]at he;omega
 have key:∀ (a:eZ) (e:af bw) (x:cD),Ds a->e.length<=100->iE (wV c i a e x):=λa e x ha he=>
  ⟨z1,z2,z3,ha,z6,z7,z8,z9,aQ,by simp[wV];omega,by unfold wV;rw[hq];exact Vf,by show e.length<=_;omega,iY,by simp[wV];omega⟩
 unfold DD;rw[hq];dsimp only;cases c.queue[i].write with
 |true=>exact key _ _ _ (LY (h.a.ah4 _ (c:=⟨_,false⟩) (Rx hd.1 hd.2).2.2.1)) (by omega)
 | false=>
  rw[au,rW _ f4];refine key _ _ _ (LY (h.a.ah4 _ (aAo (h.a.syms _ (fW f4))))) ?_;have:=aAR (l:=c.errors) (uc c.config.aJ (hD c c.queue[i].line):Int) (qJ c.array.cells[uc c.config.aJ (hD c c.queue[i].line)]);cases qJ c.array.cells[uc c.config.aJ (hD c c.queue[i].line)] != 0 with
  |true=>rw[aq];omega
  |false=>rw[au];omega
theorem aAS{c:aF}(hz:iE c)(h:Bs c)(hr:c.ready.aZ.length<=4){x:bV}(ha:sX c.config.aJ c.bK x=true){i:Int}(hs:x.kind=2\/x.kind=3->qK c i.toNat 100000/\0<=i):iE (DE c x i):=by
 obtain⟨hg,hlen,hk,hb⟩:=QZ ha;have hc:iL c.config.aJ x=true:=by
  simp only[sX,bx]at ha;exact ha.2.1
 have w:=h.jv x;have ht:=h.w.t;have Ry:=h.tl;have z:=aAM hz hr (by omega) x;have zp:∀k,iE (LX (jv c x) k):=λk=>Rz z z.2.2.2.1 z.2.2.2.2.2.1 z.2.2.2.2.2.2.1 z.2.2.2.2.2.2.2.1 z.2.2.2.2.2.2.2.2.1 _
 unfold DE;rcases kinds hk with q|q|q|q|q|q|q|q|q<;>rw[q]<;>simp only[Int.reduceBEq,Int.reduceBNe,aq,au,Bool.or_true,Bool.or_false,Bool.true_or,Bool.false_or,Bool.or_self]
 ·obtain⟨iW,nY⟩:=hb (by omega);obtain⟨r0,r1⟩:=YS hc q;exact aAN z w x iW (by show x.ay<bq c.config.aJ;omega) r0 r1
 ·exact ajo z ((hs (.inl q)).1.jv x)
 ·exact ajo z ((hs (.inr q)).1.jv x)
 ·exact z
 ·obtain⟨iW,nY⟩:=hb (by omega);exact aAP z w iW (by show x.ay<bq c.config.aJ;omega)
 ·exact zp 6
 ·exact zp 7
 ·exact zp 8
 ·exact aAQ (zp 9) ⟨w.hB,w.g,w.a,w.k,w.p,w.t,w.d,w.r⟩ _ (by show (c.aW.length:Int)<=bq c.config.aJ;omega)
def YU(y x:bV):Bool:=(y.kind==x.kind)&&((y.ay==x.ay)&&((y.row==x.row)&&((y.bL==x.bL)&&true)))
def RB(c:aF)(x:bV)(i:Int):Bool:=aM i 0 ((c.queue.length:Int)-1)&&(decide ((c.bY.length:Int)<400)&&YU (ue c.bK (hD c (c.queue.getD i.toNat Be).line) (c.queue.getD i.toNat Be).write) x)
def DF(c:aF)(x:bV)(i:Int):Bool:=iL c.config.aJ x&&(A8 c x&&(!decide ((c.trace.length:Int) >= 2000)&&bif x.kind==2 ||x.kind==3 then RB c x i else i == -1 ||aM i 0 ((c.queue.length:Int)-1)))
theorem YV{c:aF}(h:Pq c){i:Int}(hi:aM i 0 ((c.queue.length:Int)-1)=true):∃ bW:i.toNat<c.queue.length,0<=i/\c.queue.getD i.toNat Be=c.queue[i.toNat]/\wB c c.queue[i.toNat].line=some (hD c c.queue[i.toNat].line,true)/\tP c c.queue[i.toNat].line=some (hD c c.queue[i.toNat].line)/\CU c.bK (hD c c.queue[i.toNat].line) c.queue[i.toNat].write=some (ue c.bK (hD c c.queue[i.toNat].line) c.queue[i.toNat].write):=by
 have hb:=de.1 hi;have bW:i.toNat<c.queue.length:=by omega
 obtain⟨a1,a2,a3⟩:=ajc h (fW bW);obtain⟨_,k1,k2,_⟩:=FE a3;have kN:=h.p.bl;have b1:=g9 c.config.aJ;exact⟨bW,hb.1,rW _ bW,a1,a2,azX _ k1 (by omega) (by omega)⟩
theorem aAT{c:aF}(h:Pq c)(x:bV)(i:Int):Ov c x i=some (DF c x i):=by
 have hql:=h.ql;unfold Ov DF;rw[ahM,av];cases hc:iL c.config.aJ x with
 |false=>rfl
 |true=>
 rw[bS,au,azO h.p hc,av];cases A8 c x with
 |false=>rfl
 |true=>
 rw[bS,au];cases decide ((c.trace.length:Int) >= 2000)with
 |true=>rfl
 |false=>
 rw[au,cM,cM,Bool.not_false,cM,fP,aY (n:=(c.queue.length:Int)-1) (by omega) (by omega),av];unfold RB;have nd:EX=CU:=rfl;cases hi:aM i 0 ((c.queue.length:Int)-1)with
 | true=>
  obtain⟨bW,h0,hq,f1,f2,f3⟩:=YV h hi;rw[iZ (show ¬ i = -1 by omega),aq,bS,au,bF (show i >= 0 from h0),cM,Bool.or_true,hq];by_cases q2:x.kind=2
  ·rw[show (x.kind != 2)=false by rw[q2];rfl,show (x.kind==2)=true by rw[q2];rfl,au,aq,Bool.true_or,aq];cases decide ((c.bY.length:Int)<400)with
   |false=>rfl
   | true=>
    rw[aq,aG ⟨h0,bW⟩,aG ⟨h0,bW⟩];dsimp only;rw[f2,av,nd,f3,av];rfl
  ·rw[iZ q2,kX q2,aq,Bool.false_or];by_cases q3:x.kind=3
   ·rw[show (x.kind != 3)=false by rw[q3];rfl,show (x.kind==3)=true by rw[q3];rfl,au,aq,aq];cases decide ((c.bY.length:Int)<400)with
    |false=>rfl
    | true=>
     rw[aq,aG ⟨h0,bW⟩,aG ⟨h0,bW⟩];dsimp only;rw[f2,av,nd,f3,av];rfl
   ·rw[iZ q3,kX q3,aq,au]
 | false=>
  rw[Bool.false_and,Bool.not_false,aq,Bool.or_false];by_cases e:i = -1
  ·subst e;rw[eV,au,eJ,show decide ((-1:Int) >= 0)=false from rfl,au];by_cases q2:x.kind=2
   ·rw[q2];rfl
   ·rw[iZ q2,kX q2,aq,Bool.false_or];by_cases q3:x.kind=3
    ·rw[q3];rfl
    ·rw[iZ q3,kX q3];rfl
  ·rw[iZ e,kX e,aq];cases x.kind==2 ||x.kind==3<;>rfl
theorem aAU{c:aF}(hz:iE c)(h:Pq c)(x:bV)(i:Int):C0 c x i=bif DF c x i then (AO c x i).bind (λy=>some (y.2.1,true))else some (c,false):=by
 have hql:=h.ql;unfold C0 DF xI;rw[aiu c hz,av,aip c hz,av,h.p.ok,bS,au];cases hc:iL c.config.aJ x with
 | false=>
  have e:Fs c x=some false:=by
   unfold Fs;rw[Xq,av,hc,Bool.false_and,Bool.and_false];rfl
  rw[e];rfl
 |true=>
 rw[azP h.p hc,av];cases A8 c x with
 |false=>rfl
 |true=>
 rw[bS,au];cases decide ((c.trace.length:Int) >= 2000)with
 |true=>rfl
 |false=>
 rw[au,cM,cM,Bool.not_false,cM,fC,aY (n:=(c.queue.length:Int)-1) (by omega) (by omega),av];unfold RB;cases hi:aM i 0 ((c.queue.length:Int)-1)with
 | true=>
  obtain⟨bW,h0,hq,f1,f2,f3⟩:=YV h hi;rw[iZ (show ¬ i = -1 by omega),bS,au,aq,au,cM,Bool.or_true,hq];by_cases q2:x.kind=2
  ·rw[show (x.kind==2)=true by rw[q2];rfl,aq,Bool.true_or,aq];by_cases hr:(c.bY.length:Int)<400
   ·rw[bF hr,bD (show ¬ (c.bY.length:Int) >= 400 by omega),au,aG ⟨h0,bW⟩];dsimp only;rw[f1,av,aG ⟨h0,bW⟩,f3,av,cM];unfold YU;cases (((ue c.bK (hD c c.queue[i.toNat].line) c.queue[i.toNat].write).kind==x.kind)&&(((ue c.bK (hD c c.queue[i.toNat].line) c.queue[i.toNat].write).ay==x.ay)&&(((ue c.bK (hD c c.queue[i.toNat].line) c.queue[i.toNat].write).row==x.row)&&(((ue c.bK (hD c c.queue[i.toNat].line) c.queue[i.toNat].write).bL==x.bL)&&true))))<;>rfl
   ·rw[bD hr,bF (show (c.bY.length:Int) >= 400 by omega)];rfl
  ·rw[kX q2,au,Bool.false_or];by_cases q3:x.kind=3
   ·rw[show (x.kind==3)=true by rw[q3];rfl,aq,aq];by_cases hr:(c.bY.length:Int)<400
    ·rw[bF hr,bD (show ¬ (c.bY.length:Int) >= 400 by omega),au,aG ⟨h0,bW⟩];dsimp only;rw[f1,av,aG ⟨h0,bW⟩,f3,av,cM];unfold YU;cases (((ue c.bK (hD c c.queue[i.toNat].line) c.queue[i.toNat].write).kind==x.kind)&&(((ue c.bK (hD c c.queue[i.toNat].line) c.queue[i.toNat].write).ay==x.ay)&&(((ue c.bK (hD c c.queue[i.toNat].line) c.queue[i.toNat].write).row==x.row)&&(((ue c.bK (hD c c.queue[i.toNat].line) c.queue[i.toNat].write).bL==x.bL)&&true))))<;>rfl
    ·rw[bD hr,bF (show (c.bY.length:Int) >= 400 by omega)];rfl
   ·rw[kX q3];rfl
 | false=>
  rw[Bool.false_and,Bool.not_false,aq,Bool.or_false];by_cases q2:x.kind=2
  ·rw[q2];cases decide ((c.bY.length:Int) >= 400)<;>rfl
  ·rw[kX q2,au,Bool.false_or];by_cases q3:x.kind=3
   ·rw[q3];cases decide ((c.bY.length:Int) >= 400)<;>rfl
   ·rw[kX q3,au,au];by_cases e:i = -1
    ·subst e;rfl
    ·rw[iZ e,kX e];rfl
theorem aAV{c:aF}(hz:iE c)(h:Pq c){x:bV}{i:Int}(hm:DF c x i=true):Bs c/\sX c.config.aJ c.bK x=true/\(x.kind=2\/x.kind=3->qK c i.toNat 100000/\0<=i)/\c.ready.aZ.length<=4:=by
 simp only[DF,bx,nq,decide_eq_false_iff_not]at hm;obtain⟨m1,m2,m3,m4⟩:=hm;simp only[A8,bx]at m2
 refine⟨Bs.of hz h.p.ok (by omega),?_,λhk=>?_,(Q1 h.p.rdy).2.2⟩
 ·unfold sX;rw[h.p.rk,m1,m2.1];rfl
 ·have e:(x.kind==2 || x.kind==3)=true:=by rcases hk with q | q <;>rw[q] <;>rfl
  rw[e,aq]at m4;simp only[RB,bx,decide_eq_true_eq]at m4;obtain⟨bW,h0,_⟩:=YV h m4.1;exact⟨qK.of hz h.p.ok bW (by omega),h0⟩
theorem aAW{c:aF}(hz:iE c)(x:bV)(i:Int):∃ y b,C0 c x i=some (y,b)/\Jt c x i=some (y,b)/\iE y:=by
 cases hk:rV c with
 | false=>
  refine⟨c,false,?_,?_,hz⟩
  ·unfold C0 xI;rw[aiu c hz,av,aip c hz,av,hk];rfl
  ·unfold Jt;rw[Yh c hz,av,aiq c hz,av,hk];rfl
 | true=>
  have h:=Pq.of hz hk;rw[aAU hz h];unfold Jt;rw[Yh c hz,av,aiq c hz,av,hk,bS,au,aAT h,av];cases hm:DF c x i with
  |false=>exact⟨c,false,rfl,rfl,hz⟩
  | true=>
   obtain⟨hb,ha,hs,hr⟩:=aAV hz h hm;have tu:=aAS hz hb hr ha hs;refine⟨DE c x i,true,?_,?_,tu⟩
   ·rw[aq,aAI hb ha hs];rfl
   ·rw[bS,au,aAJ hb ha hs,av];dsimp only;rw[Yh _ tu];rfl
theorem aAX(c:aF)(x:bV)(i:Int)(hI:LJ c):Wz c x i=some true:=by
 unfold Wz;obtain⟨y,e,h|⟨h1,h2,hz⟩⟩:=ay0 c hI (n:=1048576) (by omega) (by omega)
 ·rw[e,av,bF h];rfl
 ·obtain⟨d,b,e1,e2,tu⟩:=aAW hz x i;rw[e,av,bD (by omega),au];simp only[ay1 c hz,aim,e1,e2,ain c hz,ain _ tu,av,eJ,bS,au]
  refine aiy c hz _ _ λr0 r1 r2 r3 r4 r5 r6 r7 r8 r9 vm vn vo vp vr vt vu wL hk hh=>?_
  rw[bD (by omega),au]
  refine aiy d tu _ _ λr0 r1 r2 r3 r4 r5 r6 r7 r8 r9 vm vn vo vp vr vt vu wL hk hh=>?_
  rw[hh];simp only[av];rw[bD (by omega),au,eV,au];rfl
theorem aAY{H:Type}{dg:TypeId×Value->H}{w:World}{base:Nat}{v:Value}{d:DataW H}{p:af MemPlace}(hv:Value.okWide Tryz.prog w .any base 67 v)(h:DataW.Trod dg Tryz.prog w 0 (λ_=>true) true 67 v d p):It .Command Q7 w v:=
 acI ail Tryz.underlying67 hv h
theorem aAZ{w:World}{vs YW:af V}{us RC:Array Value}(h:bU w w.heap.size vs us.toList)(h1:bU w w.heap.size YW RC.toList)(n:Int):vU w [(true,vs),(true,YW),(false,[.int .i64 n])] #[.agg us,.agg RC,.int .i64 n]:=by
 refine⟨rfl,λi p hp=>?_⟩
 rcases i with _|_|_|i
 ·cases hp
  refine⟨_,rfl,.v _ _ ⟨us,rfl,by simpa using h.1,λj x hx=>?_⟩⟩
  obtain⟨u,hu,hr⟩:=h.2 j x hx;exact⟨u,by simpa using hu,hr _⟩
 ·cases hp
  refine⟨_,rfl,.v _ _ ⟨RC,rfl,by simpa using h1.1,λj x hx=>?_⟩⟩
  obtain⟨u,hu,hr⟩:=h1.2 j x hx;exact⟨u,by simpa using hu,hr _⟩
 ·cases hp;exact⟨.int .i64 n,rfl,.v _ _ ⟨#[.int .i64 n],rfl,rfl,λj x hx=>by rcases j with _|j<;>cases hx;exact⟨.int .i64 n,rfl,.int _ _ _⟩⟩⟩
 ·cases hp
theorem aA0(v0 v1 v2:Value)(w:World)(r0:It .cK LJ w v0)(r1:It .Command Q7 w v1)(r2:Y0 w v2):Calls Tryz.prog 3 #[v0,v1,v2] w λe w'=>e = .returned (.bool true)/\Below w.heap.size w w':=by
 obtain⟨x,hx,us,rfl,h0⟩:=r0;obtain⟨x1,zx,RC,rfl,h1⟩:=r1;obtain⟨n,rfl,_,_⟩:=r2;exact an6 avk (an7 (ai:=[(true,.cK),(true,.Command),(false,.int)]) (x:=(x,x1,n,())) (by kernel_rfl) (aAX x x1 n hx)) (aAZ h0 h1 n)
end Go.Proofs.YtecofnkoloihpaaGreat
