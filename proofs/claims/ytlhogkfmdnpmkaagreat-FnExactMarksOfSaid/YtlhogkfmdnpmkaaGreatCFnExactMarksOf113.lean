import Derived.Test.YtlhogkfmdnpmkaaGreatCFnExactMarksOf21
set_option linter.unusedVariables false
set_option linter.unusedSimpArgs false
set_option maxHeartbeats 8000000
set_option maxRecDepth 100000
namespace Go.Proofs.YtlhogkfmdnpmkaaGreat.GMarks
open RowKit YtlhogkfmdnpmkaaGreatW.PrintWords YtlhogkfmdnpmkaaGreatW.PrintLast YtlhogkfmdnpmkaaGreatW.PrintMore
attribute [local go_sem] Ua Ud Uu Ux Zo Zp Ub Ue
def Zj.l0:Nat→List Int→Int→Int→Option (Int)
 |0,_,_,_=>none
 |k+1,x0,x1,x5=>if x5<(x0.length:Int) then (if 0≤x5 then (if (rd x0 x5)=x1 then (Zj.l0 k x0 (wrap64 (x1+1)) (wrap64 (x5+1))) else (some (-1))) else (none)) else (some x1)
def Zj.f (k:Nat) (l0:List Int) (a1:Int):Option (Int):=Zj.l0 k l0 a1 0
theorem Zj.calls (k:Nat) (A0:Option Addr) (c0:Nat) (l0:List Int) (a1:Int) (r:Int) (w:World) (hr0:Kd.C (Kd.int .i64) w A0 l0.length l0) (hc0:l0.length≤c0) (h:Zj.f k l0 a1=some r) :
  Calls Tryz.prog 43 #[.slice A0 l0.length c0,.int .i64 a1] w fun e w'=>e=.returned (.int .i64 r)∧Xz w w':=by
 have bQ:=Xa.mk hr0;have fB:=Xa.mk hc0;clear hr0 hc0;have H:(Zj.l0 k l0 a1 0)=some r:=h;clear h;have H':=Xa.mk H;clear H;go_enter Tryz.func43,Tryz.ntmps43;go_wp2
 go_loopg [1,5] k (fun kq v1 v5 w'=>∃ (aF:Int) (aA:Int),v1=.int .i64 aF∧v5=.int .i64 aA∧Xa (Zj.l0 kq l0 aF aA=some r)∧Xa (kq≤k)∧Xz w w')
 case atStart=>exact ⟨(a1),(0),rg_,rg_,H',⟨nr_ _⟩,by repeat (first|exact Xz.refl _|apply Xz.step)⟩
 case round=>
  clear H';obtain ⟨aF,aA,rfl,rfl,HA,eF,⟨m1,rfl⟩⟩:=hrel
  cases gk with
  |zero=>exact absurd HA.out (by simp [Zj.l0])
  |succ k1=>
   have H:=HA.out;clear HA;simp only [Zj.l0] at H;by_cases c3:aA<(l0.length:Int)
   ·rw [if_pos c3] at H;have d9:decide (aA<(l0.length:Int))=true:=dt_ c3;clear c3;by_cases c4:0≤aA
    ·rw [if_pos c4] at H;have eO:decide (0≤aA)=true:=dt_ c4;clear c4;by_cases c5:(rd l0 aA)=aF
     ·rw [if_pos c5] at H;have eB:((rd l0 aA) == aF)=true:=eb_ c5;have eD:((rd l0 aA) != aF)=false:=nq_ c5;clear c5;have H':=Xa.mk H;clear H;have dF:0≤(aA:Int):=od_ as_;have dH:aA<(l0.length:Int):=od_ as_;obtain ⟨eG,e330,dS⟩:=Kd.at_int bQ.out aA dF dH;cases e330
      replace dF:=eq_true dF;replace dH:=eq_true dH;go_wp2;go_roundg k1
      case measure=>have:=eF.out;omega
      case rel=>exact ⟨(wrap64 (aF+1)),(wrap64 (aA+1)),rg_,rg_,H',⟨by have:=eF.out;omega⟩,by repeat (first|exact Xz.refl _|apply Xz.step)⟩
     ·rw [if_neg c5] at H;have eB:((rd l0 aA) == aF)=false:=nb_ c5;have eD:((rd l0 aA) != aF)=true:=nn_ c5;obtain rfl:=sj_ H;have dF:0≤(aA:Int):=od_ as_;have dH:aA<(l0.length:Int):=od_ as_;obtain ⟨eG,e330,dS⟩:=Kd.at_int bQ.out aA dF dH;cases e330
      replace dF:=eq_true dF;replace dH:=eq_true dH;go_wp2;go_ret
      exact ⟨by first|rfl|(simp;done)|(simp [*];done),by repeat (first|exact Xz.refl _|apply Xz.step)⟩
    ·rw [if_neg c4] at H;exact absurd H sm_
   ·rw [if_neg c3] at H;have d9:decide (aA<(l0.length:Int))=false:=df_ c3;clear c3;obtain rfl:=sj_ H;go_wp2;go_ret
    exact ⟨by first|rfl|(simp;done)|(simp [*];done),by repeat (first|exact Xz.refl _|apply Xz.step)⟩
def Zh.l0:Nat→List (S45)→Int→Int→Option (Int)
 |0,_,_,_=>none
 |k+1,x0,x1,x5=>if x5<(x0.length:Int) then (if 0≤x5 then (if ((Zm x0 x5).f0)=x1 then (if ((Zm x0 x5).f1)=(wrap64 (x1+1)) then (if (((Zm x0 x5).f2) != ((Int.tmod (wrap64 ((wrap64 (x1+1))+1)) 3) == 0))=true then (some (-1)) else (if ((Zm x0 x5).f3)=(wrap64 ((wrap64 ((wrap64 (x1+1))+1))+1)) then ((Zj.f k ((Zm x0 x5).f4) (wrap64 ((wrap64 ((wrap64 ((wrap64 (x1+1))+1))+1))+1))).bind fun bU=>(if bU<0 then (some (-1)) else (Zh.l0 k x0 bU (wrap64 (x5+1))))) else (some (-1)))) else (some (-1))) else (some (-1))) else (none)) else (some x1)
def Zh.f (k:Nat) (l0:List (S45)) (a1:Int):Option (Int):=Zh.l0 k l0 a1 0
theorem Zh.calls (k:Nat) (A0:Option Addr) (c0:Nat) (l0:List (S45)) (a1:Int) (r:Int) (w:World) (hr0:Kd.C k45 w A0 l0.length l0) (hc0:l0.length≤c0) (h:Zh.f k l0 a1=some r) :
  Calls Tryz.prog 19 #[.slice A0 l0.length c0,.int .i64 a1] w fun e w'=>e=.returned (.int .i64 r)∧Xz w w':=by
 have bQ:=Xa.mk hr0;have fB:=Xa.mk hc0;clear hr0 hc0;have H:(Zh.l0 k l0 a1 0)=some r:=h;clear h;have H':=Xa.mk H;clear H;go_enter Tryz.func19,Tryz.ntmps19;go_wp2
 go_loopg [1,5] k (fun kq v1 v5 w'=>∃ (aF:Int) (aA:Int),v1=.int .i64 aF∧v5=.int .i64 aA∧Xa (Zh.l0 kq l0 aF aA=some r)∧Xa (kq≤k)∧Xz w w')
 case atStart=>exact ⟨(a1),(0),rg_,rg_,H',⟨nr_ _⟩,by repeat (first|exact Xz.refl _|apply Xz.step)⟩
 case round=>
  clear H';obtain ⟨aF,aA,rfl,rfl,HA,eF,⟨m1,rfl⟩⟩:=hrel
  cases gk with
  |zero=>exact absurd HA.out (by simp [Zh.l0])
  |succ k1=>
   have H:=HA.out;clear HA;simp only [Zh.l0] at H;by_cases c3:aA<(l0.length:Int)
   ·rw [if_pos c3] at H;have d9:decide (aA<(l0.length:Int))=true:=dt_ c3;clear c3;by_cases c4:0≤aA
    ·rw [if_pos c4] at H;have eO:decide (0≤aA)=true:=dt_ c4;clear c4;by_cases c5:((Zm l0 aA).f0)=aF
     ·rw [if_pos c5] at H;have eB:(((Zm l0 aA).f0) == aF)=true:=eb_ c5;have eD:(((Zm l0 aA).f0) != aF)=false:=nq_ c5;clear c5;by_cases c6:((Zm l0 aA).f1)=(wrap64 (aF+1))
      ·rw [if_pos c6] at H;have eP:(((Zm l0 aA).f1) == (wrap64 (aF+1)))=true:=eb_ c6;have eQ:(((Zm l0 aA).f1) != (wrap64 (aF+1)))=false:=nq_ c6;clear c6;by_cases c7:(((Zm l0 aA).f2) != ((Int.tmod (wrap64 ((wrap64 (aF+1))+1)) 3) == 0))=true
       ·rw [if_pos c7] at H;have eT:(((Zm l0 aA).f2) != ((Int.tmod (wrap64 ((wrap64 (aF+1))+1)) 3) == 0))=true:=c7
        (try (have eU:decide (((Zm l0 aA).f2)=((Int.tmod (wrap64 ((wrap64 (aF+1))+1)) 3) == 0))=false:=by simpa using c7))
        (try (have eX:(((Zm l0 aA).f2) == ((Int.tmod (wrap64 ((wrap64 (aF+1))+1)) 3) == 0))=false:=by simpa using c7))
        (try (have c7b3:¬ (((Zm l0 aA).f2)=((Int.tmod (wrap64 ((wrap64 (aF+1))+1)) 3) == 0)):=by simpa using c7))
        clear c7;obtain rfl:=sj_ H;have aN:0≤(aA:Int):=od_ as_;have aO:aA<(l0.length:Int):=od_ as_;obtain ⟨aI,aU,aV,e331,bD,bE,bF,bG,aB,aD,aC⟩:=at_T45 bQ.out aA aN aO;cases e331
        have aZ:=Xa.mk aC;have aY:=Xa.mk aD;clear aC aD;replace aN:=eq_true aN;replace aO:=eq_true aO;have aS:0≤(aA:Int):=od_ as_;have aT:aA<(l0.length:Int):=od_ as_;obtain ⟨bA,bV,cB,e332,bM,bN,bO,bP,aM,aH,aG⟩:=at_T45 bQ.out aA aS aT;obtain rfl:aI=bA:=(by injection e332);have bL:=Xa.mk aG;have bK:=Xa.mk aH;clear aG aH;replace aS:=eq_true aS;replace aT:=eq_true aT;have aL:=sj_ (aB.symm.trans aM);injection aL with aL bJ bI;subst aL;subst bI;clear bJ;have aW:0≤(aA:Int):=od_ as_;have aX:aA<(l0.length:Int):=od_ as_;obtain ⟨bR,dD,dE,e333,cK,cO,cZ,dA,aR,aK,aJ⟩:=at_T45 bQ.out aA aW aX;obtain rfl:aI=bR:=(by injection e333);have bY:=Xa.mk aJ;have bW:=Xa.mk aK;clear aJ aK;replace aW:=eq_true aW;replace aX:=eq_true aX;have aL:=sj_ (aB.symm.trans aR);injection aL with aL bJ bI;subst aL;subst bI;clear bJ;go_wp2;go_ret
        exact ⟨by first|rfl|(simp;done)|(simp [*];done),by repeat (first|exact Xz.refl _|apply Xz.step)⟩
       ·rw [if_neg c7] at H
        have eT:(((Zm l0 aA).f2) != ((Int.tmod (wrap64 ((wrap64 (aF+1))+1)) 3) == 0))=false:=by simpa using c7
        (try (have eU:decide (((Zm l0 aA).f2)=((Int.tmod (wrap64 ((wrap64 (aF+1))+1)) 3) == 0))=true:=by simpa using c7))
        (try (have eX:(((Zm l0 aA).f2) == ((Int.tmod (wrap64 ((wrap64 (aF+1))+1)) 3) == 0))=true:=by simpa using c7))
        clear c7;by_cases c8:((Zm l0 aA).f3)=(wrap64 ((wrap64 ((wrap64 (aF+1))+1))+1))
        ·rw [if_pos c8] at H;have eY:(((Zm l0 aA).f3) == (wrap64 ((wrap64 ((wrap64 (aF+1))+1))+1)))=true:=eb_ c8;have eZ:(((Zm l0 aA).f3) != (wrap64 ((wrap64 ((wrap64 (aF+1))+1))+1)))=false:=nq_ c8;clear c8;replace H:=bo_ H;obtain ⟨bU,fA,H⟩:=H;replace H:(if bU<0 then (some (-1)) else (Zh.l0 k1 l0 bU (wrap64 (aA+1))))=some r:=H;have A9:=Xa.mk fA;clear fA;by_cases c10:bU<0
         ·rw [if_pos c10] at H;have eH:decide (bU<0)=true:=dt_ c10;clear c10;obtain rfl:=sj_ H;have aN:0≤(aA:Int):=od_ as_;have aO:aA<(l0.length:Int):=od_ as_;obtain ⟨aI,aU,aV,e331,bD,bE,bF,bG,aB,aD,aC⟩:=at_T45 bQ.out aA aN aO;cases e331
          have aZ:=Xa.mk aC;have aY:=Xa.mk aD;clear aC aD;replace aN:=eq_true aN;replace aO:=eq_true aO;have aS:0≤(aA:Int):=od_ as_;have aT:aA<(l0.length:Int):=od_ as_;obtain ⟨bA,bV,cB,e332,bM,bN,bO,bP,aM,aH,aG⟩:=at_T45 bQ.out aA aS aT;obtain rfl:aI=bA:=(by injection e332);have bL:=Xa.mk aG;have bK:=Xa.mk aH;clear aG aH;replace aS:=eq_true aS;replace aT:=eq_true aT;have aL:=sj_ (aB.symm.trans aM);injection aL with aL bJ bI;subst aL;subst bI;clear bJ;have aW:0≤(aA:Int):=od_ as_;have aX:aA<(l0.length:Int):=od_ as_;obtain ⟨bR,dD,dE,e333,cK,cO,cZ,dA,aR,aK,aJ⟩:=at_T45 bQ.out aA aW aX;obtain rfl:aI=bR:=(by injection e333);have bY:=Xa.mk aJ;have bW:=Xa.mk aK;clear aJ aK;replace aW:=eq_true aW;replace aX:=eq_true aX;have aL:=sj_ (aB.symm.trans aR);injection aL with aL bJ bI;subst aL;subst bI;clear bJ;have bS:0≤(aA:Int):=od_ as_;have bT:aA<(l0.length:Int):=od_ as_;obtain ⟨dC,dP,dR,e334,dL,dM,dN,dO,bH,aQ,aP⟩:=at_T45 bQ.out aA bS bT;obtain rfl:aI=dC:=(by injection e334);have dK:=Xa.mk aP;have dJ:=Xa.mk aQ;clear aP aQ;replace bS:=eq_true bS;replace bT:=eq_true bT;have aL:=sj_ (aB.symm.trans bH);injection aL with aL bJ bI;subst aL;subst bI;clear bJ;have dG:0≤(aA:Int):=od_ as_;have dI:aA<(l0.length:Int):=od_ as_;obtain ⟨dQ,dY,dZ,e335,dU,dV,dW,dX,dB,bC,bB⟩:=at_T45 bQ.out aA dG dI;obtain rfl:aI=dQ:=(by injection e335);have bZ:=Xa.mk bB;have bX:=Xa.mk bC;clear bB bC;replace dG:=eq_true dG;replace dI:=eq_true dI;have aL:=sj_ (aB.symm.trans dB);injection aL with aL bJ bI;subst aL;subst bI;clear bJ;go_wp2_with (first|((with_reducible refine Yh (f:=43) rfl ?_);refine Zz (some 56) rfl rfl Tryz.func43 kr_ rfl #[.slice aU ((Zm l0 aA).f4).length aV,.int .i64 (wrap64 ((wrap64 ((wrap64 ((wrap64 (aF+1))+1))+1))+1))] rfl ga_ ?_;(with_reducible refine (Zj.calls k1 _ _ ((Zm l0 aA).f4) (wrap64 ((wrap64 ((wrap64 ((wrap64 (aF+1))+1))+1))+1)) bU _ ?side1 ?side2 A9.out).mono ?_);(case side1=>exact Kd.ca_ bZ.out);(case side2=>exact bX.out);rintro e w' ⟨rfl,⟨nd,rfl⟩⟩;refine ⟨_,rfl,?_⟩));go_ret
          exact ⟨by first|rfl|(simp;done)|(simp [*];done),by repeat (first|exact Xz.refl _|apply Xz.step)⟩
         ·rw [if_neg c10] at H;have eH:decide (bU<0)=false:=df_ c10;clear c10;have H':=Xa.mk H;clear H;have aN:0≤(aA:Int):=od_ as_;have aO:aA<(l0.length:Int):=od_ as_;obtain ⟨aI,aU,aV,e331,bD,bE,bF,bG,aB,aD,aC⟩:=at_T45 bQ.out aA aN aO;cases e331
          have aZ:=Xa.mk aC;have aY:=Xa.mk aD;clear aC aD;replace aN:=eq_true aN;replace aO:=eq_true aO;have aS:0≤(aA:Int):=od_ as_;have aT:aA<(l0.length:Int):=od_ as_;obtain ⟨bA,bV,cB,e332,bM,bN,bO,bP,aM,aH,aG⟩:=at_T45 bQ.out aA aS aT;obtain rfl:aI=bA:=(by injection e332);have bL:=Xa.mk aG;have bK:=Xa.mk aH;clear aG aH;replace aS:=eq_true aS;replace aT:=eq_true aT;have aL:=sj_ (aB.symm.trans aM);injection aL with aL bJ bI;subst aL;subst bI;clear bJ;have aW:0≤(aA:Int):=od_ as_;have aX:aA<(l0.length:Int):=od_ as_;obtain ⟨bR,dD,dE,e333,cK,cO,cZ,dA,aR,aK,aJ⟩:=at_T45 bQ.out aA aW aX;obtain rfl:aI=bR:=(by injection e333);have bY:=Xa.mk aJ;have bW:=Xa.mk aK;clear aJ aK;replace aW:=eq_true aW;replace aX:=eq_true aX;have aL:=sj_ (aB.symm.trans aR);injection aL with aL bJ bI;subst aL;subst bI;clear bJ;have bS:0≤(aA:Int):=od_ as_;have bT:aA<(l0.length:Int):=od_ as_;obtain ⟨dC,dP,dR,e334,dL,dM,dN,dO,bH,aQ,aP⟩:=at_T45 bQ.out aA bS bT;obtain rfl:aI=dC:=(by injection e334);have dK:=Xa.mk aP;have dJ:=Xa.mk aQ;clear aP aQ;replace bS:=eq_true bS;replace bT:=eq_true bT;have aL:=sj_ (aB.symm.trans bH);injection aL with aL bJ bI;subst aL;subst bI;clear bJ;have dG:0≤(aA:Int):=od_ as_;have dI:aA<(l0.length:Int):=od_ as_;obtain ⟨dQ,dY,dZ,e335,dU,dV,dW,dX,dB,bC,bB⟩:=at_T45 bQ.out aA dG dI;obtain rfl:aI=dQ:=(by injection e335);have bZ:=Xa.mk bB;have bX:=Xa.mk bC;clear bB bC;replace dG:=eq_true dG;replace dI:=eq_true dI;have aL:=sj_ (aB.symm.trans dB);injection aL with aL bJ bI;subst aL;subst bI;clear bJ;go_wp2_with (first|((with_reducible refine Yh (f:=43) rfl ?_);refine Zz (some 56) rfl rfl Tryz.func43 kr_ rfl #[.slice aU ((Zm l0 aA).f4).length aV,.int .i64 (wrap64 ((wrap64 ((wrap64 ((wrap64 (aF+1))+1))+1))+1))] rfl ga_ ?_;(with_reducible refine (Zj.calls k1 _ _ ((Zm l0 aA).f4) (wrap64 ((wrap64 ((wrap64 ((wrap64 (aF+1))+1))+1))+1)) bU _ ?side1 ?side2 A9.out).mono ?_);(case side1=>exact Kd.ca_ bZ.out);(case side2=>exact bX.out);rintro e w' ⟨rfl,⟨nd,rfl⟩⟩;refine ⟨_,rfl,?_⟩));go_roundg k1
          case measure=>have:=eF.out;omega
          case rel=>exact ⟨(bU),(wrap64 (aA+1)),rg_,rg_,H',⟨by have:=eF.out;omega⟩,by repeat (first|exact Xz.refl _|apply Xz.step)⟩
        ·rw [if_neg c8] at H;have eY:(((Zm l0 aA).f3) == (wrap64 ((wrap64 ((wrap64 (aF+1))+1))+1)))=false:=nb_ c8;have eZ:(((Zm l0 aA).f3) != (wrap64 ((wrap64 ((wrap64 (aF+1))+1))+1)))=true:=nn_ c8;obtain rfl:=sj_ H;have aN:0≤(aA:Int):=od_ as_;have aO:aA<(l0.length:Int):=od_ as_;obtain ⟨aI,aU,aV,e331,bD,bE,bF,bG,aB,aD,aC⟩:=at_T45 bQ.out aA aN aO;cases e331
         have aZ:=Xa.mk aC;have aY:=Xa.mk aD;clear aC aD;replace aN:=eq_true aN;replace aO:=eq_true aO;have aS:0≤(aA:Int):=od_ as_;have aT:aA<(l0.length:Int):=od_ as_;obtain ⟨bA,bV,cB,e332,bM,bN,bO,bP,aM,aH,aG⟩:=at_T45 bQ.out aA aS aT;obtain rfl:aI=bA:=(by injection e332);have bL:=Xa.mk aG;have bK:=Xa.mk aH;clear aG aH;replace aS:=eq_true aS;replace aT:=eq_true aT;have aL:=sj_ (aB.symm.trans aM);injection aL with aL bJ bI;subst aL;subst bI;clear bJ;have aW:0≤(aA:Int):=od_ as_;have aX:aA<(l0.length:Int):=od_ as_;obtain ⟨bR,dD,dE,e333,cK,cO,cZ,dA,aR,aK,aJ⟩:=at_T45 bQ.out aA aW aX;obtain rfl:aI=bR:=(by injection e333);have bY:=Xa.mk aJ;have bW:=Xa.mk aK;clear aJ aK;replace aW:=eq_true aW;replace aX:=eq_true aX;have aL:=sj_ (aB.symm.trans aR);injection aL with aL bJ bI;subst aL;subst bI;clear bJ;have bS:0≤(aA:Int):=od_ as_;have bT:aA<(l0.length:Int):=od_ as_;obtain ⟨dC,dP,dR,e334,dL,dM,dN,dO,bH,aQ,aP⟩:=at_T45 bQ.out aA bS bT;obtain rfl:aI=dC:=(by injection e334);have dK:=Xa.mk aP;have dJ:=Xa.mk aQ;clear aP aQ;replace bS:=eq_true bS;replace bT:=eq_true bT;have aL:=sj_ (aB.symm.trans bH);injection aL with aL bJ bI;subst aL;subst bI;clear bJ;go_wp2;go_ret
         exact ⟨by first|rfl|(simp;done)|(simp [*];done),by repeat (first|exact Xz.refl _|apply Xz.step)⟩
      ·rw [if_neg c6] at H;have eP:(((Zm l0 aA).f1) == (wrap64 (aF+1)))=false:=nb_ c6;have eQ:(((Zm l0 aA).f1) != (wrap64 (aF+1)))=true:=nn_ c6;obtain rfl:=sj_ H;have aN:0≤(aA:Int):=od_ as_;have aO:aA<(l0.length:Int):=od_ as_;obtain ⟨aI,aU,aV,e331,bD,bE,bF,bG,aB,aD,aC⟩:=at_T45 bQ.out aA aN aO;cases e331
       have aZ:=Xa.mk aC;have aY:=Xa.mk aD;clear aC aD;replace aN:=eq_true aN;replace aO:=eq_true aO;have aS:0≤(aA:Int):=od_ as_;have aT:aA<(l0.length:Int):=od_ as_;obtain ⟨bA,bV,cB,e332,bM,bN,bO,bP,aM,aH,aG⟩:=at_T45 bQ.out aA aS aT;obtain rfl:aI=bA:=(by injection e332);have bL:=Xa.mk aG;have bK:=Xa.mk aH;clear aG aH;replace aS:=eq_true aS;replace aT:=eq_true aT;have aL:=sj_ (aB.symm.trans aM);injection aL with aL bJ bI;subst aL;subst bI;clear bJ;go_wp2;go_ret
       exact ⟨by first|rfl|(simp;done)|(simp [*];done),by repeat (first|exact Xz.refl _|apply Xz.step)⟩
     ·rw [if_neg c5] at H;have eB:(((Zm l0 aA).f0) == aF)=false:=nb_ c5;have eD:(((Zm l0 aA).f0) != aF)=true:=nn_ c5;obtain rfl:=sj_ H;have aN:0≤(aA:Int):=od_ as_;have aO:aA<(l0.length:Int):=od_ as_;obtain ⟨aI,aU,aV,e331,bD,bE,bF,bG,aB,aD,aC⟩:=at_T45 bQ.out aA aN aO;cases e331
      have aZ:=Xa.mk aC;have aY:=Xa.mk aD;clear aC aD;replace aN:=eq_true aN;replace aO:=eq_true aO;go_wp2;go_ret
      exact ⟨by first|rfl|(simp;done)|(simp [*];done),by repeat (first|exact Xz.refl _|apply Xz.step)⟩
    ·rw [if_neg c4] at H;exact absurd H sm_
   ·rw [if_neg c3] at H;have d9:decide (aA<(l0.length:Int))=false:=df_ c3;clear c3;obtain rfl:=sj_ H;go_wp2;go_ret
    exact ⟨by first|rfl|(simp;done)|(simp [*];done),by repeat (first|exact Xz.refl _|apply Xz.step)⟩
end Go.Proofs.YtlhogkfmdnpmkaaGreat.GMarks
