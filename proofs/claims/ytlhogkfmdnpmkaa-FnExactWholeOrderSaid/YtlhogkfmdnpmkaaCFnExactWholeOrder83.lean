import Derived.Test.YtlhogkfmdnpmkaaCFnExactWholeOrder21
set_option maxHeartbeats 8000000
set_option maxRecDepth 100000
namespace Go.Proofs.Ytlhogkfmdnpmkaa.GWhole
open Go.RowKit Go.Proofs.YtlhogkfmdnpmkaaW.PrintWords Go.Proofs.YtlhogkfmdnpmkaaW.PrintLast Go.Proofs.YtlhogkfmdnpmkaaW.PrintMore
attribute [local go_sem] Ui Uk max_two min_two Zx Zy Uj Ul
set_option linter.unusedVariables false
set_option linter.unusedSimpArgs false
mutual
def Us.f:Nat→Int→Int→Int→Int→List (S69)→List (S69)→Int→Int→Int→Int→List (S69)→List (S69)→Option (Bool)
 |0,_,_,_,_,_,_,_,_,_,_,_,_=>none
 |k+1,aI,aJ,aK,aL,aD,aF,aW,aX,aY,aZ,aS,aT=>if aI=aW then (if aJ=aX then (if aK=aY then (if aL=aZ then ((Xv.f k aD aS).bind fun fB=>(if fB=true then ((Xv.f k aF aT).bind fun dU=>(if dU=true then (some true) else (some false))) else (some false))) else (some false)) else (some false)) else (some false)) else (some false)
def Xv.l0:Nat→List (S69)→List (S69)→Int→Option (Bool)
 |0,_,_,_=>none
 |k+1,x0,x1,x5=>if x5<(x0.length:Int) then (if 0≤x5 then (if x5<(x1.length:Int) then ((Us.f k ((Xd x0 x5).f0) ((Xd x0 x5).f1) ((Xd x0 x5).f2) ((Xd x0 x5).f3) ((Xd x0 x5).f4) ((Xd x0 x5).f5) ((Xd x1 x5).f0) ((Xd x1 x5).f1) ((Xd x1 x5).f2) ((Xd x1 x5).f3) ((Xd x1 x5).f4) ((Xd x1 x5).f5)).bind fun t203=>(if t203=true then (Xv.l0 k x0 x1 (wrap64 (x5+1))) else (some false))) else (none)) else (none)) else (some true)
def Xv.f:Nat→List (S69)→List (S69)→Option (Bool)
 |0,_,_=>none
 |k+1,l0,l1=>if (l0.length:Int)=(l1.length:Int) then (Xv.l0 k l0 l1 0) else (some false)
end
theorem Us.step (k:Nat) (ih:∀ m_,m_<k→∀ (aI:Int) (aJ:Int) (aK:Int) (aL:Int) (aM:Option Addr) (aP:Nat) (aD:List (S69)) (aQ:Option Addr) (aR:Nat) (aF:List (S69)) (aW:Int) (aX:Int) (aY:Int) (aZ:Int) (bA:Option Addr) (bB:Nat) (aS:List (S69)) (bC:Option Addr) (bD:Nat) (aT:List (S69)) (r:Bool) (w:World) (eF:Kd.C k69 w aM aD.length aD) (dZ:aD.length≤aP) (eG:Kd.C k69 w aQ aF.length aF) (d9:aF.length≤aR) (eH:Kd.C k69 w bA aS.length aS) (eB:aS.length≤bB) (eO:Kd.C k69 w bC aT.length aT) (eD:aT.length≤bD) (h:Us.f m_ aI aJ aK aL aD aF aW aX aY aZ aS aT=some r),
  Calls Try.prog 44 #[.agg #[.int .i64 aI,.int .i64 aJ,.int .i64 aK,.int .i64 aL,.slice aM aD.length aP,.slice aQ aF.length aR],.agg #[.int .i64 aW,.int .i64 aX,.int .i64 aY,.int .i64 aZ,.slice bA aS.length bB,.slice bC aT.length bD]] w fun e w'=>e=.returned (.bool r)∧Below w.heap.size w w') (ih_laws_eqStmtS:∀ m_,m_<k→∀ (A0:Option Addr) (c0:Nat) (l0:List (S69)) (A1:Option Addr) (c1:Nat) (l1:List (S69)) (r:Bool) (w:World) (hr0:Kd.C k69 w A0 l0.length l0) (hc0:l0.length≤c0) (hr1:Kd.C k69 w A1 l1.length l1) (hc1:l1.length≤c1) (h:Xv.f m_ l0 l1=some r),
  Calls Try.prog 29 #[.slice A0 l0.length c0,.slice A1 l1.length c1] w fun e w'=>e=.returned (.bool r)∧Below w.heap.size w w'):∀ (aI:Int) (aJ:Int) (aK:Int) (aL:Int) (aM:Option Addr) (aP:Nat) (aD:List (S69)) (aQ:Option Addr) (aR:Nat) (aF:List (S69)) (aW:Int) (aX:Int) (aY:Int) (aZ:Int) (bA:Option Addr) (bB:Nat) (aS:List (S69)) (bC:Option Addr) (bD:Nat) (aT:List (S69)) (r:Bool) (w:World) (eF:Kd.C k69 w aM aD.length aD) (dZ:aD.length≤aP) (eG:Kd.C k69 w aQ aF.length aF) (d9:aF.length≤aR) (eH:Kd.C k69 w bA aS.length aS) (eB:aS.length≤bB) (eO:Kd.C k69 w bC aT.length aT) (eD:aT.length≤bD) (h:Us.f k aI aJ aK aL aD aF aW aX aY aZ aS aT=some r),
  Calls Try.prog 44 #[.agg #[.int .i64 aI,.int .i64 aJ,.int .i64 aK,.int .i64 aL,.slice aM aD.length aP,.slice aQ aF.length aR],.agg #[.int .i64 aW,.int .i64 aX,.int .i64 aY,.int .i64 aZ,.slice bA aS.length bB,.slice bC aT.length bD]] w fun e w'=>e=.returned (.bool r)∧Below w.heap.size w w':=by
 intro aI aJ aK aL aM aP aD aQ aR aF aW aX aY aZ bA bB aS bC bD aT r w eF dZ eG d9 eH eB eO eD h
 cases k with
 |zero=>exact absurd h (by simp [Us.f])
 |succ k=>
 simp only [Us.f] at h;have gI:=Try.underlying69;have fE:=Xa.mk eF;have fC:=Xa.mk dZ;clear eF dZ;have fK:=Xa.mk eG;have fI:=Xa.mk d9;clear eG d9;have fF:=Xa.mk eH;have fD:=Xa.mk eB;clear eH eB;have fM:=Xa.mk eO;have fJ:=Xa.mk eD;clear eO eD;have HB:=Xa.mk (Below.refl w.heap.size w);have H:(if aI=aW then (if aJ=aX then (if aK=aY then (if aL=aZ then ((Xv.f k aD aS).bind fun fB=>(if fB=true then ((Xv.f k aF aT).bind fun dU=>(if dU=true then (some true) else (some false))) else (some false))) else (some false)) else (some false)) else (some false)) else (some false))=some r:=h;clear h;by_cases c3:aI=aW
 ·rw [if_pos c3] at H;have fG:=beq_iff_eq.mpr c3;have fH:=bne_eq_false_iff_eq.mpr c3;clear c3;by_cases c4:aJ=aX
  ·rw [if_pos c4] at H;have fO:=beq_iff_eq.mpr c4;have gF:=bne_eq_false_iff_eq.mpr c4;clear c4;by_cases c5:aK=aY
   ·rw [if_pos c5] at H;have fZ:=beq_iff_eq.mpr c5;have gG:=bne_eq_false_iff_eq.mpr c5;clear c5;by_cases c6:aL=aZ
    ·rw [if_pos c6] at H;have gB:=beq_iff_eq.mpr c6;have gH:=bne_eq_false_iff_eq.mpr c6;clear c6;replace H:=Option.bind_eq_some_iff.mp H;obtain ⟨fB,fT,H⟩:=H;replace H:(if fB=true then ((Xv.f k aF aT).bind fun dU=>(if dU=true then (some true) else (some false))) else (some false))=some r:=H;have A7:=Xa.mk fT;clear fT;by_cases c8:fB=true
     ·subst c8
      replace H:((Xv.f k aF aT).bind fun dU=>(if dU=true then (some true) else (some false)))=some r:=(by rw [if_pos rfl] at H;exact H);replace H:=Option.bind_eq_some_iff.mp H;obtain ⟨dU,gJ,H⟩:=H;replace H:(if dU=true then (some true) else (some false))=some r:=H;have A9:=Xa.mk gJ;clear gJ;by_cases c10:dU=true
      ·subst c10
       replace H:(some true)=some r:=(by rw [if_pos rfl] at H;exact H);obtain rfl:=Option.some.inj H
       go_enter Try.func44,Try.ntmps44
       go_wp2_with (first|((with_reducible refine Zh (N:=2) rfl ?_);refine Zg ?hg (N:=2) ?hd (cs:=#[.int .i64 aI,.int .i64 aJ,.int .i64 aK,.int .i64 aL,.slice aM aD.length aP,.slice aQ aF.length aR]) (t:=69) ?hr ?_;(case hd|hg=>rfl);(case hr=>exact hr_);intro aC hg gL hbox hb;have aB:=Xa.mk (hbox);have dX:=Xa.mk ((ge_ hg (Xf (bl_ HB)):w.heap.size≤aC));have dV:=Xa.mk ((ge_ hg (Xf (bl_ HB)):w.heap.size≤aC));replace HB:=Xa.mk (Xe (bl_ HB) hb);clear hb hbox hg)|((with_reducible refine Zh (N:=3) rfl ?_);refine Zg ?hg (N:=3) ?hd (cs:=#[.int .i64 aW,.int .i64 aX,.int .i64 aY,.int .i64 aZ,.slice bA aS.length bB,.slice bC aT.length bD]) (t:=69) ?hr ?_;(case hd|hg=>rfl);(case hr=>exact hr_);intro aG hg gM hbox hb;have aH:=Xa.mk (hbox);have dY:=Xa.mk ((ge_ hg (Xf (bl_ HB)):w.heap.size≤aG));have dW:=Xa.mk ((ge_ hg (Xf (bl_ HB)):w.heap.size≤aG));replace HB:=Xa.mk (Xe (bl_ HB) hb);have aN:=Xa.mk ((by rw [hg];exact Nat.ne_of_lt (Yu (g:=aC) (o:=.cells #[.int .i64 aI,.int .i64 aJ,.int .i64 aK,.int .i64 aL,.slice aM aD.length aP,.slice aQ aF.length aR] 69 (0,0)) (ba_ aB)):aC≠aG));have aO:=Xa.mk ((by rw [hg];exact Nat.ne_of_gt (Yu (g:=aC) (o:=.cells #[.int .i64 aI,.int .i64 aJ,.int .i64 aK,.int .i64 aL,.slice aM aD.length aP,.slice aQ aF.length aR] 69 (0,0)) (ba_ aB)):aG≠aC));replace aB:=Xa.mk (Xt (g:=aC) (o:=.cells #[.int .i64 aI,.int .i64 aJ,.int .i64 aK,.int .i64 aL,.slice aM aD.length aP,.slice aQ aF.length aR] 69 (0,0)) (ba_ aB) hb);clear hb hbox hg;have hnb13:=aN.out;have hnc13:=aO.out;obtain ⟨hcz14_0,hcz14_1,hcz14_2,hcz14_3,hcz14_4,hcz14_5⟩:=Zt aB.out;obtain ⟨hfz14_0,hfz14_1,hfz14_2,hfz14_3,hfz14_4,hfz14_5⟩:=Zu aB.out;obtain ⟨hcz15_0,hcz15_1,hcz15_2,hcz15_3,hcz15_4,hcz15_5⟩:=Zt aH.out;obtain ⟨hfz15_0,hfz15_1,hfz15_2,hfz15_3,hfz15_4,hfz15_5⟩:=Zu aH.out)|((with_reducible refine Xi (f:=29) rfl ?_);refine Yb (some 29) rfl rfl Try.func29 (by kernel_rfl) rfl #[.slice aM aD.length aP,.slice bA aS.length bB] rfl ga_ ?_;(with_reducible refine (ih_laws_eqStmtS k (by omega) _ _ aD _ _ aS true _ ?side1 ?side2 ?side3 ?side4 A7.out).mono ?_);(case side1=>exact Kd.ca_ (Kd.Xr fE.out HB.out));(case side2=>exact fC.out);(case side3=>exact Kd.ca_ (Kd.Xr fF.out HB.out));(case side4=>exact fD.out);rintro e w16 ⟨rfl,hb⟩;refine ⟨_,rfl,?_⟩;replace aB:=Xa.mk (Xt (g:=aC) (o:=.cells #[.int .i64 aI,.int .i64 aJ,.int .i64 aK,.int .i64 aL,.slice aM aD.length aP,.slice aQ aF.length aR] 69 (0,0)) (ba_ aB) hb);replace aH:=Xa.mk (Xt (g:=aG) (o:=.cells #[.int .i64 aW,.int .i64 aX,.int .i64 aY,.int .i64 aZ,.slice bA aS.length bB,.slice bC aT.length bD] 69 (0,0)) (ba_ aH) hb);replace HB:=Xa.mk (Xe (bl_ HB) hb);clear hb;obtain ⟨hcz17_0,hcz17_1,hcz17_2,hcz17_3,hcz17_4,hcz17_5⟩:=Zt aB.out;obtain ⟨hfz17_0,hfz17_1,hfz17_2,hfz17_3,hfz17_4,hfz17_5⟩:=Zu aB.out;obtain ⟨hcz18_0,hcz18_1,hcz18_2,hcz18_3,hcz18_4,hcz18_5⟩:=Zt aH.out;obtain ⟨hfz18_0,hfz18_1,hfz18_2,hfz18_3,hfz18_4,hfz18_5⟩:=Zu aH.out)|((with_reducible refine Xi (f:=29) rfl ?_);refine Yb (some 35) rfl rfl Try.func29 (by kernel_rfl) rfl #[.slice aQ aF.length aR,.slice bC aT.length bD] rfl ga_ ?_;(with_reducible refine (ih_laws_eqStmtS k (by omega) _ _ aF _ _ aT true _ ?side1 ?side2 ?side3 ?side4 A9.out).mono ?_);(case side1=>exact Kd.ca_ (Kd.Xr fK.out HB.out));(case side2=>exact fI.out);(case side3=>exact Kd.ca_ (Kd.Xr fM.out HB.out));(case side4=>exact fJ.out);rintro e w19 ⟨rfl,hb⟩;refine ⟨_,rfl,?_⟩;replace aB:=Xa.mk (Xt (g:=aC) (o:=.cells #[.int .i64 aI,.int .i64 aJ,.int .i64 aK,.int .i64 aL,.slice aM aD.length aP,.slice aQ aF.length aR] 69 (0,0)) (ba_ aB) hb);replace aH:=Xa.mk (Xt (g:=aG) (o:=.cells #[.int .i64 aW,.int .i64 aX,.int .i64 aY,.int .i64 aZ,.slice bA aS.length bB,.slice bC aT.length bD] 69 (0,0)) (ba_ aH) hb);replace HB:=Xa.mk (Xe (bl_ HB) hb);clear hb))
       go_ret
       exact ⟨rf_,bl_ HB⟩
      ·replace c10:=Bool.eq_false_iff.mpr c10;subst c10
       replace H:(some false)=some r:=(by rw [if_neg (show ¬ (false=true) by decide)] at H;exact H);obtain rfl:=Option.some.inj H
       go_enter Try.func44,Try.ntmps44
       go_wp2_with (first|((with_reducible refine Zh (N:=2) rfl ?_);refine Zg ?hg (N:=2) ?hd (cs:=#[.int .i64 aI,.int .i64 aJ,.int .i64 aK,.int .i64 aL,.slice aM aD.length aP,.slice aQ aF.length aR]) (t:=69) ?hr ?_;(case hd|hg=>rfl);(case hr=>exact hr_);intro aC hg w20 hbox hb;have aB:=Xa.mk (hbox);have dX:=Xa.mk ((ge_ hg (Xf (bl_ HB)):w.heap.size≤aC));have dV:=Xa.mk ((ge_ hg (Xf (bl_ HB)):w.heap.size≤aC));replace HB:=Xa.mk (Xe (bl_ HB) hb);clear hb hbox hg)|((with_reducible refine Zh (N:=3) rfl ?_);refine Zg ?hg (N:=3) ?hd (cs:=#[.int .i64 aW,.int .i64 aX,.int .i64 aY,.int .i64 aZ,.slice bA aS.length bB,.slice bC aT.length bD]) (t:=69) ?hr ?_;(case hd|hg=>rfl);(case hr=>exact hr_);intro aG hg w21 hbox hb;have aH:=Xa.mk (hbox);have dY:=Xa.mk ((ge_ hg (Xf (bl_ HB)):w.heap.size≤aG));have dW:=Xa.mk ((ge_ hg (Xf (bl_ HB)):w.heap.size≤aG));replace HB:=Xa.mk (Xe (bl_ HB) hb);have aN:=Xa.mk ((by rw [hg];exact Nat.ne_of_lt (Yu (g:=aC) (o:=.cells #[.int .i64 aI,.int .i64 aJ,.int .i64 aK,.int .i64 aL,.slice aM aD.length aP,.slice aQ aF.length aR] 69 (0,0)) (ba_ aB)):aC≠aG));have aO:=Xa.mk ((by rw [hg];exact Nat.ne_of_gt (Yu (g:=aC) (o:=.cells #[.int .i64 aI,.int .i64 aJ,.int .i64 aK,.int .i64 aL,.slice aM aD.length aP,.slice aQ aF.length aR] 69 (0,0)) (ba_ aB)):aG≠aC));replace aB:=Xa.mk (Xt (g:=aC) (o:=.cells #[.int .i64 aI,.int .i64 aJ,.int .i64 aK,.int .i64 aL,.slice aM aD.length aP,.slice aQ aF.length aR] 69 (0,0)) (ba_ aB) hb);clear hb hbox hg;have hnb22:=aN.out;have hnc22:=aO.out;obtain ⟨hcz23_0,hcz23_1,hcz23_2,hcz23_3,hcz23_4,hcz23_5⟩:=Zt aB.out;obtain ⟨hfz23_0,hfz23_1,hfz23_2,hfz23_3,hfz23_4,hfz23_5⟩:=Zu aB.out;obtain ⟨hcz24_0,hcz24_1,hcz24_2,hcz24_3,hcz24_4,hcz24_5⟩:=Zt aH.out;obtain ⟨hfz24_0,hfz24_1,hfz24_2,hfz24_3,hfz24_4,hfz24_5⟩:=Zu aH.out)|((with_reducible refine Xi (f:=29) rfl ?_);refine Yb (some 29) rfl rfl Try.func29 (by kernel_rfl) rfl #[.slice aM aD.length aP,.slice bA aS.length bB] rfl ga_ ?_;(with_reducible refine (ih_laws_eqStmtS k (by omega) _ _ aD _ _ aS true _ ?side1 ?side2 ?side3 ?side4 A7.out).mono ?_);(case side1=>exact Kd.ca_ (Kd.Xr fE.out HB.out));(case side2=>exact fC.out);(case side3=>exact Kd.ca_ (Kd.Xr fF.out HB.out));(case side4=>exact fD.out);rintro e w25 ⟨rfl,hb⟩;refine ⟨_,rfl,?_⟩;replace aB:=Xa.mk (Xt (g:=aC) (o:=.cells #[.int .i64 aI,.int .i64 aJ,.int .i64 aK,.int .i64 aL,.slice aM aD.length aP,.slice aQ aF.length aR] 69 (0,0)) (ba_ aB) hb);replace aH:=Xa.mk (Xt (g:=aG) (o:=.cells #[.int .i64 aW,.int .i64 aX,.int .i64 aY,.int .i64 aZ,.slice bA aS.length bB,.slice bC aT.length bD] 69 (0,0)) (ba_ aH) hb);replace HB:=Xa.mk (Xe (bl_ HB) hb);clear hb;obtain ⟨hcz26_0,hcz26_1,hcz26_2,hcz26_3,hcz26_4,hcz26_5⟩:=Zt aB.out;obtain ⟨hfz26_0,hfz26_1,hfz26_2,hfz26_3,hfz26_4,hfz26_5⟩:=Zu aB.out;obtain ⟨hcz27_0,hcz27_1,hcz27_2,hcz27_3,hcz27_4,hcz27_5⟩:=Zt aH.out;obtain ⟨hfz27_0,hfz27_1,hfz27_2,hfz27_3,hfz27_4,hfz27_5⟩:=Zu aH.out)|((with_reducible refine Xi (f:=29) rfl ?_);refine Yb (some 35) rfl rfl Try.func29 (by kernel_rfl) rfl #[.slice aQ aF.length aR,.slice bC aT.length bD] rfl ga_ ?_;(with_reducible refine (ih_laws_eqStmtS k (by omega) _ _ aF _ _ aT false _ ?side1 ?side2 ?side3 ?side4 A9.out).mono ?_);(case side1=>exact Kd.ca_ (Kd.Xr fK.out HB.out));(case side2=>exact fI.out);(case side3=>exact Kd.ca_ (Kd.Xr fM.out HB.out));(case side4=>exact fJ.out);rintro e w28 ⟨rfl,hb⟩;refine ⟨_,rfl,?_⟩;replace aB:=Xa.mk (Xt (g:=aC) (o:=.cells #[.int .i64 aI,.int .i64 aJ,.int .i64 aK,.int .i64 aL,.slice aM aD.length aP,.slice aQ aF.length aR] 69 (0,0)) (ba_ aB) hb);replace aH:=Xa.mk (Xt (g:=aG) (o:=.cells #[.int .i64 aW,.int .i64 aX,.int .i64 aY,.int .i64 aZ,.slice bA aS.length bB,.slice bC aT.length bD] 69 (0,0)) (ba_ aH) hb);replace HB:=Xa.mk (Xe (bl_ HB) hb);clear hb))
       go_ret
       exact ⟨rf_,bl_ HB⟩
     ·replace c8:=Bool.eq_false_iff.mpr c8;subst c8
      replace H:(some false)=some r:=(by rw [if_neg (show ¬ (false=true) by decide)] at H;exact H);obtain rfl:=Option.some.inj H
      go_enter Try.func44,Try.ntmps44
      go_wp2_with (first|((with_reducible refine Zh (N:=2) rfl ?_);refine Zg ?hg (N:=2) ?hd (cs:=#[.int .i64 aI,.int .i64 aJ,.int .i64 aK,.int .i64 aL,.slice aM aD.length aP,.slice aQ aF.length aR]) (t:=69) ?hr ?_;(case hd|hg=>rfl);(case hr=>exact hr_);intro aC hg w29 hbox hb;have aB:=Xa.mk (hbox);have dX:=Xa.mk ((ge_ hg (Xf (bl_ HB)):w.heap.size≤aC));have dV:=Xa.mk ((ge_ hg (Xf (bl_ HB)):w.heap.size≤aC));replace HB:=Xa.mk (Xe (bl_ HB) hb);clear hb hbox hg)|((with_reducible refine Zh (N:=3) rfl ?_);refine Zg ?hg (N:=3) ?hd (cs:=#[.int .i64 aW,.int .i64 aX,.int .i64 aY,.int .i64 aZ,.slice bA aS.length bB,.slice bC aT.length bD]) (t:=69) ?hr ?_;(case hd|hg=>rfl);(case hr=>exact hr_);intro aG hg w30 hbox hb;have aH:=Xa.mk (hbox);have dY:=Xa.mk ((ge_ hg (Xf (bl_ HB)):w.heap.size≤aG));have dW:=Xa.mk ((ge_ hg (Xf (bl_ HB)):w.heap.size≤aG));replace HB:=Xa.mk (Xe (bl_ HB) hb);have aN:=Xa.mk ((by rw [hg];exact Nat.ne_of_lt (Yu (g:=aC) (o:=.cells #[.int .i64 aI,.int .i64 aJ,.int .i64 aK,.int .i64 aL,.slice aM aD.length aP,.slice aQ aF.length aR] 69 (0,0)) (ba_ aB)):aC≠aG));have aO:=Xa.mk ((by rw [hg];exact Nat.ne_of_gt (Yu (g:=aC) (o:=.cells #[.int .i64 aI,.int .i64 aJ,.int .i64 aK,.int .i64 aL,.slice aM aD.length aP,.slice aQ aF.length aR] 69 (0,0)) (ba_ aB)):aG≠aC));replace aB:=Xa.mk (Xt (g:=aC) (o:=.cells #[.int .i64 aI,.int .i64 aJ,.int .i64 aK,.int .i64 aL,.slice aM aD.length aP,.slice aQ aF.length aR] 69 (0,0)) (ba_ aB) hb);clear hb hbox hg;have hnb31:=aN.out;have hnc31:=aO.out;obtain ⟨hcz32_0,hcz32_1,hcz32_2,hcz32_3,hcz32_4,hcz32_5⟩:=Zt aB.out;obtain ⟨hfz32_0,hfz32_1,hfz32_2,hfz32_3,hfz32_4,hfz32_5⟩:=Zu aB.out;obtain ⟨hcz33_0,hcz33_1,hcz33_2,hcz33_3,hcz33_4,hcz33_5⟩:=Zt aH.out;obtain ⟨hfz33_0,hfz33_1,hfz33_2,hfz33_3,hfz33_4,hfz33_5⟩:=Zu aH.out)|((with_reducible refine Xi (f:=29) rfl ?_);refine Yb (some 29) rfl rfl Try.func29 (by kernel_rfl) rfl #[.slice aM aD.length aP,.slice bA aS.length bB] rfl ga_ ?_;(with_reducible refine (ih_laws_eqStmtS k (by omega) _ _ aD _ _ aS false _ ?side1 ?side2 ?side3 ?side4 A7.out).mono ?_);(case side1=>exact Kd.ca_ (Kd.Xr fE.out HB.out));(case side2=>exact fC.out);(case side3=>exact Kd.ca_ (Kd.Xr fF.out HB.out));(case side4=>exact fD.out);rintro e w34 ⟨rfl,hb⟩;refine ⟨_,rfl,?_⟩;replace aB:=Xa.mk (Xt (g:=aC) (o:=.cells #[.int .i64 aI,.int .i64 aJ,.int .i64 aK,.int .i64 aL,.slice aM aD.length aP,.slice aQ aF.length aR] 69 (0,0)) (ba_ aB) hb);replace aH:=Xa.mk (Xt (g:=aG) (o:=.cells #[.int .i64 aW,.int .i64 aX,.int .i64 aY,.int .i64 aZ,.slice bA aS.length bB,.slice bC aT.length bD] 69 (0,0)) (ba_ aH) hb);replace HB:=Xa.mk (Xe (bl_ HB) hb);clear hb))
      go_ret
      exact ⟨rf_,bl_ HB⟩
    ·rw [if_neg c6] at H;have gB:=beq_eq_false_iff_ne.mpr c6;have gH:=bne_iff_ne.mpr c6;obtain rfl:=Option.some.inj H
     go_enter Try.func44,Try.ntmps44
     go_wp2_with (first|((with_reducible refine Zh (N:=2) rfl ?_);refine Zg ?hg (N:=2) ?hd (cs:=#[.int .i64 aI,.int .i64 aJ,.int .i64 aK,.int .i64 aL,.slice aM aD.length aP,.slice aQ aF.length aR]) (t:=69) ?hr ?_;(case hd|hg=>rfl);(case hr=>exact hr_);intro aC hg w35 hbox hb;have aB:=Xa.mk (hbox);have dX:=Xa.mk ((ge_ hg (Xf (bl_ HB)):w.heap.size≤aC));have dV:=Xa.mk ((ge_ hg (Xf (bl_ HB)):w.heap.size≤aC));replace HB:=Xa.mk (Xe (bl_ HB) hb);clear hb hbox hg)|((with_reducible refine Zh (N:=3) rfl ?_);refine Zg ?hg (N:=3) ?hd (cs:=#[.int .i64 aW,.int .i64 aX,.int .i64 aY,.int .i64 aZ,.slice bA aS.length bB,.slice bC aT.length bD]) (t:=69) ?hr ?_;(case hd|hg=>rfl);(case hr=>exact hr_);intro aG hg w36 hbox hb;have aH:=Xa.mk (hbox);have dY:=Xa.mk ((ge_ hg (Xf (bl_ HB)):w.heap.size≤aG));have dW:=Xa.mk ((ge_ hg (Xf (bl_ HB)):w.heap.size≤aG));replace HB:=Xa.mk (Xe (bl_ HB) hb);have aN:=Xa.mk ((by rw [hg];exact Nat.ne_of_lt (Yu (g:=aC) (o:=.cells #[.int .i64 aI,.int .i64 aJ,.int .i64 aK,.int .i64 aL,.slice aM aD.length aP,.slice aQ aF.length aR] 69 (0,0)) (ba_ aB)):aC≠aG));have aO:=Xa.mk ((by rw [hg];exact Nat.ne_of_gt (Yu (g:=aC) (o:=.cells #[.int .i64 aI,.int .i64 aJ,.int .i64 aK,.int .i64 aL,.slice aM aD.length aP,.slice aQ aF.length aR] 69 (0,0)) (ba_ aB)):aG≠aC));replace aB:=Xa.mk (Xt (g:=aC) (o:=.cells #[.int .i64 aI,.int .i64 aJ,.int .i64 aK,.int .i64 aL,.slice aM aD.length aP,.slice aQ aF.length aR] 69 (0,0)) (ba_ aB) hb);clear hb hbox hg;have hnb37:=aN.out;have hnc37:=aO.out;obtain ⟨hcz38_0,hcz38_1,hcz38_2,hcz38_3,hcz38_4,hcz38_5⟩:=Zt aB.out;obtain ⟨hfz38_0,hfz38_1,hfz38_2,hfz38_3,hfz38_4,hfz38_5⟩:=Zu aB.out;obtain ⟨hcz39_0,hcz39_1,hcz39_2,hcz39_3,hcz39_4,hcz39_5⟩:=Zt aH.out;obtain ⟨hfz39_0,hfz39_1,hfz39_2,hfz39_3,hfz39_4,hfz39_5⟩:=Zu aH.out))
     go_ret
     exact ⟨rf_,bl_ HB⟩
   ·rw [if_neg c5] at H;have fZ:=beq_eq_false_iff_ne.mpr c5;have gG:=bne_iff_ne.mpr c5;obtain rfl:=Option.some.inj H
    go_enter Try.func44,Try.ntmps44
    go_wp2_with (first|((with_reducible refine Zh (N:=2) rfl ?_);refine Zg ?hg (N:=2) ?hd (cs:=#[.int .i64 aI,.int .i64 aJ,.int .i64 aK,.int .i64 aL,.slice aM aD.length aP,.slice aQ aF.length aR]) (t:=69) ?hr ?_;(case hd|hg=>rfl);(case hr=>exact hr_);intro aC hg w40 hbox hb;have aB:=Xa.mk (hbox);have dX:=Xa.mk ((ge_ hg (Xf (bl_ HB)):w.heap.size≤aC));have dV:=Xa.mk ((ge_ hg (Xf (bl_ HB)):w.heap.size≤aC));replace HB:=Xa.mk (Xe (bl_ HB) hb);clear hb hbox hg)|((with_reducible refine Zh (N:=3) rfl ?_);refine Zg ?hg (N:=3) ?hd (cs:=#[.int .i64 aW,.int .i64 aX,.int .i64 aY,.int .i64 aZ,.slice bA aS.length bB,.slice bC aT.length bD]) (t:=69) ?hr ?_;(case hd|hg=>rfl);(case hr=>exact hr_);intro aG hg w41 hbox hb;have aH:=Xa.mk (hbox);have dY:=Xa.mk ((ge_ hg (Xf (bl_ HB)):w.heap.size≤aG));have dW:=Xa.mk ((ge_ hg (Xf (bl_ HB)):w.heap.size≤aG));replace HB:=Xa.mk (Xe (bl_ HB) hb);have aN:=Xa.mk ((by rw [hg];exact Nat.ne_of_lt (Yu (g:=aC) (o:=.cells #[.int .i64 aI,.int .i64 aJ,.int .i64 aK,.int .i64 aL,.slice aM aD.length aP,.slice aQ aF.length aR] 69 (0,0)) (ba_ aB)):aC≠aG));have aO:=Xa.mk ((by rw [hg];exact Nat.ne_of_gt (Yu (g:=aC) (o:=.cells #[.int .i64 aI,.int .i64 aJ,.int .i64 aK,.int .i64 aL,.slice aM aD.length aP,.slice aQ aF.length aR] 69 (0,0)) (ba_ aB)):aG≠aC));replace aB:=Xa.mk (Xt (g:=aC) (o:=.cells #[.int .i64 aI,.int .i64 aJ,.int .i64 aK,.int .i64 aL,.slice aM aD.length aP,.slice aQ aF.length aR] 69 (0,0)) (ba_ aB) hb);clear hb hbox hg;have hnb42:=aN.out;have hnc42:=aO.out;obtain ⟨hcz43_0,hcz43_1,hcz43_2,hcz43_3,hcz43_4,hcz43_5⟩:=Zt aB.out;obtain ⟨hfz43_0,hfz43_1,hfz43_2,hfz43_3,hfz43_4,hfz43_5⟩:=Zu aB.out;obtain ⟨hcz44_0,hcz44_1,hcz44_2,hcz44_3,hcz44_4,hcz44_5⟩:=Zt aH.out;obtain ⟨hfz44_0,hfz44_1,hfz44_2,hfz44_3,hfz44_4,hfz44_5⟩:=Zu aH.out))
    go_ret
    exact ⟨rf_,bl_ HB⟩
  ·rw [if_neg c4] at H;have fO:=beq_eq_false_iff_ne.mpr c4;have gF:=bne_iff_ne.mpr c4;obtain rfl:=Option.some.inj H
   go_enter Try.func44,Try.ntmps44
   go_wp2_with (first|((with_reducible refine Zh (N:=2) rfl ?_);refine Zg ?hg (N:=2) ?hd (cs:=#[.int .i64 aI,.int .i64 aJ,.int .i64 aK,.int .i64 aL,.slice aM aD.length aP,.slice aQ aF.length aR]) (t:=69) ?hr ?_;(case hd|hg=>rfl);(case hr=>exact hr_);intro aC hg w45 hbox hb;have aB:=Xa.mk (hbox);have dX:=Xa.mk ((ge_ hg (Xf (bl_ HB)):w.heap.size≤aC));have dV:=Xa.mk ((ge_ hg (Xf (bl_ HB)):w.heap.size≤aC));replace HB:=Xa.mk (Xe (bl_ HB) hb);clear hb hbox hg)|((with_reducible refine Zh (N:=3) rfl ?_);refine Zg ?hg (N:=3) ?hd (cs:=#[.int .i64 aW,.int .i64 aX,.int .i64 aY,.int .i64 aZ,.slice bA aS.length bB,.slice bC aT.length bD]) (t:=69) ?hr ?_;(case hd|hg=>rfl);(case hr=>exact hr_);intro aG hg w46 hbox hb;have aH:=Xa.mk (hbox);have dY:=Xa.mk ((ge_ hg (Xf (bl_ HB)):w.heap.size≤aG));have dW:=Xa.mk ((ge_ hg (Xf (bl_ HB)):w.heap.size≤aG));replace HB:=Xa.mk (Xe (bl_ HB) hb);have aN:=Xa.mk ((by rw [hg];exact Nat.ne_of_lt (Yu (g:=aC) (o:=.cells #[.int .i64 aI,.int .i64 aJ,.int .i64 aK,.int .i64 aL,.slice aM aD.length aP,.slice aQ aF.length aR] 69 (0,0)) (ba_ aB)):aC≠aG));have aO:=Xa.mk ((by rw [hg];exact Nat.ne_of_gt (Yu (g:=aC) (o:=.cells #[.int .i64 aI,.int .i64 aJ,.int .i64 aK,.int .i64 aL,.slice aM aD.length aP,.slice aQ aF.length aR] 69 (0,0)) (ba_ aB)):aG≠aC));replace aB:=Xa.mk (Xt (g:=aC) (o:=.cells #[.int .i64 aI,.int .i64 aJ,.int .i64 aK,.int .i64 aL,.slice aM aD.length aP,.slice aQ aF.length aR] 69 (0,0)) (ba_ aB) hb);clear hb hbox hg;have hnb47:=aN.out;have hnc47:=aO.out;obtain ⟨hcz48_0,hcz48_1,hcz48_2,hcz48_3,hcz48_4,hcz48_5⟩:=Zt aB.out;obtain ⟨hfz48_0,hfz48_1,hfz48_2,hfz48_3,hfz48_4,hfz48_5⟩:=Zu aB.out;obtain ⟨hcz49_0,hcz49_1,hcz49_2,hcz49_3,hcz49_4,hcz49_5⟩:=Zt aH.out;obtain ⟨hfz49_0,hfz49_1,hfz49_2,hfz49_3,hfz49_4,hfz49_5⟩:=Zu aH.out))
   go_ret
   exact ⟨rf_,bl_ HB⟩
 ·rw [if_neg c3] at H;have fG:=beq_eq_false_iff_ne.mpr c3;have fH:=bne_iff_ne.mpr c3;obtain rfl:=Option.some.inj H
  go_enter Try.func44,Try.ntmps44
  go_wp2_with (first|((with_reducible refine Zh (N:=2) rfl ?_);refine Zg ?hg (N:=2) ?hd (cs:=#[.int .i64 aI,.int .i64 aJ,.int .i64 aK,.int .i64 aL,.slice aM aD.length aP,.slice aQ aF.length aR]) (t:=69) ?hr ?_;(case hd|hg=>rfl);(case hr=>exact hr_);intro aC hg w50 hbox hb;have aB:=Xa.mk (hbox);have dX:=Xa.mk ((ge_ hg (Xf (bl_ HB)):w.heap.size≤aC));have dV:=Xa.mk ((ge_ hg (Xf (bl_ HB)):w.heap.size≤aC));replace HB:=Xa.mk (Xe (bl_ HB) hb);clear hb hbox hg)|((with_reducible refine Zh (N:=3) rfl ?_);refine Zg ?hg (N:=3) ?hd (cs:=#[.int .i64 aW,.int .i64 aX,.int .i64 aY,.int .i64 aZ,.slice bA aS.length bB,.slice bC aT.length bD]) (t:=69) ?hr ?_;(case hd|hg=>rfl);(case hr=>exact hr_);intro aG hg w51 hbox hb;have aH:=Xa.mk (hbox);have dY:=Xa.mk ((ge_ hg (Xf (bl_ HB)):w.heap.size≤aG));have dW:=Xa.mk ((ge_ hg (Xf (bl_ HB)):w.heap.size≤aG));replace HB:=Xa.mk (Xe (bl_ HB) hb);have aN:=Xa.mk ((by rw [hg];exact Nat.ne_of_lt (Yu (g:=aC) (o:=.cells #[.int .i64 aI,.int .i64 aJ,.int .i64 aK,.int .i64 aL,.slice aM aD.length aP,.slice aQ aF.length aR] 69 (0,0)) (ba_ aB)):aC≠aG));have aO:=Xa.mk ((by rw [hg];exact Nat.ne_of_gt (Yu (g:=aC) (o:=.cells #[.int .i64 aI,.int .i64 aJ,.int .i64 aK,.int .i64 aL,.slice aM aD.length aP,.slice aQ aF.length aR] 69 (0,0)) (ba_ aB)):aG≠aC));replace aB:=Xa.mk (Xt (g:=aC) (o:=.cells #[.int .i64 aI,.int .i64 aJ,.int .i64 aK,.int .i64 aL,.slice aM aD.length aP,.slice aQ aF.length aR] 69 (0,0)) (ba_ aB) hb);clear hb hbox hg;have hnb52:=aN.out;have hnc52:=aO.out;obtain ⟨hcz53_0,hcz53_1,hcz53_2,hcz53_3,hcz53_4,hcz53_5⟩:=Zt aB.out;obtain ⟨hfz53_0,hfz53_1,hfz53_2,hfz53_3,hfz53_4,hfz53_5⟩:=Zu aB.out;obtain ⟨hcz54_0,hcz54_1,hcz54_2,hcz54_3,hcz54_4,hcz54_5⟩:=Zt aH.out;obtain ⟨hfz54_0,hfz54_1,hfz54_2,hfz54_3,hfz54_4,hfz54_5⟩:=Zu aH.out))
  go_ret
  exact ⟨rf_,bl_ HB⟩
def Xv.T6:Bool × List (List Nat × List Nat):=(true,[([],[]),([],[]),([0,1],[0,1]),([2],[2]),([],[]),([],[]),([4,5],[4,5]),([6],[6]),([3,7],[3,7]),([8],[8])])
def Xv.B6:List Nat:=[0,0,3,7,0,0,48,112,255,511]
theorem Xv.tab6:rtab .any (opsOf Try.f29 6)=Xv.T6:=by kernel_rfl
theorem Xv.bits6:waitsOk Xv.T6.2 Xv.B6=true:=by kernel_rfl
theorem Xv.step (k:Nat) (ih_laws_eqStmt:∀ m_,m_<k→∀ (aI:Int) (aJ:Int) (aK:Int) (aL:Int) (aM:Option Addr) (aP:Nat) (aD:List (S69)) (aQ:Option Addr) (aR:Nat) (aF:List (S69)) (aW:Int) (aX:Int) (aY:Int) (aZ:Int) (bA:Option Addr) (bB:Nat) (aS:List (S69)) (bC:Option Addr) (bD:Nat) (aT:List (S69)) (r:Bool) (w:World) (eF:Kd.C k69 w aM aD.length aD) (dZ:aD.length≤aP) (eG:Kd.C k69 w aQ aF.length aF) (d9:aF.length≤aR) (eH:Kd.C k69 w bA aS.length aS) (eB:aS.length≤bB) (eO:Kd.C k69 w bC aT.length aT) (eD:aT.length≤bD) (h:Us.f m_ aI aJ aK aL aD aF aW aX aY aZ aS aT=some r),
  Calls Try.prog 44 #[.agg #[.int .i64 aI,.int .i64 aJ,.int .i64 aK,.int .i64 aL,.slice aM aD.length aP,.slice aQ aF.length aR],.agg #[.int .i64 aW,.int .i64 aX,.int .i64 aY,.int .i64 aZ,.slice bA aS.length bB,.slice bC aT.length bD]] w fun e w'=>e=.returned (.bool r)∧Below w.heap.size w w') (ih:∀ m_,m_<k→∀ (A0:Option Addr) (c0:Nat) (l0:List (S69)) (A1:Option Addr) (c1:Nat) (l1:List (S69)) (r:Bool) (w:World) (hr0:Kd.C k69 w A0 l0.length l0) (hc0:l0.length≤c0) (hr1:Kd.C k69 w A1 l1.length l1) (hc1:l1.length≤c1) (h:Xv.f m_ l0 l1=some r),
  Calls Try.prog 29 #[.slice A0 l0.length c0,.slice A1 l1.length c1] w fun e w'=>e=.returned (.bool r)∧Below w.heap.size w w'):∀ (A0:Option Addr) (c0:Nat) (l0:List (S69)) (A1:Option Addr) (c1:Nat) (l1:List (S69)) (r:Bool) (w:World) (hr0:Kd.C k69 w A0 l0.length l0) (hc0:l0.length≤c0) (hr1:Kd.C k69 w A1 l1.length l1) (hc1:l1.length≤c1) (h:Xv.f k l0 l1=some r),
  Calls Try.prog 29 #[.slice A0 l0.length c0,.slice A1 l1.length c1] w fun e w'=>e=.returned (.bool r)∧Below w.heap.size w w':=by
 intro A0 c0 l0 A1 c1 l1 r w hr0 hc0 hr1 hc1 h
 cases k with
 |zero=>exact absurd h (by simp [Xv.f])
 |succ k=>
 simp only [Xv.f] at h;have gI:=Try.underlying69;have gK:=Xa.mk hr0;have HC0:=Xa.mk hc0;clear hr0 hc0;have HR1:=Xa.mk hr1;have HC1:=Xa.mk hc1;clear hr1 hc1;have HB:=Xa.mk (Below.refl w.heap.size w);have H:(if (l0.length:Int)=(l1.length:Int) then (Xv.l0 k l0 l1 0) else (some false))=some r:=h;clear h;by_cases c3:(l0.length:Int)=(l1.length:Int)
 ·rw [if_pos c3] at H;have fG:=beq_iff_eq.mpr c3;have fH:=bne_eq_false_iff_eq.mpr c3
  have fV:(l0.length == l1.length)=true:=by first|simpa using c3|(simp at c3 ⊢;omega)
  clear c3;have H':=Xa.mk H;clear H
  go_enter Try.func29,Try.ntmps29
  go_wp2
  go_loopg [5] k (fun kq v5 w'=>∃ (aA:Int),v5=.int .i64 aA∧Xa (Xv.l0 kq l0 l1 aA=some r)∧Xa (kq≤k)∧Xa (Below w.heap.size w w'))
  case atStart=>exact ⟨(0),rg_,H',⟨Nat.le_refl _⟩,⟨bl_ HB⟩⟩
  case round=>
   clear H'
   try clear c1
   try clear c3
   try clear fG
   try clear fH
   try clear fV
   obtain ⟨aA,rfl,HA,gD,HB⟩:=hrel
   cases gk with
   |zero=>exact absurd HA.out (by simp [Xv.l0])
   |succ k1=>
    have H:=HA.out;clear HA;simp only [Xv.l0] at H;by_cases c4:aA<(l0.length:Int)
    ·rw [if_pos c4] at H;have fO:=decide_eq_true c4;clear c4;by_cases c5:0≤aA
     ·rw [if_pos c5] at H;have fZ:=decide_eq_true c5;clear c5;by_cases c6:aA<(l1.length:Int)
      ·rw [if_pos c6] at H;have gB:=decide_eq_true c6;clear c6;replace H:=Option.bind_eq_some_iff.mp H;obtain ⟨t203,fT,H⟩:=H;replace H:(if t203=true then (Xv.l0 k1 l0 l1 (wrap64 (aA+1))) else (some false))=some r:=H;have A7:=Xa.mk fT;clear fT;by_cases c8:t203=true
       ·subst c8
        replace H:(Xv.l0 k1 l0 l1 (wrap64 (aA+1)))=some r:=(by rw [if_pos rfl] at H;exact H);have H':=Xa.mk H;clear H
        try go_wp2
        replace HB:=Xa.mk (below_drew1 HB.out);have eX:0≤(aA:Int):=of_decide_eq_true (by assumption);have eZ:aA<(l0.length:Int):=of_decide_eq_true (by assumption);obtain ⟨aU,dK,dP,dL,dQ,fP,bQ,bR,bS,bT,bU,bV,dG,dC,dH,dD⟩:=at_T69 gK.out aA eX eZ;have bJ:=bV;have bI:=bU;have bH:=bT;have bG:=bS;have bF:=bR;have bE:=bQ;cases fP
        replace bQ:=bw_ HB bQ;replace bR:=bw_ HB bR;replace bS:=bw_ HB bS;replace bT:=bw_ HB bT;replace bU:=bw_ HB bU;replace bV:=bw_ HB bV;have cO:=Xa.mk dC;have eP:=Xa.mk dG;clear dC dG;have cZ:=Xa.mk dD;have eQ:=Xa.mk dH;clear dD dH;replace eX:=eq_true eX;replace eZ:=eq_true eZ;have eY:0≤(aA:Int):=of_decide_eq_true (by assumption);have fA:aA<(l1.length:Int):=of_decide_eq_true (by assumption);obtain ⟨aV,dM,dR,dN,dS,fQ,bW,bX,bY,bZ,cB,cK,dI,dE,dJ,dF⟩:=at_T69 HR1.out aA eY fA;have bP:=cK;have bO:=cB;have bN:=bZ;have bM:=bY;have bL:=bX;have bK:=bW;cases fQ
        replace bW:=bw_ HB bW;replace bX:=bw_ HB bX;replace bY:=bw_ HB bY;replace bZ:=bw_ HB bZ;replace cB:=bw_ HB cB;replace cK:=bw_ HB cK;have dA:=Xa.mk dE;have eT:=Xa.mk dI;clear dE dI;have dB:=Xa.mk dF;have eU:=Xa.mk dJ;clear dF dJ;replace eY:=eq_true eY;replace fA:=eq_true fA;refine start_ (n:=10) (S:=fun w'=>w'.cell? (aU.add ((aA).toNat * 6))=some (.int .i64 ((Xd l0 aA).f0))∧w'.cell? ⟨(aU.add ((aA).toNat * 6)).block,(aU.add ((aA).toNat * 6)).off+1,none⟩=some (.int .i64 ((Xd l0 aA).f1))∧w'.cell? ⟨(aU.add ((aA).toNat * 6)).block,(aU.add ((aA).toNat * 6)).off+2,none⟩=some (.int .i64 ((Xd l0 aA).f2))∧w'.cell? ⟨(aU.add ((aA).toNat * 6)).block,(aU.add ((aA).toNat * 6)).off+3,none⟩=some (.int .i64 ((Xd l0 aA).f3))∧w'.cell? ⟨(aU.add ((aA).toNat * 6)).block,(aU.add ((aA).toNat * 6)).off+4,none⟩=some (.slice dK ((Xd l0 aA).f4).length dP)∧w'.cell? ⟨(aU.add ((aA).toNat * 6)).block,(aU.add ((aA).toNat * 6)).off+5,none⟩=some (.slice dL ((Xd l0 aA).f5).length dQ)∧w'.cell? (aV.add ((aA).toNat * 6))=some (.int .i64 ((Xd l1 aA).f0))∧w'.cell? ⟨(aV.add ((aA).toNat * 6)).block,(aV.add ((aA).toNat * 6)).off+1,none⟩=some (.int .i64 ((Xd l1 aA).f1))∧w'.cell? ⟨(aV.add ((aA).toNat * 6)).block,(aV.add ((aA).toNat * 6)).off+2,none⟩=some (.int .i64 ((Xd l1 aA).f2))∧w'.cell? ⟨(aV.add ((aA).toNat * 6)).block,(aV.add ((aA).toNat * 6)).off+3,none⟩=some (.int .i64 ((Xd l1 aA).f3))∧w'.cell? ⟨(aV.add ((aA).toNat * 6)).block,(aV.add ((aA).toNat * 6)).off+4,none⟩=some (.slice dM ((Xd l1 aA).f4).length dR)∧w'.cell? ⟨(aV.add ((aA).toNat * 6)).block,(aV.add ((aA).toNat * 6)).off+5,none⟩=some (.slice dN ((Xd l1 aA).f5).length dS)) (ds:=[]) #[false,false,false,false,false,false,false,false,false,false] (by kernel_rfl) rfl rfl ⟨((HB.out.cell (World.block_lt_of_cell? w _ bE)).trans bE),((HB.out.cell (World.block_lt_of_cell? w _ bF)).trans bF),((HB.out.cell (World.block_lt_of_cell? w _ bG)).trans bG),((HB.out.cell (World.block_lt_of_cell? w _ bH)).trans bH),((HB.out.cell (World.block_lt_of_cell? w _ bI)).trans bI),((HB.out.cell (World.block_lt_of_cell? w _ bJ)).trans bJ),((HB.out.cell (World.block_lt_of_cell? w _ bK)).trans bK),((HB.out.cell (World.block_lt_of_cell? w _ bL)).trans bL),((HB.out.cell (World.block_lt_of_cell? w _ bM)).trans bM),((HB.out.cell (World.block_lt_of_cell? w _ bN)).trans bN),((HB.out.cell (World.block_lt_of_cell? w _ bO)).trans bO),((HB.out.cell (World.block_lt_of_cell? w _ bP)).trans bP)⟩ (fun hHeld=>?_);refine with_tabW Xv.tab6 Xv.bits6 (fun dO fU=>?_)
        generalize wr.drew=w9 at HB cO cZ dA dB bQ bR bS bT bU bV bW bX bY bZ cB cK hHeld ⊢
        refine Xp (i:=0) (N:=some 17) (v:=?_) (a':=?_) #[true,false,false,false,false,false,false,false,false,false] rfl rfl (Zn dO.out (by kernel_rfl)) (fun _ _ _ h=>h) (Or.inl ⟨by rfl,?_⟩) ?_ ?_
        rotate_left
        · exact wr_
        rotate_left
        · exact ap_
        refine Xp (i:=1) (N:=some 18) (v:=?_) (a':=?_) #[true,true,false,false,false,false,false,false,false,false] rfl rfl (Zn dO.out (by kernel_rfl)) (fun _ _ _ h=>h) (Or.inl ⟨by rfl,?_⟩) ?_ ?_
        rotate_left
        · exact wr_
        rotate_left
        · exact ap_
        refine Xp (i:=2) (N:=some 19) (v:=?_) (a':=?_) #[true,true,true,false,false,false,false,false,false,false] rfl rfl (Zn dO.out (by kernel_rfl)) (fun _ _ _ h=>h) (Or.inl ⟨by rfl,?_⟩) ?_ ?_
        rotate_left
        · exact wr_
        rotate_left
        · exact ap_
        refine Xp (i:=4) (N:=some 21) (v:=?_) (a':=?_) #[true,true,true,false,true,false,false,false,false,false] rfl rfl (Zn dO.out (by kernel_rfl)) (fun _ _ _ h=>h) (Or.inl ⟨by rfl,?_⟩) ?_ ?_
        rotate_left
        · exact wr_
        rotate_left
        · exact ap_
        refine Xp (i:=5) (N:=some 22) (v:=?_) (a':=?_) #[true,true,true,false,true,true,false,false,false,false] rfl rfl (Zn dO.out (by kernel_rfl)) (fun _ _ _ h=>h) (Or.inl ⟨by rfl,?_⟩) ?_ ?_
        rotate_left
        · exact wr_
        rotate_left
        · exact ap_
        refine Xp (i:=6) (N:=some 23) (v:=?_) (a':=?_) #[true,true,true,false,true,true,true,false,false,false] rfl rfl (Zn dO.out (by kernel_rfl)) (fun _ _ _ h=>h) (Or.inl ⟨by rfl,?_⟩) ?_ ?_
        rotate_left
        · exact wr_
        rotate_left
        · exact ap_
        refine Zp (i:=3) (N:=some 20) (v:=?_) (a':=?_) #[true,true,true,true,true,true,true,false,false,false] rfl rfl (take_ofW dO.out fU.out (by kernel_rfl)) (fun _ _ _ h=>h) (Or.inl ⟨by rfl,?_⟩) hHeld ?_ ?_
        rotate_left
        ·rintro w' ⟨s0,s1,s2,s3,s4,s5,s6,s7,s8,s9,s10,s11⟩
         go_simp
         with_reducible rfl
        rotate_left
        · exact ap_
        refine Zp (i:=7) (N:=some 24) (v:=?_) (a':=?_) #[true,true,true,true,true,true,true,true,false,false] rfl rfl (take_ofW dO.out fU.out (by kernel_rfl)) (fun _ _ _ h=>h) (Or.inl ⟨by rfl,?_⟩) hHeld ?_ ?_
        rotate_left
        ·rintro w' ⟨s0,s1,s2,s3,s4,s5,s6,s7,s8,s9,s10,s11⟩
         go_simp
         with_reducible rfl
        rotate_left
        · exact ap_
        refine one_ (i:=8) (N:=some 25) #[true,true,true,true,true,true,true,true,true,false] rfl rfl (one_of dO.out (by kernel_rfl)) (by decide) (fun K hK=>?_)
        refine goes_ Try.func44 (by kernel_rfl) rfl #[.agg #[.int .i64 ((Xd l0 aA).f0),.int .i64 ((Xd l0 aA).f1),.int .i64 ((Xd l0 aA).f2),.int .i64 ((Xd l0 aA).f3),.slice dK ((Xd l0 aA).f4).length dP,.slice dL ((Xd l0 aA).f5).length dQ],.agg #[.int .i64 ((Xd l1 aA).f0),.int .i64 ((Xd l1 aA).f1),.int .i64 ((Xd l1 aA).f2),.int .i64 ((Xd l1 aA).f3),.slice dM ((Xd l1 aA).f4).length dR,.slice dN ((Xd l1 aA).f5).length dS]] (by rfl) rfl rfl ga_ ?_
        with_reducible refine (ih_laws_eqStmt k1 (by have:=gD.out;omega) ((Xd l0 aA).f0) ((Xd l0 aA).f1) ((Xd l0 aA).f2) ((Xd l0 aA).f3) _ _ ((Xd l0 aA).f4) _ _ ((Xd l0 aA).f5) ((Xd l1 aA).f0) ((Xd l1 aA).f1) ((Xd l1 aA).f2) ((Xd l1 aA).f3) _ _ ((Xd l1 aA).f4) _ _ ((Xd l1 aA).f5) true _ ?side1 ?side2 ?side3 ?side4 ?side5 ?side6 ?side7 ?side8 A7.out).mono ?_
        (case side1=>exact Kd.ca_ (Kd.Xr cO.out HB.out))
        (case side2=>exact eP.out)
        (case side3=>exact Kd.ca_ (Kd.Xr cZ.out HB.out))
        (case side4=>exact eQ.out)
        (case side5=>exact Kd.ca_ (Kd.Xr dA.out HB.out))
        (case side6=>exact eT.out)
        (case side7=>exact Kd.ca_ (Kd.Xr dB.out HB.out))
        (case side8=>exact eU.out)
        rintro e w10 ⟨rfl,hb⟩
        refine ⟨_,rfl,?_⟩
        replace HB:=Xa.mk (Xe (bl_ HB) hb)
        clear hb
        skip
        skip
        skip
        refine hK.out _ _ ⟨((HB.out.cell (World.block_lt_of_cell? w _ bE)).trans bE),((HB.out.cell (World.block_lt_of_cell? w _ bF)).trans bF),((HB.out.cell (World.block_lt_of_cell? w _ bG)).trans bG),((HB.out.cell (World.block_lt_of_cell? w _ bH)).trans bH),((HB.out.cell (World.block_lt_of_cell? w _ bI)).trans bI),((HB.out.cell (World.block_lt_of_cell? w _ bJ)).trans bJ),((HB.out.cell (World.block_lt_of_cell? w _ bK)).trans bK),((HB.out.cell (World.block_lt_of_cell? w _ bL)).trans bL),((HB.out.cell (World.block_lt_of_cell? w _ bM)).trans bM),((HB.out.cell (World.block_lt_of_cell? w _ bN)).trans bN),((HB.out.cell (World.block_lt_of_cell? w _ bO)).trans bO),((HB.out.cell (World.block_lt_of_cell? w _ bP)).trans bP)⟩ (fun hHeld=>?_)
        clear hK K;refine Zj (a':=?_) ?_ ?_
        rotate_left
        ·show Act.put _ (some 25) _=_
         simp only [Act.put,List.setIfInBounds_toArray,List.set_cons_zero,List.set_cons_succ,Zc,Zb];rfl
        refine Xp (i:=9) (N:=some 26) (v:=?_) (a':=?_) #[true,true,true,true,true,true,true,true,true,true] rfl rfl (Zn dO.out (by kernel_rfl)) (fun _ _ _ h=>h) (Or.inl ⟨by rfl,?_⟩) ?_ ?_
        rotate_left
        · exact wr_
        rotate_left
        · exact ap_
        refine done_ (done_of dO.out (by kernel_rfl)) ?_
        try go_wp2
        go_roundg k1
        case measure=>have:=gD.out;omega
        case rel=>exact ⟨(wrap64 (aA+1)),rg_,H',⟨by have:=gD.out;omega⟩,⟨bl_ HB⟩⟩
       ·replace c8:=Bool.eq_false_iff.mpr c8;subst c8
        replace H:(some false)=some r:=(by rw [if_neg (show ¬ (false=true) by decide)] at H;exact H);obtain rfl:=Option.some.inj H
        try go_wp2
        replace HB:=Xa.mk (below_drew1 HB.out);have eX:0≤(aA:Int):=of_decide_eq_true (by assumption);have eZ:aA<(l0.length:Int):=of_decide_eq_true (by assumption);obtain ⟨aU,dK,dP,dL,dQ,fP,bQ,bR,bS,bT,bU,bV,dG,dC,dH,dD⟩:=at_T69 gK.out aA eX eZ;have bJ:=bV;have bI:=bU;have bH:=bT;have bG:=bS;have bF:=bR;have bE:=bQ;cases fP
        replace bQ:=bw_ HB bQ;replace bR:=bw_ HB bR;replace bS:=bw_ HB bS;replace bT:=bw_ HB bT;replace bU:=bw_ HB bU;replace bV:=bw_ HB bV;have cO:=Xa.mk dC;have eP:=Xa.mk dG;clear dC dG;have cZ:=Xa.mk dD;have eQ:=Xa.mk dH;clear dD dH;replace eX:=eq_true eX;replace eZ:=eq_true eZ;have eY:0≤(aA:Int):=of_decide_eq_true (by assumption);have fA:aA<(l1.length:Int):=of_decide_eq_true (by assumption);obtain ⟨aV,dM,dR,dN,dS,fQ,bW,bX,bY,bZ,cB,cK,dI,dE,dJ,dF⟩:=at_T69 HR1.out aA eY fA;have bP:=cK;have bO:=cB;have bN:=bZ;have bM:=bY;have bL:=bX;have bK:=bW;cases fQ
        replace bW:=bw_ HB bW;replace bX:=bw_ HB bX;replace bY:=bw_ HB bY;replace bZ:=bw_ HB bZ;replace cB:=bw_ HB cB;replace cK:=bw_ HB cK;have dA:=Xa.mk dE;have eT:=Xa.mk dI;clear dE dI;have dB:=Xa.mk dF;have eU:=Xa.mk dJ;clear dF dJ;replace eY:=eq_true eY;replace fA:=eq_true fA;refine start_ (n:=10) (S:=fun w'=>w'.cell? (aU.add ((aA).toNat * 6))=some (.int .i64 ((Xd l0 aA).f0))∧w'.cell? ⟨(aU.add ((aA).toNat * 6)).block,(aU.add ((aA).toNat * 6)).off+1,none⟩=some (.int .i64 ((Xd l0 aA).f1))∧w'.cell? ⟨(aU.add ((aA).toNat * 6)).block,(aU.add ((aA).toNat * 6)).off+2,none⟩=some (.int .i64 ((Xd l0 aA).f2))∧w'.cell? ⟨(aU.add ((aA).toNat * 6)).block,(aU.add ((aA).toNat * 6)).off+3,none⟩=some (.int .i64 ((Xd l0 aA).f3))∧w'.cell? ⟨(aU.add ((aA).toNat * 6)).block,(aU.add ((aA).toNat * 6)).off+4,none⟩=some (.slice dK ((Xd l0 aA).f4).length dP)∧w'.cell? ⟨(aU.add ((aA).toNat * 6)).block,(aU.add ((aA).toNat * 6)).off+5,none⟩=some (.slice dL ((Xd l0 aA).f5).length dQ)∧w'.cell? (aV.add ((aA).toNat * 6))=some (.int .i64 ((Xd l1 aA).f0))∧w'.cell? ⟨(aV.add ((aA).toNat * 6)).block,(aV.add ((aA).toNat * 6)).off+1,none⟩=some (.int .i64 ((Xd l1 aA).f1))∧w'.cell? ⟨(aV.add ((aA).toNat * 6)).block,(aV.add ((aA).toNat * 6)).off+2,none⟩=some (.int .i64 ((Xd l1 aA).f2))∧w'.cell? ⟨(aV.add ((aA).toNat * 6)).block,(aV.add ((aA).toNat * 6)).off+3,none⟩=some (.int .i64 ((Xd l1 aA).f3))∧w'.cell? ⟨(aV.add ((aA).toNat * 6)).block,(aV.add ((aA).toNat * 6)).off+4,none⟩=some (.slice dM ((Xd l1 aA).f4).length dR)∧w'.cell? ⟨(aV.add ((aA).toNat * 6)).block,(aV.add ((aA).toNat * 6)).off+5,none⟩=some (.slice dN ((Xd l1 aA).f5).length dS)) (ds:=[]) #[false,false,false,false,false,false,false,false,false,false] (by kernel_rfl) rfl rfl ⟨((HB.out.cell (World.block_lt_of_cell? w _ bE)).trans bE),((HB.out.cell (World.block_lt_of_cell? w _ bF)).trans bF),((HB.out.cell (World.block_lt_of_cell? w _ bG)).trans bG),((HB.out.cell (World.block_lt_of_cell? w _ bH)).trans bH),((HB.out.cell (World.block_lt_of_cell? w _ bI)).trans bI),((HB.out.cell (World.block_lt_of_cell? w _ bJ)).trans bJ),((HB.out.cell (World.block_lt_of_cell? w _ bK)).trans bK),((HB.out.cell (World.block_lt_of_cell? w _ bL)).trans bL),((HB.out.cell (World.block_lt_of_cell? w _ bM)).trans bM),((HB.out.cell (World.block_lt_of_cell? w _ bN)).trans bN),((HB.out.cell (World.block_lt_of_cell? w _ bO)).trans bO),((HB.out.cell (World.block_lt_of_cell? w _ bP)).trans bP)⟩ (fun hHeld=>?_);refine with_tabW Xv.tab6 Xv.bits6 (fun dO fU=>?_)
        generalize wr.drew=gL at HB cO cZ dA dB bQ bR bS bT bU bV bW bX bY bZ cB cK hHeld ⊢
        refine Xp (i:=0) (N:=some 17) (v:=?_) (a':=?_) #[true,false,false,false,false,false,false,false,false,false] rfl rfl (Zn dO.out (by kernel_rfl)) (fun _ _ _ h=>h) (Or.inl ⟨by rfl,?_⟩) ?_ ?_
        rotate_left
        · exact wr_
        rotate_left
        · exact ap_
        refine Xp (i:=1) (N:=some 18) (v:=?_) (a':=?_) #[true,true,false,false,false,false,false,false,false,false] rfl rfl (Zn dO.out (by kernel_rfl)) (fun _ _ _ h=>h) (Or.inl ⟨by rfl,?_⟩) ?_ ?_
        rotate_left
        · exact wr_
        rotate_left
        · exact ap_
        refine Xp (i:=2) (N:=some 19) (v:=?_) (a':=?_) #[true,true,true,false,false,false,false,false,false,false] rfl rfl (Zn dO.out (by kernel_rfl)) (fun _ _ _ h=>h) (Or.inl ⟨by rfl,?_⟩) ?_ ?_
        rotate_left
        · exact wr_
        rotate_left
        · exact ap_
        refine Xp (i:=4) (N:=some 21) (v:=?_) (a':=?_) #[true,true,true,false,true,false,false,false,false,false] rfl rfl (Zn dO.out (by kernel_rfl)) (fun _ _ _ h=>h) (Or.inl ⟨by rfl,?_⟩) ?_ ?_
        rotate_left
        · exact wr_
        rotate_left
        · exact ap_
        refine Xp (i:=5) (N:=some 22) (v:=?_) (a':=?_) #[true,true,true,false,true,true,false,false,false,false] rfl rfl (Zn dO.out (by kernel_rfl)) (fun _ _ _ h=>h) (Or.inl ⟨by rfl,?_⟩) ?_ ?_
        rotate_left
        · exact wr_
        rotate_left
        · exact ap_
        refine Xp (i:=6) (N:=some 23) (v:=?_) (a':=?_) #[true,true,true,false,true,true,true,false,false,false] rfl rfl (Zn dO.out (by kernel_rfl)) (fun _ _ _ h=>h) (Or.inl ⟨by rfl,?_⟩) ?_ ?_
        rotate_left
        · exact wr_
        rotate_left
        · exact ap_
        refine Zp (i:=3) (N:=some 20) (v:=?_) (a':=?_) #[true,true,true,true,true,true,true,false,false,false] rfl rfl (take_ofW dO.out fU.out (by kernel_rfl)) (fun _ _ _ h=>h) (Or.inl ⟨by rfl,?_⟩) hHeld ?_ ?_
        rotate_left
        ·rintro w' ⟨s0,s1,s2,s3,s4,s5,s6,s7,s8,s9,s10,s11⟩
         go_simp
         with_reducible rfl
        rotate_left
        · exact ap_
        refine Zp (i:=7) (N:=some 24) (v:=?_) (a':=?_) #[true,true,true,true,true,true,true,true,false,false] rfl rfl (take_ofW dO.out fU.out (by kernel_rfl)) (fun _ _ _ h=>h) (Or.inl ⟨by rfl,?_⟩) hHeld ?_ ?_
        rotate_left
        ·rintro w' ⟨s0,s1,s2,s3,s4,s5,s6,s7,s8,s9,s10,s11⟩
         go_simp
         with_reducible rfl
        rotate_left
        · exact ap_
        refine one_ (i:=8) (N:=some 25) #[true,true,true,true,true,true,true,true,true,false] rfl rfl (one_of dO.out (by kernel_rfl)) (by decide) (fun K hK=>?_)
        refine goes_ Try.func44 (by kernel_rfl) rfl #[.agg #[.int .i64 ((Xd l0 aA).f0),.int .i64 ((Xd l0 aA).f1),.int .i64 ((Xd l0 aA).f2),.int .i64 ((Xd l0 aA).f3),.slice dK ((Xd l0 aA).f4).length dP,.slice dL ((Xd l0 aA).f5).length dQ],.agg #[.int .i64 ((Xd l1 aA).f0),.int .i64 ((Xd l1 aA).f1),.int .i64 ((Xd l1 aA).f2),.int .i64 ((Xd l1 aA).f3),.slice dM ((Xd l1 aA).f4).length dR,.slice dN ((Xd l1 aA).f5).length dS]] (by rfl) rfl rfl ga_ ?_
        with_reducible refine (ih_laws_eqStmt k1 (by have:=gD.out;omega) ((Xd l0 aA).f0) ((Xd l0 aA).f1) ((Xd l0 aA).f2) ((Xd l0 aA).f3) _ _ ((Xd l0 aA).f4) _ _ ((Xd l0 aA).f5) ((Xd l1 aA).f0) ((Xd l1 aA).f1) ((Xd l1 aA).f2) ((Xd l1 aA).f3) _ _ ((Xd l1 aA).f4) _ _ ((Xd l1 aA).f5) false _ ?side1 ?side2 ?side3 ?side4 ?side5 ?side6 ?side7 ?side8 A7.out).mono ?_
        (case side1=>exact Kd.ca_ (Kd.Xr cO.out HB.out))
        (case side2=>exact eP.out)
        (case side3=>exact Kd.ca_ (Kd.Xr cZ.out HB.out))
        (case side4=>exact eQ.out)
        (case side5=>exact Kd.ca_ (Kd.Xr dA.out HB.out))
        (case side6=>exact eT.out)
        (case side7=>exact Kd.ca_ (Kd.Xr dB.out HB.out))
        (case side8=>exact eU.out)
        rintro e gM ⟨rfl,hb⟩
        refine ⟨_,rfl,?_⟩
        replace HB:=Xa.mk (Xe (bl_ HB) hb)
        clear hb
        skip
        skip
        skip
        refine hK.out _ _ ⟨((HB.out.cell (World.block_lt_of_cell? w _ bE)).trans bE),((HB.out.cell (World.block_lt_of_cell? w _ bF)).trans bF),((HB.out.cell (World.block_lt_of_cell? w _ bG)).trans bG),((HB.out.cell (World.block_lt_of_cell? w _ bH)).trans bH),((HB.out.cell (World.block_lt_of_cell? w _ bI)).trans bI),((HB.out.cell (World.block_lt_of_cell? w _ bJ)).trans bJ),((HB.out.cell (World.block_lt_of_cell? w _ bK)).trans bK),((HB.out.cell (World.block_lt_of_cell? w _ bL)).trans bL),((HB.out.cell (World.block_lt_of_cell? w _ bM)).trans bM),((HB.out.cell (World.block_lt_of_cell? w _ bN)).trans bN),((HB.out.cell (World.block_lt_of_cell? w _ bO)).trans bO),((HB.out.cell (World.block_lt_of_cell? w _ bP)).trans bP)⟩ (fun hHeld=>?_)
        clear hK K;refine Zj (a':=?_) ?_ ?_
        rotate_left
        ·show Act.put _ (some 25) _=_
         simp only [Act.put,List.setIfInBounds_toArray,List.set_cons_zero,List.set_cons_succ,Zc,Zb];rfl
        refine Xp (i:=9) (N:=some 26) (v:=?_) (a':=?_) #[true,true,true,true,true,true,true,true,true,true] rfl rfl (Zn dO.out (by kernel_rfl)) (fun _ _ _ h=>h) (Or.inl ⟨by rfl,?_⟩) ?_ ?_
        rotate_left
        · exact wr_
        rotate_left
        · exact ap_
        refine done_ (done_of dO.out (by kernel_rfl)) ?_
        try go_wp2
        go_ret
        exact ⟨rf_,bl_ HB⟩
      ·rw [if_neg c6] at H;exact absurd H (by simp)
     ·rw [if_neg c5] at H;exact absurd H (by simp)
    ·rw [if_neg c4] at H;have fO:=decide_eq_false c4;clear c4;obtain rfl:=Option.some.inj H;go_wp2
     go_ret
     exact ⟨rf_,bl_ HB⟩
 ·rw [if_neg c3] at H;have fG:=beq_eq_false_iff_ne.mpr c3;have fH:=bne_iff_ne.mpr c3
  have fV:(l0.length == l1.length)=false:=by first|simpa using c3|(simp at c3 ⊢;omega)
  obtain rfl:=Option.some.inj H
  go_enter Try.func29,Try.ntmps29
  go_wp2
  go_ret
  exact ⟨rf_,bl_ HB⟩
theorem laws_eqStmt_laws_eqStmtS.all (k:Nat):(∀ (aI:Int) (aJ:Int) (aK:Int) (aL:Int) (aM:Option Addr) (aP:Nat) (aD:List (S69)) (aQ:Option Addr) (aR:Nat) (aF:List (S69)) (aW:Int) (aX:Int) (aY:Int) (aZ:Int) (bA:Option Addr) (bB:Nat) (aS:List (S69)) (bC:Option Addr) (bD:Nat) (aT:List (S69)) (r:Bool) (w:World) (eF:Kd.C k69 w aM aD.length aD) (dZ:aD.length≤aP) (eG:Kd.C k69 w aQ aF.length aF) (d9:aF.length≤aR) (eH:Kd.C k69 w bA aS.length aS) (eB:aS.length≤bB) (eO:Kd.C k69 w bC aT.length aT) (eD:aT.length≤bD) (h:Us.f k aI aJ aK aL aD aF aW aX aY aZ aS aT=some r),
  Calls Try.prog 44 #[.agg #[.int .i64 aI,.int .i64 aJ,.int .i64 aK,.int .i64 aL,.slice aM aD.length aP,.slice aQ aF.length aR],.agg #[.int .i64 aW,.int .i64 aX,.int .i64 aY,.int .i64 aZ,.slice bA aS.length bB,.slice bC aT.length bD]] w fun e w'=>e=.returned (.bool r)∧Below w.heap.size w w')∧(∀ (A0:Option Addr) (c0:Nat) (l0:List (S69)) (A1:Option Addr) (c1:Nat) (l1:List (S69)) (r:Bool) (w:World) (hr0:Kd.C k69 w A0 l0.length l0) (hc0:l0.length≤c0) (hr1:Kd.C k69 w A1 l1.length l1) (hc1:l1.length≤c1) (h:Xv.f k l0 l1=some r),
  Calls Try.prog 29 #[.slice A0 l0.length c0,.slice A1 l1.length c1] w fun e w'=>e=.returned (.bool r)∧Below w.heap.size w w'):=by
 induction k using Nat.strongRecOn with
 |_ k ih=>exact ⟨Us.step k (fun m hm=>(ih m hm).1) (fun m hm=>(ih m hm).2),Xv.step k (fun m hm=>(ih m hm).1) (fun m hm=>(ih m hm).2)⟩
theorem Xv.calls (k:Nat):∀ (A0:Option Addr) (c0:Nat) (l0:List (S69)) (A1:Option Addr) (c1:Nat) (l1:List (S69)) (r:Bool) (w:World) (hr0:Kd.C k69 w A0 l0.length l0) (hc0:l0.length≤c0) (hr1:Kd.C k69 w A1 l1.length l1) (hc1:l1.length≤c1) (h:Xv.f k l0 l1=some r),
  Calls Try.prog 29 #[.slice A0 l0.length c0,.slice A1 l1.length c1] w fun e w'=>e=.returned (.bool r)∧Below w.heap.size w w':=(laws_eqStmt_laws_eqStmtS.all k).2
end Go.Proofs.Ytlhogkfmdnpmkaa.GWhole
