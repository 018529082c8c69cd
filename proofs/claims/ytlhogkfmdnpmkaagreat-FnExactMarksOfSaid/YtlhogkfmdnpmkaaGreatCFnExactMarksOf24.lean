import Derived.Test.YtlhogkfmdnpmkaaGreatCFnExactMarksOf21
set_option linter.unusedVariables false
set_option linter.unusedSimpArgs false
set_option maxHeartbeats 8000000
set_option maxRecDepth 100000
namespace Go.Proofs.YtlhogkfmdnpmkaaGreat.GMarks
open RowKit YtlhogkfmdnpmkaaGreatW.PrintWords YtlhogkfmdnpmkaaGreatW.PrintLast YtlhogkfmdnpmkaaGreatW.PrintMore
attribute [local go_sem] Ua Ud Uu Ux Zo Zp Ub Ue
mutual
def Ve.f:Nat→Int→Int→Int→Int→List (S87)→List (S87)→Int→Int→Int→Int→List (S87)→List (S87)→Option (Bool)
 |0,_,_,_,_,_,_,_,_,_,_,_,_=>none
 |k+1,aH,aI,aJ,aK,aD,aF,aW,aX,aY,aZ,aS,aT=>if aH=aW then (if aI=aX then (if aJ=aY then (if aK=aZ then ((Xt.f k aD aS).bind fun fA=>(if fA=true then ((Xt.f k aF aT).bind fun t148=>(if t148=true then (some true) else (some false))) else (some false))) else (some false)) else (some false)) else (some false)) else (some false)
def Xt.l0:Nat→List (S87)→List (S87)→Int→Option (Bool)
 |0,_,_,_=>none
 |k+1,x0,x1,x5=>if x5<(x0.length:Int) then (if 0≤x5 then (if x5<(x1.length:Int) then ((Ve.f k ((Xe x0 x5).f0) ((Xe x0 x5).f1) ((Xe x0 x5).f2) ((Xe x0 x5).f3) ((Xe x0 x5).f4) ((Xe x0 x5).f5) ((Xe x1 x5).f0) ((Xe x1 x5).f1) ((Xe x1 x5).f2) ((Xe x1 x5).f3) ((Xe x1 x5).f4) ((Xe x1 x5).f5)).bind fun fH=>(if fH=true then (Xt.l0 k x0 x1 (wrap64 (x5+1))) else (some false))) else (none)) else (none)) else (some true)
def Xt.f:Nat→List (S87)→List (S87)→Option (Bool)
 |0,_,_=>none
 |k+1,l0,l1=>if (l0.length:Int)=(l1.length:Int) then (Xt.l0 k l0 l1 0) else (some false)
end
theorem Ve.step (k:Nat) (ih:∀ m_,m_<k→∀ (aH:Int) (aI:Int) (aJ:Int) (aK:Int) (aM:Option Addr) (aP:Nat) (aD:List (S87)) (aQ:Option Addr) (aR:Nat) (aF:List (S87)) (aW:Int) (aX:Int) (aY:Int) (aZ:Int) (bA:Option Addr) (bB:Nat) (aS:List (S87)) (bC:Option Addr) (bD:Nat) (aT:List (S87)) (r:Bool) (w:World) (eD:Kd.C k87 w aM aD.length aD) (dY:aD.length≤aP) (eF:Kd.C k87 w aQ aF.length aF) (dZ:aF.length≤aR) (eG:Kd.C k87 w bA aS.length aS) (d9:aS.length≤bB) (eH:Kd.C k87 w bC aT.length aT) (eB:aT.length≤bD) (h:Ve.f m_ aH aI aJ aK aD aF aW aX aY aZ aS aT=some r),
  Calls Tryz.prog 68 #[.agg #[.int .i64 aH,.int .i64 aI,.int .i64 aJ,.int .i64 aK,.slice aM aD.length aP,.slice aQ aF.length aR],.agg #[.int .i64 aW,.int .i64 aX,.int .i64 aY,.int .i64 aZ,.slice bA aS.length bB,.slice bC aT.length bD]] w fun e w'=>e=.returned (.bool r)∧Below w.heap.size w w') (ih_laws_eqStmtS:∀ m_,m_<k→∀ (A0:Option Addr) (c0:Nat) (l0:List (S87)) (A1:Option Addr) (c1:Nat) (l1:List (S87)) (r:Bool) (w:World) (hr0:Kd.C k87 w A0 l0.length l0) (hc0:l0.length≤c0) (hr1:Kd.C k87 w A1 l1.length l1) (hc1:l1.length≤c1) (h:Xt.f m_ l0 l1=some r),
  Calls Tryz.prog 41 #[.slice A0 l0.length c0,.slice A1 l1.length c1] w fun e w'=>e=.returned (.bool r)∧Below w.heap.size w w'):∀ (aH:Int) (aI:Int) (aJ:Int) (aK:Int) (aM:Option Addr) (aP:Nat) (aD:List (S87)) (aQ:Option Addr) (aR:Nat) (aF:List (S87)) (aW:Int) (aX:Int) (aY:Int) (aZ:Int) (bA:Option Addr) (bB:Nat) (aS:List (S87)) (bC:Option Addr) (bD:Nat) (aT:List (S87)) (r:Bool) (w:World) (eD:Kd.C k87 w aM aD.length aD) (dY:aD.length≤aP) (eF:Kd.C k87 w aQ aF.length aF) (dZ:aF.length≤aR) (eG:Kd.C k87 w bA aS.length aS) (d9:aS.length≤bB) (eH:Kd.C k87 w bC aT.length aT) (eB:aT.length≤bD) (h:Ve.f k aH aI aJ aK aD aF aW aX aY aZ aS aT=some r),
  Calls Tryz.prog 68 #[.agg #[.int .i64 aH,.int .i64 aI,.int .i64 aJ,.int .i64 aK,.slice aM aD.length aP,.slice aQ aF.length aR],.agg #[.int .i64 aW,.int .i64 aX,.int .i64 aY,.int .i64 aZ,.slice bA aS.length bB,.slice bC aT.length bD]] w fun e w'=>e=.returned (.bool r)∧Below w.heap.size w w':=by
 intro aH aI aJ aK aM aP aD aQ aR aF aW aX aY aZ bA bB aS bC bD aT r w eD dY eF dZ eG d9 eH eB h
 cases k with
 |zero=>exact absurd h (by simp [Ve.f])
 |succ k=>
 simp only [Ve.f] at h;have gI:=Tryz.underlying87;have fD:=Xa.mk eD;have fB:=Xa.mk dY;clear eD dY;have fK:=Xa.mk eF;have fI:=Xa.mk dZ;clear eF dZ;have fE:=Xa.mk eG;have fC:=Xa.mk d9;clear eG d9;have fM:=Xa.mk eH;have fJ:=Xa.mk eB;clear eH eB;have HB:=Xa.mk (Below.refl w.heap.size w);have H:(if aH=aW then (if aI=aX then (if aJ=aY then (if aK=aZ then ((Xt.f k aD aS).bind fun fA=>(if fA=true then ((Xt.f k aF aT).bind fun t148=>(if t148=true then (some true) else (some false))) else (some false))) else (some false)) else (some false)) else (some false)) else (some false))=some r:=h;clear h;by_cases c3:aH=aW
 ·rw [if_pos c3] at H;have fF:(aH == aW)=true:=eb_ c3;have fG:(aH != aW)=false:=nq_ c3;clear c3;by_cases c4:aI=aX
  ·rw [if_pos c4] at H;have fO:(aI == aX)=true:=eb_ c4;have gF:(aI != aX)=false:=nq_ c4;clear c4;by_cases c5:aJ=aY
   ·rw [if_pos c5] at H;have fZ:(aJ == aY)=true:=eb_ c5;have gG:(aJ != aY)=false:=nq_ c5;clear c5;by_cases c6:aK=aZ
    ·rw [if_pos c6] at H;have gB:(aK == aZ)=true:=eb_ c6;have gH:(aK != aZ)=false:=nq_ c6;clear c6;replace H:=bo_ H;obtain ⟨fA,fT,H⟩:=H;replace H:(if fA=true then ((Xt.f k aF aT).bind fun t148=>(if t148=true then (some true) else (some false))) else (some false))=some r:=H;have A7:=Xa.mk fT;clear fT;by_cases c8:fA=true
     ·subst c8
      replace H:((Xt.f k aF aT).bind fun t148=>(if t148=true then (some true) else (some false)))=some r:=ph_;replace H:=bo_ H;obtain ⟨t148,gJ,H⟩:=H;replace H:(if t148=true then (some true) else (some false))=some r:=H;have A9:=Xa.mk gJ;clear gJ;by_cases c10:t148=true
      ·subst c10
       replace H:(some true)=some r:=ph_;obtain rfl:=sj_ H;go_enter Tryz.func68,Tryz.ntmps68;go_wp2_with (first|((with_reducible refine Yv (N:=2) rfl ?_);refine Zb ?hg (N:=2) ?hd (cs:=#[.int .i64 aH,.int .i64 aI,.int .i64 aJ,.int .i64 aK,.slice aM aD.length aP,.slice aQ aF.length aR]) (t:=87) ?hr ?_;(case hd|hg=>rfl);(case hr=>exact hr_);intro aC hg gL hbox hb;have aB:=Xa.mk (hbox);have dW:=Xa.mk ((ge_ hg (Xj (bl_ HB)):w.heap.size≤aC));have dU:=Xa.mk ((ge_ hg (Xj (bl_ HB)):w.heap.size≤aC));replace HB:=Xa.mk (Xi (bl_ HB) hb);clear hb hbox hg)|((with_reducible refine Yv (N:=3) rfl ?_);refine Zb ?hg (N:=3) ?hd (cs:=#[.int .i64 aW,.int .i64 aX,.int .i64 aY,.int .i64 aZ,.slice bA aS.length bB,.slice bC aT.length bD]) (t:=87) ?hr ?_;(case hd|hg=>rfl);(case hr=>exact hr_);intro aG hg gM hbox hb;have aL:=Xa.mk (hbox);have dX:=Xa.mk ((ge_ hg (Xj (bl_ HB)):w.heap.size≤aG));have dV:=Xa.mk ((ge_ hg (Xj (bl_ HB)):w.heap.size≤aG));replace HB:=Xa.mk (Xi (bl_ HB) hb);have aN:=Xa.mk ((by rw [hg];exact Nat.ne_of_lt (Xq (g:=aC) (o:=.cells #[.int .i64 aH,.int .i64 aI,.int .i64 aJ,.int .i64 aK,.slice aM aD.length aP,.slice aQ aF.length aR] 87 (0,0)) (ba_ aB)):aC≠aG));have aO:=Xa.mk ((by rw [hg];exact Nat.ne_of_gt (Xq (g:=aC) (o:=.cells #[.int .i64 aH,.int .i64 aI,.int .i64 aJ,.int .i64 aK,.slice aM aD.length aP,.slice aQ aF.length aR] 87 (0,0)) (ba_ aB)):aG≠aC));replace aB:=Xa.mk (Xm (g:=aC) (o:=.cells #[.int .i64 aH,.int .i64 aI,.int .i64 aJ,.int .i64 aK,.slice aM aD.length aP,.slice aQ aF.length aR] 87 (0,0)) (ba_ aB) hb);clear hb hbox hg;have hnb13:=aN.out;have hnc13:=aO.out;obtain ⟨_,_,_,_,_,_⟩:=Zr aB.out;obtain ⟨_,_,_,_,_,_⟩:=Zt aB.out;obtain ⟨_,_,_,_,_,_⟩:=Zr aL.out;obtain ⟨_,_,_,_,_,_⟩:=Zt aL.out)|((with_reducible refine Yh (f:=41) rfl ?_);refine Zz (some 29) rfl rfl Tryz.func41 kr_ rfl #[.slice aM aD.length aP,.slice bA aS.length bB] rfl ga_ ?_;(with_reducible refine (ih_laws_eqStmtS k om_ _ _ aD _ _ aS true _ ?side1 ?side2 ?side3 ?side4 A7.out).mono ?_);(case side1=>exact Kd.ca_ (Kd.Xy fD.out HB.out));(case side2=>exact fB.out);(case side3=>exact Kd.ca_ (Kd.Xy fE.out HB.out));(case side4=>exact fC.out);rintro e w16 ⟨rfl,hb⟩;refine ⟨_,rfl,?_⟩;replace aB:=Xa.mk (Xm (g:=aC) (o:=.cells #[.int .i64 aH,.int .i64 aI,.int .i64 aJ,.int .i64 aK,.slice aM aD.length aP,.slice aQ aF.length aR] 87 (0,0)) (ba_ aB) hb);replace aL:=Xa.mk (Xm (g:=aG) (o:=.cells #[.int .i64 aW,.int .i64 aX,.int .i64 aY,.int .i64 aZ,.slice bA aS.length bB,.slice bC aT.length bD] 87 (0,0)) (ba_ aL) hb);replace HB:=Xa.mk (Xi (bl_ HB) hb);clear hb;obtain ⟨_,_,_,_,_,_⟩:=Zr aB.out;obtain ⟨_,_,_,_,_,_⟩:=Zt aB.out;obtain ⟨_,_,_,_,_,_⟩:=Zr aL.out;obtain ⟨_,_,_,_,_,_⟩:=Zt aL.out)|((with_reducible refine Yh (f:=41) rfl ?_);refine Zz (some 35) rfl rfl Tryz.func41 kr_ rfl #[.slice aQ aF.length aR,.slice bC aT.length bD] rfl ga_ ?_;(with_reducible refine (ih_laws_eqStmtS k om_ _ _ aF _ _ aT true _ ?side1 ?side2 ?side3 ?side4 A9.out).mono ?_);(case side1=>exact Kd.ca_ (Kd.Xy fK.out HB.out));(case side2=>exact fI.out);(case side3=>exact Kd.ca_ (Kd.Xy fM.out HB.out));(case side4=>exact fJ.out);rintro e w19 ⟨rfl,hb⟩;refine ⟨_,rfl,?_⟩;replace aB:=Xa.mk (Xm (g:=aC) (o:=.cells #[.int .i64 aH,.int .i64 aI,.int .i64 aJ,.int .i64 aK,.slice aM aD.length aP,.slice aQ aF.length aR] 87 (0,0)) (ba_ aB) hb);replace aL:=Xa.mk (Xm (g:=aG) (o:=.cells #[.int .i64 aW,.int .i64 aX,.int .i64 aY,.int .i64 aZ,.slice bA aS.length bB,.slice bC aT.length bD] 87 (0,0)) (ba_ aL) hb);replace HB:=Xa.mk (Xi (bl_ HB) hb);clear hb));go_ret
       exact ⟨rf_,bl_ HB⟩
      ·replace c10:=Bool.eq_false_iff.mpr c10;subst c10
       replace H:(some false)=some r:=fh_;obtain rfl:=sj_ H;go_enter Tryz.func68,Tryz.ntmps68;go_wp2_with (first|((with_reducible refine Yv (N:=2) rfl ?_);refine Zb ?hg (N:=2) ?hd (cs:=#[.int .i64 aH,.int .i64 aI,.int .i64 aJ,.int .i64 aK,.slice aM aD.length aP,.slice aQ aF.length aR]) (t:=87) ?hr ?_;(case hd|hg=>rfl);(case hr=>exact hr_);intro aC hg w20 hbox hb;have aB:=Xa.mk (hbox);have dW:=Xa.mk ((ge_ hg (Xj (bl_ HB)):w.heap.size≤aC));have dU:=Xa.mk ((ge_ hg (Xj (bl_ HB)):w.heap.size≤aC));replace HB:=Xa.mk (Xi (bl_ HB) hb);clear hb hbox hg)|((with_reducible refine Yv (N:=3) rfl ?_);refine Zb ?hg (N:=3) ?hd (cs:=#[.int .i64 aW,.int .i64 aX,.int .i64 aY,.int .i64 aZ,.slice bA aS.length bB,.slice bC aT.length bD]) (t:=87) ?hr ?_;(case hd|hg=>rfl);(case hr=>exact hr_);intro aG hg w21 hbox hb;have aL:=Xa.mk (hbox);have dX:=Xa.mk ((ge_ hg (Xj (bl_ HB)):w.heap.size≤aG));have dV:=Xa.mk ((ge_ hg (Xj (bl_ HB)):w.heap.size≤aG));replace HB:=Xa.mk (Xi (bl_ HB) hb);have aN:=Xa.mk ((by rw [hg];exact Nat.ne_of_lt (Xq (g:=aC) (o:=.cells #[.int .i64 aH,.int .i64 aI,.int .i64 aJ,.int .i64 aK,.slice aM aD.length aP,.slice aQ aF.length aR] 87 (0,0)) (ba_ aB)):aC≠aG));have aO:=Xa.mk ((by rw [hg];exact Nat.ne_of_gt (Xq (g:=aC) (o:=.cells #[.int .i64 aH,.int .i64 aI,.int .i64 aJ,.int .i64 aK,.slice aM aD.length aP,.slice aQ aF.length aR] 87 (0,0)) (ba_ aB)):aG≠aC));replace aB:=Xa.mk (Xm (g:=aC) (o:=.cells #[.int .i64 aH,.int .i64 aI,.int .i64 aJ,.int .i64 aK,.slice aM aD.length aP,.slice aQ aF.length aR] 87 (0,0)) (ba_ aB) hb);clear hb hbox hg;have hnb22:=aN.out;have hnc22:=aO.out;obtain ⟨_,_,_,_,_,_⟩:=Zr aB.out;obtain ⟨_,_,_,_,_,_⟩:=Zt aB.out;obtain ⟨_,_,_,_,_,_⟩:=Zr aL.out;obtain ⟨_,_,_,_,_,_⟩:=Zt aL.out)|((with_reducible refine Yh (f:=41) rfl ?_);refine Zz (some 29) rfl rfl Tryz.func41 kr_ rfl #[.slice aM aD.length aP,.slice bA aS.length bB] rfl ga_ ?_;(with_reducible refine (ih_laws_eqStmtS k om_ _ _ aD _ _ aS true _ ?side1 ?side2 ?side3 ?side4 A7.out).mono ?_);(case side1=>exact Kd.ca_ (Kd.Xy fD.out HB.out));(case side2=>exact fB.out);(case side3=>exact Kd.ca_ (Kd.Xy fE.out HB.out));(case side4=>exact fC.out);rintro e w25 ⟨rfl,hb⟩;refine ⟨_,rfl,?_⟩;replace aB:=Xa.mk (Xm (g:=aC) (o:=.cells #[.int .i64 aH,.int .i64 aI,.int .i64 aJ,.int .i64 aK,.slice aM aD.length aP,.slice aQ aF.length aR] 87 (0,0)) (ba_ aB) hb);replace aL:=Xa.mk (Xm (g:=aG) (o:=.cells #[.int .i64 aW,.int .i64 aX,.int .i64 aY,.int .i64 aZ,.slice bA aS.length bB,.slice bC aT.length bD] 87 (0,0)) (ba_ aL) hb);replace HB:=Xa.mk (Xi (bl_ HB) hb);clear hb;obtain ⟨_,_,_,_,_,_⟩:=Zr aB.out;obtain ⟨_,_,_,_,_,_⟩:=Zt aB.out;obtain ⟨_,_,_,_,_,_⟩:=Zr aL.out;obtain ⟨_,_,_,_,_,_⟩:=Zt aL.out)|((with_reducible refine Yh (f:=41) rfl ?_);refine Zz (some 35) rfl rfl Tryz.func41 kr_ rfl #[.slice aQ aF.length aR,.slice bC aT.length bD] rfl ga_ ?_;(with_reducible refine (ih_laws_eqStmtS k om_ _ _ aF _ _ aT false _ ?side1 ?side2 ?side3 ?side4 A9.out).mono ?_);(case side1=>exact Kd.ca_ (Kd.Xy fK.out HB.out));(case side2=>exact fI.out);(case side3=>exact Kd.ca_ (Kd.Xy fM.out HB.out));(case side4=>exact fJ.out);rintro e w28 ⟨rfl,hb⟩;refine ⟨_,rfl,?_⟩;replace aB:=Xa.mk (Xm (g:=aC) (o:=.cells #[.int .i64 aH,.int .i64 aI,.int .i64 aJ,.int .i64 aK,.slice aM aD.length aP,.slice aQ aF.length aR] 87 (0,0)) (ba_ aB) hb);replace aL:=Xa.mk (Xm (g:=aG) (o:=.cells #[.int .i64 aW,.int .i64 aX,.int .i64 aY,.int .i64 aZ,.slice bA aS.length bB,.slice bC aT.length bD] 87 (0,0)) (ba_ aL) hb);replace HB:=Xa.mk (Xi (bl_ HB) hb);clear hb));go_ret
       exact ⟨rf_,bl_ HB⟩
     ·replace c8:=Bool.eq_false_iff.mpr c8;subst c8
      replace H:(some false)=some r:=fh_;obtain rfl:=sj_ H;go_enter Tryz.func68,Tryz.ntmps68;go_wp2_with (first|((with_reducible refine Yv (N:=2) rfl ?_);refine Zb ?hg (N:=2) ?hd (cs:=#[.int .i64 aH,.int .i64 aI,.int .i64 aJ,.int .i64 aK,.slice aM aD.length aP,.slice aQ aF.length aR]) (t:=87) ?hr ?_;(case hd|hg=>rfl);(case hr=>exact hr_);intro aC hg w29 hbox hb;have aB:=Xa.mk (hbox);have dW:=Xa.mk ((ge_ hg (Xj (bl_ HB)):w.heap.size≤aC));have dU:=Xa.mk ((ge_ hg (Xj (bl_ HB)):w.heap.size≤aC));replace HB:=Xa.mk (Xi (bl_ HB) hb);clear hb hbox hg)|((with_reducible refine Yv (N:=3) rfl ?_);refine Zb ?hg (N:=3) ?hd (cs:=#[.int .i64 aW,.int .i64 aX,.int .i64 aY,.int .i64 aZ,.slice bA aS.length bB,.slice bC aT.length bD]) (t:=87) ?hr ?_;(case hd|hg=>rfl);(case hr=>exact hr_);intro aG hg w30 hbox hb;have aL:=Xa.mk (hbox);have dX:=Xa.mk ((ge_ hg (Xj (bl_ HB)):w.heap.size≤aG));have dV:=Xa.mk ((ge_ hg (Xj (bl_ HB)):w.heap.size≤aG));replace HB:=Xa.mk (Xi (bl_ HB) hb);have aN:=Xa.mk ((by rw [hg];exact Nat.ne_of_lt (Xq (g:=aC) (o:=.cells #[.int .i64 aH,.int .i64 aI,.int .i64 aJ,.int .i64 aK,.slice aM aD.length aP,.slice aQ aF.length aR] 87 (0,0)) (ba_ aB)):aC≠aG));have aO:=Xa.mk ((by rw [hg];exact Nat.ne_of_gt (Xq (g:=aC) (o:=.cells #[.int .i64 aH,.int .i64 aI,.int .i64 aJ,.int .i64 aK,.slice aM aD.length aP,.slice aQ aF.length aR] 87 (0,0)) (ba_ aB)):aG≠aC));replace aB:=Xa.mk (Xm (g:=aC) (o:=.cells #[.int .i64 aH,.int .i64 aI,.int .i64 aJ,.int .i64 aK,.slice aM aD.length aP,.slice aQ aF.length aR] 87 (0,0)) (ba_ aB) hb);clear hb hbox hg;have hnb31:=aN.out;have hnc31:=aO.out;obtain ⟨_,_,_,_,_,_⟩:=Zr aB.out;obtain ⟨_,_,_,_,_,_⟩:=Zt aB.out;obtain ⟨_,_,_,_,_,_⟩:=Zr aL.out;obtain ⟨_,_,_,_,_,_⟩:=Zt aL.out)|((with_reducible refine Yh (f:=41) rfl ?_);refine Zz (some 29) rfl rfl Tryz.func41 kr_ rfl #[.slice aM aD.length aP,.slice bA aS.length bB] rfl ga_ ?_;(with_reducible refine (ih_laws_eqStmtS k om_ _ _ aD _ _ aS false _ ?side1 ?side2 ?side3 ?side4 A7.out).mono ?_);(case side1=>exact Kd.ca_ (Kd.Xy fD.out HB.out));(case side2=>exact fB.out);(case side3=>exact Kd.ca_ (Kd.Xy fE.out HB.out));(case side4=>exact fC.out);rintro e w34 ⟨rfl,hb⟩;refine ⟨_,rfl,?_⟩;replace aB:=Xa.mk (Xm (g:=aC) (o:=.cells #[.int .i64 aH,.int .i64 aI,.int .i64 aJ,.int .i64 aK,.slice aM aD.length aP,.slice aQ aF.length aR] 87 (0,0)) (ba_ aB) hb);replace aL:=Xa.mk (Xm (g:=aG) (o:=.cells #[.int .i64 aW,.int .i64 aX,.int .i64 aY,.int .i64 aZ,.slice bA aS.length bB,.slice bC aT.length bD] 87 (0,0)) (ba_ aL) hb);replace HB:=Xa.mk (Xi (bl_ HB) hb);clear hb));go_ret
      exact ⟨rf_,bl_ HB⟩
    ·rw [if_neg c6] at H;have gB:(aK == aZ)=false:=nb_ c6;have gH:(aK != aZ)=true:=nn_ c6;obtain rfl:=sj_ H;go_enter Tryz.func68,Tryz.ntmps68;go_wp2_with (first|((with_reducible refine Yv (N:=2) rfl ?_);refine Zb ?hg (N:=2) ?hd (cs:=#[.int .i64 aH,.int .i64 aI,.int .i64 aJ,.int .i64 aK,.slice aM aD.length aP,.slice aQ aF.length aR]) (t:=87) ?hr ?_;(case hd|hg=>rfl);(case hr=>exact hr_);intro aC hg w35 hbox hb;have aB:=Xa.mk (hbox);have dW:=Xa.mk ((ge_ hg (Xj (bl_ HB)):w.heap.size≤aC));have dU:=Xa.mk ((ge_ hg (Xj (bl_ HB)):w.heap.size≤aC));replace HB:=Xa.mk (Xi (bl_ HB) hb);clear hb hbox hg)|((with_reducible refine Yv (N:=3) rfl ?_);refine Zb ?hg (N:=3) ?hd (cs:=#[.int .i64 aW,.int .i64 aX,.int .i64 aY,.int .i64 aZ,.slice bA aS.length bB,.slice bC aT.length bD]) (t:=87) ?hr ?_;(case hd|hg=>rfl);(case hr=>exact hr_);intro aG hg w36 hbox hb;have aL:=Xa.mk (hbox);have dX:=Xa.mk ((ge_ hg (Xj (bl_ HB)):w.heap.size≤aG));have dV:=Xa.mk ((ge_ hg (Xj (bl_ HB)):w.heap.size≤aG));replace HB:=Xa.mk (Xi (bl_ HB) hb);have aN:=Xa.mk ((by rw [hg];exact Nat.ne_of_lt (Xq (g:=aC) (o:=.cells #[.int .i64 aH,.int .i64 aI,.int .i64 aJ,.int .i64 aK,.slice aM aD.length aP,.slice aQ aF.length aR] 87 (0,0)) (ba_ aB)):aC≠aG));have aO:=Xa.mk ((by rw [hg];exact Nat.ne_of_gt (Xq (g:=aC) (o:=.cells #[.int .i64 aH,.int .i64 aI,.int .i64 aJ,.int .i64 aK,.slice aM aD.length aP,.slice aQ aF.length aR] 87 (0,0)) (ba_ aB)):aG≠aC));replace aB:=Xa.mk (Xm (g:=aC) (o:=.cells #[.int .i64 aH,.int .i64 aI,.int .i64 aJ,.int .i64 aK,.slice aM aD.length aP,.slice aQ aF.length aR] 87 (0,0)) (ba_ aB) hb);clear hb hbox hg;have hnb37:=aN.out;have hnc37:=aO.out;obtain ⟨_,_,_,_,_,_⟩:=Zr aB.out;obtain ⟨_,_,_,_,_,_⟩:=Zt aB.out;obtain ⟨_,_,_,_,_,_⟩:=Zr aL.out;obtain ⟨_,_,_,_,_,_⟩:=Zt aL.out));go_ret
     exact ⟨rf_,bl_ HB⟩
   ·rw [if_neg c5] at H;have fZ:(aJ == aY)=false:=nb_ c5;have gG:(aJ != aY)=true:=nn_ c5;obtain rfl:=sj_ H;go_enter Tryz.func68,Tryz.ntmps68;go_wp2_with (first|((with_reducible refine Yv (N:=2) rfl ?_);refine Zb ?hg (N:=2) ?hd (cs:=#[.int .i64 aH,.int .i64 aI,.int .i64 aJ,.int .i64 aK,.slice aM aD.length aP,.slice aQ aF.length aR]) (t:=87) ?hr ?_;(case hd|hg=>rfl);(case hr=>exact hr_);intro aC hg w40 hbox hb;have aB:=Xa.mk (hbox);have dW:=Xa.mk ((ge_ hg (Xj (bl_ HB)):w.heap.size≤aC));have dU:=Xa.mk ((ge_ hg (Xj (bl_ HB)):w.heap.size≤aC));replace HB:=Xa.mk (Xi (bl_ HB) hb);clear hb hbox hg)|((with_reducible refine Yv (N:=3) rfl ?_);refine Zb ?hg (N:=3) ?hd (cs:=#[.int .i64 aW,.int .i64 aX,.int .i64 aY,.int .i64 aZ,.slice bA aS.length bB,.slice bC aT.length bD]) (t:=87) ?hr ?_;(case hd|hg=>rfl);(case hr=>exact hr_);intro aG hg w41 hbox hb;have aL:=Xa.mk (hbox);have dX:=Xa.mk ((ge_ hg (Xj (bl_ HB)):w.heap.size≤aG));have dV:=Xa.mk ((ge_ hg (Xj (bl_ HB)):w.heap.size≤aG));replace HB:=Xa.mk (Xi (bl_ HB) hb);have aN:=Xa.mk ((by rw [hg];exact Nat.ne_of_lt (Xq (g:=aC) (o:=.cells #[.int .i64 aH,.int .i64 aI,.int .i64 aJ,.int .i64 aK,.slice aM aD.length aP,.slice aQ aF.length aR] 87 (0,0)) (ba_ aB)):aC≠aG));have aO:=Xa.mk ((by rw [hg];exact Nat.ne_of_gt (Xq (g:=aC) (o:=.cells #[.int .i64 aH,.int .i64 aI,.int .i64 aJ,.int .i64 aK,.slice aM aD.length aP,.slice aQ aF.length aR] 87 (0,0)) (ba_ aB)):aG≠aC));replace aB:=Xa.mk (Xm (g:=aC) (o:=.cells #[.int .i64 aH,.int .i64 aI,.int .i64 aJ,.int .i64 aK,.slice aM aD.length aP,.slice aQ aF.length aR] 87 (0,0)) (ba_ aB) hb);clear hb hbox hg;have hnb42:=aN.out;have hnc42:=aO.out;obtain ⟨_,_,_,_,_,_⟩:=Zr aB.out;obtain ⟨_,_,_,_,_,_⟩:=Zt aB.out;obtain ⟨_,_,_,_,_,_⟩:=Zr aL.out;obtain ⟨_,_,_,_,_,_⟩:=Zt aL.out));go_ret
    exact ⟨rf_,bl_ HB⟩
  ·rw [if_neg c4] at H;have fO:(aI == aX)=false:=nb_ c4;have gF:(aI != aX)=true:=nn_ c4;obtain rfl:=sj_ H;go_enter Tryz.func68,Tryz.ntmps68;go_wp2_with (first|((with_reducible refine Yv (N:=2) rfl ?_);refine Zb ?hg (N:=2) ?hd (cs:=#[.int .i64 aH,.int .i64 aI,.int .i64 aJ,.int .i64 aK,.slice aM aD.length aP,.slice aQ aF.length aR]) (t:=87) ?hr ?_;(case hd|hg=>rfl);(case hr=>exact hr_);intro aC hg w45 hbox hb;have aB:=Xa.mk (hbox);have dW:=Xa.mk ((ge_ hg (Xj (bl_ HB)):w.heap.size≤aC));have dU:=Xa.mk ((ge_ hg (Xj (bl_ HB)):w.heap.size≤aC));replace HB:=Xa.mk (Xi (bl_ HB) hb);clear hb hbox hg)|((with_reducible refine Yv (N:=3) rfl ?_);refine Zb ?hg (N:=3) ?hd (cs:=#[.int .i64 aW,.int .i64 aX,.int .i64 aY,.int .i64 aZ,.slice bA aS.length bB,.slice bC aT.length bD]) (t:=87) ?hr ?_;(case hd|hg=>rfl);(case hr=>exact hr_);intro aG hg w46 hbox hb;have aL:=Xa.mk (hbox);have dX:=Xa.mk ((ge_ hg (Xj (bl_ HB)):w.heap.size≤aG));have dV:=Xa.mk ((ge_ hg (Xj (bl_ HB)):w.heap.size≤aG));replace HB:=Xa.mk (Xi (bl_ HB) hb);have aN:=Xa.mk ((by rw [hg];exact Nat.ne_of_lt (Xq (g:=aC) (o:=.cells #[.int .i64 aH,.int .i64 aI,.int .i64 aJ,.int .i64 aK,.slice aM aD.length aP,.slice aQ aF.length aR] 87 (0,0)) (ba_ aB)):aC≠aG));have aO:=Xa.mk ((by rw [hg];exact Nat.ne_of_gt (Xq (g:=aC) (o:=.cells #[.int .i64 aH,.int .i64 aI,.int .i64 aJ,.int .i64 aK,.slice aM aD.length aP,.slice aQ aF.length aR] 87 (0,0)) (ba_ aB)):aG≠aC));replace aB:=Xa.mk (Xm (g:=aC) (o:=.cells #[.int .i64 aH,.int .i64 aI,.int .i64 aJ,.int .i64 aK,.slice aM aD.length aP,.slice aQ aF.length aR] 87 (0,0)) (ba_ aB) hb);clear hb hbox hg;have hnb47:=aN.out;have hnc47:=aO.out;obtain ⟨_,_,_,_,_,_⟩:=Zr aB.out;obtain ⟨_,_,_,_,_,_⟩:=Zt aB.out;obtain ⟨_,_,_,_,_,_⟩:=Zr aL.out;obtain ⟨_,_,_,_,_,_⟩:=Zt aL.out));go_ret
   exact ⟨rf_,bl_ HB⟩
 ·rw [if_neg c3] at H;have fF:(aH == aW)=false:=nb_ c3;have fG:(aH != aW)=true:=nn_ c3;obtain rfl:=sj_ H;go_enter Tryz.func68,Tryz.ntmps68;go_wp2_with (first|((with_reducible refine Yv (N:=2) rfl ?_);refine Zb ?hg (N:=2) ?hd (cs:=#[.int .i64 aH,.int .i64 aI,.int .i64 aJ,.int .i64 aK,.slice aM aD.length aP,.slice aQ aF.length aR]) (t:=87) ?hr ?_;(case hd|hg=>rfl);(case hr=>exact hr_);intro aC hg w50 hbox hb;have aB:=Xa.mk (hbox);have dW:=Xa.mk ((ge_ hg (Xj (bl_ HB)):w.heap.size≤aC));have dU:=Xa.mk ((ge_ hg (Xj (bl_ HB)):w.heap.size≤aC));replace HB:=Xa.mk (Xi (bl_ HB) hb);clear hb hbox hg)|((with_reducible refine Yv (N:=3) rfl ?_);refine Zb ?hg (N:=3) ?hd (cs:=#[.int .i64 aW,.int .i64 aX,.int .i64 aY,.int .i64 aZ,.slice bA aS.length bB,.slice bC aT.length bD]) (t:=87) ?hr ?_;(case hd|hg=>rfl);(case hr=>exact hr_);intro aG hg w51 hbox hb;have aL:=Xa.mk (hbox);have dX:=Xa.mk ((ge_ hg (Xj (bl_ HB)):w.heap.size≤aG));have dV:=Xa.mk ((ge_ hg (Xj (bl_ HB)):w.heap.size≤aG));replace HB:=Xa.mk (Xi (bl_ HB) hb);have aN:=Xa.mk ((by rw [hg];exact Nat.ne_of_lt (Xq (g:=aC) (o:=.cells #[.int .i64 aH,.int .i64 aI,.int .i64 aJ,.int .i64 aK,.slice aM aD.length aP,.slice aQ aF.length aR] 87 (0,0)) (ba_ aB)):aC≠aG));have aO:=Xa.mk ((by rw [hg];exact Nat.ne_of_gt (Xq (g:=aC) (o:=.cells #[.int .i64 aH,.int .i64 aI,.int .i64 aJ,.int .i64 aK,.slice aM aD.length aP,.slice aQ aF.length aR] 87 (0,0)) (ba_ aB)):aG≠aC));replace aB:=Xa.mk (Xm (g:=aC) (o:=.cells #[.int .i64 aH,.int .i64 aI,.int .i64 aJ,.int .i64 aK,.slice aM aD.length aP,.slice aQ aF.length aR] 87 (0,0)) (ba_ aB) hb);clear hb hbox hg;have hnb52:=aN.out;have hnc52:=aO.out;obtain ⟨_,_,_,_,_,_⟩:=Zr aB.out;obtain ⟨_,_,_,_,_,_⟩:=Zt aB.out;obtain ⟨_,_,_,_,_,_⟩:=Zr aL.out;obtain ⟨_,_,_,_,_,_⟩:=Zt aL.out));go_ret
  exact ⟨rf_,bl_ HB⟩
def Xt.T6:Bool × List (List Nat × List Nat):=(true,[([],[]),([],[]),([0,1],[0,1]),([2],[2]),([],[]),([],[]),([4,5],[4,5]),([6],[6]),([3,7],[3,7]),([8],[8])])
def Xt.B6:List Nat:=[0,0,3,7,0,0,48,112,255,511]
theorem Xt.tab6:rtab .any (opsOf Tryz.f41 6)=Xt.T6:=kr_
theorem Xt.bits6:waitsOk Xt.T6.2 Xt.B6=true:=kr_
theorem Xt.step (k:Nat) (ih_laws_eqStmt:∀ m_,m_<k→∀ (aH:Int) (aI:Int) (aJ:Int) (aK:Int) (aM:Option Addr) (aP:Nat) (aD:List (S87)) (aQ:Option Addr) (aR:Nat) (aF:List (S87)) (aW:Int) (aX:Int) (aY:Int) (aZ:Int) (bA:Option Addr) (bB:Nat) (aS:List (S87)) (bC:Option Addr) (bD:Nat) (aT:List (S87)) (r:Bool) (w:World) (eD:Kd.C k87 w aM aD.length aD) (dY:aD.length≤aP) (eF:Kd.C k87 w aQ aF.length aF) (dZ:aF.length≤aR) (eG:Kd.C k87 w bA aS.length aS) (d9:aS.length≤bB) (eH:Kd.C k87 w bC aT.length aT) (eB:aT.length≤bD) (h:Ve.f m_ aH aI aJ aK aD aF aW aX aY aZ aS aT=some r),
  Calls Tryz.prog 68 #[.agg #[.int .i64 aH,.int .i64 aI,.int .i64 aJ,.int .i64 aK,.slice aM aD.length aP,.slice aQ aF.length aR],.agg #[.int .i64 aW,.int .i64 aX,.int .i64 aY,.int .i64 aZ,.slice bA aS.length bB,.slice bC aT.length bD]] w fun e w'=>e=.returned (.bool r)∧Below w.heap.size w w') (ih:∀ m_,m_<k→∀ (A0:Option Addr) (c0:Nat) (l0:List (S87)) (A1:Option Addr) (c1:Nat) (l1:List (S87)) (r:Bool) (w:World) (hr0:Kd.C k87 w A0 l0.length l0) (hc0:l0.length≤c0) (hr1:Kd.C k87 w A1 l1.length l1) (hc1:l1.length≤c1) (h:Xt.f m_ l0 l1=some r),
  Calls Tryz.prog 41 #[.slice A0 l0.length c0,.slice A1 l1.length c1] w fun e w'=>e=.returned (.bool r)∧Below w.heap.size w w'):∀ (A0:Option Addr) (c0:Nat) (l0:List (S87)) (A1:Option Addr) (c1:Nat) (l1:List (S87)) (r:Bool) (w:World) (hr0:Kd.C k87 w A0 l0.length l0) (hc0:l0.length≤c0) (hr1:Kd.C k87 w A1 l1.length l1) (hc1:l1.length≤c1) (h:Xt.f k l0 l1=some r),
  Calls Tryz.prog 41 #[.slice A0 l0.length c0,.slice A1 l1.length c1] w fun e w'=>e=.returned (.bool r)∧Below w.heap.size w w':=by
 intro A0 c0 l0 A1 c1 l1 r w hr0 hc0 hr1 hc1 h
 cases k with
 |zero=>exact absurd h (by simp [Xt.f])
 |succ k=>
 simp only [Xt.f] at h;have gI:=Tryz.underlying87;have gK:=Xa.mk hr0;have HC0:=Xa.mk hc0;clear hr0 hc0;have HR1:=Xa.mk hr1;have HC1:=Xa.mk hc1;clear hr1 hc1;have HB:=Xa.mk (Below.refl w.heap.size w);have H:(if (l0.length:Int)=(l1.length:Int) then (Xt.l0 k l0 l1 0) else (some false))=some r:=h;clear h;by_cases c3:(l0.length:Int)=(l1.length:Int)
 ·rw [if_pos c3] at H;have fF:((l0.length:Int) == (l1.length:Int))=true:=eb_ c3;have fG:((l0.length:Int) != (l1.length:Int))=false:=nq_ c3
  have fV:(l0.length == l1.length)=true:=by first|simpa using c3|(simp at c3 ⊢;omega)
  clear c3;have H':=Xa.mk H;clear H;go_enter Tryz.func41,Tryz.ntmps41;go_wp2
  go_loopg [5] k (fun kq v5 w'=>∃ (aA:Int),v5=.int .i64 aA∧Xa (Xt.l0 kq l0 l1 aA=some r)∧Xa (kq≤k)∧Xa (Below w.heap.size w w'))
  case atStart=>exact ⟨(0),rg_,H',⟨nr_ _⟩,⟨bl_ HB⟩⟩
  case round=>
   clear H'
   try clear c1
   try clear c3
   try clear fF
   try clear fG
   try clear fV
   obtain ⟨aA,rfl,HA,gD,HB⟩:=hrel
   cases gk with
   |zero=>exact absurd HA.out (by simp [Xt.l0])
   |succ k1=>
    have H:=HA.out;clear HA;simp only [Xt.l0] at H;by_cases c4:aA<(l0.length:Int)
    ·rw [if_pos c4] at H;have fO:decide (aA<(l0.length:Int))=true:=dt_ c4;clear c4;by_cases c5:0≤aA
     ·rw [if_pos c5] at H;have fZ:decide (0≤aA)=true:=dt_ c5;clear c5;by_cases c6:aA<(l1.length:Int)
      ·rw [if_pos c6] at H;have gB:decide (aA<(l1.length:Int))=true:=dt_ c6;clear c6;replace H:=bo_ H;obtain ⟨fH,fT,H⟩:=H;replace H:(if fH=true then (Xt.l0 k1 l0 l1 (wrap64 (aA+1))) else (some false))=some r:=H;have A7:=Xa.mk fT;clear fT;by_cases c8:fH=true
       ·subst c8
        replace H:(Xt.l0 k1 l0 l1 (wrap64 (aA+1)))=some r:=ph_;have H':=Xa.mk H;clear H
        try go_wp2
        replace HB:=Xa.mk (below_drew1 HB.out);have eU:0≤(aA:Int):=od_ as_;have eY:aA<(l0.length:Int):=od_ as_;obtain ⟨aU,dK,dP,dL,dQ,fP,bQ,bR,bS,bT,bU,bV,dG,dC,dH,dD⟩:=at_T87 gK.out aA eU eY;have bJ:=bV;have bI:=bU;have bH:=bT;have bG:=bS;have bF:=bR;have bE:=bQ;cases fP
        replace bQ:=bw_ HB bQ;replace bR:=bw_ HB bR;replace bS:=bw_ HB bS;replace bT:=bw_ HB bT;replace bU:=bw_ HB bU;replace bV:=bw_ HB bV;have cO:=Xa.mk dC;have eO:=Xa.mk dG;clear dC dG;have cZ:=Xa.mk dD;have eP:=Xa.mk dH;clear dD dH;replace eU:=eq_true eU;replace eY:=eq_true eY;have eX:0≤(aA:Int):=od_ as_;have eZ:aA<(l1.length:Int):=od_ as_;obtain ⟨aV,dM,dR,dN,dS,fQ,bW,bX,bY,bZ,cB,cK,dI,dE,dJ,dF⟩:=at_T87 HR1.out aA eX eZ;have bP:=cK;have bO:=cB;have bN:=bZ;have bM:=bY;have bL:=bX;have bK:=bW;cases fQ
        replace bW:=bw_ HB bW;replace bX:=bw_ HB bX;replace bY:=bw_ HB bY;replace bZ:=bw_ HB bZ;replace cB:=bw_ HB cB;replace cK:=bw_ HB cK;have dA:=Xa.mk dE;have eQ:=Xa.mk dI;clear dE dI;have dB:=Xa.mk dF;have eT:=Xa.mk dJ;clear dF dJ;replace eX:=eq_true eX;replace eZ:=eq_true eZ;refine Ul (n:=10) (S:=fun w'=>w'.cell? (aU.add ((aA).toNat * 6))=some (.int .i64 ((Xe l0 aA).f0))∧w'.cell? ⟨(aU.add ((aA).toNat * 6)).block,(aU.add ((aA).toNat * 6)).off+1,none⟩=some (.int .i64 ((Xe l0 aA).f1))∧w'.cell? ⟨(aU.add ((aA).toNat * 6)).block,(aU.add ((aA).toNat * 6)).off+2,none⟩=some (.int .i64 ((Xe l0 aA).f2))∧w'.cell? ⟨(aU.add ((aA).toNat * 6)).block,(aU.add ((aA).toNat * 6)).off+3,none⟩=some (.int .i64 ((Xe l0 aA).f3))∧w'.cell? ⟨(aU.add ((aA).toNat * 6)).block,(aU.add ((aA).toNat * 6)).off+4,none⟩=some (.slice dK ((Xe l0 aA).f4).length dP)∧w'.cell? ⟨(aU.add ((aA).toNat * 6)).block,(aU.add ((aA).toNat * 6)).off+5,none⟩=some (.slice dL ((Xe l0 aA).f5).length dQ)∧w'.cell? (aV.add ((aA).toNat * 6))=some (.int .i64 ((Xe l1 aA).f0))∧w'.cell? ⟨(aV.add ((aA).toNat * 6)).block,(aV.add ((aA).toNat * 6)).off+1,none⟩=some (.int .i64 ((Xe l1 aA).f1))∧w'.cell? ⟨(aV.add ((aA).toNat * 6)).block,(aV.add ((aA).toNat * 6)).off+2,none⟩=some (.int .i64 ((Xe l1 aA).f2))∧w'.cell? ⟨(aV.add ((aA).toNat * 6)).block,(aV.add ((aA).toNat * 6)).off+3,none⟩=some (.int .i64 ((Xe l1 aA).f3))∧w'.cell? ⟨(aV.add ((aA).toNat * 6)).block,(aV.add ((aA).toNat * 6)).off+4,none⟩=some (.slice dM ((Xe l1 aA).f4).length dR)∧w'.cell? ⟨(aV.add ((aA).toNat * 6)).block,(aV.add ((aA).toNat * 6)).off+5,none⟩=some (.slice dN ((Xe l1 aA).f5).length dS)) (ds:=[]) #[false,false,false,false,false,false,false,false,false,false] kr_ rfl rfl ⟨((HB.out.cell (World.block_lt_of_cell? w _ bE)).trans bE),((HB.out.cell (World.block_lt_of_cell? w _ bF)).trans bF),((HB.out.cell (World.block_lt_of_cell? w _ bG)).trans bG),((HB.out.cell (World.block_lt_of_cell? w _ bH)).trans bH),((HB.out.cell (World.block_lt_of_cell? w _ bI)).trans bI),((HB.out.cell (World.block_lt_of_cell? w _ bJ)).trans bJ),((HB.out.cell (World.block_lt_of_cell? w _ bK)).trans bK),((HB.out.cell (World.block_lt_of_cell? w _ bL)).trans bL),((HB.out.cell (World.block_lt_of_cell? w _ bM)).trans bM),((HB.out.cell (World.block_lt_of_cell? w _ bN)).trans bN),((HB.out.cell (World.block_lt_of_cell? w _ bO)).trans bO),((HB.out.cell (World.block_lt_of_cell? w _ bP)).trans bP)⟩ (fun hHeld=>?_);refine with_tabW Xt.tab6 Xt.bits6 (fun dO fU=>?_);generalize wr.drew=w9 at HB cO cZ dA dB bQ bR bS bT bU bV bW bX bY bZ cB cK hHeld ⊢;refine Zv (i:=0) (N:=some 17) (v:=?_) (a':=?_) #[true,false,false,false,false,false,false,false,false,false] rfl rfl (Zf dO.out kr_) (fun _ _ _ h=>h) (Or.inl ⟨rl1_,?_⟩) ?_ ?_;rotate_left
        · exact wr_
        rotate_left
        · exact ap_
        refine Zv (i:=1) (N:=some 18) (v:=?_) (a':=?_) #[true,true,false,false,false,false,false,false,false,false] rfl rfl (Zf dO.out kr_) (fun _ _ _ h=>h) (Or.inl ⟨rl1_,?_⟩) ?_ ?_;rotate_left
        · exact wr_
        rotate_left
        · exact ap_
        refine Zv (i:=2) (N:=some 19) (v:=?_) (a':=?_) #[true,true,true,false,false,false,false,false,false,false] rfl rfl (Zf dO.out kr_) (fun _ _ _ h=>h) (Or.inl ⟨rl1_,?_⟩) ?_ ?_;rotate_left
        · exact wr_
        rotate_left
        · exact ap_
        refine Zv (i:=4) (N:=some 21) (v:=?_) (a':=?_) #[true,true,true,false,true,false,false,false,false,false] rfl rfl (Zf dO.out kr_) (fun _ _ _ h=>h) (Or.inl ⟨rl1_,?_⟩) ?_ ?_;rotate_left
        · exact wr_
        rotate_left
        · exact ap_
        refine Zv (i:=5) (N:=some 22) (v:=?_) (a':=?_) #[true,true,true,false,true,true,false,false,false,false] rfl rfl (Zf dO.out kr_) (fun _ _ _ h=>h) (Or.inl ⟨rl1_,?_⟩) ?_ ?_;rotate_left
        · exact wr_
        rotate_left
        · exact ap_
        refine Zv (i:=6) (N:=some 23) (v:=?_) (a':=?_) #[true,true,true,false,true,true,true,false,false,false] rfl rfl (Zf dO.out kr_) (fun _ _ _ h=>h) (Or.inl ⟨rl1_,?_⟩) ?_ ?_;rotate_left
        · exact wr_
        rotate_left
        · exact ap_
        refine take_ (i:=3) (N:=some 20) (v:=?_) (a':=?_) #[true,true,true,true,true,true,true,false,false,false] rfl rfl (take_ofW dO.out fU.out kr_) (fun _ _ _ h=>h) (Or.inl ⟨rl1_,?_⟩) hHeld ?_ ?_;rotate_left
        ·rintro w' ⟨s0,s1,s2,s3,s4,s5,s6,s7,s8,s9,s10,s11⟩;go_simp
         with_reducible rfl
        rotate_left
        · exact ap_
        refine take_ (i:=7) (N:=some 24) (v:=?_) (a':=?_) #[true,true,true,true,true,true,true,true,false,false] rfl rfl (take_ofW dO.out fU.out kr_) (fun _ _ _ h=>h) (Or.inl ⟨rl1_,?_⟩) hHeld ?_ ?_;rotate_left
        ·rintro w' ⟨s0,s1,s2,s3,s4,s5,s6,s7,s8,s9,s10,s11⟩;go_simp
         with_reducible rfl
        rotate_left
        · exact ap_
        refine one_ (i:=8) (N:=some 25) #[true,true,true,true,true,true,true,true,true,false] rfl rfl (one_of dO.out kr_) de_ (fun K hK=>?_);refine Vd Tryz.func68 kr_ rfl #[.agg #[.int .i64 ((Xe l0 aA).f0),.int .i64 ((Xe l0 aA).f1),.int .i64 ((Xe l0 aA).f2),.int .i64 ((Xe l0 aA).f3),.slice dK ((Xe l0 aA).f4).length dP,.slice dL ((Xe l0 aA).f5).length dQ],.agg #[.int .i64 ((Xe l1 aA).f0),.int .i64 ((Xe l1 aA).f1),.int .i64 ((Xe l1 aA).f2),.int .i64 ((Xe l1 aA).f3),.slice dM ((Xe l1 aA).f4).length dR,.slice dN ((Xe l1 aA).f5).length dS]] rl1_ rfl rfl ga_ ?_
        with_reducible refine (ih_laws_eqStmt k1 (by have:=gD.out;omega) ((Xe l0 aA).f0) ((Xe l0 aA).f1) ((Xe l0 aA).f2) ((Xe l0 aA).f3) _ _ ((Xe l0 aA).f4) _ _ ((Xe l0 aA).f5) ((Xe l1 aA).f0) ((Xe l1 aA).f1) ((Xe l1 aA).f2) ((Xe l1 aA).f3) _ _ ((Xe l1 aA).f4) _ _ ((Xe l1 aA).f5) true _ ?side1 ?side2 ?side3 ?side4 ?side5 ?side6 ?side7 ?side8 A7.out).mono ?_
        (case side1=>exact Kd.ca_ (Kd.Xy cO.out HB.out))
        (case side2=>exact eO.out)
        (case side3=>exact Kd.ca_ (Kd.Xy cZ.out HB.out))
        (case side4=>exact eP.out)
        (case side5=>exact Kd.ca_ (Kd.Xy dA.out HB.out))
        (case side6=>exact eQ.out)
        (case side7=>exact Kd.ca_ (Kd.Xy dB.out HB.out))
        (case side8=>exact eT.out)
        rintro e w10 ⟨rfl,hb⟩;refine ⟨_,rfl,?_⟩;replace HB:=Xa.mk (Xi (bl_ HB) hb)
        clear hb
        skip
        skip
        skip
        refine hK.out _ _ ⟨((HB.out.cell (World.block_lt_of_cell? w _ bE)).trans bE),((HB.out.cell (World.block_lt_of_cell? w _ bF)).trans bF),((HB.out.cell (World.block_lt_of_cell? w _ bG)).trans bG),((HB.out.cell (World.block_lt_of_cell? w _ bH)).trans bH),((HB.out.cell (World.block_lt_of_cell? w _ bI)).trans bI),((HB.out.cell (World.block_lt_of_cell? w _ bJ)).trans bJ),((HB.out.cell (World.block_lt_of_cell? w _ bK)).trans bK),((HB.out.cell (World.block_lt_of_cell? w _ bL)).trans bL),((HB.out.cell (World.block_lt_of_cell? w _ bM)).trans bM),((HB.out.cell (World.block_lt_of_cell? w _ bN)).trans bN),((HB.out.cell (World.block_lt_of_cell? w _ bO)).trans bO),((HB.out.cell (World.block_lt_of_cell? w _ bP)).trans bP)⟩ (fun hHeld=>?_);clear hK K;refine no_ ?_;refine Zv (i:=9) (N:=some 26) (v:=?_) (a':=?_) #[true,true,true,true,true,true,true,true,true,true] rfl rfl (Zf dO.out kr_) (fun _ _ _ h=>h) (Or.inl ⟨rl1_,?_⟩) ?_ ?_;rotate_left
        · exact wr_
        rotate_left
        · exact ap_
        refine Uz (done_of dO.out kr_) ?_
        try go_wp2
        go_roundg k1
        case measure=>have:=gD.out;omega
        case rel=>exact ⟨(wrap64 (aA+1)),rg_,H',⟨by have:=gD.out;omega⟩,⟨bl_ HB⟩⟩
       ·replace c8:=Bool.eq_false_iff.mpr c8;subst c8
        replace H:(some false)=some r:=fh_;obtain rfl:=sj_ H
        try go_wp2
        replace HB:=Xa.mk (below_drew1 HB.out);have eU:0≤(aA:Int):=od_ as_;have eY:aA<(l0.length:Int):=od_ as_;obtain ⟨aU,dK,dP,dL,dQ,fP,bQ,bR,bS,bT,bU,bV,dG,dC,dH,dD⟩:=at_T87 gK.out aA eU eY;have bJ:=bV;have bI:=bU;have bH:=bT;have bG:=bS;have bF:=bR;have bE:=bQ;cases fP
        replace bQ:=bw_ HB bQ;replace bR:=bw_ HB bR;replace bS:=bw_ HB bS;replace bT:=bw_ HB bT;replace bU:=bw_ HB bU;replace bV:=bw_ HB bV;have cO:=Xa.mk dC;have eO:=Xa.mk dG;clear dC dG;have cZ:=Xa.mk dD;have eP:=Xa.mk dH;clear dD dH;replace eU:=eq_true eU;replace eY:=eq_true eY;have eX:0≤(aA:Int):=od_ as_;have eZ:aA<(l1.length:Int):=od_ as_;obtain ⟨aV,dM,dR,dN,dS,fQ,bW,bX,bY,bZ,cB,cK,dI,dE,dJ,dF⟩:=at_T87 HR1.out aA eX eZ;have bP:=cK;have bO:=cB;have bN:=bZ;have bM:=bY;have bL:=bX;have bK:=bW;cases fQ
        replace bW:=bw_ HB bW;replace bX:=bw_ HB bX;replace bY:=bw_ HB bY;replace bZ:=bw_ HB bZ;replace cB:=bw_ HB cB;replace cK:=bw_ HB cK;have dA:=Xa.mk dE;have eQ:=Xa.mk dI;clear dE dI;have dB:=Xa.mk dF;have eT:=Xa.mk dJ;clear dF dJ;replace eX:=eq_true eX;replace eZ:=eq_true eZ;refine Ul (n:=10) (S:=fun w'=>w'.cell? (aU.add ((aA).toNat * 6))=some (.int .i64 ((Xe l0 aA).f0))∧w'.cell? ⟨(aU.add ((aA).toNat * 6)).block,(aU.add ((aA).toNat * 6)).off+1,none⟩=some (.int .i64 ((Xe l0 aA).f1))∧w'.cell? ⟨(aU.add ((aA).toNat * 6)).block,(aU.add ((aA).toNat * 6)).off+2,none⟩=some (.int .i64 ((Xe l0 aA).f2))∧w'.cell? ⟨(aU.add ((aA).toNat * 6)).block,(aU.add ((aA).toNat * 6)).off+3,none⟩=some (.int .i64 ((Xe l0 aA).f3))∧w'.cell? ⟨(aU.add ((aA).toNat * 6)).block,(aU.add ((aA).toNat * 6)).off+4,none⟩=some (.slice dK ((Xe l0 aA).f4).length dP)∧w'.cell? ⟨(aU.add ((aA).toNat * 6)).block,(aU.add ((aA).toNat * 6)).off+5,none⟩=some (.slice dL ((Xe l0 aA).f5).length dQ)∧w'.cell? (aV.add ((aA).toNat * 6))=some (.int .i64 ((Xe l1 aA).f0))∧w'.cell? ⟨(aV.add ((aA).toNat * 6)).block,(aV.add ((aA).toNat * 6)).off+1,none⟩=some (.int .i64 ((Xe l1 aA).f1))∧w'.cell? ⟨(aV.add ((aA).toNat * 6)).block,(aV.add ((aA).toNat * 6)).off+2,none⟩=some (.int .i64 ((Xe l1 aA).f2))∧w'.cell? ⟨(aV.add ((aA).toNat * 6)).block,(aV.add ((aA).toNat * 6)).off+3,none⟩=some (.int .i64 ((Xe l1 aA).f3))∧w'.cell? ⟨(aV.add ((aA).toNat * 6)).block,(aV.add ((aA).toNat * 6)).off+4,none⟩=some (.slice dM ((Xe l1 aA).f4).length dR)∧w'.cell? ⟨(aV.add ((aA).toNat * 6)).block,(aV.add ((aA).toNat * 6)).off+5,none⟩=some (.slice dN ((Xe l1 aA).f5).length dS)) (ds:=[]) #[false,false,false,false,false,false,false,false,false,false] kr_ rfl rfl ⟨((HB.out.cell (World.block_lt_of_cell? w _ bE)).trans bE),((HB.out.cell (World.block_lt_of_cell? w _ bF)).trans bF),((HB.out.cell (World.block_lt_of_cell? w _ bG)).trans bG),((HB.out.cell (World.block_lt_of_cell? w _ bH)).trans bH),((HB.out.cell (World.block_lt_of_cell? w _ bI)).trans bI),((HB.out.cell (World.block_lt_of_cell? w _ bJ)).trans bJ),((HB.out.cell (World.block_lt_of_cell? w _ bK)).trans bK),((HB.out.cell (World.block_lt_of_cell? w _ bL)).trans bL),((HB.out.cell (World.block_lt_of_cell? w _ bM)).trans bM),((HB.out.cell (World.block_lt_of_cell? w _ bN)).trans bN),((HB.out.cell (World.block_lt_of_cell? w _ bO)).trans bO),((HB.out.cell (World.block_lt_of_cell? w _ bP)).trans bP)⟩ (fun hHeld=>?_);refine with_tabW Xt.tab6 Xt.bits6 (fun dO fU=>?_);generalize wr.drew=gL at HB cO cZ dA dB bQ bR bS bT bU bV bW bX bY bZ cB cK hHeld ⊢;refine Zv (i:=0) (N:=some 17) (v:=?_) (a':=?_) #[true,false,false,false,false,false,false,false,false,false] rfl rfl (Zf dO.out kr_) (fun _ _ _ h=>h) (Or.inl ⟨rl1_,?_⟩) ?_ ?_;rotate_left
        · exact wr_
        rotate_left
        · exact ap_
        refine Zv (i:=1) (N:=some 18) (v:=?_) (a':=?_) #[true,true,false,false,false,false,false,false,false,false] rfl rfl (Zf dO.out kr_) (fun _ _ _ h=>h) (Or.inl ⟨rl1_,?_⟩) ?_ ?_;rotate_left
        · exact wr_
        rotate_left
        · exact ap_
        refine Zv (i:=2) (N:=some 19) (v:=?_) (a':=?_) #[true,true,true,false,false,false,false,false,false,false] rfl rfl (Zf dO.out kr_) (fun _ _ _ h=>h) (Or.inl ⟨rl1_,?_⟩) ?_ ?_;rotate_left
        · exact wr_
        rotate_left
        · exact ap_
        refine Zv (i:=4) (N:=some 21) (v:=?_) (a':=?_) #[true,true,true,false,true,false,false,false,false,false] rfl rfl (Zf dO.out kr_) (fun _ _ _ h=>h) (Or.inl ⟨rl1_,?_⟩) ?_ ?_;rotate_left
        · exact wr_
        rotate_left
        · exact ap_
        refine Zv (i:=5) (N:=some 22) (v:=?_) (a':=?_) #[true,true,true,false,true,true,false,false,false,false] rfl rfl (Zf dO.out kr_) (fun _ _ _ h=>h) (Or.inl ⟨rl1_,?_⟩) ?_ ?_;rotate_left
        · exact wr_
        rotate_left
        · exact ap_
        refine Zv (i:=6) (N:=some 23) (v:=?_) (a':=?_) #[true,true,true,false,true,true,true,false,false,false] rfl rfl (Zf dO.out kr_) (fun _ _ _ h=>h) (Or.inl ⟨rl1_,?_⟩) ?_ ?_;rotate_left
        · exact wr_
        rotate_left
        · exact ap_
        refine take_ (i:=3) (N:=some 20) (v:=?_) (a':=?_) #[true,true,true,true,true,true,true,false,false,false] rfl rfl (take_ofW dO.out fU.out kr_) (fun _ _ _ h=>h) (Or.inl ⟨rl1_,?_⟩) hHeld ?_ ?_;rotate_left
        ·rintro w' ⟨s0,s1,s2,s3,s4,s5,s6,s7,s8,s9,s10,s11⟩;go_simp
         with_reducible rfl
        rotate_left
        · exact ap_
        refine take_ (i:=7) (N:=some 24) (v:=?_) (a':=?_) #[true,true,true,true,true,true,true,true,false,false] rfl rfl (take_ofW dO.out fU.out kr_) (fun _ _ _ h=>h) (Or.inl ⟨rl1_,?_⟩) hHeld ?_ ?_;rotate_left
        ·rintro w' ⟨s0,s1,s2,s3,s4,s5,s6,s7,s8,s9,s10,s11⟩;go_simp
         with_reducible rfl
        rotate_left
        · exact ap_
        refine one_ (i:=8) (N:=some 25) #[true,true,true,true,true,true,true,true,true,false] rfl rfl (one_of dO.out kr_) de_ (fun K hK=>?_);refine Vd Tryz.func68 kr_ rfl #[.agg #[.int .i64 ((Xe l0 aA).f0),.int .i64 ((Xe l0 aA).f1),.int .i64 ((Xe l0 aA).f2),.int .i64 ((Xe l0 aA).f3),.slice dK ((Xe l0 aA).f4).length dP,.slice dL ((Xe l0 aA).f5).length dQ],.agg #[.int .i64 ((Xe l1 aA).f0),.int .i64 ((Xe l1 aA).f1),.int .i64 ((Xe l1 aA).f2),.int .i64 ((Xe l1 aA).f3),.slice dM ((Xe l1 aA).f4).length dR,.slice dN ((Xe l1 aA).f5).length dS]] rl1_ rfl rfl ga_ ?_
        with_reducible refine (ih_laws_eqStmt k1 (by have:=gD.out;omega) ((Xe l0 aA).f0) ((Xe l0 aA).f1) ((Xe l0 aA).f2) ((Xe l0 aA).f3) _ _ ((Xe l0 aA).f4) _ _ ((Xe l0 aA).f5) ((Xe l1 aA).f0) ((Xe l1 aA).f1) ((Xe l1 aA).f2) ((Xe l1 aA).f3) _ _ ((Xe l1 aA).f4) _ _ ((Xe l1 aA).f5) false _ ?side1 ?side2 ?side3 ?side4 ?side5 ?side6 ?side7 ?side8 A7.out).mono ?_
        (case side1=>exact Kd.ca_ (Kd.Xy cO.out HB.out))
        (case side2=>exact eO.out)
        (case side3=>exact Kd.ca_ (Kd.Xy cZ.out HB.out))
        (case side4=>exact eP.out)
        (case side5=>exact Kd.ca_ (Kd.Xy dA.out HB.out))
        (case side6=>exact eQ.out)
        (case side7=>exact Kd.ca_ (Kd.Xy dB.out HB.out))
        (case side8=>exact eT.out)
        rintro e gM ⟨rfl,hb⟩;refine ⟨_,rfl,?_⟩;replace HB:=Xa.mk (Xi (bl_ HB) hb)
        clear hb
        skip
        skip
        skip
        refine hK.out _ _ ⟨((HB.out.cell (World.block_lt_of_cell? w _ bE)).trans bE),((HB.out.cell (World.block_lt_of_cell? w _ bF)).trans bF),((HB.out.cell (World.block_lt_of_cell? w _ bG)).trans bG),((HB.out.cell (World.block_lt_of_cell? w _ bH)).trans bH),((HB.out.cell (World.block_lt_of_cell? w _ bI)).trans bI),((HB.out.cell (World.block_lt_of_cell? w _ bJ)).trans bJ),((HB.out.cell (World.block_lt_of_cell? w _ bK)).trans bK),((HB.out.cell (World.block_lt_of_cell? w _ bL)).trans bL),((HB.out.cell (World.block_lt_of_cell? w _ bM)).trans bM),((HB.out.cell (World.block_lt_of_cell? w _ bN)).trans bN),((HB.out.cell (World.block_lt_of_cell? w _ bO)).trans bO),((HB.out.cell (World.block_lt_of_cell? w _ bP)).trans bP)⟩ (fun hHeld=>?_);clear hK K;refine no_ ?_;refine Zv (i:=9) (N:=some 26) (v:=?_) (a':=?_) #[true,true,true,true,true,true,true,true,true,true] rfl rfl (Zf dO.out kr_) (fun _ _ _ h=>h) (Or.inl ⟨rl1_,?_⟩) ?_ ?_;rotate_left
        · exact wr_
        rotate_left
        · exact ap_
        refine Uz (done_of dO.out kr_) ?_
        try go_wp2
        go_ret
        exact ⟨rf_,bl_ HB⟩
      ·rw [if_neg c6] at H;exact absurd H sm_
     ·rw [if_neg c5] at H;exact absurd H sm_
    ·rw [if_neg c4] at H;have fO:decide (aA<(l0.length:Int))=false:=df_ c4;clear c4;obtain rfl:=sj_ H;go_wp2;go_ret
     exact ⟨rf_,bl_ HB⟩
 ·rw [if_neg c3] at H;have fF:((l0.length:Int) == (l1.length:Int))=false:=nb_ c3;have fG:((l0.length:Int) != (l1.length:Int))=true:=nn_ c3
  have fV:(l0.length == l1.length)=false:=by first|simpa using c3|(simp at c3 ⊢;omega)
  obtain rfl:=sj_ H;go_enter Tryz.func41,Tryz.ntmps41;go_wp2;go_ret
  exact ⟨rf_,bl_ HB⟩
theorem laws_eqStmt_laws_eqStmtS.all (k:Nat):(∀ (aH:Int) (aI:Int) (aJ:Int) (aK:Int) (aM:Option Addr) (aP:Nat) (aD:List (S87)) (aQ:Option Addr) (aR:Nat) (aF:List (S87)) (aW:Int) (aX:Int) (aY:Int) (aZ:Int) (bA:Option Addr) (bB:Nat) (aS:List (S87)) (bC:Option Addr) (bD:Nat) (aT:List (S87)) (r:Bool) (w:World) (eD:Kd.C k87 w aM aD.length aD) (dY:aD.length≤aP) (eF:Kd.C k87 w aQ aF.length aF) (dZ:aF.length≤aR) (eG:Kd.C k87 w bA aS.length aS) (d9:aS.length≤bB) (eH:Kd.C k87 w bC aT.length aT) (eB:aT.length≤bD) (h:Ve.f k aH aI aJ aK aD aF aW aX aY aZ aS aT=some r),
  Calls Tryz.prog 68 #[.agg #[.int .i64 aH,.int .i64 aI,.int .i64 aJ,.int .i64 aK,.slice aM aD.length aP,.slice aQ aF.length aR],.agg #[.int .i64 aW,.int .i64 aX,.int .i64 aY,.int .i64 aZ,.slice bA aS.length bB,.slice bC aT.length bD]] w fun e w'=>e=.returned (.bool r)∧Below w.heap.size w w')∧(∀ (A0:Option Addr) (c0:Nat) (l0:List (S87)) (A1:Option Addr) (c1:Nat) (l1:List (S87)) (r:Bool) (w:World) (hr0:Kd.C k87 w A0 l0.length l0) (hc0:l0.length≤c0) (hr1:Kd.C k87 w A1 l1.length l1) (hc1:l1.length≤c1) (h:Xt.f k l0 l1=some r),
  Calls Tryz.prog 41 #[.slice A0 l0.length c0,.slice A1 l1.length c1] w fun e w'=>e=.returned (.bool r)∧Below w.heap.size w w'):=by
 induction k using Nat.strongRecOn with
 |_ k ih=>exact ⟨Ve.step k (fun m hm=>(ih m hm).1) (fun m hm=>(ih m hm).2),Xt.step k (fun m hm=>(ih m hm).1) (fun m hm=>(ih m hm).2)⟩
theorem Xt.calls (k:Nat):∀ (A0:Option Addr) (c0:Nat) (l0:List (S87)) (A1:Option Addr) (c1:Nat) (l1:List (S87)) (r:Bool) (w:World) (hr0:Kd.C k87 w A0 l0.length l0) (hc0:l0.length≤c0) (hr1:Kd.C k87 w A1 l1.length l1) (hc1:l1.length≤c1) (h:Xt.f k l0 l1=some r),
  Calls Tryz.prog 41 #[.slice A0 l0.length c0,.slice A1 l1.length c1] w fun e w'=>e=.returned (.bool r)∧Below w.heap.size w w':=(laws_eqStmt_laws_eqStmtS.all k).2
end Go.Proofs.YtlhogkfmdnpmkaaGreat.GMarks
