import Derived.Test.YtokajnfbiddpjaaCFnSlimSome21
set_option maxHeartbeats 8000000
set_option maxRecDepth 100000
namespace Go.Proofs.Ytokajnfbiddpjaa.GSlim
open Go.RowKit Go.Proofs.YtokajnfbiddpjaaW.PrintWords Go.Proofs.YtokajnfbiddpjaaW.PrintLast Go.Proofs.YtokajnfbiddpjaaW.PrintMore
attribute [local go_sem] Zx Zz Ul Um Zl Zm Zy Ua
set_option linter.unusedVariables false
set_option linter.unusedSimpArgs false
mutual
def Zd.j0:Nat→Int→Bool→Int→Int→Int→Int→List (S63)→List (S63)→Option ((List (S31)))
 |0,_,_,_,_,_,_,_,_=>none
 |k+1,nN,oG,iG,dE,iH,iI,x479004,x479005=>if oG=true then (some (([(⟨iG,dE,iH,iI⟩:S31)]:List (S31)))) else (if nN=9 then (some (([(⟨10,dE,0,0⟩:S31)]:List (S31)))) else (if nN=10 then (some (([(⟨11,dE,0,0⟩:S31)]:List (S31)))) else (some (([(⟨12,0,0,0⟩:S31)]:List (S31))))))
def Zd.f:Nat→Int→Int→Int→Int→List (S63)→List (S63)→Int→Option ((List (S31)))
 |0,_,_,_,_,_,_,_=>none
 |k+1,aD,aC,aJ,aK,aH,aI,a1=>if aD=6 then ((Zc.f k aH (wrap64 (a1+1))).bind fun aQ=>((Zc.f k aI (wrap64 ((wrap64 (a1+2))+(aQ.length:Int)))).bind fun aW=>((some (([(⟨6,aC,0,wrap64 ((wrap64 (a1+2))+(aQ.length:Int))⟩:S31)]:List (S31)):List (S31))).bind fun bN=>(if bN.length+aQ.length<4398046511104 then ((some (bN ++ aQ:List (S31))).bind fun bG=>((some (([(⟨7,0,0,wrap64 ((wrap64 ((wrap64 (a1+2))+(aQ.length:Int)))+(aW.length:Int))⟩:S31)]:List (S31)):List (S31))).bind fun bA=>(if bG.length+bA.length<4398046511104 then ((some (bG ++ bA:List (S31))).bind fun bD=>(if bD.length+aW.length<4398046511104 then (some (bD ++ aW)) else (none))) else (none)))) else (none))))) else (if aD=7 then ((Zc.f k aH (wrap64 (a1+1))).bind fun bC=>((some (([(⟨6,aC,0,wrap64 ((wrap64 (a1+2))+(bC.length:Int))⟩:S31)]:List (S31)):List (S31))).bind fun bQ=>(if bQ.length+bC.length<4398046511104 then ((some (bQ ++ bC:List (S31))).bind fun bL=>((some (([(⟨7,0,0,a1⟩:S31)]:List (S31)):List (S31))).bind fun bH=>(if bL.length+bH.length<4398046511104 then (some (bL ++ bH)) else (none)))) else (none)))) else (if aD=8 then ((Zc.f k aH (wrap64 (a1+1))).bind fun aX=>((some (([(⟨8,aC,0,0⟩:S31)]:List (S31)):List (S31))).bind fun bO=>(if bO.length+aX.length<4398046511104 then ((some (bO ++ aX:List (S31))).bind fun bJ=>((some (([(⟨9,aC,0,0⟩:S31)]:List (S31)):List (S31))).bind fun bE=>(if bJ.length+bE.length<4398046511104 then (some (bJ ++ bE)) else (none)))) else (none)))) else (if aD=1 then (Zd.j0 k aD (aD == 1) aD aC aJ aK aH aI) else (if aD=2 then (Zd.j0 k aD (aD == 2) aD aC aJ aK aH aI) else (if aD=3 then (Zd.j0 k aD (aD == 3) aD aC aJ aK aH aI) else (if aD=4 then (Zd.j0 k aD (aD == 4) aD aC aJ aK aH aI) else (Zd.j0 k aD (aD == 5) aD aC aJ aK aH aI)))))))
def Zc.l0:Nat→List (S63)→Int→List (S31)→Int→Option ((List (S31)))
 |0,_,_,_,_=>none
 |k+1,x0,x1,x5,x6=>if x6<(x0.length:Int) then (if 0≤x6 then ((Zd.f k ((Xc x0 x6).f0) ((Xc x0 x6).f1) ((Xc x0 x6).f2) ((Xc x0 x6).f3) ((Xc x0 x6).f4) ((Xc x0 x6).f5) (wrap64 (x1+(x5.length:Int)))).bind fun bZ=>(if x5.length+bZ.length<4398046511104 then (Zc.l0 k x0 x1 (x5 ++ bZ) (wrap64 (x6+1))) else (none))) else (none)) else (some x5)
def Zc.f:Nat→List (S63)→Int→Option ((List (S31)))
 |0,_,_=>none
 |k+1,l0,a1=>Zc.l0 k l0 a1 (([]:List (S31))) 0
end
def Zd.T13:Bool × List (List Nat × List Nat):=(true,[([],[]),([0],[0]),([1],[1]),([2],[2]),([],[]),([3,4],[3,4]),([],[]),([6],[6]),([7],[7]),([8],[8]),([5,9,5],[5,9]),([10,10,0,1,2,3,4,5,6,7,8,9,10],[10])])
def Zd.B13:List Nat:=[0,1,3,7,0,31,0,64,192,448,1023,2047]
theorem Zd.tab13:rtab .any (opsOf Try.f42 13)=Zd.T13:=by kernel_rfl
theorem Zd.bits13:waitsOk Zd.T13.2 Zd.B13=true:=by kernel_rfl
theorem Zd.step (k:Nat) (ih:∀ m_,m_<k→∀ (aD:Int) (aC:Int) (aJ:Int) (aK:Int) (aN:Option Addr) (aP:Nat) (aH:List (S63)) (aT:Option Addr) (aU:Nat) (aI:List (S63)) (a1:Int) (r:List (S31)) (w:World) (dC:Kd.C k63 w aN aH.length aH) (dA:aH.length≤aP) (dD:Kd.C k63 w aT aI.length aI) (dB:aI.length≤aU) (h:Zd.f m_ aD aC aJ aK aH aI a1=some r),
  Calls Try.prog 42 #[.agg #[.int .i64 aD,.int .i64 aC,.int .i64 aJ,.int .i64 aK,.slice aN aH.length aP,.slice aT aI.length aU],.int .i64 a1] w fun e w'=>∃ bX:Value,e=.returned (bX)∧Kd.R k31 31 w' w.heap.size (fun _=>True) bX r∧Below w.heap.size w w') (ih_spec_l4Of:∀ m_,m_<k→∀ (A0:Option Addr) (c0:Nat) (l0:List (S63)) (a1:Int) (r:List (S31)) (w:World) (hr0:Kd.C k63 w A0 l0.length l0) (hc0:l0.length≤c0) (h:Zc.f m_ l0 a1=some r),
  Calls Try.prog 23 #[.slice A0 l0.length c0,.int .i64 a1] w fun e w'=>∃ bX:Value,e=.returned (bX)∧Kd.R k31 31 w' w.heap.size (fun _=>True) bX r∧Below w.heap.size w w'):∀ (aD:Int) (aC:Int) (aJ:Int) (aK:Int) (aN:Option Addr) (aP:Nat) (aH:List (S63)) (aT:Option Addr) (aU:Nat) (aI:List (S63)) (a1:Int) (r:List (S31)) (w:World) (dC:Kd.C k63 w aN aH.length aH) (dA:aH.length≤aP) (dD:Kd.C k63 w aT aI.length aI) (dB:aI.length≤aU) (h:Zd.f k aD aC aJ aK aH aI a1=some r),
  Calls Try.prog 42 #[.agg #[.int .i64 aD,.int .i64 aC,.int .i64 aJ,.int .i64 aK,.slice aN aH.length aP,.slice aT aI.length aU],.int .i64 a1] w fun e w'=>∃ bX:Value,e=.returned (bX)∧Kd.R k31 31 w' w.heap.size (fun _=>True) bX r∧Below w.heap.size w w':=by
 intro aD aC aJ aK aN aP aH aT aU aI a1 r w dC dA dD dB h
 cases k with
 |zero=>exact absurd h (by simp [Zd.f])
 |succ k=>
 simp only [Zd.f] at h;have mD:=Try.underlying63;have hu31:=Try.underlying31;have fB:=Xa.mk dC;have eX:=Xa.mk dA;clear dC dA;have j6:=Xa.mk dD;have jS:=Xa.mk dB;clear dD dB;have HB:=Xa.mk (Below.refl w.heap.size w);have H:(if aD=6 then ((Zc.f k aH (wrap64 (a1+1))).bind fun aQ=>((Zc.f k aI (wrap64 ((wrap64 (a1+2))+(aQ.length:Int)))).bind fun aW=>((some (([(⟨6,aC,0,wrap64 ((wrap64 (a1+2))+(aQ.length:Int))⟩:S31)]:List (S31)):List (S31))).bind fun bN=>(if bN.length+aQ.length<4398046511104 then ((some (bN ++ aQ:List (S31))).bind fun bG=>((some (([(⟨7,0,0,wrap64 ((wrap64 ((wrap64 (a1+2))+(aQ.length:Int)))+(aW.length:Int))⟩:S31)]:List (S31)):List (S31))).bind fun bA=>(if bG.length+bA.length<4398046511104 then ((some (bG ++ bA:List (S31))).bind fun bD=>(if bD.length+aW.length<4398046511104 then (some (bD ++ aW)) else (none))) else (none)))) else (none))))) else (if aD=7 then ((Zc.f k aH (wrap64 (a1+1))).bind fun bC=>((some (([(⟨6,aC,0,wrap64 ((wrap64 (a1+2))+(bC.length:Int))⟩:S31)]:List (S31)):List (S31))).bind fun bQ=>(if bQ.length+bC.length<4398046511104 then ((some (bQ ++ bC:List (S31))).bind fun bL=>((some (([(⟨7,0,0,a1⟩:S31)]:List (S31)):List (S31))).bind fun bH=>(if bL.length+bH.length<4398046511104 then (some (bL ++ bH)) else (none)))) else (none)))) else (if aD=8 then ((Zc.f k aH (wrap64 (a1+1))).bind fun aX=>((some (([(⟨8,aC,0,0⟩:S31)]:List (S31)):List (S31))).bind fun bO=>(if bO.length+aX.length<4398046511104 then ((some (bO ++ aX:List (S31))).bind fun bJ=>((some (([(⟨9,aC,0,0⟩:S31)]:List (S31)):List (S31))).bind fun bE=>(if bJ.length+bE.length<4398046511104 then (some (bJ ++ bE)) else (none)))) else (none)))) else (if aD=1 then (Zd.j0 k aD (aD == 1) aD aC aJ aK aH aI) else (if aD=2 then (Zd.j0 k aD (aD == 2) aD aC aJ aK aH aI) else (if aD=3 then (Zd.j0 k aD (aD == 3) aD aC aJ aK aH aI) else (if aD=4 then (Zd.j0 k aD (aD == 4) aD aC aJ aK aH aI) else (Zd.j0 k aD (aD == 5) aD aC aJ aK aH aI))))))))=some r:=h;clear h;by_cases c3:aD=6
 ·rw [if_pos c3] at H;have kM:=beq_iff_eq.mpr c3;have kN:=bne_eq_false_iff_eq.mpr c3;clear c3;replace H:=Option.bind_eq_some_iff.mp H;obtain ⟨aQ,mU,H⟩:=H;replace H:((Zc.f k aI (wrap64 ((wrap64 (a1+2))+(aQ.length:Int)))).bind fun aW=>((some (([(⟨6,aC,0,wrap64 ((wrap64 (a1+2))+(aQ.length:Int))⟩:S31)]:List (S31)):List (S31))).bind fun bN=>(if bN.length+aQ.length<4398046511104 then ((some (bN ++ aQ:List (S31))).bind fun bG=>((some (([(⟨7,0,0,wrap64 ((wrap64 ((wrap64 (a1+2))+(aQ.length:Int)))+(aW.length:Int))⟩:S31)]:List (S31)):List (S31))).bind fun bA=>(if bG.length+bA.length<4398046511104 then ((some (bG ++ bA:List (S31))).bind fun bD=>(if bD.length+aW.length<4398046511104 then (some (bD ++ aW)) else (none))) else (none)))) else (none))))=some r:=H;have A4:=Xa.mk mU;clear mU;replace H:=Option.bind_eq_some_iff.mp H;obtain ⟨aW,mV,H⟩:=H;replace H:((some (([(⟨6,aC,0,wrap64 ((wrap64 (a1+2))+(aQ.length:Int))⟩:S31)]:List (S31)):List (S31))).bind fun bN=>(if bN.length+aQ.length<4398046511104 then ((some (bN ++ aQ:List (S31))).bind fun bG=>((some (([(⟨7,0,0,wrap64 ((wrap64 ((wrap64 (a1+2))+(aQ.length:Int)))+(aW.length:Int))⟩:S31)]:List (S31)):List (S31))).bind fun bA=>(if bG.length+bA.length<4398046511104 then ((some (bG ++ bA:List (S31))).bind fun bD=>(if bD.length+aW.length<4398046511104 then (some (bD ++ aW)) else (none))) else (none)))) else (none)))=some r:=H;have A5:=Xa.mk mV;clear mV;obtain ⟨bN,fI⟩:∃ y_:List (S31),y_=(([(⟨6,aC,0,wrap64 ((wrap64 (a1+2))+(aQ.length:Int))⟩:S31)]:List (S31))):=⟨_,rfl⟩
  replace H:(if bN.length+aQ.length<4398046511104 then ((some (bN ++ aQ:List (S31))).bind fun bG=>((some (([(⟨7,0,0,wrap64 ((wrap64 ((wrap64 (a1+2))+(aQ.length:Int)))+(aW.length:Int))⟩:S31)]:List (S31)):List (S31))).bind fun bA=>(if bG.length+bA.length<4398046511104 then ((some (bG ++ bA:List (S31))).bind fun bD=>(if bD.length+aW.length<4398046511104 then (some (bD ++ aW)) else (none))) else (none)))) else (none))=some r:=by subst fI;first|with_reducible exact H|(have z:=(Option.bind_some _ _).symm.trans H;with_reducible exact z)|exact H
  have iJ:=Xa.mk fI;clear fI;by_cases c6:bN.length+aQ.length<4398046511104
  ·rw [if_pos c6] at H;have lT:=Xa.mk c6;clear c6;obtain ⟨bG,fJ⟩:∃ y_:List (S31),y_=(bN ++ aQ):=⟨_,rfl⟩
   replace H:((some (([(⟨7,0,0,wrap64 ((wrap64 ((wrap64 (a1+2))+(aQ.length:Int)))+(aW.length:Int))⟩:S31)]:List (S31)):List (S31))).bind fun bA=>(if bG.length+bA.length<4398046511104 then ((some (bG ++ bA:List (S31))).bind fun bD=>(if bD.length+aW.length<4398046511104 then (some (bD ++ aW)) else (none))) else (none)))=some r:=by subst fJ;first|with_reducible exact H|(have z:=(Option.bind_some _ _).symm.trans H;with_reducible exact z)|exact H
   have kF:=Xa.mk fJ;clear fJ;obtain ⟨bA,fK⟩:∃ y_:List (S31),y_=(([(⟨7,0,0,wrap64 ((wrap64 ((wrap64 (a1+2))+(aQ.length:Int)))+(aW.length:Int))⟩:S31)]:List (S31))):=⟨_,rfl⟩
   replace H:(if bG.length+bA.length<4398046511104 then ((some (bG ++ bA:List (S31))).bind fun bD=>(if bD.length+aW.length<4398046511104 then (some (bD ++ aW)) else (none))) else (none))=some r:=by subst fK;first|with_reducible exact H|(have z:=(Option.bind_some _ _).symm.trans H;with_reducible exact z)|exact H
   have iK:=Xa.mk fK;clear fK;by_cases c7:bG.length+bA.length<4398046511104
   ·rw [if_pos c7] at H;have lU:=Xa.mk c7;clear c7;obtain ⟨bD,fM⟩:∃ y_:List (S31),y_=(bG ++ bA):=⟨_,rfl⟩
    replace H:(if bD.length+aW.length<4398046511104 then (some (bD ++ aW)) else (none))=some r:=by subst fM;first|with_reducible exact H|(have z:=(Option.bind_some _ _).symm.trans H;with_reducible exact z)|exact H
    have kG:=Xa.mk fM;clear fM;by_cases c8:bD.length+aW.length<4398046511104
    ·rw [if_pos c8] at H;have jD:=Xa.mk c8;clear c8;obtain ⟨mJ,fO⟩:∃ y_:List (S31),y_=(bD ++ aW):=⟨_,rfl⟩
     replace H:(some mJ)=some r:=by subst fO;first|with_reducible exact H|(have z:=(Option.bind_some _ _).symm.trans H;with_reducible exact z)|exact H
     have kH:=Xa.mk fO;clear fO;obtain rfl:=Option.some.inj H
     go_enter Try.func42,Try.ntmps42
     go_wp2_with (first|((with_reducible refine Xt (N:=2) rfl ?_);refine Ym ?hg (N:=2) ?hd (cs:=#[.int .i64 aD,.int .i64 aC,.int .i64 aJ,.int .i64 aK,.slice aN aH.length aP,.slice aT aI.length aU]) (t:=63) ?hr ?_;(case hd|hg=>rfl);(case hr=>exact hr_);intro aG hg w9 hbox hb;have aA:=Xa.mk (hbox);have eU:=Xa.mk ((ge_ hg (Xd (bl_ HB)):w.heap.size≤aG));have eT:=Xa.mk ((ge_ hg (Xd (bl_ HB)):w.heap.size≤aG));replace HB:=Xa.mk (Xe (bl_ HB) hb);clear hb hbox hg;obtain ⟨hcz10_0,hcz10_1,hcz10_2,hcz10_3,hcz10_4,hcz10_5⟩:=Va aA.out;obtain ⟨hfz10_0,hfz10_1,hfz10_2,hfz10_3,hfz10_4,hfz10_5⟩:=Vb aA.out)|((with_reducible refine Xh (f:=23) rfl ?_);refine Ye (some 19) rfl rfl Try.func23 (by kernel_rfl) rfl #[.slice aN aH.length aP,.int .i64 (wrap64 (a1+1))] rfl ga_ ?_;(with_reducible refine (ih_spec_l4Of k (by omega) _ _ aH (wrap64 (a1+1)) aQ _ ?side1 ?side2 A4.out).mono ?_);(case side1=>exact Kd.ca_ (Kd.Ze fB.out HB.out));(case side2=>exact eX.out);rintro e nZ ⟨v480,rfl,ho0,hb⟩;refine ⟨_,rfl,?_⟩;have aY:=Xa.mk (Kd.Yi ho0 (Xd (bl_ HB)));replace aA:=Xa.mk (Zp (g:=aG) (o:=.cells #[.int .i64 aD,.int .i64 aC,.int .i64 aJ,.int .i64 aK,.slice aN aH.length aP,.slice aT aI.length aU] 63 (0,0)) (ba_ aA) hb);replace HB:=Xa.mk (Xe (bl_ HB) hb);clear hb ho0;obtain ⟨hcz12_0,hcz12_1,hcz12_2,hcz12_3,hcz12_4,hcz12_5⟩:=Va aA.out;obtain ⟨hfz12_0,hfz12_1,hfz12_2,hfz12_3,hfz12_4,hfz12_5⟩:=Vb aA.out;obtain ⟨dG,dK,lZ⟩:=Kd.Yo aY.out;subst lZ)|((with_reducible refine Xh (f:=23) rfl ?_);refine Ye (some 27) rfl rfl Try.func23 (by kernel_rfl) rfl #[.slice aT aI.length aU,.int .i64 (wrap64 ((wrap64 (a1+2))+(aQ.length:Int)))] rfl ga_ ?_;(with_reducible refine (ih_spec_l4Of k (by omega) _ _ aI (wrap64 ((wrap64 (a1+2))+(aQ.length:Int))) aW _ ?side1 ?side2 A5.out).mono ?_);(case side1=>exact Kd.ca_ (Kd.Ze j6.out HB.out));(case side2=>exact jS.out);rintro e w14 ⟨lH,rfl,ho0,hb⟩;refine ⟨_,rfl,?_⟩;have bB:=Xa.mk (Kd.Yi (Kd.R_new' ho0 (Kd.Uu (Kd.ra_ (aY.out)))) (Xd (bl_ HB)));replace aY:=Xa.mk (Kd.R_elder' (Kd.ra_ (aY.out)) (Kd.Yv ho0) hb);replace aA:=Xa.mk (Zp (g:=aG) (o:=.cells #[.int .i64 aD,.int .i64 aC,.int .i64 aJ,.int .i64 aK,.slice aN aH.length aP,.slice aT aI.length aU] 63 (0,0)) (ba_ aA) hb);replace HB:=Xa.mk (Xe (bl_ HB) hb);clear hb ho0;obtain ⟨hcz15_0,hcz15_1,hcz15_2,hcz15_3,hcz15_4,hcz15_5⟩:=Va aA.out;obtain ⟨hfz15_0,hfz15_1,hfz15_2,hfz15_3,hfz15_4,hfz15_5⟩:=Vb aA.out)|((with_reducible refine Xt (N:=36) rfl ?_);refine Kd.Vo k31 _ 31 ?hg (N:=36) ?hd (xs:=([(⟨6,aC,0,wrap64 ((wrap64 (a1+2))+(aQ.length:Int))⟩:S31)]:List (S31))) (inner:=[.int .i64 6,.int .i64 aC,.int .i64 0,.int .i64 (wrap64 ((wrap64 (a1+2))+(aQ.length:Int)))]) (ok:=fun _=>True) (okp:=fun _=>True) ?hr ?hp (fun _ hk=>hk) trivial (Below.refl _ _) (Nat.le_refl _) (by simp) ?_;(case hd|hg=>rfl);(case hr=>exact hr_);(case hp=>exact (Yj.c4 (show Kd.M k31 _ _ _ (⟨6,aC,0,wrap64 ((wrap64 (a1+2))+(aQ.length:Int))⟩:S31) [.int .i64 6,.int .i64 aC,.int .i64 0,.int .i64 (wrap64 ((wrap64 (a1+2))+(aQ.length:Int)))] from (Vg _ _ _ (⟨6,aC,0,wrap64 ((wrap64 (a1+2))+(aQ.length:Int))⟩:S31) )) (Yj.none _ _)));intro mE w16 dP hb bT aV;clear bT aV;(first|rw [← iJ.out] at dP|(simp only [Int.reduceToNat] at dP;rw [← iJ.out] at dP));have eY:=Xa.mk (Kd.Yi (Kd.R_new' (Kd.R_new' dP (Kd.Uu (Kd.ra_ (aY.out)))) (Kd.Uu (Kd.ra_ (bB.out)))) (Xd (bl_ HB)));replace aY:=Xa.mk (Kd.R_elder' (Kd.ra_ (aY.out)) (Kd.Yv dP) hb);replace bB:=Xa.mk (Kd.R_elder' (Kd.ra_ (bB.out)) (Kd.Yv dP) hb);replace aA:=Xa.mk (Zp (g:=aG) (o:=.cells #[.int .i64 aD,.int .i64 aC,.int .i64 aJ,.int .i64 aK,.slice aN aH.length aP,.slice aT aI.length aU] 63 (0,0)) (ba_ aA) hb);replace HB:=Xa.mk (Xe (bl_ HB) hb);clear hb dP)|((with_reducible refine Yp (b:=.append) (xs:=#[.tmp 36,.tmp 37]) rfl ?_);at_builtin;refine Kd.Vx k31 (w0:=w) w.heap.size rfl (.tmp 36) (.tmp 37) 25 31 (.agg #[(.int .i64 0),(.int .i64 0),(.int .i64 0),(.int .i64 0)]) 32 rfl Try.underlying25 info31 rfl (by decide) (by omega) mE bN aQ _ _ _ (fun k_=>some k_≠(.slice dG aQ.length dK:Value).ownBlock∧some k_≠(lH:Value).ownBlock) (fun _=>False) rfl rfl ?aO ?aR (fun _ _ h=>h) (fun _ h=>h.elim) ?aF ?aB ?aS ?aL ?_;(case aR=>exact Kd.ca_ (Kd.R_reads' aY.out).2.2);(case aB=>exact (bl_ HB));(case aF=>exact (fun k_ hk=>⟨Kd.fresh' (Kd.Uu (Kd.ra_ (aY.out))) k_ hk,Kd.fresh' (Kd.Uu (Kd.ra_ (bB.out))) k_ hk⟩));(case aO=>exact (Kd.ra_ (Kd.Xo eY.out (fun _ hk=>⟨hk.1.2,hk.2⟩))));(case aS=>exact (Xd (bl_ HB)));(case aL=>have:=lT.out;omega);intro mF w18 ho hb hg hat;rw [← kF.out] at ho;replace aA:=Xa.mk (blk_grown (g:=aG) (o:=.cells #[.int .i64 aD,.int .i64 aC,.int .i64 aJ,.int .i64 aK,.slice aN aH.length aP,.slice aT aI.length aU] 63 (0,0)) (ba_ aA) hg (Kd.R_ne eY.out aA.out (by decide)));replace aY:=Xa.mk (Kd.Ue (ok:=(fun k_=>some k_≠(lH:Value).ownBlock)) (Kd.ra_ (Kd.Xo aY.out (fun _ hk=>⟨hk.1.2,hk.2⟩))) hg hat);replace bB:=Xa.mk (Kd.Ue (ok:=(fun k_=>some k_≠(.slice dG aQ.length dK:Value).ownBlock)) (Kd.ra_ (Kd.Xo bB.out (fun _ hk=>⟨hk.1.2,hk.2⟩))) hg hat);replace HB:=Xa.mk (hb);have cK:=Xa.mk (ho);clear eY ho hb hg hat;obtain ⟨eG,eO,l5⟩:=Kd.Yo bB.out;subst l5)|((with_reducible refine Xt (N:=49) rfl ?_);refine Kd.Vo k31 _ 31 ?hg (N:=49) ?hd (xs:=([(⟨7,0,0,wrap64 ((wrap64 ((wrap64 (a1+2))+(aQ.length:Int)))+(aW.length:Int))⟩:S31)]:List (S31))) (inner:=[.int .i64 7,.int .i64 0,.int .i64 0,.int .i64 (wrap64 ((wrap64 ((wrap64 (a1+2))+(aQ.length:Int)))+(aW.length:Int)))]) (ok:=fun _=>True) (okp:=fun _=>True) ?hr ?hp (fun _ hk=>hk) trivial (Below.refl _ _) (Nat.le_refl _) (by simp) ?_;(case hd|hg=>rfl);(case hr=>exact hr_);(case hp=>exact (Yj.c4 (show Kd.M k31 _ _ _ (⟨7,0,0,wrap64 ((wrap64 ((wrap64 (a1+2))+(aQ.length:Int)))+(aW.length:Int))⟩:S31) [.int .i64 7,.int .i64 0,.int .i64 0,.int .i64 (wrap64 ((wrap64 ((wrap64 (a1+2))+(aQ.length:Int)))+(aW.length:Int)))] from (Vg _ _ _ (⟨7,0,0,wrap64 ((wrap64 ((wrap64 (a1+2))+(aQ.length:Int)))+(aW.length:Int))⟩:S31) )) (Yj.none _ _)));intro v492 w20 dL hb bT aV;clear bT aV;(first|rw [← iK.out] at dL|(simp only [Int.reduceToNat] at dL;rw [← iK.out] at dL));have bW:=Xa.mk (Kd.Yi (Kd.R_new' (Kd.R_new' (Kd.R_new' dL (Kd.Uu (Kd.ra_ (aY.out)))) (Kd.Uu (Kd.ra_ (bB.out)))) (Kd.Uu (Kd.ra_ (cK.out)))) (Xd (bl_ HB)));replace aY:=Xa.mk (Kd.R_elder' (Kd.ra_ (aY.out)) (Kd.Yv dL) hb);replace bB:=Xa.mk (Kd.R_elder' (Kd.ra_ (bB.out)) (Kd.Yv dL) hb);replace cK:=Xa.mk (Kd.R_elder' (Kd.ra_ (cK.out)) (Kd.Yv dL) hb);replace aA:=Xa.mk (Zp (g:=aG) (o:=.cells #[.int .i64 aD,.int .i64 aC,.int .i64 aJ,.int .i64 aK,.slice aN aH.length aP,.slice aT aI.length aU] 63 (0,0)) (ba_ aA) hb);replace HB:=Xa.mk (Xe (bl_ HB) hb);clear hb dL;obtain ⟨eH,eP,l6⟩:=Kd.Yo bW.out;subst l6)|((with_reducible refine Yp (b:=.append) (xs:=#[.tmp 39,.tmp 49]) rfl ?_);at_builtin;refine Kd.Vx k31 (w0:=w) w.heap.size rfl (.tmp 39) (.tmp 49) 25 31 (.agg #[(.int .i64 0),(.int .i64 0),(.int .i64 0),(.int .i64 0)]) 32 rfl Try.underlying25 info31 rfl (by decide) (by omega) mF bG bA _ _ _ (fun k_=>some k_≠(.slice dG aQ.length dK:Value).ownBlock∧some k_≠(.slice eG aW.length eO:Value).ownBlock∧some k_≠(.slice eH bA.length eP:Value).ownBlock) (fun _=>False) rfl rfl ?aO ?aR (fun _ _ h=>h) (fun _ h=>h.elim) ?aF ?aB ?aS ?aL ?_;(case aR=>exact Kd.ca_ (Kd.R_reads' bW.out).2.2);(case aB=>exact (bl_ HB));(case aF=>exact (fun k_ hk=>⟨Kd.fresh' (Kd.Uu (Kd.ra_ (aY.out))) k_ hk,Kd.fresh' (Kd.Uu (Kd.ra_ (bB.out))) k_ hk,Kd.fresh' (Kd.Uu (Kd.ra_ (bW.out))) k_ hk⟩));(case aO=>exact (Kd.ra_ (Kd.Xo cK.out (fun _ hk=>⟨hk.1.1,⟨hk.1.2,hk.2⟩⟩))));(case aS=>exact (Xd (bl_ HB)));(case aL=>have:=lU.out;omega);intro mG w22 ho hb hg hat;rw [← kG.out] at ho;replace aA:=Xa.mk (blk_grown (g:=aG) (o:=.cells #[.int .i64 aD,.int .i64 aC,.int .i64 aJ,.int .i64 aK,.slice aN aH.length aP,.slice aT aI.length aU] 63 (0,0)) (ba_ aA) hg (Kd.R_ne cK.out aA.out (by decide)));replace aY:=Xa.mk (Kd.Ue (ok:=(fun k_=>some k_≠(.slice eG aW.length eO:Value).ownBlock∧some k_≠(.slice eH bA.length eP:Value).ownBlock)) (Kd.ra_ (Kd.Xo aY.out (fun _ hk=>⟨⟨hk.1.1,hk.2⟩,hk.1.2⟩))) hg hat);replace bB:=Xa.mk (Kd.Ue (ok:=(fun k_=>some k_≠(.slice dG aQ.length dK:Value).ownBlock∧some k_≠(.slice eH bA.length eP:Value).ownBlock)) (Kd.ra_ (Kd.Xo bB.out (fun _ hk=>⟨⟨hk.1.1,hk.2⟩,hk.1.2⟩))) hg hat);replace bW:=Xa.mk (Kd.Ue (ok:=(fun k_=>some k_≠(.slice dG aQ.length dK:Value).ownBlock∧some k_≠(.slice eG aW.length eO:Value).ownBlock)) (Kd.ra_ (Kd.Xo bW.out (fun _ hk=>⟨⟨hk.1.1.2,hk.1.2⟩,hk.2⟩))) hg hat);replace HB:=Xa.mk (hb);have eZ:=Xa.mk (ho);clear cK ho hb hg hat)|((with_reducible refine Yp (b:=.append) (xs:=#[.tmp 50,.tmp 51]) rfl ?_);at_builtin;refine Kd.Vx k31 (w0:=w) w.heap.size rfl (.tmp 50) (.tmp 51) 25 31 (.agg #[(.int .i64 0),(.int .i64 0),(.int .i64 0),(.int .i64 0)]) 32 rfl Try.underlying25 info31 rfl (by decide) (by omega) mG bD aW _ _ _ (fun k_=>some k_≠(.slice dG aQ.length dK:Value).ownBlock∧some k_≠(.slice eG aW.length eO:Value).ownBlock∧some k_≠(.slice eH bA.length eP:Value).ownBlock) (fun _=>False) rfl rfl ?aO ?aR (fun _ _ h=>h) (fun _ h=>h.elim) ?aF ?aB ?aS ?aL ?_;(case aR=>exact Kd.ca_ (Kd.R_reads' bB.out).2.2);(case aB=>exact (bl_ HB));(case aF=>exact (fun k_ hk=>⟨Kd.fresh' (Kd.Uu (Kd.ra_ (aY.out))) k_ hk,Kd.fresh' (Kd.Uu (Kd.ra_ (bB.out))) k_ hk,Kd.fresh' (Kd.Uu (Kd.ra_ (bW.out))) k_ hk⟩));(case aO=>exact (Kd.ra_ (eZ.out)));(case aS=>exact (Xd (bl_ HB)));(case aL=>have:=jD.out;omega);intro v498 w24 ho hb hg hat;rw [← kH.out] at ho;replace aA:=Xa.mk (blk_grown (g:=aG) (o:=.cells #[.int .i64 aD,.int .i64 aC,.int .i64 aJ,.int .i64 aK,.slice aN aH.length aP,.slice aT aI.length aU] 63 (0,0)) (ba_ aA) hg (Kd.R_ne eZ.out aA.out (by decide)));replace aY:=Xa.mk (Kd.Ue (ok:=(fun k_=>some k_≠(.slice eG aW.length eO:Value).ownBlock∧some k_≠(.slice eH bA.length eP:Value).ownBlock)) (Kd.ra_ (aY.out)) hg hat);replace bB:=Xa.mk (Kd.Ue (ok:=(fun k_=>some k_≠(.slice dG aQ.length dK:Value).ownBlock∧some k_≠(.slice eH bA.length eP:Value).ownBlock)) (Kd.ra_ (bB.out)) hg hat);replace bW:=Xa.mk (Kd.Ue (ok:=(fun k_=>some k_≠(.slice dG aQ.length dK:Value).ownBlock∧some k_≠(.slice eG aW.length eO:Value).ownBlock)) (Kd.ra_ (bW.out)) hg hat);replace HB:=Xa.mk (hb);have jT:=Xa.mk (ho);clear eZ ho hb hg hat))
     go_ret
     exact ⟨_,rf_,Kd.ra_ (Kd.Xo jT.out (fun _ hk=>trivial)),bl_ HB⟩
    ·rw [if_neg c8] at H;exact absurd H (by simp)
   ·rw [if_neg c7] at H;exact absurd H (by simp)
  ·rw [if_neg c6] at H;exact absurd H (by simp)
 ·rw [if_neg c3] at H;have kM:=beq_eq_false_iff_ne.mpr c3;have kN:=bne_iff_ne.mpr c3;by_cases iT:aD=7
  ·rw [if_pos iT] at H;have iU:=beq_iff_eq.mpr iT;have iV:=bne_eq_false_iff_eq.mpr iT;clear iT;replace H:=Option.bind_eq_some_iff.mp H;obtain ⟨bC,jO,H⟩:=H;replace H:((some (([(⟨6,aC,0,wrap64 ((wrap64 (a1+2))+(bC.length:Int))⟩:S31)]:List (S31)):List (S31))).bind fun bQ=>(if bQ.length+bC.length<4398046511104 then ((some (bQ ++ bC:List (S31))).bind fun bL=>((some (([(⟨7,0,0,a1⟩:S31)]:List (S31)):List (S31))).bind fun bH=>(if bL.length+bH.length<4398046511104 then (some (bL ++ bH)) else (none)))) else (none)))=some r:=H;have nO:=Xa.mk jO;clear jO;obtain ⟨bQ,fP⟩:∃ y_:List (S31),y_=(([(⟨6,aC,0,wrap64 ((wrap64 (a1+2))+(bC.length:Int))⟩:S31)]:List (S31))):=⟨_,rfl⟩
   replace H:(if bQ.length+bC.length<4398046511104 then ((some (bQ ++ bC:List (S31))).bind fun bL=>((some (([(⟨7,0,0,a1⟩:S31)]:List (S31)):List (S31))).bind fun bH=>(if bL.length+bH.length<4398046511104 then (some (bL ++ bH)) else (none)))) else (none))=some r:=by subst fP;first|with_reducible exact H|(have z:=(Option.bind_some _ _).symm.trans H;with_reducible exact z)|exact H
   have iL:=Xa.mk fP;clear fP;by_cases lK:bQ.length+bC.length<4398046511104
   ·rw [if_pos lK] at H;have kC:=Xa.mk lK;clear lK;obtain ⟨bL,fQ⟩:∃ y_:List (S31),y_=(bQ ++ bC):=⟨_,rfl⟩
    replace H:((some (([(⟨7,0,0,a1⟩:S31)]:List (S31)):List (S31))).bind fun bH=>(if bL.length+bH.length<4398046511104 then (some (bL ++ bH)) else (none)))=some r:=by subst fQ;first|with_reducible exact H|(have z:=(Option.bind_some _ _).symm.trans H;with_reducible exact z)|exact H
    have kI:=Xa.mk fQ;clear fQ;obtain ⟨bH,fT⟩:∃ y_:List (S31),y_=(([(⟨7,0,0,a1⟩:S31)]:List (S31))):=⟨_,rfl⟩
    replace H:(if bL.length+bH.length<4398046511104 then (some (bL ++ bH)) else (none))=some r:=by subst fT;first|with_reducible exact H|(have z:=(Option.bind_some _ _).symm.trans H;with_reducible exact z)|exact H
    have iM:=Xa.mk fT;clear fT;by_cases c28:bL.length+bH.length<4398046511104
    ·rw [if_pos c28] at H;have kD:=Xa.mk c28;clear c28;obtain ⟨mK,fU⟩:∃ y_:List (S31),y_=(bL ++ bH):=⟨_,rfl⟩
     replace H:(some mK)=some r:=by subst fU;first|with_reducible exact H|(have z:=(Option.bind_some _ _).symm.trans H;with_reducible exact z)|exact H
     have kJ:=Xa.mk fU;clear fU;obtain rfl:=Option.some.inj H
     go_enter Try.func42,Try.ntmps42
     go_wp2_with (first|((with_reducible refine Xt (N:=2) rfl ?_);refine Ym ?hg (N:=2) ?hd (cs:=#[.int .i64 aD,.int .i64 aC,.int .i64 aJ,.int .i64 aK,.slice aN aH.length aP,.slice aT aI.length aU]) (t:=63) ?hr ?_;(case hd|hg=>rfl);(case hr=>exact hr_);intro aG hg w29 hbox hb;have aA:=Xa.mk (hbox);have eU:=Xa.mk ((ge_ hg (Xd (bl_ HB)):w.heap.size≤aG));have eT:=Xa.mk ((ge_ hg (Xd (bl_ HB)):w.heap.size≤aG));replace HB:=Xa.mk (Xe (bl_ HB) hb);clear hb hbox hg;obtain ⟨hcz30_0,hcz30_1,hcz30_2,hcz30_3,hcz30_4,hcz30_5⟩:=Va aA.out;obtain ⟨hfz30_0,hfz30_1,hfz30_2,hfz30_3,hfz30_4,hfz30_5⟩:=Vb aA.out)|((with_reducible refine Xh (f:=23) rfl ?_);refine Ye (some 59) rfl rfl Try.func23 (by kernel_rfl) rfl #[.slice aN aH.length aP,.int .i64 (wrap64 (a1+1))] rfl ga_ ?_;(with_reducible refine (ih_spec_l4Of k (by omega) _ _ aH (wrap64 (a1+1)) bC _ ?side1 ?side2 nO.out).mono ?_);(case side1=>exact Kd.ca_ (Kd.Ze fB.out HB.out));(case side2=>exact eX.out);rintro e w31 ⟨v501,rfl,ho0,hb⟩;refine ⟨_,rfl,?_⟩;have bI:=Xa.mk (Kd.Yi ho0 (Xd (bl_ HB)));replace aA:=Xa.mk (Zp (g:=aG) (o:=.cells #[.int .i64 aD,.int .i64 aC,.int .i64 aJ,.int .i64 aK,.slice aN aH.length aP,.slice aT aI.length aU] 63 (0,0)) (ba_ aA) hb);replace HB:=Xa.mk (Xe (bl_ HB) hb);clear hb ho0;obtain ⟨hcz32_0,hcz32_1,hcz32_2,hcz32_3,hcz32_4,hcz32_5⟩:=Va aA.out;obtain ⟨hfz32_0,hfz32_1,hfz32_2,hfz32_3,hfz32_4,hfz32_5⟩:=Vb aA.out;obtain ⟨jB,jL,l7⟩:=Kd.Yo bI.out;subst l7)|((with_reducible refine Xt (N:=68) rfl ?_);refine Kd.Vo k31 _ 31 ?hg (N:=68) ?hd (xs:=([(⟨6,aC,0,wrap64 ((wrap64 (a1+2))+(bC.length:Int))⟩:S31)]:List (S31))) (inner:=[.int .i64 6,.int .i64 aC,.int .i64 0,.int .i64 (wrap64 ((wrap64 (a1+2))+(bC.length:Int)))]) (ok:=fun _=>True) (okp:=fun _=>True) ?hr ?hp (fun _ hk=>hk) trivial (Below.refl _ _) (Nat.le_refl _) (by simp) ?_;(case hd|hg=>rfl);(case hr=>exact hr_);(case hp=>exact (Yj.c4 (show Kd.M k31 _ _ _ (⟨6,aC,0,wrap64 ((wrap64 (a1+2))+(bC.length:Int))⟩:S31) [.int .i64 6,.int .i64 aC,.int .i64 0,.int .i64 (wrap64 ((wrap64 (a1+2))+(bC.length:Int)))] from (Vg _ _ _ (⟨6,aC,0,wrap64 ((wrap64 (a1+2))+(bC.length:Int))⟩:S31) )) (Yj.none _ _)));intro mH w34 eQ hb bT aV;clear bT aV;(first|rw [← iL.out] at eQ|(simp only [Int.reduceToNat] at eQ;rw [← iL.out] at eQ));have fA:=Xa.mk (Kd.Yi (Kd.R_new' eQ (Kd.Uu (Kd.ra_ (bI.out)))) (Xd (bl_ HB)));replace bI:=Xa.mk (Kd.R_elder' (Kd.ra_ (bI.out)) (Kd.Yv eQ) hb);replace aA:=Xa.mk (Zp (g:=aG) (o:=.cells #[.int .i64 aD,.int .i64 aC,.int .i64 aJ,.int .i64 aK,.slice aN aH.length aP,.slice aT aI.length aU] 63 (0,0)) (ba_ aA) hb);replace HB:=Xa.mk (Xe (bl_ HB) hb);clear hb eQ)|((with_reducible refine Yp (b:=.append) (xs:=#[.tmp 68,.tmp 69]) rfl ?_);at_builtin;refine Kd.Vx k31 (w0:=w) w.heap.size rfl (.tmp 68) (.tmp 69) 25 31 (.agg #[(.int .i64 0),(.int .i64 0),(.int .i64 0),(.int .i64 0)]) 32 rfl Try.underlying25 info31 rfl (by decide) (by omega) mH bQ bC _ _ _ (fun k_=>some k_≠(.slice jB bC.length jL:Value).ownBlock) (fun _=>False) rfl rfl ?aO ?aR (fun _ _ h=>h) (fun _ h=>h.elim) ?aF ?aB ?aS ?aL ?_;(case aR=>exact Kd.ca_ (Kd.R_reads' bI.out).2.2);(case aB=>exact (bl_ HB));(case aF=>exact (fun k_ hk=>Kd.fresh' (Kd.Uu (Kd.ra_ (bI.out))) k_ hk));(case aO=>exact (Kd.ra_ (Kd.Xo fA.out (fun _ hk=>hk.2))));(case aS=>exact (Xd (bl_ HB)));(case aL=>have:=kC.out;omega);intro mI w36 ho hb hg hat;rw [← kI.out] at ho;replace aA:=Xa.mk (blk_grown (g:=aG) (o:=.cells #[.int .i64 aD,.int .i64 aC,.int .i64 aJ,.int .i64 aK,.slice aN aH.length aP,.slice aT aI.length aU] 63 (0,0)) (ba_ aA) hg (Kd.R_ne fA.out aA.out (by decide)));replace bI:=Xa.mk (Kd.Ue (ok:=(fun _=>True)) (Kd.ra_ (bI.out)) hg hat);replace HB:=Xa.mk (hb);have cO:=Xa.mk (ho);clear fA ho hb hg hat)|((with_reducible refine Xt (N:=74) rfl ?_);refine Kd.Vo k31 _ 31 ?hg (N:=74) ?hd (xs:=([(⟨7,0,0,a1⟩:S31)]:List (S31))) (inner:=[.int .i64 7,.int .i64 0,.int .i64 0,.int .i64 a1]) (ok:=fun _=>True) (okp:=fun _=>True) ?hr ?hp (fun _ hk=>hk) trivial (Below.refl _ _) (Nat.le_refl _) (by simp) ?_;(case hd|hg=>rfl);(case hr=>exact hr_);(case hp=>exact (Yj.c4 (show Kd.M k31 _ _ _ (⟨7,0,0,a1⟩:S31) [.int .i64 7,.int .i64 0,.int .i64 0,.int .i64 a1] from (Vg _ _ _ (⟨7,0,0,a1⟩:S31) )) (Yj.none _ _)));intro v510 w37 dQ hb bT aV;clear bT aV;(first|rw [← iM.out] at dQ|(simp only [Int.reduceToNat] at dQ;rw [← iM.out] at dQ));have dH:=Xa.mk (Kd.Yi (Kd.R_new' (Kd.R_new' dQ (Kd.Uu (Kd.ra_ (bI.out)))) (Kd.Uu (Kd.ra_ (cO.out)))) (Xd (bl_ HB)));replace bI:=Xa.mk (Kd.R_elder' (Kd.ra_ (bI.out)) (Kd.Yv dQ) hb);replace cO:=Xa.mk (Kd.R_elder' (Kd.ra_ (cO.out)) (Kd.Yv dQ) hb);replace aA:=Xa.mk (Zp (g:=aG) (o:=.cells #[.int .i64 aD,.int .i64 aC,.int .i64 aJ,.int .i64 aK,.slice aN aH.length aP,.slice aT aI.length aU] 63 (0,0)) (ba_ aA) hb);replace HB:=Xa.mk (Xe (bl_ HB) hb);clear hb dQ;obtain ⟨jQ,lC,l8⟩:=Kd.Yo dH.out;subst l8)|((with_reducible refine Yp (b:=.append) (xs:=#[.tmp 71,.tmp 74]) rfl ?_);at_builtin;refine Kd.Vx k31 (w0:=w) w.heap.size rfl (.tmp 71) (.tmp 74) 25 31 (.agg #[(.int .i64 0),(.int .i64 0),(.int .i64 0),(.int .i64 0)]) 32 rfl Try.underlying25 info31 rfl (by decide) (by omega) mI bL bH _ _ _ (fun k_=>some k_≠(.slice jB bC.length jL:Value).ownBlock∧some k_≠(.slice jQ bH.length lC:Value).ownBlock) (fun _=>False) rfl rfl ?aO ?aR (fun _ _ h=>h) (fun _ h=>h.elim) ?aF ?aB ?aS ?aL ?_;(case aR=>exact Kd.ca_ (Kd.R_reads' dH.out).2.2);(case aB=>exact (bl_ HB));(case aF=>exact (fun k_ hk=>⟨Kd.fresh' (Kd.Uu (Kd.ra_ (bI.out))) k_ hk,Kd.fresh' (Kd.Uu (Kd.ra_ (dH.out))) k_ hk⟩));(case aO=>exact (Kd.ra_ (cO.out)));(case aS=>exact (Xd (bl_ HB)));(case aL=>have:=kD.out;omega);intro v513 w39 ho hb hg hat;rw [← kJ.out] at ho;replace aA:=Xa.mk (blk_grown (g:=aG) (o:=.cells #[.int .i64 aD,.int .i64 aC,.int .i64 aJ,.int .i64 aK,.slice aN aH.length aP,.slice aT aI.length aU] 63 (0,0)) (ba_ aA) hg (Kd.R_ne cO.out aA.out (by decide)));replace bI:=Xa.mk (Kd.Ue (ok:=(fun k_=>some k_≠(.slice jQ bH.length lC:Value).ownBlock)) (Kd.ra_ (Kd.Xo bI.out (fun _ hk=>⟨hk.2,hk.1.2⟩))) hg hat);replace dH:=Xa.mk (Kd.Ue (ok:=(fun k_=>some k_≠(.slice jB bC.length jL:Value).ownBlock)) (Kd.ra_ (Kd.Xo dH.out (fun _ hk=>⟨hk.1.2,hk.2⟩))) hg hat);replace HB:=Xa.mk (hb);have jU:=Xa.mk (ho);clear cO ho hb hg hat))
     go_ret
     exact ⟨_,rf_,Kd.ra_ (Kd.Xo jU.out (fun _ hk=>trivial)),bl_ HB⟩
    ·rw [if_neg c28] at H;exact absurd H (by simp)
   ·rw [if_neg lK] at H;exact absurd H (by simp)
  ·rw [if_neg iT] at H;have iU:=beq_eq_false_iff_ne.mpr iT;have iV:=bne_iff_ne.mpr iT;by_cases iW:aD=8
   ·rw [if_pos iW] at H;have iX:=beq_iff_eq.mpr iW;have iY:=bne_eq_false_iff_eq.mpr iW;clear iW;replace H:=Option.bind_eq_some_iff.mp H;obtain ⟨aX,jP,H⟩:=H;replace H:((some (([(⟨8,aC,0,0⟩:S31)]:List (S31)):List (S31))).bind fun bO=>(if bO.length+aX.length<4398046511104 then ((some (bO ++ aX:List (S31))).bind fun bJ=>((some (([(⟨9,aC,0,0⟩:S31)]:List (S31)):List (S31))).bind fun bE=>(if bJ.length+bE.length<4398046511104 then (some (bJ ++ bE)) else (none)))) else (none)))=some r:=H;have nP:=Xa.mk jP;clear jP;obtain ⟨bO,fV⟩:∃ y_:List (S31),y_=(([(⟨8,aC,0,0⟩:S31)]:List (S31))):=⟨_,rfl⟩
    replace H:(if bO.length+aX.length<4398046511104 then ((some (bO ++ aX:List (S31))).bind fun bJ=>((some (([(⟨9,aC,0,0⟩:S31)]:List (S31)):List (S31))).bind fun bE=>(if bJ.length+bE.length<4398046511104 then (some (bJ ++ bE)) else (none)))) else (none))=some r:=by subst fV;first|with_reducible exact H|(have z:=(Option.bind_some _ _).symm.trans H;with_reducible exact z)|exact H
    have dS:=Xa.mk fV;clear fV;by_cases lL:bO.length+aX.length<4398046511104
    ·rw [if_pos lL] at H;have fC:=Xa.mk lL;clear lL;obtain ⟨bJ,fZ⟩:∃ y_:List (S31),y_=(bO ++ aX):=⟨_,rfl⟩
     replace H:((some (([(⟨9,aC,0,0⟩:S31)]:List (S31)):List (S31))).bind fun bE=>(if bJ.length+bE.length<4398046511104 then (some (bJ ++ bE)) else (none)))=some r:=by subst fZ;first|with_reducible exact H|(have z:=(Option.bind_some _ _).symm.trans H;with_reducible exact z)|exact H
     have fD:=Xa.mk fZ;clear fZ;obtain ⟨bE,gB⟩:∃ y_:List (S31),y_=(([(⟨9,aC,0,0⟩:S31)]:List (S31))):=⟨_,rfl⟩
     replace H:(if bJ.length+bE.length<4398046511104 then (some (bJ ++ bE)) else (none))=some r:=by subst gB;first|with_reducible exact H|(have z:=(Option.bind_some _ _).symm.trans H;with_reducible exact z)|exact H
     have cZ:=Xa.mk gB;clear gB;by_cases lM:bJ.length+bE.length<4398046511104
     ·rw [if_pos lM] at H;have kE:=Xa.mk lM;clear lM;obtain ⟨mM,gD⟩:∃ y_:List (S31),y_=(bJ ++ bE):=⟨_,rfl⟩
      replace H:(some mM)=some r:=by subst gD;first|with_reducible exact H|(have z:=(Option.bind_some _ _).symm.trans H;with_reducible exact z)|exact H
      have kK:=Xa.mk gD;clear gD;obtain rfl:=Option.some.inj H
      go_enter Try.func42,Try.ntmps42
      try go_wp2_with (first|((with_reducible refine Xt (N:=2) rfl ?_);refine Ym ?hg (N:=2) ?hd (cs:=#[.int .i64 aD,.int .i64 aC,.int .i64 aJ,.int .i64 aK,.slice aN aH.length aP,.slice aT aI.length aU]) (t:=63) ?hr ?_;(case hd|hg=>rfl);(case hr=>exact hr_);intro aG hg w45 hbox hb;have aA:=Xa.mk (hbox);have eU:=Xa.mk ((ge_ hg (Xd (bl_ HB)):w.heap.size≤aG));have eT:=Xa.mk ((ge_ hg (Xd (bl_ HB)):w.heap.size≤aG));replace HB:=Xa.mk (Xe (bl_ HB) hb);clear hb hbox hg;obtain ⟨hcz46_0,hcz46_1,hcz46_2,hcz46_3,hcz46_4,hcz46_5⟩:=Va aA.out;obtain ⟨hfz46_0,hfz46_1,hfz46_2,hfz46_3,hfz46_4,hfz46_5⟩:=Vb aA.out)|((with_reducible refine Xh (f:=23) rfl ?_);refine Ye (some 82) rfl rfl Try.func23 (by kernel_rfl) rfl #[.slice aN aH.length aP,.int .i64 (wrap64 (a1+1))] rfl ga_ ?_;(with_reducible refine (ih_spec_l4Of k (by omega) _ _ aH (wrap64 (a1+1)) aX _ ?side1 ?side2 nP.out).mono ?_);(case side1=>exact Kd.ca_ (Kd.Ze fB.out HB.out));(case side2=>exact eX.out);rintro e oC ⟨v516,rfl,ho0,hb⟩;refine ⟨_,rfl,?_⟩;have aM:=Xa.mk (Kd.Yi ho0 (Xd (bl_ HB)));replace aA:=Xa.mk (Zp (g:=aG) (o:=.cells #[.int .i64 aD,.int .i64 aC,.int .i64 aJ,.int .i64 aK,.slice aN aH.length aP,.slice aT aI.length aU] 63 (0,0)) (ba_ aA) hb);replace HB:=Xa.mk (Xe (bl_ HB) hb);clear hb ho0;obtain ⟨bR,bS,l9⟩:=Kd.Yo aM.out;subst l9))
      replace aM:=Xa.mk (Kd.Uz aM.out);replace aA:=Xa.mk (Uw aA.out);replace HB:=Xa.mk (below_drew1 HB.out);refine start_ (n:=12) (S:=fun w'=>w'.cell? ⟨aG,0,none⟩=some (.int .i64 aD)∧w'.cell? ⟨aG,1,none⟩=some (.int .i64 aC)∧w'.cell? ⟨aG,2,none⟩=some (.int .i64 aJ)∧w'.cell? ⟨aG,3,none⟩=some (.int .i64 aK)∧w'.cell? ⟨aG,4,none⟩=some (.slice aN aH.length aP)∧w'.cell? ⟨aG,5,none⟩=some (.slice aT aI.length aU)) (ds:=[]) #[false,false,false,false,false,false,false,false,false,false,false,false] (by kernel_rfl) rfl rfl ⟨(Yc aA.out 0).trans rfl,(Yc aA.out 1).trans rfl,(Yc aA.out 2).trans rfl,(Yc aA.out 3).trans rfl,(Yc aA.out 4).trans rfl,(Yc aA.out 5).trans rfl⟩ (fun hHeld=>?_);refine with_tabW Zd.tab13 Zd.bits13 (fun dN mX=>?_)
      generalize oC.drew=w49 at aM aA HB hHeld ⊢
      refine Za (i:=0) (N:=some 83) (v:=?_) (a':=?_) #[true,false,false,false,false,false,false,false,false,false,false,false] rfl rfl (Zk dN.out (by kernel_rfl)) (fun _ _ _ h=>h) (Or.inl ⟨by rfl,?_⟩) ?_ ?_
      rotate_left
      · exact wr_
      rotate_left
      · exact ap_
      refine Za (i:=4) (N:=some 87) (v:=?_) (a':=?_) #[true,false,false,false,true,false,false,false,false,false,false,false] rfl rfl (Zk dN.out (by kernel_rfl)) (fun _ _ _ h=>h) (Or.inl ⟨by rfl,?_⟩) ?_ ?_
      rotate_left
      · exact wr_
      rotate_left
      · exact ap_
      refine Za (i:=6) (N:=some 89) (v:=?_) (a':=?_) #[true,false,false,false,true,false,true,false,false,false,false,false] rfl rfl (Zk dN.out (by kernel_rfl)) (fun _ _ _ h=>h) (Or.inl ⟨by rfl,?_⟩) ?_ ?_
      rotate_left
      · exact wr_
      rotate_left
      · exact ap_
      refine take_ (i:=1) (N:=some 84) (v:=?_) (a':=?_) #[true,true,false,false,true,false,true,false,false,false,false,false] rfl rfl (take_ofW dN.out mX.out (by kernel_rfl)) (fun _ _ _ h=>h) (Or.inl ⟨by rfl,?_⟩) hHeld ?_ ?_
      rotate_left
      ·rintro w' ⟨s0,s1,s2,s3,s4,s5⟩
       go_simp
       with_reducible rfl
      rotate_left
      · exact ap_
      refine Za (i:=2) (N:=some 85) (v:=?_) (a':=?_) #[true,true,true,false,true,false,true,false,false,false,false,false] rfl rfl (Zk dN.out (by kernel_rfl)) (fun _ _ _ h=>h) (Or.inl ⟨by rfl,?_⟩) ?_ ?_
      rotate_left
      · exact wr_
      rotate_left
      · exact ap_
      refine take_ (i:=7) (N:=some 90) (v:=?_) (a':=?_) #[true,true,true,false,true,false,true,true,false,false,false,false] rfl rfl (take_ofW dN.out mX.out (by kernel_rfl)) (fun _ _ _ h=>h) (Or.inl ⟨by rfl,?_⟩) hHeld ?_ ?_
      rotate_left
      ·rintro w' ⟨s0,s1,s2,s3,s4,s5⟩
       go_simp
       with_reducible rfl
      rotate_left
      · exact ap_
      refine Za (i:=8) (N:=some 91) (v:=?_) (a':=?_) #[true,true,true,false,true,false,true,true,true,false,false,false] rfl rfl (Zk dN.out (by kernel_rfl)) (fun _ _ _ h=>h) (Or.inl ⟨by rfl,?_⟩) ?_ ?_
      rotate_left
      · exact wr_
      rotate_left
      · exact ap_
      refine join_ (σ:=Value × Value × Value) 2 #[true,true,true,true,true,true,true,true,true,true,false,false] (fun s_=>[(86,s_.1),(88,s_.2.1),(92,s_.2.2)]) (fun s_ w'=>(w'.cell? ⟨aG,0,none⟩=some (.int .i64 aD)∧w'.cell? ⟨aG,1,none⟩=some (.int .i64 aC)∧w'.cell? ⟨aG,2,none⟩=some (.int .i64 aJ)∧w'.cell? ⟨aG,3,none⟩=some (.int .i64 aK)∧w'.cell? ⟨aG,4,none⟩=some (.slice aN aH.length aP)∧w'.cell? ⟨aG,5,none⟩=some (.slice aT aI.length aU))∧(Kd.R k31 31 w' w.heap.size (fun k_=>some k_≠(s_.2.1:Value).ownBlock∧some k_≠(s_.2.2:Value).ownBlock) (.slice bR aX.length bS) aX)∧(Kd.R k31 31 w' w.heap.size (fun k_=>some k_≠(.slice bR aX.length bS:Value).ownBlock∧some k_≠(s_.2.2:Value).ownBlock) s_.2.1 bJ)∧(Kd.R k31 31 w' w.heap.size (fun k_=>some k_≠(.slice bR aX.length bS:Value).ownBlock∧some k_≠(s_.2.1:Value).ownBlock) s_.2.2 bE)∧(w'.heap[aG]?=some (.cells #[.int .i64 aD,.int .i64 aC,.int .i64 aJ,.int .i64 aK,.slice aN aH.length aP,.slice aT aI.length aU] 63 (0,0)))∧(Below w.heap.size w w')) ?_ ?_
      rotate_left
      ·intro hCont;refine two_ (i:=3) (j:=9) (Ni:=some 86) (Nj:=some 92) #[true,true,true,true,true,false,true,true,true,false,false,false] #[true,true,true,false,true,false,true,true,true,true,false,false] rfl rfl rfl rfl (two_of dN.out (by kernel_rfl)) (by decide) (by decide) (fun K hK=>?_) (fun K hK=>?_)
       ·skip
        refine Kd.R_lit_step k31 _ 31 ?hg (N:=86) ?hd (xs:=([(⟨8,aC,0,0⟩:S31)]:List (S31))) (inner:=[.int .i64 8,.int .i64 aC,.int .i64 0,.int .i64 0]) (ok:=fun _=>True) (okp:=fun _=>True) ?hr ?hp (fun _ hk=>hk) trivial (Below.refl _ _) (Nat.le_refl _) (by simp) ?_;(case hd|hg=>rfl);(case hr=>exact hr_);(case hp=>exact (Yj.c4 (show Kd.M k31 _ _ _ (⟨8,aC,0,0⟩:S31) [.int .i64 8,.int .i64 aC,.int .i64 0,.int .i64 0] from (Vg _ _ _ (⟨8,aC,0,0⟩:S31) )) (Yj.none _ _)))
        intro dM oD bU hb bT aV;clear bT aV
        (first|rw [← dS.out] at bU|(simp only [Int.reduceToNat] at bU;rw [← dS.out] at bU))
        have bK:=Xa.mk (Kd.Yi (Kd.R_new' bU (Kd.Uu (Kd.ra_ (aM.out)))) (Xd (bl_ HB)));replace aM:=Xa.mk (Kd.R_elder' (Kd.ra_ (aM.out)) (Kd.Yv bU) hb);replace aA:=Xa.mk (Zp (g:=aG) (o:=.cells #[.int .i64 aD,.int .i64 aC,.int .i64 aJ,.int .i64 aK,.slice aN aH.length aP,.slice aT aI.length aU] 63 (0,0)) (ba_ aA) hb);replace HB:=Xa.mk (Xe (bl_ HB) hb);clear hb bU;refine hK.out _ _ ⟨(Yc aA.out 0).trans rfl,(Yc aA.out 1).trans rfl,(Yc aA.out 2).trans rfl,(Yc aA.out 3).trans rfl,(Yc aA.out 4).trans rfl,(Yc aA.out 5).trans rfl⟩ (fun hHeld=>?_)
        clear hK K;refine norm_ (a':=?_) ?_ ?_
        rotate_left
        ·show Act.put _ (some 86) _=_
         simp only [Act.put,List.setIfInBounds_toArray,List.set_cons_zero,List.set_cons_succ,Ub,Uf];rfl
        refine two_ (i:=5) (j:=9) (Ni:=some 88) (Nj:=some 92) #[true,true,true,true,true,true,true,true,true,false,false,false] #[true,true,true,true,true,false,true,true,true,true,false,false] rfl rfl rfl rfl (two_of dN.out (by kernel_rfl)) (by decide) (by decide) (fun K hK=>?_) (fun K hK=>?_)
        ·skip
         refine Kd.R_append_rows_step k31 (w0:=w) w.heap.size (by rfl) (.tmp 86) (.tmp 87) 25 31 (.agg #[(.int .i64 0),(.int .i64 0),(.int .i64 0),(.int .i64 0)]) 32 rfl Try.underlying25 info31 rfl (by decide) (by omega) dM bO aX _ _ _ (fun k_=>some k_≠(.slice bR aX.length bS:Value).ownBlock) (fun _=>False) rfl rfl ?aO ?aR (fun _ _ h=>h) (fun _ h=>h.elim) ?aF ?aB ?aS ?aL ?_
         (case aR=>exact Kd.ca_ (Kd.R_reads' aM.out).2.2)
         (case aB=>exact (bl_ HB))
         (case aF=>exact (fun k_ hk=>Kd.fresh' (Kd.Uu (Kd.ra_ (aM.out))) k_ hk))
         (case aO=>exact (Kd.ra_ (Kd.Xo bK.out (fun _ hk=>hk.2))))
         (case aS=>exact (Xd (bl_ HB)))
         (case aL=>have:=fC.out;omega)
         intro cB nM ho hb hg hat;rw [← fD.out] at ho;replace aA:=Xa.mk (blk_grown (g:=aG) (o:=.cells #[.int .i64 aD,.int .i64 aC,.int .i64 aJ,.int .i64 aK,.slice aN aH.length aP,.slice aT aI.length aU] 63 (0,0)) (ba_ aA) hg (Kd.R_ne bK.out aA.out (by decide)));replace aM:=Xa.mk (Kd.Ue (ok:=(fun _=>True)) (Kd.ra_ (aM.out)) hg hat);replace HB:=Xa.mk (hb);have bM:=Xa.mk (ho);clear bK ho hb hg hat;refine hK.out _ _ ⟨(Yc aA.out 0).trans rfl,(Yc aA.out 1).trans rfl,(Yc aA.out 2).trans rfl,(Yc aA.out 3).trans rfl,(Yc aA.out 4).trans rfl,(Yc aA.out 5).trans rfl⟩ (fun hHeld=>?_)
         clear hK K;refine norm_ (a':=?_) ?_ ?_
         rotate_left
         ·show Act.put _ (some 88) _=_
          simp only [Act.put,List.setIfInBounds_toArray,List.set_cons_zero,List.set_cons_succ,Ub,Uf];rfl
         refine one_ (i:=9) (N:=some 92) #[true,true,true,true,true,true,true,true,true,true,false,false] rfl rfl (one_of dN.out (by kernel_rfl)) (by decide) (fun K hK=>?_)
         refine Kd.R_lit_step k31 _ 31 ?hg (N:=92) ?hd (xs:=([(⟨9,aC,0,0⟩:S31)]:List (S31))) (inner:=[.int .i64 9,.int .i64 aC,.int .i64 0,.int .i64 0]) (ok:=fun _=>True) (okp:=fun _=>True) ?hr ?hp (fun _ hk=>hk) trivial (Below.refl _ _) (Nat.le_refl _) (by simp) ?_;(case hd|hg=>rfl);(case hr=>exact hr_);(case hp=>exact (Yj.c4 (show Kd.M k31 _ _ _ (⟨9,aC,0,0⟩:S31) [.int .i64 9,.int .i64 aC,.int .i64 0,.int .i64 0] from (Vg _ _ _ (⟨9,aC,0,0⟩:S31) )) (Yj.none _ _)))
         intro bV w53 dR hb bT aV;clear bT aV
         (first|rw [← cZ.out] at dR|(simp only [Int.reduceToNat] at dR;rw [← cZ.out] at dR))
         have aZ:=Xa.mk (Kd.Yi (Kd.R_new' (Kd.R_new' dR (Kd.Uu (Kd.ra_ (aM.out)))) (Kd.Uu (Kd.ra_ (bM.out)))) (Xd (bl_ HB)));replace aM:=Xa.mk (Kd.R_elder' (Kd.ra_ (aM.out)) (Kd.Yv dR) hb);replace bM:=Xa.mk (Kd.R_elder' (Kd.ra_ (bM.out)) (Kd.Yv dR) hb);replace aA:=Xa.mk (Zp (g:=aG) (o:=.cells #[.int .i64 aD,.int .i64 aC,.int .i64 aJ,.int .i64 aK,.slice aN aH.length aP,.slice aT aI.length aU] 63 (0,0)) (ba_ aA) hb);replace HB:=Xa.mk (Xe (bl_ HB) hb);clear hb dR;refine hK.out _ _ ⟨(Yc aA.out 0).trans rfl,(Yc aA.out 1).trans rfl,(Yc aA.out 2).trans rfl,(Yc aA.out 3).trans rfl,(Yc aA.out 4).trans rfl,(Yc aA.out 5).trans rfl⟩ (fun hHeld=>?_)
         clear hK K;refine norm_ (a':=?_) ?_ ?_
         rotate_left
         ·show Act.put _ (some 92) _=_
          simp only [Act.put,List.setIfInBounds_toArray,List.set_cons_zero,List.set_cons_succ,Ub,Uf];rfl
         exact norm_ (by simp only [putAll,Act.put,List.setIfInBounds_toArray,List.set_cons_zero,List.set_cons_succ]) (hCont (dM,cB,bV) _ ⟨hHeld,(Kd.ra_ (Kd.Xo aM.out (fun _ hk=>⟨hk.1.2,hk.2⟩))),(Kd.ra_ (bM.out)),(Kd.ra_ (Kd.Xo aZ.out (fun _ hk=>⟨hk.1.2,hk.2⟩))),(ba_ aA),(bl_ HB)⟩)
        ·skip
         refine Kd.R_lit_step k31 _ 31 ?hg (N:=92) ?hd (xs:=([(⟨9,aC,0,0⟩:S31)]:List (S31))) (inner:=[.int .i64 9,.int .i64 aC,.int .i64 0,.int .i64 0]) (ok:=fun _=>True) (okp:=fun _=>True) ?hr ?hp (fun _ hk=>hk) trivial (Below.refl _ _) (Nat.le_refl _) (by simp) ?_;(case hd|hg=>rfl);(case hr=>exact hr_);(case hp=>exact (Yj.c4 (show Kd.M k31 _ _ _ (⟨9,aC,0,0⟩:S31) [.int .i64 9,.int .i64 aC,.int .i64 0,.int .i64 0] from (Vg _ _ _ (⟨9,aC,0,0⟩:S31) )) (Yj.none _ _)))
         intro bV nM bP hb bT aV;clear bT aV
         (first|rw [← cZ.out] at bP|(simp only [Int.reduceToNat] at bP;rw [← cZ.out] at bP))
         have aZ:=Xa.mk (Kd.Yi (Kd.R_new' (Kd.R_new' bP (Kd.Uu (Kd.ra_ (aM.out)))) (Kd.Uu (Kd.ra_ (bK.out)))) (Xd (bl_ HB)));replace aM:=Xa.mk (Kd.R_elder' (Kd.ra_ (aM.out)) (Kd.Yv bP) hb);replace bK:=Xa.mk (Kd.R_elder' (Kd.ra_ (bK.out)) (Kd.Yv bP) hb);replace aA:=Xa.mk (Zp (g:=aG) (o:=.cells #[.int .i64 aD,.int .i64 aC,.int .i64 aJ,.int .i64 aK,.slice aN aH.length aP,.slice aT aI.length aU] 63 (0,0)) (ba_ aA) hb);replace HB:=Xa.mk (Xe (bl_ HB) hb);clear hb bP;refine hK.out _ _ ⟨(Yc aA.out 0).trans rfl,(Yc aA.out 1).trans rfl,(Yc aA.out 2).trans rfl,(Yc aA.out 3).trans rfl,(Yc aA.out 4).trans rfl,(Yc aA.out 5).trans rfl⟩ (fun hHeld=>?_)
         clear hK K;refine norm_ (a':=?_) ?_ ?_
         rotate_left
         ·show Act.put _ (some 92) _=_
          simp only [Act.put,List.setIfInBounds_toArray,List.set_cons_zero,List.set_cons_succ,Ub,Uf];rfl
         refine one_ (i:=5) (N:=some 88) #[true,true,true,true,true,true,true,true,true,true,false,false] rfl rfl (one_of dN.out (by kernel_rfl)) (by decide) (fun K hK=>?_)
         refine Kd.R_append_rows_step k31 (w0:=w) w.heap.size (by rfl) (.tmp 86) (.tmp 87) 25 31 (.agg #[(.int .i64 0),(.int .i64 0),(.int .i64 0),(.int .i64 0)]) 32 rfl Try.underlying25 info31 rfl (by decide) (by omega) dM bO aX _ _ _ (fun k_=>some k_≠(.slice bR aX.length bS:Value).ownBlock∧some k_≠(bV:Value).ownBlock) (fun _=>False) rfl rfl ?aO ?aR (fun _ _ h=>h) (fun _ h=>h.elim) ?aF ?aB ?aS ?aL ?_
         (case aR=>exact Kd.ca_ (Kd.R_reads' aM.out).2.2)
         (case aB=>exact (bl_ HB))
         (case aF=>exact (fun k_ hk=>⟨Kd.fresh' (Kd.Uu (Kd.ra_ (aM.out))) k_ hk,Kd.fresh' (Kd.Uu (Kd.ra_ (aZ.out))) k_ hk⟩))
         (case aO=>exact (Kd.ra_ (Kd.Xo bK.out (fun _ hk=>⟨hk.1.2,hk.2⟩))))
         (case aS=>exact (Xd (bl_ HB)))
         (case aL=>have:=fC.out;omega)
         intro cB oF ho hb hg hat;rw [← fD.out] at ho;replace aA:=Xa.mk (blk_grown (g:=aG) (o:=.cells #[.int .i64 aD,.int .i64 aC,.int .i64 aJ,.int .i64 aK,.slice aN aH.length aP,.slice aT aI.length aU] 63 (0,0)) (ba_ aA) hg (Kd.R_ne bK.out aA.out (by decide)));replace aM:=Xa.mk (Kd.Ue (ok:=(fun k_=>some k_≠(bV:Value).ownBlock)) (Kd.ra_ (Kd.Xo aM.out (fun _ hk=>⟨hk.2,hk.1.2⟩))) hg hat);replace aZ:=Xa.mk (Kd.Ue (ok:=(fun k_=>some k_≠(.slice bR aX.length bS:Value).ownBlock)) (Kd.ra_ (Kd.Xo aZ.out (fun _ hk=>⟨hk.1.2,hk.2⟩))) hg hat);replace HB:=Xa.mk (hb);have bM:=Xa.mk (ho);clear bK ho hb hg hat;refine hK.out _ _ ⟨(Yc aA.out 0).trans rfl,(Yc aA.out 1).trans rfl,(Yc aA.out 2).trans rfl,(Yc aA.out 3).trans rfl,(Yc aA.out 4).trans rfl,(Yc aA.out 5).trans rfl⟩ (fun hHeld=>?_)
         clear hK K;refine norm_ (a':=?_) ?_ ?_
         rotate_left
         ·show Act.put _ (some 88) _=_
          simp only [Act.put,List.setIfInBounds_toArray,List.set_cons_zero,List.set_cons_succ,Ub,Uf];rfl
         exact norm_ (by simp only [putAll,Act.put,List.setIfInBounds_toArray,List.set_cons_zero,List.set_cons_succ]) (hCont (dM,cB,bV) _ ⟨hHeld,(Kd.ra_ (Kd.Xo aM.out (fun _ hk=>⟨hk.2,hk.1⟩))),(Kd.ra_ (bM.out)),(Kd.ra_ (aZ.out)),(ba_ aA),(bl_ HB)⟩)
       ·skip
        refine Kd.R_lit_step k31 _ 31 ?hg (N:=92) ?hd (xs:=([(⟨9,aC,0,0⟩:S31)]:List (S31))) (inner:=[.int .i64 9,.int .i64 aC,.int .i64 0,.int .i64 0]) (ok:=fun _=>True) (okp:=fun _=>True) ?hr ?hp (fun _ hk=>hk) trivial (Below.refl _ _) (Nat.le_refl _) (by simp) ?_;(case hd|hg=>rfl);(case hr=>exact hr_);(case hp=>exact (Yj.c4 (show Kd.M k31 _ _ _ (⟨9,aC,0,0⟩:S31) [.int .i64 9,.int .i64 aC,.int .i64 0,.int .i64 0] from (Vg _ _ _ (⟨9,aC,0,0⟩:S31) )) (Yj.none _ _)))
        intro bV oD bU hb bT aV;clear bT aV
        (first|rw [← cZ.out] at bU|(simp only [Int.reduceToNat] at bU;rw [← cZ.out] at bU))
        have aZ:=Xa.mk (Kd.Yi (Kd.R_new' bU (Kd.Uu (Kd.ra_ (aM.out)))) (Xd (bl_ HB)));replace aM:=Xa.mk (Kd.R_elder' (Kd.ra_ (aM.out)) (Kd.Yv bU) hb);replace aA:=Xa.mk (Zp (g:=aG) (o:=.cells #[.int .i64 aD,.int .i64 aC,.int .i64 aJ,.int .i64 aK,.slice aN aH.length aP,.slice aT aI.length aU] 63 (0,0)) (ba_ aA) hb);replace HB:=Xa.mk (Xe (bl_ HB) hb);clear hb bU;refine hK.out _ _ ⟨(Yc aA.out 0).trans rfl,(Yc aA.out 1).trans rfl,(Yc aA.out 2).trans rfl,(Yc aA.out 3).trans rfl,(Yc aA.out 4).trans rfl,(Yc aA.out 5).trans rfl⟩ (fun hHeld=>?_)
        clear hK K;refine norm_ (a':=?_) ?_ ?_
        rotate_left
        ·show Act.put _ (some 92) _=_
         simp only [Act.put,List.setIfInBounds_toArray,List.set_cons_zero,List.set_cons_succ,Ub,Uf];rfl
        refine one_ (i:=3) (N:=some 86) #[true,true,true,true,true,false,true,true,true,true,false,false] rfl rfl (one_of dN.out (by kernel_rfl)) (by decide) (fun K hK=>?_)
        refine Kd.R_lit_step k31 _ 31 ?hg (N:=86) ?hd (xs:=([(⟨8,aC,0,0⟩:S31)]:List (S31))) (inner:=[.int .i64 8,.int .i64 aC,.int .i64 0,.int .i64 0]) (ok:=fun _=>True) (okp:=fun _=>True) ?hr ?hp (fun _ hk=>hk) trivial (Below.refl _ _) (Nat.le_refl _) (by simp) ?_;(case hd|hg=>rfl);(case hr=>exact hr_);(case hp=>exact (Yj.c4 (show Kd.M k31 _ _ _ (⟨8,aC,0,0⟩:S31) [.int .i64 8,.int .i64 aC,.int .i64 0,.int .i64 0] from (Vg _ _ _ (⟨8,aC,0,0⟩:S31) )) (Yj.none _ _)))
        intro dM nM bP hb bT aV;clear bT aV
        (first|rw [← dS.out] at bP|(simp only [Int.reduceToNat] at bP;rw [← dS.out] at bP))
        have bK:=Xa.mk (Kd.Yi (Kd.R_new' (Kd.R_new' bP (Kd.Uu (Kd.ra_ (aM.out)))) (Kd.Uu (Kd.ra_ (aZ.out)))) (Xd (bl_ HB)));replace aM:=Xa.mk (Kd.R_elder' (Kd.ra_ (aM.out)) (Kd.Yv bP) hb);replace aZ:=Xa.mk (Kd.R_elder' (Kd.ra_ (aZ.out)) (Kd.Yv bP) hb);replace aA:=Xa.mk (Zp (g:=aG) (o:=.cells #[.int .i64 aD,.int .i64 aC,.int .i64 aJ,.int .i64 aK,.slice aN aH.length aP,.slice aT aI.length aU] 63 (0,0)) (ba_ aA) hb);replace HB:=Xa.mk (Xe (bl_ HB) hb);clear hb bP;refine hK.out _ _ ⟨(Yc aA.out 0).trans rfl,(Yc aA.out 1).trans rfl,(Yc aA.out 2).trans rfl,(Yc aA.out 3).trans rfl,(Yc aA.out 4).trans rfl,(Yc aA.out 5).trans rfl⟩ (fun hHeld=>?_)
        clear hK K;refine norm_ (a':=?_) ?_ ?_
        rotate_left
        ·show Act.put _ (some 86) _=_
         simp only [Act.put,List.setIfInBounds_toArray,List.set_cons_zero,List.set_cons_succ,Ub,Uf];rfl
        refine one_ (i:=5) (N:=some 88) #[true,true,true,true,true,true,true,true,true,true,false,false] rfl rfl (one_of dN.out (by kernel_rfl)) (by decide) (fun K hK=>?_)
        refine Kd.R_append_rows_step k31 (w0:=w) w.heap.size (by rfl) (.tmp 86) (.tmp 87) 25 31 (.agg #[(.int .i64 0),(.int .i64 0),(.int .i64 0),(.int .i64 0)]) 32 rfl Try.underlying25 info31 rfl (by decide) (by omega) dM bO aX _ _ _ (fun k_=>some k_≠(.slice bR aX.length bS:Value).ownBlock∧some k_≠(bV:Value).ownBlock) (fun _=>False) rfl rfl ?aO ?aR (fun _ _ h=>h) (fun _ h=>h.elim) ?aF ?aB ?aS ?aL ?_
        (case aR=>exact Kd.ca_ (Kd.R_reads' aM.out).2.2)
        (case aB=>exact (bl_ HB))
        (case aF=>exact (fun k_ hk=>⟨Kd.fresh' (Kd.Uu (Kd.ra_ (aM.out))) k_ hk,Kd.fresh' (Kd.Uu (Kd.ra_ (aZ.out))) k_ hk⟩))
        (case aO=>exact (Kd.ra_ (Kd.Xo bK.out (fun _ hk=>⟨hk.1.2,hk.2⟩))))
        (case aS=>exact (Xd (bl_ HB)))
        (case aL=>have:=fC.out;omega)
        intro cB oF ho hb hg hat;rw [← fD.out] at ho;replace aA:=Xa.mk (blk_grown (g:=aG) (o:=.cells #[.int .i64 aD,.int .i64 aC,.int .i64 aJ,.int .i64 aK,.slice aN aH.length aP,.slice aT aI.length aU] 63 (0,0)) (ba_ aA) hg (Kd.R_ne bK.out aA.out (by decide)));replace aM:=Xa.mk (Kd.Ue (ok:=(fun k_=>some k_≠(bV:Value).ownBlock)) (Kd.ra_ (Kd.Xo aM.out (fun _ hk=>⟨hk.1.2,hk.2⟩))) hg hat);replace aZ:=Xa.mk (Kd.Ue (ok:=(fun k_=>some k_≠(.slice bR aX.length bS:Value).ownBlock)) (Kd.ra_ (Kd.Xo aZ.out (fun _ hk=>⟨hk.1.2,hk.2⟩))) hg hat);replace HB:=Xa.mk (hb);have bM:=Xa.mk (ho);clear bK ho hb hg hat;refine hK.out _ _ ⟨(Yc aA.out 0).trans rfl,(Yc aA.out 1).trans rfl,(Yc aA.out 2).trans rfl,(Yc aA.out 3).trans rfl,(Yc aA.out 4).trans rfl,(Yc aA.out 5).trans rfl⟩ (fun hHeld=>?_)
        clear hK K;refine norm_ (a':=?_) ?_ ?_
        rotate_left
        ·show Act.put _ (some 88) _=_
         simp only [Act.put,List.setIfInBounds_toArray,List.set_cons_zero,List.set_cons_succ,Ub,Uf];rfl
        exact norm_ (by simp only [putAll,Act.put,List.setIfInBounds_toArray,List.set_cons_zero,List.set_cons_succ]) (hCont (dM,cB,bV) _ ⟨hHeld,(Kd.ra_ (Kd.Xo aM.out (fun _ hk=>⟨hk.2,hk.1⟩))),(Kd.ra_ (bM.out)),(Kd.ra_ (aZ.out)),(ba_ aA),(bl_ HB)⟩)
      rintro ⟨dM,cB,bV⟩ gM ⟨nX,nA,nC,nD,nE,nG⟩
      have nH:Xa (Kd.R k31 31 gM w.heap.size (fun k_=>some k_≠(cB:Value).ownBlock∧some k_≠(bV:Value).ownBlock) (.slice bR aX.length bS) aX):=⟨nA⟩;have nI:Xa (Kd.R k31 31 gM w.heap.size (fun k_=>some k_≠(.slice bR aX.length bS:Value).ownBlock∧some k_≠(bV:Value).ownBlock) cB bJ):=⟨nC⟩;have nJ:Xa (Kd.R k31 31 gM w.heap.size (fun k_=>some k_≠(.slice bR aX.length bS:Value).ownBlock∧some k_≠(cB:Value).ownBlock) bV bE):=⟨nD⟩;have nK:Xa (gM.heap[aG]?=some (.cells #[.int .i64 aD,.int .i64 aC,.int .i64 aJ,.int .i64 aK,.slice aN aH.length aP,.slice aT aI.length aU] 63 (0,0))):=⟨nE⟩;have nL:Xa (Below w.heap.size w gM):=⟨nG⟩;clear aM aA HB nA nC nD nE nG;have aM:=nH;have bM:=nI;have aZ:=nJ;have aA:=nK;have HB:=nL;clear nH nI nJ nK nL;have hHeld:gM.cell? ⟨aG,0,none⟩=some (.int .i64 aD)∧gM.cell? ⟨aG,1,none⟩=some (.int .i64 aC)∧gM.cell? ⟨aG,2,none⟩=some (.int .i64 aJ)∧gM.cell? ⟨aG,3,none⟩=some (.int .i64 aK)∧gM.cell? ⟨aG,4,none⟩=some (.slice aN aH.length aP)∧gM.cell? ⟨aG,5,none⟩=some (.slice aT aI.length aU):=nX;obtain ⟨jR,lD,lF⟩:=Kd.Yo aZ.out
      (first|subst lF|(injection lF with mY nU mZ;have nV:=mY.symm;have nW:=mZ.symm;clear mY nU mZ;subst nV;subst nW))
      refine norm_ (a':=?_) ?_ ?_
      rotate_left
      ·simp only [putAll,Act.put,List.setIfInBounds_toArray,List.set_cons_zero,List.set_cons_succ];rfl
      refine one_ (i:=10) (N:=some 93) #[true,true,true,true,true,true,true,true,true,true,true,false] rfl rfl (one_of dN.out (by kernel_rfl)) (by decide) (fun K hK=>?_)
      refine Kd.R_append_rows_step k31 (w0:=w) w.heap.size (by rfl) (.tmp 88) (.tmp 92) 25 31 (.agg #[(.int .i64 0),(.int .i64 0),(.int .i64 0),(.int .i64 0)]) 32 rfl Try.underlying25 info31 rfl (by decide) (by omega) cB bJ bE _ _ _ (fun k_=>some k_≠(.slice bR aX.length bS:Value).ownBlock∧some k_≠(.slice jR bE.length lD:Value).ownBlock) (fun _=>False) rfl rfl ?aO ?aR (fun _ _ h=>h) (fun _ h=>h.elim) ?aF ?aB ?aS ?aL ?_
      (case aR=>exact Kd.ca_ (Kd.R_reads' aZ.out).2.2)
      (case aB=>exact (bl_ HB))
      (case aF=>exact (fun k_ hk=>⟨Kd.fresh' (Kd.Uu (Kd.ra_ (aM.out))) k_ hk,Kd.fresh' (Kd.Uu (Kd.ra_ (aZ.out))) k_ hk⟩))
      (case aO=>exact (Kd.ra_ (bM.out)))
      (case aS=>exact (Xd (bl_ HB)))
      (case aL=>have:=kE.out;omega)
      intro v528 w56 ho hb hg hat;rw [← kK.out] at ho;replace aA:=Xa.mk (blk_grown (g:=aG) (o:=.cells #[.int .i64 aD,.int .i64 aC,.int .i64 aJ,.int .i64 aK,.slice aN aH.length aP,.slice aT aI.length aU] 63 (0,0)) (ba_ aA) hg (Kd.R_ne bM.out aA.out (by decide)));replace aM:=Xa.mk (Kd.Ue (ok:=(fun k_=>some k_≠(.slice jR bE.length lD:Value).ownBlock)) (Kd.ra_ (Kd.Xo aM.out (fun _ hk=>⟨hk.2,hk.1⟩))) hg hat);replace aZ:=Xa.mk (Kd.Ue (ok:=(fun k_=>some k_≠(.slice bR aX.length bS:Value).ownBlock)) (Kd.ra_ (aZ.out)) hg hat);replace HB:=Xa.mk (hb);have jV:=Xa.mk (ho);clear bM ho hb hg hat;refine hK.out _ _ ⟨(Yc aA.out 0).trans rfl,(Yc aA.out 1).trans rfl,(Yc aA.out 2).trans rfl,(Yc aA.out 3).trans rfl,(Yc aA.out 4).trans rfl,(Yc aA.out 5).trans rfl⟩ (fun hHeld=>?_)
      clear hK K;refine norm_ (a':=?_) ?_ ?_
      rotate_left
      ·show Act.put _ (some 93) _=_
       simp only [Act.put,List.setIfInBounds_toArray,List.set_cons_zero,List.set_cons_succ,Ub,Uf];rfl
      refine Za (i:=11) (N:=some 4) (v:=?_) (a':=?_) #[true,true,true,true,true,true,true,true,true,true,true,true] rfl rfl (Zk dN.out (by kernel_rfl)) (fun _ _ _ h=>h) (Or.inl ⟨by rfl,?_⟩) ?_ ?_
      rotate_left
      · exact wr_
      rotate_left
      · exact ap_
      refine done_ (done_of dN.out (by kernel_rfl)) ?_
      try go_wp2
      go_ret
      exact ⟨_,rf_,Kd.ra_ (Kd.Xo jV.out (fun _ hk=>trivial)),bl_ HB⟩
     ·rw [if_neg lM] at H;exact absurd H (by simp)
    ·rw [if_neg lL] at H;exact absurd H (by simp)
   ·rw [if_neg iW] at H;have iX:=beq_eq_false_iff_ne.mpr iW;have iY:=bne_iff_ne.mpr iW;have jC:=Xa.mk H;clear H
    go_enter Try.func42,Try.ntmps42
    go_upto_if 94 with (first|((with_reducible refine Xt (N:=2) rfl ?_);refine Ym ?hg (N:=2) ?hd (cs:=#[.int .i64 aD,.int .i64 aC,.int .i64 aJ,.int .i64 aK,.slice aN aH.length aP,.slice aT aI.length aU]) (t:=63) ?hr ?_;(case hd|hg=>rfl);(case hr=>exact hr_);intro aG hg w59 hbox hb;have aA:=Xa.mk (hbox);have eU:=Xa.mk ((ge_ hg (Xd (bl_ HB)):w.heap.size≤aG));have eT:=Xa.mk ((ge_ hg (Xd (bl_ HB)):w.heap.size≤aG));replace HB:=Xa.mk (Xe (bl_ HB) hb);clear hb hbox hg;obtain ⟨gU,gV,gW,gX,gY,gZ⟩:=Va aA.out;obtain ⟨iA,iB,iC,iD,iE,iF⟩:=Vb aA.out))
    (try simp only [Act.put,List.setIfInBounds_toArray,List.set_cons_zero,List.set_cons_succ])
    go_cut [94] (fun nY wc=>∃ (kq:Nat) (dF:Bool),nY=.bool dF∧Xa (Zd.j0 kq aD dF aD aC aJ aK aH aI=some r)∧Xa (kq≤k)∧Xa (wc.heap[aG]?=some (.cells #[.int .i64 aD,.int .i64 aC,.int .i64 aJ,.int .i64 aK,(.slice aN aH.length aP),(.slice aT aI.length aU)] 63 (0,0)))∧Xa (Below w.heap.size w wc))
    case first=>
     have H:=jC.out;clear jC;by_cases jG:aD=1
     ·rw [if_pos jG] at H;have dJ:=beq_iff_eq.mpr jG;have kP:=bne_eq_false_iff_eq.mpr jG;clear jG
      (first|rw [dJ]|(simp only [Ub,Uf];rw [dJ])|skip)
      have H':=Xa.mk H;clear H;go_wp2
      go_meet
      case rel=>exact ⟨_,((aD == 1)),rg_,H',⟨by first|omega|exact Nat.le_refl _⟩,⟨ba_ aA⟩,⟨bl_ HB⟩⟩
     ·rw [if_neg jG] at H;have dJ:=beq_eq_false_iff_ne.mpr jG;have kP:=bne_iff_ne.mpr jG
      (first|rw [dJ]|(simp only [Ub,Uf];rw [dJ])|skip)
      by_cases jH:aD=2
      ·rw [if_pos jH] at H;have kQ:=beq_iff_eq.mpr jH;have kR:=bne_eq_false_iff_eq.mpr jH;clear jH;have H':=Xa.mk H;clear H;go_wp2
       go_meet
       case rel=>exact ⟨_,((aD == 2)),rg_,H',⟨by first|omega|exact Nat.le_refl _⟩,⟨ba_ aA⟩,⟨bl_ HB⟩⟩
      ·rw [if_neg jH] at H;have kQ:=beq_eq_false_iff_ne.mpr jH;have kR:=bne_iff_ne.mpr jH;by_cases jI:aD=3
       ·rw [if_pos jI] at H;have kS:=beq_iff_eq.mpr jI;have kT:=bne_eq_false_iff_eq.mpr jI;clear jI;have H':=Xa.mk H;clear H;go_wp2
        go_meet
        case rel=>exact ⟨_,((aD == 3)),rg_,H',⟨by first|omega|exact Nat.le_refl _⟩,⟨ba_ aA⟩,⟨bl_ HB⟩⟩
       ·rw [if_neg jI] at H;have kS:=beq_eq_false_iff_ne.mpr jI;have kT:=bne_iff_ne.mpr jI;by_cases c64:aD=4
        ·rw [if_pos c64] at H;have kU:=beq_iff_eq.mpr c64;have kV:=bne_eq_false_iff_eq.mpr c64;clear c64;have H':=Xa.mk H;clear H;go_wp2
         go_meet
         case rel=>exact ⟨_,((aD == 4)),rg_,H',⟨by first|omega|exact Nat.le_refl _⟩,⟨ba_ aA⟩,⟨bl_ HB⟩⟩
        ·rw [if_neg c64] at H;have kU:=beq_eq_false_iff_ne.mpr c64;have kV:=bne_iff_ne.mpr c64;have H':=Xa.mk H;clear H;go_wp2
         go_meet
         case rel=>exact ⟨_,((aD == 5)),rg_,H',⟨by first|omega|exact Nat.le_refl _⟩,⟨ba_ aA⟩,⟨bl_ HB⟩⟩
    case rest=>
     clear jC
     try clear c3
     try clear kM
     try clear kN
     try clear iT
     try clear iU
     try clear iV
     try clear iW
     try clear iX
     try clear iY
     try clear gU
     try clear gV
     try clear gW
     try clear gX
     try clear gY
     try clear gZ
     try clear iA
     try clear iB
     try clear iC
     try clear iD
     try clear iE
     try clear iF
     obtain ⟨kq,dF,rfl,HA,HJ57,aA,HB⟩:=hcut
     cases kq with
     |zero=>exact absurd HA.out (by simp [Zd.j0])
     |succ kj57=>
      have H:=HA.out;clear HA;simp only [Zd.j0] at H;by_cases lN:dF=true
      ·subst lN
       replace H:(some (([(⟨aD,aC,aJ,aK⟩:S31)]:List (S31))))=some r:=(by rw [if_pos rfl] at H;exact H);obtain ⟨mO,gF⟩:∃ y_:List (S31),y_=(([(⟨aD,aC,aJ,aK⟩:S31)]:List (S31))):=⟨_,rfl⟩
       replace H:(some mO)=some r:=by subst gF;first|with_reducible exact H|(have z:=(Option.bind_some _ _).symm.trans H;with_reducible exact z)|exact H
       have iN:=Xa.mk gF;clear gF;obtain rfl:=Option.some.inj H;obtain ⟨hcz66_0,hcz66_1,hcz66_2,hcz66_3,hcz66_4,hcz66_5⟩:=Va aA.out;obtain ⟨hfz66_0,hfz66_1,hfz66_2,hfz66_3,hfz66_4,hfz66_5⟩:=Vb aA.out;go_wp2_with (first|((with_reducible refine Xt (N:=109) rfl ?_);refine Kd.Vo k31 _ 31 ?hg (N:=109) ?hd (xs:=([(⟨aD,aC,aJ,aK⟩:S31)]:List (S31))) (inner:=[.int .i64 aD,.int .i64 aC,.int .i64 aJ,.int .i64 aK]) (ok:=fun _=>True) (okp:=fun _=>True) ?hr ?hp (fun _ hk=>hk) trivial (Below.refl _ _) (Nat.le_refl _) (by simp) ?_;(case hd|hg=>rfl);(case hr=>exact hr_);(case hp=>exact (Yj.c4 (show Kd.M k31 _ _ _ (⟨aD,aC,aJ,aK⟩:S31) [.int .i64 aD,.int .i64 aC,.int .i64 aJ,.int .i64 aK] from (Vg _ _ _ (⟨aD,aC,aJ,aK⟩:S31) )) (Yj.none _ _)));intro v531 w67 fE hb bT aV;clear bT aV;(first|rw [← iN.out] at fE|(simp only [Int.reduceToNat] at fE;rw [← iN.out] at fE));have jW:=Xa.mk (Kd.Yi fE (Xd (bl_ HB)));replace aA:=Xa.mk (Zp (g:=aG) (o:=.cells #[.int .i64 aD,.int .i64 aC,.int .i64 aJ,.int .i64 aK,.slice aN aH.length aP,.slice aT aI.length aU] 63 (0,0)) (ba_ aA) hb);replace HB:=Xa.mk (Xe (bl_ HB) hb);clear hb fE))
       go_ret
       exact ⟨_,rf_,Kd.ra_ (jW.out),bl_ HB⟩
      ·replace lN:=Bool.eq_false_iff.mpr lN;subst lN
       replace H:(if aD=9 then (some (([(⟨10,aC,0,0⟩:S31)]:List (S31)))) else (if aD=10 then (some (([(⟨11,aC,0,0⟩:S31)]:List (S31)))) else (some (([(⟨12,0,0,0⟩:S31)]:List (S31))))))=some r:=(by rw [if_neg (show ¬ (false=true) by decide)] at H;exact H);by_cases jJ:aD=9
       ·rw [if_pos jJ] at H;have kW:=beq_iff_eq.mpr jJ;have kX:=bne_eq_false_iff_eq.mpr jJ;clear jJ;obtain ⟨mP,gG⟩:∃ y_:List (S31),y_=(([(⟨10,aC,0,0⟩:S31)]:List (S31))):=⟨_,rfl⟩
        replace H:(some mP)=some r:=by subst gG;first|with_reducible exact H|(have z:=(Option.bind_some _ _).symm.trans H;with_reducible exact z)|exact H
        have iO:=Xa.mk gG;clear gG;obtain rfl:=Option.some.inj H;obtain ⟨hcz70_0,hcz70_1,hcz70_2,hcz70_3,hcz70_4,hcz70_5⟩:=Va aA.out;obtain ⟨hfz70_0,hfz70_1,hfz70_2,hfz70_3,hfz70_4,hfz70_5⟩:=Vb aA.out;go_wp2_with (first|((with_reducible refine Xt (N:=115) rfl ?_);refine Kd.Vo k31 _ 31 ?hg (N:=115) ?hd (xs:=([(⟨10,aC,0,0⟩:S31)]:List (S31))) (inner:=[.int .i64 10,.int .i64 aC,.int .i64 0,.int .i64 0]) (ok:=fun _=>True) (okp:=fun _=>True) ?hr ?hp (fun _ hk=>hk) trivial (Below.refl _ _) (Nat.le_refl _) (by simp) ?_;(case hd|hg=>rfl);(case hr=>exact hr_);(case hp=>exact (Yj.c4 (show Kd.M k31 _ _ _ (⟨10,aC,0,0⟩:S31) [.int .i64 10,.int .i64 aC,.int .i64 0,.int .i64 0] from (Vg _ _ _ (⟨10,aC,0,0⟩:S31) )) (Yj.none _ _)));intro v534 w71 fF hb bT aV;clear bT aV;(first|rw [← iO.out] at fF|(simp only [Int.reduceToNat] at fF;rw [← iO.out] at fF));have jX:=Xa.mk (Kd.Yi fF (Xd (bl_ HB)));replace aA:=Xa.mk (Zp (g:=aG) (o:=.cells #[.int .i64 aD,.int .i64 aC,.int .i64 aJ,.int .i64 aK,.slice aN aH.length aP,.slice aT aI.length aU] 63 (0,0)) (ba_ aA) hb);replace HB:=Xa.mk (Xe (bl_ HB) hb);clear hb fF))
        go_ret
        exact ⟨_,rf_,Kd.ra_ (jX.out),bl_ HB⟩
       ·rw [if_neg jJ] at H;have kW:=beq_eq_false_iff_ne.mpr jJ;have kX:=bne_iff_ne.mpr jJ;by_cases jK:aD=10
        ·rw [if_pos jK] at H;have kY:=beq_iff_eq.mpr jK;have kZ:=bne_eq_false_iff_eq.mpr jK;clear jK;obtain ⟨mQ,gH⟩:∃ y_:List (S31),y_=(([(⟨11,aC,0,0⟩:S31)]:List (S31))):=⟨_,rfl⟩
         replace H:(some mQ)=some r:=by subst gH;first|with_reducible exact H|(have z:=(Option.bind_some _ _).symm.trans H;with_reducible exact z)|exact H
         have iP:=Xa.mk gH;clear gH;obtain rfl:=Option.some.inj H;obtain ⟨hcz74_0,hcz74_1,hcz74_2,hcz74_3,hcz74_4,hcz74_5⟩:=Va aA.out;obtain ⟨hfz74_0,hfz74_1,hfz74_2,hfz74_3,hfz74_4,hfz74_5⟩:=Vb aA.out;go_wp2_with (first|((with_reducible refine Xt (N:=121) rfl ?_);refine Kd.Vo k31 _ 31 ?hg (N:=121) ?hd (xs:=([(⟨11,aC,0,0⟩:S31)]:List (S31))) (inner:=[.int .i64 11,.int .i64 aC,.int .i64 0,.int .i64 0]) (ok:=fun _=>True) (okp:=fun _=>True) ?hr ?hp (fun _ hk=>hk) trivial (Below.refl _ _) (Nat.le_refl _) (by simp) ?_;(case hd|hg=>rfl);(case hr=>exact hr_);(case hp=>exact (Yj.c4 (show Kd.M k31 _ _ _ (⟨11,aC,0,0⟩:S31) [.int .i64 11,.int .i64 aC,.int .i64 0,.int .i64 0] from (Vg _ _ _ (⟨11,aC,0,0⟩:S31) )) (Yj.none _ _)));intro v537 w75 fG hb bT aV;clear bT aV;(first|rw [← iP.out] at fG|(simp only [Int.reduceToNat] at fG;rw [← iP.out] at fG));have jY:=Xa.mk (Kd.Yi fG (Xd (bl_ HB)));replace aA:=Xa.mk (Zp (g:=aG) (o:=.cells #[.int .i64 aD,.int .i64 aC,.int .i64 aJ,.int .i64 aK,.slice aN aH.length aP,.slice aT aI.length aU] 63 (0,0)) (ba_ aA) hb);replace HB:=Xa.mk (Xe (bl_ HB) hb);clear hb fG))
         go_ret
         exact ⟨_,rf_,Kd.ra_ (jY.out),bl_ HB⟩
        ·rw [if_neg jK] at H;have kY:=beq_eq_false_iff_ne.mpr jK;have kZ:=bne_iff_ne.mpr jK;obtain ⟨mR,gI⟩:∃ y_:List (S31),y_=(([(⟨12,0,0,0⟩:S31)]:List (S31))):=⟨_,rfl⟩
         replace H:(some mR)=some r:=by subst gI;first|with_reducible exact H|(have z:=(Option.bind_some _ _).symm.trans H;with_reducible exact z)|exact H
         have iQ:=Xa.mk gI;clear gI;obtain rfl:=Option.some.inj H;go_wp2_with (first|((with_reducible refine Xt (N:=123) rfl ?_);refine Kd.Vo k31 _ 31 ?hg (N:=123) ?hd (xs:=([(⟨12,0,0,0⟩:S31)]:List (S31))) (inner:=[.int .i64 12,.int .i64 0,.int .i64 0,.int .i64 0]) (ok:=fun _=>True) (okp:=fun _=>True) ?hr ?hp (fun _ hk=>hk) trivial (Below.refl _ _) (Nat.le_refl _) (by simp) ?_;(case hd|hg=>rfl);(case hr=>exact hr_);(case hp=>exact (Yj.c4 (show Kd.M k31 _ _ _ (⟨12,0,0,0⟩:S31) [.int .i64 12,.int .i64 0,.int .i64 0,.int .i64 0] from (Vg _ _ _ (⟨12,0,0,0⟩:S31) )) (Yj.none _ _)));intro v540 w77 fH hb bT aV;clear bT aV;(first|rw [← iQ.out] at fH|(simp only [Int.reduceToNat] at fH;rw [← iQ.out] at fH));have jZ:=Xa.mk (Kd.Yi fH (Xd (bl_ HB)));replace aA:=Xa.mk (Zp (g:=aG) (o:=.cells #[.int .i64 aD,.int .i64 aC,.int .i64 aJ,.int .i64 aK,.slice aN aH.length aP,.slice aT aI.length aU] 63 (0,0)) (ba_ aA) hb);replace HB:=Xa.mk (Xe (bl_ HB) hb);clear hb fH))
         go_ret
         exact ⟨_,rf_,Kd.ra_ (jZ.out),bl_ HB⟩
theorem Zc.step (k:Nat) (ih_spec_l4One:∀ m_,m_<k→∀ (aD:Int) (aC:Int) (aJ:Int) (aK:Int) (aN:Option Addr) (aP:Nat) (aH:List (S63)) (aT:Option Addr) (aU:Nat) (aI:List (S63)) (a1:Int) (r:List (S31)) (w:World) (dC:Kd.C k63 w aN aH.length aH) (dA:aH.length≤aP) (dD:Kd.C k63 w aT aI.length aI) (dB:aI.length≤aU) (h:Zd.f m_ aD aC aJ aK aH aI a1=some r),
  Calls Try.prog 42 #[.agg #[.int .i64 aD,.int .i64 aC,.int .i64 aJ,.int .i64 aK,.slice aN aH.length aP,.slice aT aI.length aU],.int .i64 a1] w fun e w'=>∃ bX:Value,e=.returned (bX)∧Kd.R k31 31 w' w.heap.size (fun _=>True) bX r∧Below w.heap.size w w') (ih:∀ m_,m_<k→∀ (A0:Option Addr) (c0:Nat) (l0:List (S63)) (a1:Int) (r:List (S31)) (w:World) (hr0:Kd.C k63 w A0 l0.length l0) (hc0:l0.length≤c0) (h:Zc.f m_ l0 a1=some r),
  Calls Try.prog 23 #[.slice A0 l0.length c0,.int .i64 a1] w fun e w'=>∃ bX:Value,e=.returned (bX)∧Kd.R k31 31 w' w.heap.size (fun _=>True) bX r∧Below w.heap.size w w'):∀ (A0:Option Addr) (c0:Nat) (l0:List (S63)) (a1:Int) (r:List (S31)) (w:World) (hr0:Kd.C k63 w A0 l0.length l0) (hc0:l0.length≤c0) (h:Zc.f k l0 a1=some r),
  Calls Try.prog 23 #[.slice A0 l0.length c0,.int .i64 a1] w fun e w'=>∃ bX:Value,e=.returned (bX)∧Kd.R k31 31 w' w.heap.size (fun _=>True) bX r∧Below w.heap.size w w':=by
 intro A0 c0 l0 a1 r w hr0 hc0 h
 cases k with
 |zero=>exact absurd h (by simp [Zc.f])
 |succ k=>
 simp only [Zc.f] at h;have mD:=Try.underlying63;have nR:=Xa.mk hr0;have HC0:=Xa.mk hc0;clear hr0 hc0;have HB:=Xa.mk (Below.refl w.heap.size w);have H:(Zc.l0 k l0 a1 (([]:List (S31))) 0)=some r:=h;clear h;obtain ⟨lI,gJ⟩:∃ y_:List (S31),y_=(([]:List (S31))):=⟨_,rfl⟩
 replace H:(Zc.l0 k l0 a1 lI 0)=some r:=by subst gJ;first|with_reducible exact H|(have z:=(Option.bind_some _ _).symm.trans H;with_reducible exact z)|exact H
 have iR:=Xa.mk gJ;clear gJ;have H':=Xa.mk H;clear H
 go_enter Try.func23,Try.ntmps23
 go_wp2_with (first|((with_reducible refine Xt (N:=7) rfl ?_);refine Kd.Vo k31 _ 31 ?hg (N:=7) ?hd (xs:=([]:List (S31))) (inner:=[]) (ok:=fun _=>True) (okp:=fun _=>True) ?hr ?hp (fun _ hk=>hk) trivial (Below.refl _ _) (Nat.le_refl _) (by simp) ?_;(case hd|hg=>rfl);(case hr=>exact hr_);(case hp=>exact (Yj.none _ _));intro v543 w3 lG hb bT aV;clear bT aV;(first|rw [← iR.out] at lG|(simp only [Int.reduceToNat] at lG;rw [← iR.out] at lG));have j4:=Xa.mk (Kd.Yi lG (Xd (bl_ HB)));replace HB:=Xa.mk (Xe (bl_ HB) hb);clear hb lG))
 go_loopg [5,6] k (fun kq v5 v6 w'=>∃ (bY:List (S31)) (bF:Int),v6=.int .i64 bF∧Xa (Zc.l0 kq l0 a1 bY bF=some r)∧Xa (kq≤k)∧Xa (Kd.R k31 31 w' w.heap.size (fun _=>True) v5 bY)∧Xa (Below w.heap.size w w'))
 case atStart=>exact ⟨(lI),(0),rg_,H',⟨Nat.le_refl _⟩,⟨Kd.ra_ (j4.out)⟩,⟨bl_ HB⟩⟩
 case round=>
  clear H';obtain ⟨bY,bF,rfl,HA,lS,dO,HB⟩:=hrel
  cases gk with
  |zero=>exact absurd HA.out (by simp [Zc.l0])
  |succ k1=>
   have H:=HA.out;clear HA;simp only [Zc.l0] at H;by_cases c5:bF<(l0.length:Int)
   ·rw [if_pos c5] at H;have lV:=decide_eq_true c5;clear c5;by_cases c6:0≤bF
    ·rw [if_pos c6] at H;replace c6:=decide_eq_true c6;replace H:=Option.bind_eq_some_iff.mp H;obtain ⟨bZ,mW,H⟩:=H;replace H:(if bY.length+bZ.length<4398046511104 then (Zc.l0 k1 l0 a1 (bY ++ bZ) (wrap64 (bF+1))) else (none))=some r:=H;have A7:=Xa.mk mW;clear mW;by_cases c8:bY.length+bZ.length<4398046511104
     ·rw [if_pos c8] at H;have jD:=Xa.mk c8;clear c8;obtain ⟨lJ,gK⟩:∃ y_:List (S31),y_=(bY ++ bZ):=⟨_,rfl⟩
      replace H:(Zc.l0 k1 l0 a1 lJ (wrap64 (bF+1)))=some r:=by subst gK;first|with_reducible exact H|(have z:=(Option.bind_some _ _).symm.trans H;with_reducible exact z)|exact H
      have kL:=Xa.mk gK;clear gK;have H':=Xa.mk H;clear H;have jM:0≤(bF:Int):=of_decide_eq_true (by assumption);have jN:bF<(l0.length:Int):=of_decide_eq_true (by assumption);obtain ⟨ad545,iZ,jE,jA,jF,lX,dY,dZ,d9,eB,eD,eF,dW,dU,dX,dV⟩:=at_T63 nR.out bF jM jN;cases lX
      replace dY:=bw_ HB dY;replace dZ:=bw_ HB dZ;replace d9:=bw_ HB d9;replace eB:=bw_ HB eB;replace eD:=bw_ HB eD;replace eF:=bw_ HB eF;have gQ:=Xa.mk dU;have gN:=Xa.mk dW;clear dU dW;have gT:=Xa.mk dV;have gP:=Xa.mk dX;clear dV dX;replace jM:=eq_true jM;replace jN:=eq_true jN;obtain ⟨nQ,nS,nT⟩:=Kd.Yo dO.out;subst nT;go_wp2_with (first|((with_reducible refine Xh (f:=42) rfl ?_);refine Ye (some 23) rfl rfl Try.func42 (by kernel_rfl) rfl #[.agg #[.int .i64 ((Xc l0 bF).f0),.int .i64 ((Xc l0 bF).f1),.int .i64 ((Xc l0 bF).f2),.int .i64 ((Xc l0 bF).f3),.slice iZ ((Xc l0 bF).f4).length jE,.slice jA ((Xc l0 bF).f5).length jF],.int .i64 (wrap64 (a1+(bY.length:Int)))] rfl ga_ ?_;(with_reducible refine (ih_spec_l4One k1 (by have:=lS.out;omega) ((Xc l0 bF).f0) ((Xc l0 bF).f1) ((Xc l0 bF).f2) ((Xc l0 bF).f3) _ _ ((Xc l0 bF).f4) _ _ ((Xc l0 bF).f5) (wrap64 (a1+(bY.length:Int))) bZ _ ?side1 ?side2 ?side3 ?side4 A7.out).mono ?_);(case side1=>exact Kd.ca_ (Kd.Ze gQ.out HB.out));(case side2=>exact gN.out);(case side3=>exact Kd.ca_ (Kd.Ze gT.out HB.out));(case side4=>exact gP.out);rintro e w10 ⟨v547,rfl,ho0,hb⟩;refine ⟨_,rfl,?_⟩;have dI:=Xa.mk (Kd.Yi (Kd.R_new' ho0 (Kd.Uu (Kd.ra_ (dO.out)))) (Xd (bl_ HB)));replace dO:=Xa.mk (Kd.R_elder' (Kd.ra_ (dO.out)) (Kd.Yv ho0) hb);replace HB:=Xa.mk (Xe (bl_ HB) hb);clear hb ho0;obtain ⟨lQ,lW,lY⟩:=Kd.Yo dI.out;subst lY)|((with_reducible refine Yp (b:=.append) (xs:=#[.tmp 14,.tmp 23]) rfl ?_);at_builtin;refine Kd.Vx k31 (w0:=w) w.heap.size rfl (.tmp 14) (.tmp 23) 25 31 (.agg #[(.int .i64 0),(.int .i64 0),(.int .i64 0),(.int .i64 0)]) 32 rfl Try.underlying25 info31 rfl (by decide) (by omega) (.slice nQ bY.length nS) bY bZ _ _ _ (fun k_=>some k_≠(.slice lQ bZ.length lW:Value).ownBlock) (fun _=>False) rfl rfl ?aO ?aR (fun _ _ h=>h) (fun _ h=>h.elim) ?aF ?aB ?aS ?aL ?_;(case aR=>exact Kd.ca_ (Kd.R_reads' dI.out).2.2);(case aB=>exact (bl_ HB));(case aF=>exact (fun k_ hk=>Kd.fresh' (Kd.Uu (Kd.ra_ (dI.out))) k_ hk));(case aO=>exact (Kd.ra_ (Kd.Xo dO.out (fun _ hk=>hk.2))));(case aS=>exact (Xd (bl_ HB)));(case aL=>have:=jD.out;omega);intro v550 nZ ho hb hg hat;rw [← kL.out] at ho;replace dI:=Xa.mk (Kd.Ue (ok:=(fun _=>True)) (Kd.ra_ (dI.out)) hg hat);replace HB:=Xa.mk (hb);have j5:=Xa.mk (ho);clear dO ho hb hg hat))
      go_roundg k1
      case measure=>have:=lS.out;omega
      case rel=>exact ⟨(lJ),(wrap64 (bF+1)),rg_,H',⟨by have:=lS.out;omega⟩,⟨Kd.ra_ (Kd.Xo j5.out (fun _ hk=>trivial))⟩,⟨bl_ HB⟩⟩
     ·rw [if_neg c8] at H;exact absurd H (by simp)
    ·rw [if_neg c6] at H;exact absurd H (by simp)
   ·rw [if_neg c5] at H;have lV:=decide_eq_false c5;clear c5;obtain rfl:=Option.some.inj H;go_wp2
    go_ret
    exact ⟨_,rf_,Kd.ra_ (dO.out),bl_ HB⟩
theorem spec_l4One_spec_l4Of.all (k:Nat):(∀ (aD:Int) (aC:Int) (aJ:Int) (aK:Int) (aN:Option Addr) (aP:Nat) (aH:List (S63)) (aT:Option Addr) (aU:Nat) (aI:List (S63)) (a1:Int) (r:List (S31)) (w:World) (dC:Kd.C k63 w aN aH.length aH) (dA:aH.length≤aP) (dD:Kd.C k63 w aT aI.length aI) (dB:aI.length≤aU) (h:Zd.f k aD aC aJ aK aH aI a1=some r),
  Calls Try.prog 42 #[.agg #[.int .i64 aD,.int .i64 aC,.int .i64 aJ,.int .i64 aK,.slice aN aH.length aP,.slice aT aI.length aU],.int .i64 a1] w fun e w'=>∃ bX:Value,e=.returned (bX)∧Kd.R k31 31 w' w.heap.size (fun _=>True) bX r∧Below w.heap.size w w')∧(∀ (A0:Option Addr) (c0:Nat) (l0:List (S63)) (a1:Int) (r:List (S31)) (w:World) (hr0:Kd.C k63 w A0 l0.length l0) (hc0:l0.length≤c0) (h:Zc.f k l0 a1=some r),
  Calls Try.prog 23 #[.slice A0 l0.length c0,.int .i64 a1] w fun e w'=>∃ bX:Value,e=.returned (bX)∧Kd.R k31 31 w' w.heap.size (fun _=>True) bX r∧Below w.heap.size w w'):=by
 induction k using Nat.strongRecOn with
 |_ k ih=>exact ⟨Zd.step k (fun m hm=>(ih m hm).1) (fun m hm=>(ih m hm).2),Zc.step k (fun m hm=>(ih m hm).1) (fun m hm=>(ih m hm).2)⟩
theorem Zc.calls (k:Nat):∀ (A0:Option Addr) (c0:Nat) (l0:List (S63)) (a1:Int) (r:List (S31)) (w:World) (hr0:Kd.C k63 w A0 l0.length l0) (hc0:l0.length≤c0) (h:Zc.f k l0 a1=some r),
  Calls Try.prog 23 #[.slice A0 l0.length c0,.int .i64 a1] w fun e w'=>∃ bX:Value,e=.returned (bX)∧Kd.R k31 31 w' w.heap.size (fun _=>True) bX r∧Below w.heap.size w w':=(spec_l4One_spec_l4Of.all k).2
end Go.Proofs.Ytokajnfbiddpjaa.GSlim
