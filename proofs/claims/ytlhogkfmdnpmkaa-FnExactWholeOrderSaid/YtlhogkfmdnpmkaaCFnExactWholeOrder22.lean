import Derived.Test.YtlhogkfmdnpmkaaCFnExactWholeOrder21
set_option maxHeartbeats 8000000
set_option maxRecDepth 100000
namespace Go.Proofs.Ytlhogkfmdnpmkaa.GWhole
open Go.RowKit Go.Proofs.YtlhogkfmdnpmkaaW.PrintWords Go.Proofs.YtlhogkfmdnpmkaaW.PrintLast Go.Proofs.YtlhogkfmdnpmkaaW.PrintMore
attribute [local go_sem] Ui Uk max_two min_two Zx Zy Uj Ul
set_option linter.unusedVariables false
set_option linter.unusedSimpArgs false
mutual
def Ue.f:Nat→Int→Int→Int→Int→List (S65)→List (S65)→Int→Option (Int)
 |0,_,_,_,_,_,_,_=>none
 |k+1,aJ,aK,aL,aM,aB,aC,a1=>(Yn.f k aB a1).bind fun aO=>(if aO<0 then (some (-1)) else ((Yn.f k aC aO).bind fun bD=>(if bD<0 then (some (-1)) else (some bD))))
def Yn.l0:Nat→List (S65)→Int→Int→Option (Int)
 |0,_,_,_=>none
 |k+1,x0,x1,x5=>if x5<(x0.length:Int) then (if 0≤x5 then ((Ue.f k ((Zi x0 x5).f0) ((Zi x0 x5).f1) ((Zi x0 x5).f2) ((Zi x0 x5).f3) ((Zi x0 x5).f4) ((Zi x0 x5).f5) x1).bind fun t105=>(if t105<0 then (some (-1)) else (Yn.l0 k x0 t105 (wrap64 (x5+1))))) else (none)) else (some x1)
def Yn.f:Nat→List (S65)→Int→Option (Int)
 |0,_,_=>none
 |k+1,l0,a1=>if (wrap64 (a1 - (l0.length:Int)))<0 then (some (-1)) else (Yn.l0 k l0 (wrap64 (a1 - (l0.length:Int))) 0)
end
theorem Ue.step (k:Nat) (ih:∀ m_,m_<k→∀ (aJ:Int) (aK:Int) (aL:Int) (aM:Int) (aF:Option Addr) (aG:Nat) (aB:List (S65)) (aH:Option Addr) (aI:Nat) (aC:List (S65)) (a1:Int) (r:Int) (w:World) (bG:Kd.C k65 w aF aB.length aB) (bE:aB.length≤aG) (bH:Kd.C k65 w aH aC.length aC) (bF:aC.length≤aI) (h:Ue.f m_ aJ aK aL aM aB aC a1=some r),
  Calls Try.prog 35 #[.agg #[.int .i64 aJ,.int .i64 aK,.int .i64 aL,.int .i64 aM,.slice aF aB.length aG,.slice aH aC.length aI],.int .i64 a1] w fun e w'=>e=.returned (.int .i64 r)∧Below w.heap.size w w') (ih_laws_szStmtS:∀ m_,m_<k→∀ (A0:Option Addr) (c0:Nat) (l0:List (S65)) (a1:Int) (r:Int) (w:World) (hr0:Kd.C k65 w A0 l0.length l0) (hc0:l0.length≤c0) (h:Yn.f m_ l0 a1=some r),
  Calls Try.prog 18 #[.slice A0 l0.length c0,.int .i64 a1] w fun e w'=>e=.returned (.int .i64 r)∧Below w.heap.size w w'):∀ (aJ:Int) (aK:Int) (aL:Int) (aM:Int) (aF:Option Addr) (aG:Nat) (aB:List (S65)) (aH:Option Addr) (aI:Nat) (aC:List (S65)) (a1:Int) (r:Int) (w:World) (bG:Kd.C k65 w aF aB.length aB) (bE:aB.length≤aG) (bH:Kd.C k65 w aH aC.length aC) (bF:aC.length≤aI) (h:Ue.f k aJ aK aL aM aB aC a1=some r),
  Calls Try.prog 35 #[.agg #[.int .i64 aJ,.int .i64 aK,.int .i64 aL,.int .i64 aM,.slice aF aB.length aG,.slice aH aC.length aI],.int .i64 a1] w fun e w'=>e=.returned (.int .i64 r)∧Below w.heap.size w w':=by
 intro aJ aK aL aM aF aG aB aH aI aC a1 r w bG bE bH bF h
 cases k with
 |zero=>exact absurd h (by simp [Ue.f])
 |succ k=>
 simp only [Ue.f] at h;have dM:=Try.underlying65;have bZ:=Xa.mk bG;have bY:=Xa.mk bE;clear bG bE;have dB:=Xa.mk bH;have dA:=Xa.mk bF;clear bH bF;have HB:=Xa.mk (Below.refl w.heap.size w);have H:((Yn.f k aB a1).bind fun aO=>(if aO<0 then (some (-1)) else ((Yn.f k aC aO).bind fun bD=>(if bD<0 then (some (-1)) else (some bD)))))=some r:=h;clear h;replace H:=Option.bind_eq_some_iff.mp H;obtain ⟨aO,dN,H⟩:=H;replace H:(if aO<0 then (some (-1)) else ((Yn.f k aC aO).bind fun bD=>(if bD<0 then (some (-1)) else (some bD))))=some r:=H;have A3:=Xa.mk dN;clear dN;by_cases c4:aO<0
 ·rw [if_pos c4] at H;have cK:=decide_eq_true c4;clear c4;obtain rfl:=Option.some.inj H
  go_enter Try.func35,Try.ntmps35
  go_wp2_with (first|((with_reducible refine Zh (N:=2) rfl ?_);refine Zg ?hg (N:=2) ?hd (cs:=#[.int .i64 aJ,.int .i64 aK,.int .i64 aL,.int .i64 aM,.slice aF aB.length aG,.slice aH aC.length aI]) (t:=65) ?hr ?_;(case hd|hg=>rfl);(case hr=>exact hr_);intro aN hg w5 hbox hb;have aD:=Xa.mk (hbox);have cZ:=Xa.mk ((ge_ hg (Xf (bl_ HB)):w.heap.size≤aN));have cO:=Xa.mk ((ge_ hg (Xf (bl_ HB)):w.heap.size≤aN));replace HB:=Xa.mk (Xe (bl_ HB) hb);clear hb hbox hg;obtain ⟨hcz6_0,hcz6_1,hcz6_2,hcz6_3,hcz6_4,hcz6_5⟩:=Zt aD.out;obtain ⟨hfz6_0,hfz6_1,hfz6_2,hfz6_3,hfz6_4,hfz6_5⟩:=Zu aD.out)|((with_reducible refine Xi (f:=18) rfl ?_);refine Yb (some 8) rfl rfl Try.func18 (by kernel_rfl) rfl #[.slice aF aB.length aG,.int .i64 a1] rfl ga_ ?_;(with_reducible refine (ih_laws_szStmtS k (by omega) _ _ aB a1 aO _ ?side1 ?side2 A3.out).mono ?_);(case side1=>exact Kd.ca_ (Kd.Xr bZ.out HB.out));(case side2=>exact bY.out);rintro e w7 ⟨rfl,hb⟩;refine ⟨_,rfl,?_⟩;replace aD:=Xa.mk (Xt (g:=aN) (o:=.cells #[.int .i64 aJ,.int .i64 aK,.int .i64 aL,.int .i64 aM,.slice aF aB.length aG,.slice aH aC.length aI] 65 (0,0)) (ba_ aD) hb);replace HB:=Xa.mk (Xe (bl_ HB) hb);clear hb))
  go_ret
  exact ⟨rf_,bl_ HB⟩
 ·rw [if_neg c4] at H;have cK:=decide_eq_false c4;clear c4;replace H:=Option.bind_eq_some_iff.mp H;obtain ⟨bD,dO,H⟩:=H;replace H:(if bD<0 then (some (-1)) else (some bD))=some r:=H;have A8:=Xa.mk dO;clear dO;by_cases c9:bD<0
  ·rw [if_pos c9] at H;have dL:=decide_eq_true c9;clear c9;obtain rfl:=Option.some.inj H
   go_enter Try.func35,Try.ntmps35
   go_wp2_with (first|((with_reducible refine Zh (N:=2) rfl ?_);refine Zg ?hg (N:=2) ?hd (cs:=#[.int .i64 aJ,.int .i64 aK,.int .i64 aL,.int .i64 aM,.slice aF aB.length aG,.slice aH aC.length aI]) (t:=65) ?hr ?_;(case hd|hg=>rfl);(case hr=>exact hr_);intro aN hg w10 hbox hb;have aD:=Xa.mk (hbox);have cZ:=Xa.mk ((ge_ hg (Xf (bl_ HB)):w.heap.size≤aN));have cO:=Xa.mk ((ge_ hg (Xf (bl_ HB)):w.heap.size≤aN));replace HB:=Xa.mk (Xe (bl_ HB) hb);clear hb hbox hg;obtain ⟨hcz11_0,hcz11_1,hcz11_2,hcz11_3,hcz11_4,hcz11_5⟩:=Zt aD.out;obtain ⟨hfz11_0,hfz11_1,hfz11_2,hfz11_3,hfz11_4,hfz11_5⟩:=Zu aD.out)|((with_reducible refine Xi (f:=18) rfl ?_);refine Yb (some 8) rfl rfl Try.func18 (by kernel_rfl) rfl #[.slice aF aB.length aG,.int .i64 a1] rfl ga_ ?_;(with_reducible refine (ih_laws_szStmtS k (by omega) _ _ aB a1 aO _ ?side1 ?side2 A3.out).mono ?_);(case side1=>exact Kd.ca_ (Kd.Xr bZ.out HB.out));(case side2=>exact bY.out);rintro e w12 ⟨rfl,hb⟩;refine ⟨_,rfl,?_⟩;replace aD:=Xa.mk (Xt (g:=aN) (o:=.cells #[.int .i64 aJ,.int .i64 aK,.int .i64 aL,.int .i64 aM,.slice aF aB.length aG,.slice aH aC.length aI] 65 (0,0)) (ba_ aD) hb);replace HB:=Xa.mk (Xe (bl_ HB) hb);clear hb;obtain ⟨hcz13_0,hcz13_1,hcz13_2,hcz13_3,hcz13_4,hcz13_5⟩:=Zt aD.out;obtain ⟨hfz13_0,hfz13_1,hfz13_2,hfz13_3,hfz13_4,hfz13_5⟩:=Zu aD.out)|((with_reducible refine Xi (f:=18) rfl ?_);refine Yb (some 14) rfl rfl Try.func18 (by kernel_rfl) rfl #[.slice aH aC.length aI,.int .i64 aO] rfl ga_ ?_;(with_reducible refine (ih_laws_szStmtS k (by omega) _ _ aC aO bD _ ?side1 ?side2 A8.out).mono ?_);(case side1=>exact Kd.ca_ (Kd.Xr dB.out HB.out));(case side2=>exact dA.out);rintro e w14 ⟨rfl,hb⟩;refine ⟨_,rfl,?_⟩;replace aD:=Xa.mk (Xt (g:=aN) (o:=.cells #[.int .i64 aJ,.int .i64 aK,.int .i64 aL,.int .i64 aM,.slice aF aB.length aG,.slice aH aC.length aI] 65 (0,0)) (ba_ aD) hb);replace HB:=Xa.mk (Xe (bl_ HB) hb);clear hb))
   go_ret
   exact ⟨rf_,bl_ HB⟩
  ·rw [if_neg c9] at H;have dL:=decide_eq_false c9;clear c9;obtain rfl:=Option.some.inj H
   go_enter Try.func35,Try.ntmps35
   go_wp2_with (first|((with_reducible refine Zh (N:=2) rfl ?_);refine Zg ?hg (N:=2) ?hd (cs:=#[.int .i64 aJ,.int .i64 aK,.int .i64 aL,.int .i64 aM,.slice aF aB.length aG,.slice aH aC.length aI]) (t:=65) ?hr ?_;(case hd|hg=>rfl);(case hr=>exact hr_);intro aN hg w15 hbox hb;have aD:=Xa.mk (hbox);have cZ:=Xa.mk ((ge_ hg (Xf (bl_ HB)):w.heap.size≤aN));have cO:=Xa.mk ((ge_ hg (Xf (bl_ HB)):w.heap.size≤aN));replace HB:=Xa.mk (Xe (bl_ HB) hb);clear hb hbox hg;obtain ⟨hcz16_0,hcz16_1,hcz16_2,hcz16_3,hcz16_4,hcz16_5⟩:=Zt aD.out;obtain ⟨hfz16_0,hfz16_1,hfz16_2,hfz16_3,hfz16_4,hfz16_5⟩:=Zu aD.out)|((with_reducible refine Xi (f:=18) rfl ?_);refine Yb (some 8) rfl rfl Try.func18 (by kernel_rfl) rfl #[.slice aF aB.length aG,.int .i64 a1] rfl ga_ ?_;(with_reducible refine (ih_laws_szStmtS k (by omega) _ _ aB a1 aO _ ?side1 ?side2 A3.out).mono ?_);(case side1=>exact Kd.ca_ (Kd.Xr bZ.out HB.out));(case side2=>exact bY.out);rintro e w17 ⟨rfl,hb⟩;refine ⟨_,rfl,?_⟩;replace aD:=Xa.mk (Xt (g:=aN) (o:=.cells #[.int .i64 aJ,.int .i64 aK,.int .i64 aL,.int .i64 aM,.slice aF aB.length aG,.slice aH aC.length aI] 65 (0,0)) (ba_ aD) hb);replace HB:=Xa.mk (Xe (bl_ HB) hb);clear hb;obtain ⟨hcz18_0,hcz18_1,hcz18_2,hcz18_3,hcz18_4,hcz18_5⟩:=Zt aD.out;obtain ⟨hfz18_0,hfz18_1,hfz18_2,hfz18_3,hfz18_4,hfz18_5⟩:=Zu aD.out)|((with_reducible refine Xi (f:=18) rfl ?_);refine Yb (some 14) rfl rfl Try.func18 (by kernel_rfl) rfl #[.slice aH aC.length aI,.int .i64 aO] rfl ga_ ?_;(with_reducible refine (ih_laws_szStmtS k (by omega) _ _ aC aO bD _ ?side1 ?side2 A8.out).mono ?_);(case side1=>exact Kd.ca_ (Kd.Xr dB.out HB.out));(case side2=>exact dA.out);rintro e w19 ⟨rfl,hb⟩;refine ⟨_,rfl,?_⟩;replace aD:=Xa.mk (Xt (g:=aN) (o:=.cells #[.int .i64 aJ,.int .i64 aK,.int .i64 aL,.int .i64 aM,.slice aF aB.length aG,.slice aH aC.length aI] 65 (0,0)) (ba_ aD) hb);replace HB:=Xa.mk (Xe (bl_ HB) hb);clear hb))
   go_ret
   exact ⟨rf_,bl_ HB⟩
theorem Yn.step (k:Nat) (ih_laws_szStmt:∀ m_,m_<k→∀ (aJ:Int) (aK:Int) (aL:Int) (aM:Int) (aF:Option Addr) (aG:Nat) (aB:List (S65)) (aH:Option Addr) (aI:Nat) (aC:List (S65)) (a1:Int) (r:Int) (w:World) (bG:Kd.C k65 w aF aB.length aB) (bE:aB.length≤aG) (bH:Kd.C k65 w aH aC.length aC) (bF:aC.length≤aI) (h:Ue.f m_ aJ aK aL aM aB aC a1=some r),
  Calls Try.prog 35 #[.agg #[.int .i64 aJ,.int .i64 aK,.int .i64 aL,.int .i64 aM,.slice aF aB.length aG,.slice aH aC.length aI],.int .i64 a1] w fun e w'=>e=.returned (.int .i64 r)∧Below w.heap.size w w') (ih:∀ m_,m_<k→∀ (A0:Option Addr) (c0:Nat) (l0:List (S65)) (a1:Int) (r:Int) (w:World) (hr0:Kd.C k65 w A0 l0.length l0) (hc0:l0.length≤c0) (h:Yn.f m_ l0 a1=some r),
  Calls Try.prog 18 #[.slice A0 l0.length c0,.int .i64 a1] w fun e w'=>e=.returned (.int .i64 r)∧Below w.heap.size w w'):∀ (A0:Option Addr) (c0:Nat) (l0:List (S65)) (a1:Int) (r:Int) (w:World) (hr0:Kd.C k65 w A0 l0.length l0) (hc0:l0.length≤c0) (h:Yn.f k l0 a1=some r),
  Calls Try.prog 18 #[.slice A0 l0.length c0,.int .i64 a1] w fun e w'=>e=.returned (.int .i64 r)∧Below w.heap.size w w':=by
 intro A0 c0 l0 a1 r w hr0 hc0 h
 cases k with
 |zero=>exact absurd h (by simp [Yn.f])
 |succ k=>
 simp only [Yn.f] at h;have dM:=Try.underlying65;have dH:=Xa.mk hr0;have dP:=Xa.mk hc0;clear hr0 hc0;have HB:=Xa.mk (Below.refl w.heap.size w);have H:(if (wrap64 (a1 - (l0.length:Int)))<0 then (some (-1)) else (Yn.l0 k l0 (wrap64 (a1 - (l0.length:Int))) 0))=some r:=h;clear h;by_cases c3:(wrap64 (a1 - (l0.length:Int)))<0
 ·rw [if_pos c3] at H;have cB:=decide_eq_true c3;clear c3;obtain rfl:=Option.some.inj H
  go_enter Try.func18,Try.ntmps18
  go_wp2
  go_ret
  exact ⟨rf_,bl_ HB⟩
 ·rw [if_neg c3] at H;have cB:=decide_eq_false c3;clear c3;have H':=Xa.mk H;clear H
  go_enter Try.func18,Try.ntmps18
  go_wp2
  go_loopg [1,5] k (fun kq v1 v5 w'=>∃ (aP:Int) (aA:Int),v1=.int .i64 aP∧v5=.int .i64 aA∧Xa (Yn.l0 kq l0 aP aA=some r)∧Xa (kq≤k)∧Xa (Below w.heap.size w w'))
  case atStart=>exact ⟨(wrap64 (a1 - (l0.length:Int))),(0),rg_,rg_,H',⟨Nat.le_refl _⟩,⟨bl_ HB⟩⟩
  case round=>
   clear H'
   try clear c3
   try clear cB
   obtain ⟨aP,aA,rfl,rfl,HA,dC,HB⟩:=hrel
   cases gk with
   |zero=>exact absurd HA.out (by simp [Yn.l0])
   |succ k1=>
    have H:=HA.out;clear HA;simp only [Yn.l0] at H;by_cases c4:aA<(l0.length:Int)
    ·rw [if_pos c4] at H;have cK:=decide_eq_true c4;clear c4;by_cases c5:0≤aA
     ·rw [if_pos c5] at H;have dK:=decide_eq_true c5;clear c5;replace H:=Option.bind_eq_some_iff.mp H;obtain ⟨t105,dG,H⟩:=H;replace H:(if t105<0 then (some (-1)) else (Yn.l0 k1 l0 t105 (wrap64 (aA+1))))=some r:=H;have A6:=Xa.mk dG;clear dG;by_cases c7:t105<0
      ·rw [if_pos c7] at H;have dD:=decide_eq_true c7;clear c7;obtain rfl:=Option.some.inj H;have bU:0≤(aA:Int):=of_decide_eq_true (by assumption);have bW:aA<(l0.length:Int):=of_decide_eq_true (by assumption);obtain ⟨dI,bO,bR,bP,bS,dE,aW,aX,aY,aZ,bA,bB,aT,aQ,aU,aR⟩:=at_T65 dH.out aA bU bW;cases dE
       replace aW:=bw_ HB aW;replace aX:=bw_ HB aX;replace aY:=bw_ HB aY;replace aZ:=bw_ HB aZ;replace bA:=bw_ HB bA;replace bB:=bw_ HB bB;have bL:=Xa.mk aQ;have bI:=Xa.mk aT;clear aQ aT;have bM:=Xa.mk aR;have bJ:=Xa.mk aU;clear aR aU;replace bU:=eq_true bU;replace bW:=eq_true bW;go_wp2_with (first|((with_reducible refine Xi (f:=35) rfl ?_);refine Yb (some 23) rfl rfl Try.func35 (by kernel_rfl) rfl #[.agg #[.int .i64 ((Zi l0 aA).f0),.int .i64 ((Zi l0 aA).f1),.int .i64 ((Zi l0 aA).f2),.int .i64 ((Zi l0 aA).f3),.slice bO ((Zi l0 aA).f4).length bR,.slice bP ((Zi l0 aA).f5).length bS],.int .i64 aP] rfl ga_ ?_;(with_reducible refine (ih_laws_szStmt k1 (by have:=dC.out;omega) ((Zi l0 aA).f0) ((Zi l0 aA).f1) ((Zi l0 aA).f2) ((Zi l0 aA).f3) _ _ ((Zi l0 aA).f4) _ _ ((Zi l0 aA).f5) aP t105 _ ?side1 ?side2 ?side3 ?side4 A6.out).mono ?_);(case side1=>exact Kd.ca_ (Kd.Xr bL.out HB.out));(case side2=>exact bI.out);(case side3=>exact Kd.ca_ (Kd.Xr bM.out HB.out));(case side4=>exact bJ.out);rintro e w8 ⟨rfl,hb⟩;refine ⟨_,rfl,?_⟩;replace HB:=Xa.mk (Xe (bl_ HB) hb);clear hb))
       go_ret
       exact ⟨rf_,bl_ HB⟩
      ·rw [if_neg c7] at H;have dD:=decide_eq_false c7;clear c7;have H':=Xa.mk H;clear H;have bU:0≤(aA:Int):=of_decide_eq_true (by assumption);have bW:aA<(l0.length:Int):=of_decide_eq_true (by assumption);obtain ⟨dI,bO,bR,bP,bS,dE,aW,aX,aY,aZ,bA,bB,aT,aQ,aU,aR⟩:=at_T65 dH.out aA bU bW;cases dE
       replace aW:=bw_ HB aW;replace aX:=bw_ HB aX;replace aY:=bw_ HB aY;replace aZ:=bw_ HB aZ;replace bA:=bw_ HB bA;replace bB:=bw_ HB bB;have bL:=Xa.mk aQ;have bI:=Xa.mk aT;clear aQ aT;have bM:=Xa.mk aR;have bJ:=Xa.mk aU;clear aR aU;replace bU:=eq_true bU;replace bW:=eq_true bW;go_wp2_with (first|((with_reducible refine Xi (f:=35) rfl ?_);refine Yb (some 23) rfl rfl Try.func35 (by kernel_rfl) rfl #[.agg #[.int .i64 ((Zi l0 aA).f0),.int .i64 ((Zi l0 aA).f1),.int .i64 ((Zi l0 aA).f2),.int .i64 ((Zi l0 aA).f3),.slice bO ((Zi l0 aA).f4).length bR,.slice bP ((Zi l0 aA).f5).length bS],.int .i64 aP] rfl ga_ ?_;(with_reducible refine (ih_laws_szStmt k1 (by have:=dC.out;omega) ((Zi l0 aA).f0) ((Zi l0 aA).f1) ((Zi l0 aA).f2) ((Zi l0 aA).f3) _ _ ((Zi l0 aA).f4) _ _ ((Zi l0 aA).f5) aP t105 _ ?side1 ?side2 ?side3 ?side4 A6.out).mono ?_);(case side1=>exact Kd.ca_ (Kd.Xr bL.out HB.out));(case side2=>exact bI.out);(case side3=>exact Kd.ca_ (Kd.Xr bM.out HB.out));(case side4=>exact bJ.out);rintro e w9 ⟨rfl,hb⟩;refine ⟨_,rfl,?_⟩;replace HB:=Xa.mk (Xe (bl_ HB) hb);clear hb))
       go_roundg k1
       case measure=>have:=dC.out;omega
       case rel=>exact ⟨(t105),(wrap64 (aA+1)),rg_,rg_,H',⟨by have:=dC.out;omega⟩,⟨bl_ HB⟩⟩
     ·rw [if_neg c5] at H;exact absurd H (by simp)
    ·rw [if_neg c4] at H;have cK:=decide_eq_false c4;clear c4;obtain rfl:=Option.some.inj H;go_wp2
     go_ret
     exact ⟨rf_,bl_ HB⟩
theorem laws_szStmt_laws_szStmtS.all (k:Nat):(∀ (aJ:Int) (aK:Int) (aL:Int) (aM:Int) (aF:Option Addr) (aG:Nat) (aB:List (S65)) (aH:Option Addr) (aI:Nat) (aC:List (S65)) (a1:Int) (r:Int) (w:World) (bG:Kd.C k65 w aF aB.length aB) (bE:aB.length≤aG) (bH:Kd.C k65 w aH aC.length aC) (bF:aC.length≤aI) (h:Ue.f k aJ aK aL aM aB aC a1=some r),
  Calls Try.prog 35 #[.agg #[.int .i64 aJ,.int .i64 aK,.int .i64 aL,.int .i64 aM,.slice aF aB.length aG,.slice aH aC.length aI],.int .i64 a1] w fun e w'=>e=.returned (.int .i64 r)∧Below w.heap.size w w')∧(∀ (A0:Option Addr) (c0:Nat) (l0:List (S65)) (a1:Int) (r:Int) (w:World) (hr0:Kd.C k65 w A0 l0.length l0) (hc0:l0.length≤c0) (h:Yn.f k l0 a1=some r),
  Calls Try.prog 18 #[.slice A0 l0.length c0,.int .i64 a1] w fun e w'=>e=.returned (.int .i64 r)∧Below w.heap.size w w'):=by
 induction k using Nat.strongRecOn with
 |_ k ih=>exact ⟨Ue.step k (fun m hm=>(ih m hm).1) (fun m hm=>(ih m hm).2),Yn.step k (fun m hm=>(ih m hm).1) (fun m hm=>(ih m hm).2)⟩
theorem Yn.calls (k:Nat):∀ (A0:Option Addr) (c0:Nat) (l0:List (S65)) (a1:Int) (r:Int) (w:World) (hr0:Kd.C k65 w A0 l0.length l0) (hc0:l0.length≤c0) (h:Yn.f k l0 a1=some r),
  Calls Try.prog 18 #[.slice A0 l0.length c0,.int .i64 a1] w fun e w'=>e=.returned (.int .i64 r)∧Below w.heap.size w w':=(laws_szStmt_laws_szStmtS.all k).2
def Zd.l0:Nat→List (List (S65))→Int→Int→Option (Int)
 |0,_,_,_=>none
 |k+1,x0,x1,x5=>if x5<(x0.length:Int) then (if 0≤x5 then ((Yn.f k (rd_L2 x0 x5) x1).bind fun t107=>(if t107<0 then (some (-1)) else (Zd.l0 k x0 t107 (wrap64 (x5+1))))) else (none)) else (some x1)
def Zd.f (k:Nat) (l0:List (List (S65))) (a1:Int):Option (Int):=if (wrap64 (a1 - (l0.length:Int)))<0 then (some (-1)) else (Zd.l0 k l0 (wrap64 (a1 - (l0.length:Int))) 0)
theorem Zd.calls (k:Nat) (A0:Option Addr) (c0:Nat) (l0:List (List (S65))) (a1:Int) (r:Int) (w:World) (hr0:Kd.C (Kd.slice 65 k65) w A0 l0.length l0) (hc0:l0.length≤c0) (h:Zd.f k l0 a1=some r) :
  Calls Try.prog 5 #[.slice A0 l0.length c0,.int .i64 a1] w fun e w'=>e=.returned (.int .i64 r)∧Below w.heap.size w w':=by
 have dH:=Xa.mk hr0;have dP:=Xa.mk hc0;clear hr0 hc0;have HB:=Xa.mk (Below.refl w.heap.size w);have H:(if (wrap64 (a1 - (l0.length:Int)))<0 then (some (-1)) else (Zd.l0 k l0 (wrap64 (a1 - (l0.length:Int))) 0))=some r:=h;clear h;by_cases c3:(wrap64 (a1 - (l0.length:Int)))<0
 ·rw [if_pos c3] at H;have cB:=decide_eq_true c3;clear c3;obtain rfl:=Option.some.inj H
  go_enter Try.func5,Try.ntmps5
  go_wp2
  go_ret
  exact ⟨rf_,bl_ HB⟩
 ·rw [if_neg c3] at H;have cB:=decide_eq_false c3;clear c3;have H':=Xa.mk H;clear H
  go_enter Try.func5,Try.ntmps5
  go_wp2
  go_loopg [1,5] k (fun kq v1 v5 w'=>∃ (aP:Int) (aA:Int),v1=.int .i64 aP∧v5=.int .i64 aA∧Xa (Zd.l0 kq l0 aP aA=some r)∧Xa (kq≤k)∧Xa (Below w.heap.size w w'))
  case atStart=>exact ⟨(wrap64 (a1 - (l0.length:Int))),(0),rg_,rg_,H',⟨Nat.le_refl _⟩,⟨bl_ HB⟩⟩
  case round=>
   clear H'
   try clear c3
   try clear cB
   obtain ⟨aP,aA,rfl,rfl,HA,dC,HB⟩:=hrel
   cases gk with
   |zero=>exact absurd HA.out (by simp [Zd.l0])
   |succ k1=>
    have H:=HA.out;clear HA;simp only [Zd.l0] at H;by_cases c4:aA<(l0.length:Int)
    ·rw [if_pos c4] at H;have cK:=decide_eq_true c4;clear c4;by_cases c5:0≤aA
     ·rw [if_pos c5] at H;have dK:=decide_eq_true c5;clear c5;replace H:=Option.bind_eq_some_iff.mp H;obtain ⟨t107,dG,H⟩:=H;replace H:(if t107<0 then (some (-1)) else (Zd.l0 k1 l0 t107 (wrap64 (aA+1))))=some r:=H;have A6:=Xa.mk dG;clear dG;by_cases c7:t107<0
      ·rw [if_pos c7] at H;have dD:=decide_eq_true c7;clear c7;obtain rfl:=Option.some.inj H;have bV:0≤(aA:Int):=of_decide_eq_true (by assumption);have bX:aA<(l0.length:Int):=of_decide_eq_true (by assumption);obtain ⟨dJ,bQ,bT,dF,bC,aV,aS⟩:=at_L2 dH.out aA bV bX;cases dF
       replace bC:=bw_ HB bC;have bN:=Xa.mk aS;have bK:=Xa.mk aV;clear aS aV;replace bV:=eq_true bV;replace bX:=eq_true bX;go_wp2_with (first|((with_reducible refine Xi (f:=18) rfl ?_);refine Yb (some 23) rfl rfl Try.func18 (by kernel_rfl) rfl #[.slice bQ (rd_L2 l0 aA).length bT,.int .i64 aP] rfl ga_ ?_;(with_reducible refine (Yn.calls k1 _ _ (rd_L2 l0 aA) aP t107 _ ?side1 ?side2 A6.out).mono ?_);(case side1=>exact Kd.ca_ (Kd.Xr bN.out HB.out));(case side2=>exact bK.out);rintro e w8 ⟨rfl,hb⟩;refine ⟨_,rfl,?_⟩;replace HB:=Xa.mk (Xe (bl_ HB) hb);clear hb))
       go_ret
       exact ⟨rf_,bl_ HB⟩
      ·rw [if_neg c7] at H;have dD:=decide_eq_false c7;clear c7;have H':=Xa.mk H;clear H;have bV:0≤(aA:Int):=of_decide_eq_true (by assumption);have bX:aA<(l0.length:Int):=of_decide_eq_true (by assumption);obtain ⟨dJ,bQ,bT,dF,bC,aV,aS⟩:=at_L2 dH.out aA bV bX;cases dF
       replace bC:=bw_ HB bC;have bN:=Xa.mk aS;have bK:=Xa.mk aV;clear aS aV;replace bV:=eq_true bV;replace bX:=eq_true bX;go_wp2_with (first|((with_reducible refine Xi (f:=18) rfl ?_);refine Yb (some 23) rfl rfl Try.func18 (by kernel_rfl) rfl #[.slice bQ (rd_L2 l0 aA).length bT,.int .i64 aP] rfl ga_ ?_;(with_reducible refine (Yn.calls k1 _ _ (rd_L2 l0 aA) aP t107 _ ?side1 ?side2 A6.out).mono ?_);(case side1=>exact Kd.ca_ (Kd.Xr bN.out HB.out));(case side2=>exact bK.out);rintro e w9 ⟨rfl,hb⟩;refine ⟨_,rfl,?_⟩;replace HB:=Xa.mk (Xe (bl_ HB) hb);clear hb))
       go_roundg k1
       case measure=>have:=dC.out;omega
       case rel=>exact ⟨(t107),(wrap64 (aA+1)),rg_,rg_,H',⟨by have:=dC.out;omega⟩,⟨bl_ HB⟩⟩
     ·rw [if_neg c5] at H;exact absurd H (by simp)
    ·rw [if_neg c4] at H;have cK:=decide_eq_false c4;clear c4;obtain rfl:=Option.some.inj H;go_wp2
     go_ret
     exact ⟨rf_,bl_ HB⟩
end Go.Proofs.Ytlhogkfmdnpmkaa.GWhole
