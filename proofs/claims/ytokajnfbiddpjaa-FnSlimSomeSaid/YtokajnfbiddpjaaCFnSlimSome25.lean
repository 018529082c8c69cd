import Derived.Test.YtokajnfbiddpjaaCFnSlimSome21
import Derived.Test.YtokajnfbiddpjaaCFnSlimSome24
set_option maxHeartbeats 8000000
set_option maxRecDepth 100000
namespace Go.Proofs.Ytokajnfbiddpjaa.GSlim
open Go.RowKit Go.Proofs.YtokajnfbiddpjaaW.PrintWords Go.Proofs.YtokajnfbiddpjaaW.PrintLast Go.Proofs.YtokajnfbiddpjaaW.PrintMore
attribute [local go_sem] Zx Zz Ul Um Zl Zm Zy Ua
set_option linter.unusedVariables false
set_option linter.unusedSimpArgs false
mutual
def Yg.j0:Nat→Int→Int→Bool→Int→Int→Int→Int→List (S63)→List (S63)→Option (Bool)
 |0,_,_,_,_,_,_,_,_,_=>none
 |k+1,x1,x2,fU,aJ,aK,aQ,aR,aP,bD=>if fU=true then (some false) else (if aJ=6 then (Yg.j1 k x1 x2 aJ (aJ == 6) aJ aK aQ aR aP bD) else (Yg.j1 k x1 x2 aJ (aJ == 7) aJ aK aQ aR aP bD))
def Yg.j1:Nat→Int→Int→Int→Bool→Int→Int→Int→Int→List (S63)→List (S63)→Option (Bool)
 |0,_,_,_,_,_,_,_,_,_,_=>none
 |k+1,x1,x2,fV,fZ,aJ,aK,aQ,aR,aP,bD=>if fZ=true then (if aK ≥ 0 then (if aK<3 then (if aQ=0 then (if aR=0 then ((Yl.f k aP (wrap64 (x1 - 1)) x2).bind fun t159=>(if t159=true then ((Yl.f k bD (wrap64 (x1 - 1)) x2).bind fun t160=>(some t160)) else (some false))) else (some false)) else (some false)) else (some false)) else (some false)) else (if fV=8 then (if x2<0 then (if aK ≥ 0 then (if aK<2 then (if aQ=0 then (if aR=0 then ((Yl.f k aP (wrap64 (x1 - 1)) aK).bind fun bY=>(some bY)) else (some false)) else (some false)) else (some false)) else (some false)) else (some false)) else (if (aP.length:Int)=0 then ((Xr.f k aJ aK aQ aR aP bD x2).bind fun t162=>(some t162)) else (some false)))
def Yg.f:Nat→Int→Int→Int→Int→List (S63)→List (S63)→Int→Int→Option (Bool)
 |0,_,_,_,_,_,_,_,_=>none
 |k+1,aD,aF,aH,aI,aC,aB,a1,a2=>if aD=6 then (Yg.j0 k a1 a2 (decide (a1<1)) aD aF aH aI aC aB) else (if (aB.length:Int) > 0 then (Yg.j0 k a1 a2 true aD aF aH aI aC aB) else (Yg.j0 k a1 a2 (decide (a1<1)) aD aF aH aI aC aB))
def Yl.l0:Nat→List (S63)→Int→Int→Int→Option (Bool)
 |0,_,_,_,_=>none
 |k+1,x0,x1,x2,x7=>if x7<(x0.length:Int) then (if 0≤x7 then ((Yg.f k ((Xc x0 x7).f0) ((Xc x0 x7).f1) ((Xc x0 x7).f2) ((Xc x0 x7).f3) ((Xc x0 x7).f4) ((Xc x0 x7).f5) x1 x2).bind fun t164=>(if t164=true then (Yl.l0 k x0 x1 x2 (wrap64 (x7+1))) else (some false))) else (none)) else (some true)
def Yl.f:Nat→List (S63)→Int→Int→Option (Bool)
 |0,_,_,_=>none
 |k+1,l0,a1,a2=>Yl.l0 k l0 a1 a2 0
end
theorem Yg.step (k:Nat) (ih:∀ m_,m_<k→∀ (aD:Int) (aF:Int) (aH:Int) (aI:Int) (aL:Option Addr) (aN:Nat) (aC:List (S63)) (aM:Option Addr) (aO:Nat) (aB:List (S63)) (a1:Int) (a2:Int) (r:Bool) (w:World) (bH:Kd.C k63 w aL aC.length aC) (bF:aC.length≤aN) (bI:Kd.C k63 w aM aB.length aB) (bG:aB.length≤aO) (h:Yg.f m_ aD aF aH aI aC aB a1 a2=some r),
  Calls Try.prog 43 #[.agg #[.int .i64 aD,.int .i64 aF,.int .i64 aH,.int .i64 aI,.slice aL aC.length aN,.slice aM aB.length aO],.int .i64 a1,.int .i64 a2] w fun e w'=>e=.returned (.bool r)∧Below w.heap.size w w') (ih_spec_l2List:∀ m_,m_<k→∀ (A0:Option Addr) (c0:Nat) (l0:List (S63)) (a1:Int) (a2:Int) (r:Bool) (w:World) (hr0:Kd.C k63 w A0 l0.length l0) (hc0:l0.length≤c0) (h:Yl.f m_ l0 a1 a2=some r),
  Calls Try.prog 24 #[.slice A0 l0.length c0,.int .i64 a1,.int .i64 a2] w fun e w'=>e=.returned (.bool r)∧Below w.heap.size w w'):∀ (aD:Int) (aF:Int) (aH:Int) (aI:Int) (aL:Option Addr) (aN:Nat) (aC:List (S63)) (aM:Option Addr) (aO:Nat) (aB:List (S63)) (a1:Int) (a2:Int) (r:Bool) (w:World) (bH:Kd.C k63 w aL aC.length aC) (bF:aC.length≤aN) (bI:Kd.C k63 w aM aB.length aB) (bG:aB.length≤aO) (h:Yg.f k aD aF aH aI aC aB a1 a2=some r),
  Calls Try.prog 43 #[.agg #[.int .i64 aD,.int .i64 aF,.int .i64 aH,.int .i64 aI,.slice aL aC.length aN,.slice aM aB.length aO],.int .i64 a1,.int .i64 a2] w fun e w'=>e=.returned (.bool r)∧Below w.heap.size w w':=by
 intro aD aF aH aI aL aN aC aM aO aB a1 a2 r w bH bF bI bG h
 cases k with
 |zero=>exact absurd h (by simp [Yg.f])
 |succ k=>
 simp only [Yg.f] at h;have fI:=Try.underlying63;have bW:=Xa.mk bH;have bV:=Xa.mk bF;clear bH bF;have dK:=Xa.mk bI;have dJ:=Xa.mk bG;clear bI bG;have HB:=Xa.mk (Below.refl w.heap.size w);have H:(if aD=6 then (Yg.j0 k a1 a2 (decide (a1<1)) aD aF aH aI aC aB) else (if (aB.length:Int) > 0 then (Yg.j0 k a1 a2 true aD aF aH aI aC aB) else (Yg.j0 k a1 a2 (decide (a1<1)) aD aF aH aI aC aB)))=some r:=h;clear h;have fD:=Xa.mk H;clear H
 go_enter Try.func43,Try.ntmps43
 go_upto_region 1 with (first|((with_reducible refine Xt (N:=3) rfl ?_);(try (refine gate_guard (by rfl) ?_;dsimp only));refine Ym ?hg (N:=3) ?hd (cs:=#[.int .i64 aD,.int .i64 aF,.int .i64 aH,.int .i64 aI,.slice aL aC.length aN,.slice aM aB.length aO]) (t:=63) ?hr ?_;(case hd|hg=>rfl);(case hr=>exact hr_);intro aS hg w5 hbox hb;have aA:=Xa.mk (hbox);have GW158:=Xa.mk ((ge_ hg (Xd (bl_ HB)):w.heap.size≤aS));have GE158:=Xa.mk ((ge_ hg (Xd (bl_ HB)):w.heap.size≤aS));replace HB:=Xa.mk (Xe (bl_ HB) hb);clear hb hbox hg))
 (try simp only [Act.put,List.setIfInBounds_toArray,List.set_cons_zero,List.set_cons_succ])
 go_cut [19] (fun v19 wc=>∃ (kq:Nat) (bX:Bool),v19=.bool bX∧Xa (Yg.j0 kq a1 a2 bX aD aF aH aI aC aB=some r)∧Xa (kq≤k)∧Xa (wc.heap[aS]?=some (.cells #[.int .i64 aD,.int .i64 aF,.int .i64 aH,.int .i64 aI,(.slice aL aC.length aN),(.slice aM aB.length aO)] 63 (0,0)))∧Xa (Below w.heap.size w wc))
 case first=>
  have H:=fD.out;clear fD;by_cases c6:aD=6
  ·rw [if_pos c6] at H;have bZ:=beq_iff_eq.mpr c6;have fF:=bne_eq_false_iff_eq.mpr c6;clear c6
   (first|rw [bZ]|(simp only [Ub,Uf];rw [bZ])|skip)
   have H':=Xa.mk H;clear H;obtain ⟨hcz7_0,hcz7_1,hcz7_2,hcz7_3,hcz7_4,hcz7_5⟩:=Va aA.out;obtain ⟨hfz7_0,hfz7_1,hfz7_2,hfz7_3,hfz7_4,hfz7_5⟩:=Vb aA.out;go_wp2
   go_meet
   case rel=>exact ⟨_,(decide (a1<1)),rg_,H',⟨by first|omega|exact Nat.le_refl _⟩,⟨ba_ aA⟩,⟨bl_ HB⟩⟩
  ·rw [if_neg c6] at H;have bZ:=beq_eq_false_iff_ne.mpr c6;have fF:=bne_iff_ne.mpr c6
   (first|rw [bZ]|(simp only [Ub,Uf];rw [bZ])|skip)
   by_cases c8:(aB.length:Int) > 0
   ·rw [if_pos c8] at H;have fG:=decide_eq_true c8;have fH:decide (0<aB.length)=true:=decide_eq_true (by omega);clear c8;have H':=Xa.mk H;clear H;obtain ⟨hcz9_0,hcz9_1,hcz9_2,hcz9_3,hcz9_4,hcz9_5⟩:=Va aA.out;obtain ⟨hfz9_0,hfz9_1,hfz9_2,hfz9_3,hfz9_4,hfz9_5⟩:=Vb aA.out;go_wp2
    go_meet
    case rel=>exact ⟨_,(true),rg_,H',⟨by first|omega|exact Nat.le_refl _⟩,⟨ba_ aA⟩,⟨bl_ HB⟩⟩
   ·rw [if_neg c8] at H;have fG:=decide_eq_false c8;have fH:decide (0<aB.length)=false:=decide_eq_false (by omega);clear c8;have H':=Xa.mk H;clear H;obtain ⟨hcz10_0,hcz10_1,hcz10_2,hcz10_3,hcz10_4,hcz10_5⟩:=Va aA.out;obtain ⟨hfz10_0,hfz10_1,hfz10_2,hfz10_3,hfz10_4,hfz10_5⟩:=Vb aA.out;go_wp2
    go_meet
    case rel=>exact ⟨_,(decide (a1<1)),rg_,H',⟨by first|omega|exact Nat.le_refl _⟩,⟨ba_ aA⟩,⟨bl_ HB⟩⟩
 case rest=>
  clear fD;obtain ⟨kq,bX,rfl,HA,dP,aA,HB⟩:=hcut
  cases kq with
  |zero=>exact absurd HA.out (by simp [Yg.j0])
  |succ fJ=>
   have H:=HA.out;clear HA;simp only [Yg.j0] at H;by_cases c11:bX=true
   ·subst c11
    replace H:(some false)=some r:=(by rw [if_pos rfl] at H;exact H);obtain rfl:=Option.some.inj H;go_wp2
    go_ret
    exact ⟨rf_,bl_ HB⟩
   ·replace c11:=Bool.eq_false_iff.mpr c11;subst c11
    replace H:(if aD=6 then (Yg.j1 fJ a1 a2 aD (aD == 6) aD aF aH aI aC aB) else (Yg.j1 fJ a1 a2 aD (aD == 7) aD aF aH aI aC aB))=some r:=(by rw [if_neg (show ¬ (false=true) by decide)] at H;exact H);have dL:=Xa.mk H;clear H;obtain ⟨cK,cO,cZ,dA,dB,dC⟩:=Va aA.out;obtain ⟨dD,dE,dF,dG,dH,dI⟩:=Vb aA.out
    go_upto_if 22 with (fail)
    go_cut [22] (fun v22 wc=>∃ (kq:Nat) (bN:Bool),v22=.bool bN∧Xa (Yg.j1 kq a1 a2 aD bN aD aF aH aI aC aB=some r)∧Xa (kq≤fJ)∧Xa (wc.heap[aS]?=some (.cells #[.int .i64 aD,.int .i64 aF,.int .i64 aH,.int .i64 aI,(.slice aL aC.length aN),(.slice aM aB.length aO)] 63 (0,0)))∧Xa (Below w.heap.size w wc))
    case first=>
     have H:=dL.out;clear dL;by_cases c14:aD=6
     ·rw [if_pos c14] at H;have bO:=beq_iff_eq.mpr c14;have dY:=bne_eq_false_iff_eq.mpr c14;clear c14
      (first|rw [bO]|(simp only [Ub,Uf];rw [bO])|skip)
      have H':=Xa.mk H;clear H;go_wp2
      go_meet
      case rel=>exact ⟨_,((aD == 6)),rg_,H',⟨by have:=dP.out;first|omega|exact Nat.le_refl _⟩,⟨ba_ aA⟩,⟨bl_ HB⟩⟩
     ·rw [if_neg c14] at H;have bO:=beq_eq_false_iff_ne.mpr c14;have dY:=bne_iff_ne.mpr c14
      (first|rw [bO]|(simp only [Ub,Uf];rw [bO])|skip)
      have H':=Xa.mk H;clear H;go_wp2
      go_meet
      case rel=>exact ⟨_,((aD == 7)),rg_,H',⟨by have:=dP.out;first|omega|exact Nat.le_refl _⟩,⟨ba_ aA⟩,⟨bl_ HB⟩⟩
    case rest=>
     clear dL
     try clear c11
     try clear cK
     try clear cO
     try clear cZ
     try clear dA
     try clear dB
     try clear dC
     try clear dD
     try clear dE
     try clear dF
     try clear dG
     try clear dH
     try clear dI
     obtain ⟨kq,bN,rfl,HA,cB,aA,HB⟩:=hcut
     cases kq with
     |zero=>exact absurd HA.out (by simp [Yg.j1])
     |succ bE=>
      have H:=HA.out;clear HA;simp only [Yg.j1] at H;by_cases c15:bN=true
      ·subst c15
       replace H:(if aF ≥ 0 then (if aF<3 then (if aH=0 then (if aI=0 then ((Yl.f bE aC (wrap64 (a1 - 1)) a2).bind fun t159=>(if t159=true then ((Yl.f bE aB (wrap64 (a1 - 1)) a2).bind fun t160=>(some t160)) else (some false))) else (some false)) else (some false)) else (some false)) else (some false))=some r:=(by rw [if_pos rfl] at H;exact H);by_cases c16:aF ≥ 0
       ·rw [if_pos c16] at H;have dZ:=decide_eq_true c16;clear c16;by_cases c17:aF<3
        ·rw [if_pos c17] at H;have d9:=decide_eq_true c17;clear c17;by_cases c18:aH=0
         ·rw [if_pos c18] at H;have eB:=beq_iff_eq.mpr c18;have eD:=bne_eq_false_iff_eq.mpr c18;clear c18;by_cases c19:aI=0
          ·rw [if_pos c19] at H;have eF:=beq_iff_eq.mpr c19;have eG:=bne_eq_false_iff_eq.mpr c19;clear c19;replace H:=Option.bind_eq_some_iff.mp H;obtain ⟨t159,dS,H⟩:=H;replace H:(if t159=true then ((Yl.f bE aB (wrap64 (a1 - 1)) a2).bind fun t160=>(some t160)) else (some false))=some r:=H;have fK:=Xa.mk dS;clear dS;by_cases c21:t159=true
           ·subst c21
            replace H:((Yl.f bE aB (wrap64 (a1 - 1)) a2).bind fun t160=>(some t160))=some r:=(by rw [if_pos rfl] at H;exact H);replace H:=Option.bind_eq_some_iff.mp H;obtain ⟨t160,dU,H⟩:=H;replace H:(some t160)=some r:=H;have fP:=Xa.mk dU;clear dU;obtain rfl:=Option.some.inj H;obtain ⟨hcz23_0,hcz23_1,hcz23_2,hcz23_3,hcz23_4,hcz23_5⟩:=Va aA.out;obtain ⟨hfz23_0,hfz23_1,hfz23_2,hfz23_3,hfz23_4,hfz23_5⟩:=Vb aA.out;go_wp2_with (first|(go_at_call 24;(with_reducible refine (ih_spec_l2List bE (by have:=dP.out;have:=cB.out;omega) _ _ aC (wrap64 (a1 - 1)) a2 true _ ?side1 ?side2 fK.out).mono ?_);(case side1=>exact Kd.ca_ (Kd.Ze bW.out HB.out));(case side2=>exact bV.out);rintro e w24 ⟨rfl,hb⟩;replace aA:=Xa.mk (Zp (g:=aS) (o:=.cells #[.int .i64 aD,.int .i64 aF,.int .i64 aH,.int .i64 aI,.slice aL aC.length aN,.slice aM aB.length aO] 63 (0,0)) (ba_ aA) hb);replace HB:=Xa.mk (Xe (bl_ HB) hb);clear hb;obtain ⟨hcz25_0,hcz25_1,hcz25_2,hcz25_3,hcz25_4,hcz25_5⟩:=Va aA.out;obtain ⟨hfz25_0,hfz25_1,hfz25_2,hfz25_3,hfz25_4,hfz25_5⟩:=Vb aA.out)|(go_at_call 24;(with_reducible refine (ih_spec_l2List bE (by have:=dP.out;have:=cB.out;omega) _ _ aB (wrap64 (a1 - 1)) a2 t160 _ ?side1 ?side2 fP.out).mono ?_);(case side1=>exact Kd.ca_ (Kd.Ze dK.out HB.out));(case side2=>exact dJ.out);rintro e w26 ⟨rfl,hb⟩;replace aA:=Xa.mk (Zp (g:=aS) (o:=.cells #[.int .i64 aD,.int .i64 aF,.int .i64 aH,.int .i64 aI,.slice aL aC.length aN,.slice aM aB.length aO] 63 (0,0)) (ba_ aA) hb);replace HB:=Xa.mk (Xe (bl_ HB) hb);clear hb))
            go_ret
            exact ⟨rf_,bl_ HB⟩
           ·replace c21:=Bool.eq_false_iff.mpr c21;subst c21
            replace H:(some false)=some r:=(by rw [if_neg (show ¬ (false=true) by decide)] at H;exact H);obtain rfl:=Option.some.inj H;obtain ⟨hcz27_0,hcz27_1,hcz27_2,hcz27_3,hcz27_4,hcz27_5⟩:=Va aA.out;obtain ⟨hfz27_0,hfz27_1,hfz27_2,hfz27_3,hfz27_4,hfz27_5⟩:=Vb aA.out;go_wp2_with (first|(go_at_call 24;(with_reducible refine (ih_spec_l2List bE (by have:=dP.out;have:=cB.out;omega) _ _ aC (wrap64 (a1 - 1)) a2 false _ ?side1 ?side2 fK.out).mono ?_);(case side1=>exact Kd.ca_ (Kd.Ze bW.out HB.out));(case side2=>exact bV.out);rintro e w28 ⟨rfl,hb⟩;replace aA:=Xa.mk (Zp (g:=aS) (o:=.cells #[.int .i64 aD,.int .i64 aF,.int .i64 aH,.int .i64 aI,.slice aL aC.length aN,.slice aM aB.length aO] 63 (0,0)) (ba_ aA) hb);replace HB:=Xa.mk (Xe (bl_ HB) hb);clear hb))
            go_ret
            exact ⟨rf_,bl_ HB⟩
          ·rw [if_neg c19] at H;have eF:=beq_eq_false_iff_ne.mpr c19;have eG:=bne_iff_ne.mpr c19;obtain rfl:=Option.some.inj H;obtain ⟨hcz29_0,hcz29_1,hcz29_2,hcz29_3,hcz29_4,hcz29_5⟩:=Va aA.out;obtain ⟨hfz29_0,hfz29_1,hfz29_2,hfz29_3,hfz29_4,hfz29_5⟩:=Vb aA.out;go_wp2
           go_ret
           exact ⟨rf_,bl_ HB⟩
         ·rw [if_neg c18] at H;have eB:=beq_eq_false_iff_ne.mpr c18;have eD:=bne_iff_ne.mpr c18;obtain rfl:=Option.some.inj H;obtain ⟨hcz30_0,hcz30_1,hcz30_2,hcz30_3,hcz30_4,hcz30_5⟩:=Va aA.out;obtain ⟨hfz30_0,hfz30_1,hfz30_2,hfz30_3,hfz30_4,hfz30_5⟩:=Vb aA.out;go_wp2
          go_ret
          exact ⟨rf_,bl_ HB⟩
        ·rw [if_neg c17] at H;have d9:=decide_eq_false c17;clear c17;obtain rfl:=Option.some.inj H;obtain ⟨hcz31_0,hcz31_1,hcz31_2,hcz31_3,hcz31_4,hcz31_5⟩:=Va aA.out;obtain ⟨hfz31_0,hfz31_1,hfz31_2,hfz31_3,hfz31_4,hfz31_5⟩:=Vb aA.out;go_wp2
         go_ret
         exact ⟨rf_,bl_ HB⟩
       ·rw [if_neg c16] at H;have dZ:=decide_eq_false c16;clear c16;obtain rfl:=Option.some.inj H;obtain ⟨hcz32_0,hcz32_1,hcz32_2,hcz32_3,hcz32_4,hcz32_5⟩:=Va aA.out;obtain ⟨hfz32_0,hfz32_1,hfz32_2,hfz32_3,hfz32_4,hfz32_5⟩:=Vb aA.out;go_wp2
        go_ret
        exact ⟨rf_,bl_ HB⟩
      ·replace c15:=Bool.eq_false_iff.mpr c15;subst c15
       replace H:(if aD=8 then (if a2<0 then (if aF ≥ 0 then (if aF<2 then (if aH=0 then (if aI=0 then ((Yl.f bE aC (wrap64 (a1 - 1)) aF).bind fun bY=>(some bY)) else (some false)) else (some false)) else (some false)) else (some false)) else (some false)) else (if (aC.length:Int)=0 then ((Xr.f bE aD aF aH aI aC aB a2).bind fun t162=>(some t162)) else (some false)))=some r:=(by rw [if_neg (show ¬ (false=true) by decide)] at H;exact H);by_cases dM:aD=8
       ·rw [if_pos dM] at H;have eH:=beq_iff_eq.mpr dM;have eO:=bne_eq_false_iff_eq.mpr dM;clear dM;by_cases c34:a2<0
        ·rw [if_pos c34] at H;have eP:=decide_eq_true c34;clear c34;by_cases dQ:aF ≥ 0
         ·rw [if_pos dQ] at H;have eQ:=decide_eq_true dQ;clear dQ;by_cases dR:aF<2
          ·rw [if_pos dR] at H;have eT:=decide_eq_true dR;clear dR;by_cases c37:aH=0
           ·rw [if_pos c37] at H;have eU:=beq_iff_eq.mpr c37;have eX:=bne_eq_false_iff_eq.mpr c37;clear c37;by_cases dN:aI=0
            ·rw [if_pos dN] at H;have eY:=beq_iff_eq.mpr dN;have eZ:=bne_eq_false_iff_eq.mpr dN;clear dN;replace H:=Option.bind_eq_some_iff.mp H;obtain ⟨bY,dV,H⟩:=H;replace H:(some bY)=some r:=H;have fQ:=Xa.mk dV;clear dV;obtain rfl:=Option.some.inj H;obtain ⟨hcz40_0,hcz40_1,hcz40_2,hcz40_3,hcz40_4,hcz40_5⟩:=Va aA.out;obtain ⟨hfz40_0,hfz40_1,hfz40_2,hfz40_3,hfz40_4,hfz40_5⟩:=Vb aA.out;go_wp2_with (first|(go_at_call 24;(with_reducible refine (ih_spec_l2List bE (by have:=dP.out;have:=cB.out;omega) _ _ aC (wrap64 (a1 - 1)) aF bY _ ?side1 ?side2 fQ.out).mono ?_);(case side1=>exact Kd.ca_ (Kd.Ze bW.out HB.out));(case side2=>exact bV.out);rintro e w41 ⟨rfl,hb⟩;replace aA:=Xa.mk (Zp (g:=aS) (o:=.cells #[.int .i64 aD,.int .i64 aF,.int .i64 aH,.int .i64 aI,.slice aL aC.length aN,.slice aM aB.length aO] 63 (0,0)) (ba_ aA) hb);replace HB:=Xa.mk (Xe (bl_ HB) hb);clear hb))
             go_ret
             exact ⟨rf_,bl_ HB⟩
            ·rw [if_neg dN] at H;have eY:=beq_eq_false_iff_ne.mpr dN;have eZ:=bne_iff_ne.mpr dN;obtain rfl:=Option.some.inj H;obtain ⟨hcz42_0,hcz42_1,hcz42_2,hcz42_3,hcz42_4,hcz42_5⟩:=Va aA.out;obtain ⟨hfz42_0,hfz42_1,hfz42_2,hfz42_3,hfz42_4,hfz42_5⟩:=Vb aA.out;go_wp2
             go_ret
             exact ⟨rf_,bl_ HB⟩
           ·rw [if_neg c37] at H;have eU:=beq_eq_false_iff_ne.mpr c37;have eX:=bne_iff_ne.mpr c37;obtain rfl:=Option.some.inj H;obtain ⟨hcz43_0,hcz43_1,hcz43_2,hcz43_3,hcz43_4,hcz43_5⟩:=Va aA.out;obtain ⟨hfz43_0,hfz43_1,hfz43_2,hfz43_3,hfz43_4,hfz43_5⟩:=Vb aA.out;go_wp2
            go_ret
            exact ⟨rf_,bl_ HB⟩
          ·rw [if_neg dR] at H;have eT:=decide_eq_false dR;clear dR;obtain rfl:=Option.some.inj H;obtain ⟨hcz44_0,hcz44_1,hcz44_2,hcz44_3,hcz44_4,hcz44_5⟩:=Va aA.out;obtain ⟨hfz44_0,hfz44_1,hfz44_2,hfz44_3,hfz44_4,hfz44_5⟩:=Vb aA.out;go_wp2
           go_ret
           exact ⟨rf_,bl_ HB⟩
         ·rw [if_neg dQ] at H;have eQ:=decide_eq_false dQ;clear dQ;obtain rfl:=Option.some.inj H;obtain ⟨hcz45_0,hcz45_1,hcz45_2,hcz45_3,hcz45_4,hcz45_5⟩:=Va aA.out;obtain ⟨hfz45_0,hfz45_1,hfz45_2,hfz45_3,hfz45_4,hfz45_5⟩:=Vb aA.out;go_wp2
          go_ret
          exact ⟨rf_,bl_ HB⟩
        ·rw [if_neg c34] at H;have eP:=decide_eq_false c34;clear c34;obtain rfl:=Option.some.inj H;go_wp2
         go_ret
         exact ⟨rf_,bl_ HB⟩
       ·rw [if_neg dM] at H;have eH:=beq_eq_false_iff_ne.mpr dM;have eO:=bne_iff_ne.mpr dM;by_cases c46:(aC.length:Int)=0
        ·rw [if_pos c46] at H;have fA:=beq_iff_eq.mpr c46;have fB:=bne_eq_false_iff_eq.mpr c46;clear c46;replace H:=Option.bind_eq_some_iff.mp H;obtain ⟨t162,dW,H⟩:=H;replace H:(some t162)=some r:=H;have fT:=Xa.mk dW;clear dW;obtain rfl:=Option.some.inj H;obtain ⟨hcz48_0,hcz48_1,hcz48_2,hcz48_3,hcz48_4,hcz48_5⟩:=Va aA.out;obtain ⟨hfz48_0,hfz48_1,hfz48_2,hfz48_3,hfz48_4,hfz48_5⟩:=Vb aA.out;go_wp2_with (first|(go_at_call 62;(with_reducible refine (Xr.calls bE aD aF aH aI _ _ aC _ _ aB a2 t162 _ ?side1 ?side2 ?side3 ?side4 fT.out).mono ?_);(case side1=>exact Kd.ca_ (Kd.Ze bW.out HB.out));(case side2=>exact bV.out);(case side3=>exact Kd.ca_ (Kd.Ze dK.out HB.out));(case side4=>exact dJ.out);rintro e w49 ⟨rfl,hb⟩;replace aA:=Xa.mk (Zp (g:=aS) (o:=.cells #[.int .i64 aD,.int .i64 aF,.int .i64 aH,.int .i64 aI,.slice aL aC.length aN,.slice aM aB.length aO] 63 (0,0)) (ba_ aA) hb);replace HB:=Xa.mk (Xe (bl_ HB) hb);clear hb))
         go_ret
         exact ⟨rf_,bl_ HB⟩
        ·rw [if_neg c46] at H;have fA:=beq_eq_false_iff_ne.mpr c46;have fB:=bne_iff_ne.mpr c46;have c46b2:¬ (aC=[]):=fun h_=>c46 (by rw [h_];rfl);obtain rfl:=Option.some.inj H;obtain ⟨hcz50_0,hcz50_1,hcz50_2,hcz50_3,hcz50_4,hcz50_5⟩:=Va aA.out;obtain ⟨hfz50_0,hfz50_1,hfz50_2,hfz50_3,hfz50_4,hfz50_5⟩:=Vb aA.out;go_wp2
         go_ret
         exact ⟨rf_,bl_ HB⟩
theorem Yl.step (k:Nat) (ih_spec_l2Stmt:∀ m_,m_<k→∀ (aD:Int) (aF:Int) (aH:Int) (aI:Int) (aL:Option Addr) (aN:Nat) (aC:List (S63)) (aM:Option Addr) (aO:Nat) (aB:List (S63)) (a1:Int) (a2:Int) (r:Bool) (w:World) (bH:Kd.C k63 w aL aC.length aC) (bF:aC.length≤aN) (bI:Kd.C k63 w aM aB.length aB) (bG:aB.length≤aO) (h:Yg.f m_ aD aF aH aI aC aB a1 a2=some r),
  Calls Try.prog 43 #[.agg #[.int .i64 aD,.int .i64 aF,.int .i64 aH,.int .i64 aI,.slice aL aC.length aN,.slice aM aB.length aO],.int .i64 a1,.int .i64 a2] w fun e w'=>e=.returned (.bool r)∧Below w.heap.size w w') (ih:∀ m_,m_<k→∀ (A0:Option Addr) (c0:Nat) (l0:List (S63)) (a1:Int) (a2:Int) (r:Bool) (w:World) (hr0:Kd.C k63 w A0 l0.length l0) (hc0:l0.length≤c0) (h:Yl.f m_ l0 a1 a2=some r),
  Calls Try.prog 24 #[.slice A0 l0.length c0,.int .i64 a1,.int .i64 a2] w fun e w'=>e=.returned (.bool r)∧Below w.heap.size w w'):∀ (A0:Option Addr) (c0:Nat) (l0:List (S63)) (a1:Int) (a2:Int) (r:Bool) (w:World) (hr0:Kd.C k63 w A0 l0.length l0) (hc0:l0.length≤c0) (h:Yl.f k l0 a1 a2=some r),
  Calls Try.prog 24 #[.slice A0 l0.length c0,.int .i64 a1,.int .i64 a2] w fun e w'=>e=.returned (.bool r)∧Below w.heap.size w w':=by
 intro A0 c0 l0 a1 a2 r w hr0 hc0 h
 cases k with
 |zero=>exact absurd h (by simp [Yl.f])
 |succ k=>
 simp only [Yl.f] at h;have fI:=Try.underlying63;have fO:=Xa.mk hr0;have HC0:=Xa.mk hc0;clear hr0 hc0;have HB:=Xa.mk (Below.refl w.heap.size w);have H:(Yl.l0 k l0 a1 a2 0)=some r:=h;clear h;have H':=Xa.mk H;clear H
 go_enter Try.func24,Try.ntmps24
 go_wp2
 go_loopg [7] k (fun kq v7 w'=>∃ (aG:Int),v7=.int .i64 aG∧Xa (Yl.l0 kq l0 a1 a2 aG=some r)∧Xa (kq≤k)∧Xa (Below w.heap.size w w'))
 case atStart=>exact ⟨(0),rg_,H',⟨Nat.le_refl _⟩,⟨bl_ HB⟩⟩
 case round=>
  clear H';obtain ⟨aG,rfl,HA,fC,HB⟩:=hrel
  cases gk with
  |zero=>exact absurd HA.out (by simp [Yl.l0])
  |succ k1=>
   have H:=HA.out;clear HA;simp only [Yl.l0] at H;by_cases c4:aG<(l0.length:Int)
   ·rw [if_pos c4] at H;have fE:=decide_eq_true c4;clear c4;by_cases c5:0≤aG
    ·rw [if_pos c5] at H;replace c5:=decide_eq_true c5;replace H:=Option.bind_eq_some_iff.mp H;obtain ⟨t164,fM,H⟩:=H;replace H:(if t164=true then (Yl.l0 k1 l0 a1 a2 (wrap64 (aG+1))) else (some false))=some r:=H;have A6:=Xa.mk fM;clear fM;by_cases c7:t164=true
     ·subst c7
      replace H:(Yl.l0 k1 l0 a1 a2 (wrap64 (aG+1)))=some r:=(by rw [if_pos rfl] at H;exact H);have H':=Xa.mk H;clear H;have bT:0≤(aG:Int):=of_decide_eq_true (by assumption);have bU:aG<(l0.length:Int):=of_decide_eq_true (by assumption);obtain ⟨dX,bP,bR,bQ,bS,dO,aX,aY,aZ,bA,bB,bC,aV,aT,aW,aU⟩:=at_T63 fO.out aG bT bU;cases dO
      replace aX:=bw_ HB aX;replace aY:=bw_ HB aY;replace aZ:=bw_ HB aZ;replace bA:=bw_ HB bA;replace bB:=bw_ HB bB;replace bC:=bw_ HB bC;have bL:=Xa.mk aT;have bJ:=Xa.mk aV;clear aT aV;have bM:=Xa.mk aU;have bK:=Xa.mk aW;clear aU aW;replace bT:=eq_true bT;replace bU:=eq_true bU;go_wp2_with (first|((with_reducible refine Xh (f:=43) rfl ?_);refine Ye (some 20) rfl rfl Try.func43 (by kernel_rfl) rfl #[.agg #[.int .i64 ((Xc l0 aG).f0),.int .i64 ((Xc l0 aG).f1),.int .i64 ((Xc l0 aG).f2),.int .i64 ((Xc l0 aG).f3),.slice bP ((Xc l0 aG).f4).length bR,.slice bQ ((Xc l0 aG).f5).length bS],.int .i64 a1,.int .i64 a2] rfl ga_ ?_;(with_reducible refine (ih_spec_l2Stmt k1 (by have:=fC.out;omega) ((Xc l0 aG).f0) ((Xc l0 aG).f1) ((Xc l0 aG).f2) ((Xc l0 aG).f3) _ _ ((Xc l0 aG).f4) _ _ ((Xc l0 aG).f5) a1 a2 true _ ?side1 ?side2 ?side3 ?side4 A6.out).mono ?_);(case side1=>exact Kd.ca_ (Kd.Ze bL.out HB.out));(case side2=>exact bJ.out);(case side3=>exact Kd.ca_ (Kd.Ze bM.out HB.out));(case side4=>exact bK.out);rintro e w8 ⟨rfl,hb⟩;refine ⟨_,rfl,?_⟩;replace HB:=Xa.mk (Xe (bl_ HB) hb);clear hb))
      go_roundg k1
      case measure=>have:=fC.out;omega
      case rel=>exact ⟨(wrap64 (aG+1)),rg_,H',⟨by have:=fC.out;omega⟩,⟨bl_ HB⟩⟩
     ·replace c7:=Bool.eq_false_iff.mpr c7;subst c7
      replace H:(some false)=some r:=(by rw [if_neg (show ¬ (false=true) by decide)] at H;exact H);obtain rfl:=Option.some.inj H;have bT:0≤(aG:Int):=of_decide_eq_true (by assumption);have bU:aG<(l0.length:Int):=of_decide_eq_true (by assumption);obtain ⟨dX,bP,bR,bQ,bS,dO,aX,aY,aZ,bA,bB,bC,aV,aT,aW,aU⟩:=at_T63 fO.out aG bT bU;cases dO
      replace aX:=bw_ HB aX;replace aY:=bw_ HB aY;replace aZ:=bw_ HB aZ;replace bA:=bw_ HB bA;replace bB:=bw_ HB bB;replace bC:=bw_ HB bC;have bL:=Xa.mk aT;have bJ:=Xa.mk aV;clear aT aV;have bM:=Xa.mk aU;have bK:=Xa.mk aW;clear aU aW;replace bT:=eq_true bT;replace bU:=eq_true bU;go_wp2_with (first|((with_reducible refine Xh (f:=43) rfl ?_);refine Ye (some 20) rfl rfl Try.func43 (by kernel_rfl) rfl #[.agg #[.int .i64 ((Xc l0 aG).f0),.int .i64 ((Xc l0 aG).f1),.int .i64 ((Xc l0 aG).f2),.int .i64 ((Xc l0 aG).f3),.slice bP ((Xc l0 aG).f4).length bR,.slice bQ ((Xc l0 aG).f5).length bS],.int .i64 a1,.int .i64 a2] rfl ga_ ?_;(with_reducible refine (ih_spec_l2Stmt k1 (by have:=fC.out;omega) ((Xc l0 aG).f0) ((Xc l0 aG).f1) ((Xc l0 aG).f2) ((Xc l0 aG).f3) _ _ ((Xc l0 aG).f4) _ _ ((Xc l0 aG).f5) a1 a2 false _ ?side1 ?side2 ?side3 ?side4 A6.out).mono ?_);(case side1=>exact Kd.ca_ (Kd.Ze bL.out HB.out));(case side2=>exact bJ.out);(case side3=>exact Kd.ca_ (Kd.Ze bM.out HB.out));(case side4=>exact bK.out);rintro e w9 ⟨rfl,hb⟩;refine ⟨_,rfl,?_⟩;replace HB:=Xa.mk (Xe (bl_ HB) hb);clear hb))
      go_ret
      exact ⟨rf_,bl_ HB⟩
    ·rw [if_neg c5] at H;exact absurd H (by simp)
   ·rw [if_neg c4] at H;have fE:=decide_eq_false c4;clear c4;obtain rfl:=Option.some.inj H;go_wp2
    go_ret
    exact ⟨rf_,bl_ HB⟩
theorem spec_l2Stmt_spec_l2List.all (k:Nat):(∀ (aD:Int) (aF:Int) (aH:Int) (aI:Int) (aL:Option Addr) (aN:Nat) (aC:List (S63)) (aM:Option Addr) (aO:Nat) (aB:List (S63)) (a1:Int) (a2:Int) (r:Bool) (w:World) (bH:Kd.C k63 w aL aC.length aC) (bF:aC.length≤aN) (bI:Kd.C k63 w aM aB.length aB) (bG:aB.length≤aO) (h:Yg.f k aD aF aH aI aC aB a1 a2=some r),
  Calls Try.prog 43 #[.agg #[.int .i64 aD,.int .i64 aF,.int .i64 aH,.int .i64 aI,.slice aL aC.length aN,.slice aM aB.length aO],.int .i64 a1,.int .i64 a2] w fun e w'=>e=.returned (.bool r)∧Below w.heap.size w w')∧(∀ (A0:Option Addr) (c0:Nat) (l0:List (S63)) (a1:Int) (a2:Int) (r:Bool) (w:World) (hr0:Kd.C k63 w A0 l0.length l0) (hc0:l0.length≤c0) (h:Yl.f k l0 a1 a2=some r),
  Calls Try.prog 24 #[.slice A0 l0.length c0,.int .i64 a1,.int .i64 a2] w fun e w'=>e=.returned (.bool r)∧Below w.heap.size w w'):=by
 induction k using Nat.strongRecOn with
 |_ k ih=>exact ⟨Yg.step k (fun m hm=>(ih m hm).1) (fun m hm=>(ih m hm).2),Yl.step k (fun m hm=>(ih m hm).1) (fun m hm=>(ih m hm).2)⟩
theorem Yl.calls (k:Nat):∀ (A0:Option Addr) (c0:Nat) (l0:List (S63)) (a1:Int) (a2:Int) (r:Bool) (w:World) (hr0:Kd.C k63 w A0 l0.length l0) (hc0:l0.length≤c0) (h:Yl.f k l0 a1 a2=some r),
  Calls Try.prog 24 #[.slice A0 l0.length c0,.int .i64 a1,.int .i64 a2] w fun e w'=>e=.returned (.bool r)∧Below w.heap.size w w':=(spec_l2Stmt_spec_l2List.all k).2
end Go.Proofs.Ytokajnfbiddpjaa.GSlim
