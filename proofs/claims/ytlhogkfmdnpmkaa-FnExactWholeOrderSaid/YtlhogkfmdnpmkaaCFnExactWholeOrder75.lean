import Derived.Test.YtlhogkfmdnpmkaaCFnExactWholeOrder21
import Derived.Test.YtlhogkfmdnpmkaaCFnExactWholeOrder74
set_option maxHeartbeats 8000000
set_option maxRecDepth 100000
namespace Go.Proofs.Ytlhogkfmdnpmkaa.GWhole
open Go.RowKit Go.Proofs.YtlhogkfmdnpmkaaW.PrintWords Go.Proofs.YtlhogkfmdnpmkaaW.PrintLast Go.Proofs.YtlhogkfmdnpmkaaW.PrintMore
attribute [local go_sem] Ui Uk max_two min_two Zx Zy Uj Ul
set_option linter.unusedVariables false
set_option linter.unusedSimpArgs false
mutual
def Yh.j0:Nat→Int→Int→Bool→Int→Int→Int→Int→List (S69)→List (S69)→Option (Bool)
 |0,_,_,_,_,_,_,_,_,_=>none
 |k+1,x1,x2,fZ,aJ,aK,aQ,aR,aP,bD=>if fZ=true then (some false) else (if aJ=6 then (Yh.j1 k x1 x2 aJ (aJ == 6) aJ aK aQ aR aP bD) else (Yh.j1 k x1 x2 aJ (aJ == 7) aJ aK aQ aR aP bD))
def Yh.j1:Nat→Int→Int→Int→Bool→Int→Int→Int→Int→List (S69)→List (S69)→Option (Bool)
 |0,_,_,_,_,_,_,_,_,_,_=>none
 |k+1,x1,x2,gB,gD,aJ,aK,aQ,aR,aP,bD=>if gD=true then (if aK ≥ 0 then (if aK<3 then (if aQ=0 then (if aR=0 then ((Ym.f k aP (wrap64 (x1 - 1)) x2).bind fun bY=>(if bY=true then ((Ym.f k bD (wrap64 (x1 - 1)) x2).bind fun t127=>(some t127)) else (some false))) else (some false)) else (some false)) else (some false)) else (some false)) else (if gB=8 then (if x2<0 then (if aK ≥ 0 then (if aK<2 then (if aQ=0 then (if aR=0 then ((Ym.f k aP (wrap64 (x1 - 1)) aK).bind fun bZ=>(some bZ)) else (some false)) else (some false)) else (some false)) else (some false)) else (some false)) else (if (aP.length:Int)=0 then ((Zk.f k aJ aK aQ aR aP bD x2).bind fun cB=>(some cB)) else (some false)))
def Yh.f:Nat→Int→Int→Int→Int→List (S69)→List (S69)→Int→Int→Option (Bool)
 |0,_,_,_,_,_,_,_,_=>none
 |k+1,aD,aF,aH,aI,aC,aB,a1,a2=>if aD=6 then (Yh.j0 k a1 a2 (decide (a1<1)) aD aF aH aI aC aB) else (if (aB.length:Int) > 0 then (Yh.j0 k a1 a2 true aD aF aH aI aC aB) else (Yh.j0 k a1 a2 (decide (a1<1)) aD aF aH aI aC aB))
def Ym.l0:Nat→List (S69)→Int→Int→Int→Option (Bool)
 |0,_,_,_,_=>none
 |k+1,x0,x1,x2,x7=>if x7<(x0.length:Int) then (if 0≤x7 then ((Yh.f k ((Xd x0 x7).f0) ((Xd x0 x7).f1) ((Xd x0 x7).f2) ((Xd x0 x7).f3) ((Xd x0 x7).f4) ((Xd x0 x7).f5) x1 x2).bind fun t131=>(if t131=true then (Ym.l0 k x0 x1 x2 (wrap64 (x7+1))) else (some false))) else (none)) else (some true)
def Ym.f:Nat→List (S69)→Int→Int→Option (Bool)
 |0,_,_,_=>none
 |k+1,l0,a1,a2=>Ym.l0 k l0 a1 a2 0
end
theorem Yh.step (k:Nat) (ih:∀ m_,m_<k→∀ (aD:Int) (aF:Int) (aH:Int) (aI:Int) (aL:Option Addr) (aN:Nat) (aC:List (S69)) (aM:Option Addr) (aO:Nat) (aB:List (S69)) (a1:Int) (a2:Int) (r:Bool) (w:World) (bH:Kd.C k69 w aL aC.length aC) (bF:aC.length≤aN) (bI:Kd.C k69 w aM aB.length aB) (bG:aB.length≤aO) (h:Yh.f m_ aD aF aH aI aC aB a1 a2=some r),
  Calls Try.prog 63 #[.agg #[.int .i64 aD,.int .i64 aF,.int .i64 aH,.int .i64 aI,.slice aL aC.length aN,.slice aM aB.length aO],.int .i64 a1,.int .i64 a2] w fun e w'=>e=.returned (.bool r)∧Below w.heap.size w w') (ih_spec_l2List:∀ m_,m_<k→∀ (A0:Option Addr) (c0:Nat) (l0:List (S69)) (a1:Int) (a2:Int) (r:Bool) (w:World) (hr0:Kd.C k69 w A0 l0.length l0) (hc0:l0.length≤c0) (h:Ym.f m_ l0 a1 a2=some r),
  Calls Try.prog 53 #[.slice A0 l0.length c0,.int .i64 a1,.int .i64 a2] w fun e w'=>e=.returned (.bool r)∧Below w.heap.size w w'):∀ (aD:Int) (aF:Int) (aH:Int) (aI:Int) (aL:Option Addr) (aN:Nat) (aC:List (S69)) (aM:Option Addr) (aO:Nat) (aB:List (S69)) (a1:Int) (a2:Int) (r:Bool) (w:World) (bH:Kd.C k69 w aL aC.length aC) (bF:aC.length≤aN) (bI:Kd.C k69 w aM aB.length aB) (bG:aB.length≤aO) (h:Yh.f k aD aF aH aI aC aB a1 a2=some r),
  Calls Try.prog 63 #[.agg #[.int .i64 aD,.int .i64 aF,.int .i64 aH,.int .i64 aI,.slice aL aC.length aN,.slice aM aB.length aO],.int .i64 a1,.int .i64 a2] w fun e w'=>e=.returned (.bool r)∧Below w.heap.size w w':=by
 intro aD aF aH aI aL aN aC aM aO aB a1 a2 r w bH bF bI bG h
 cases k with
 |zero=>exact absurd h (by simp [Yh.f])
 |succ k=>
 simp only [Yh.f] at h;have fK:=Try.underlying69;have bW:=Xa.mk bH;have bV:=Xa.mk bF;clear bH bF;have dM:=Xa.mk bI;have dL:=Xa.mk bG;clear bI bG;have HB:=Xa.mk (Below.refl w.heap.size w);have H:(if aD=6 then (Yh.j0 k a1 a2 (decide (a1<1)) aD aF aH aI aC aB) else (if (aB.length:Int) > 0 then (Yh.j0 k a1 a2 true aD aF aH aI aC aB) else (Yh.j0 k a1 a2 (decide (a1<1)) aD aF aH aI aC aB)))=some r:=h;clear h;have fF:=Xa.mk H;clear H
 go_enter Try.func63,Try.ntmps63
 go_upto_region 1 with (first|((with_reducible refine Zh (N:=3) rfl ?_);(try (refine gate_guard (by rfl) ?_;dsimp only));refine Zg ?hg (N:=3) ?hd (cs:=#[.int .i64 aD,.int .i64 aF,.int .i64 aH,.int .i64 aI,.slice aL aC.length aN,.slice aM aB.length aO]) (t:=69) ?hr ?_;(case hd|hg=>rfl);(case hr=>exact hr_);intro aS hg w5 hbox hb;have aA:=Xa.mk (hbox);have GW125:=Xa.mk ((ge_ hg (Xf (bl_ HB)):w.heap.size≤aS));have GE125:=Xa.mk ((ge_ hg (Xf (bl_ HB)):w.heap.size≤aS));replace HB:=Xa.mk (Xe (bl_ HB) hb);clear hb hbox hg))
 (try simp only [Act.put,List.setIfInBounds_toArray,List.set_cons_zero,List.set_cons_succ])
 go_cut [19] (fun v19 wc=>∃ (kq:Nat) (bX:Bool),v19=.bool bX∧Xa (Yh.j0 kq a1 a2 bX aD aF aH aI aC aB=some r)∧Xa (kq≤k)∧Xa (wc.heap[aS]?=some (.cells #[.int .i64 aD,.int .i64 aF,.int .i64 aH,.int .i64 aI,(.slice aL aC.length aN),(.slice aM aB.length aO)] 69 (0,0)))∧Xa (Below w.heap.size w wc))
 case first=>
  have H:=fF.out;clear fF;by_cases c6:aD=6
  ·rw [if_pos c6] at H;have cK:=beq_iff_eq.mpr c6;have fH:=bne_eq_false_iff_eq.mpr c6;clear c6
   (first|rw [cK]|(simp only [Zc,Zb];rw [cK])|skip)
   have H':=Xa.mk H;clear H;obtain ⟨hcz7_0,hcz7_1,hcz7_2,hcz7_3,hcz7_4,hcz7_5⟩:=Zt aA.out;obtain ⟨hfz7_0,hfz7_1,hfz7_2,hfz7_3,hfz7_4,hfz7_5⟩:=Zu aA.out;go_wp2
   go_meet
   case rel=>exact ⟨_,(decide (a1<1)),rg_,H',⟨by first|omega|exact Nat.le_refl _⟩,⟨ba_ aA⟩,⟨bl_ HB⟩⟩
  ·rw [if_neg c6] at H;have cK:=beq_eq_false_iff_ne.mpr c6;have fH:=bne_iff_ne.mpr c6
   (first|rw [cK]|(simp only [Zc,Zb];rw [cK])|skip)
   by_cases c8:(aB.length:Int) > 0
   ·rw [if_pos c8] at H;have fI:=decide_eq_true c8;have fJ:decide (0<aB.length)=true:=decide_eq_true (by omega);clear c8;have H':=Xa.mk H;clear H;obtain ⟨hcz9_0,hcz9_1,hcz9_2,hcz9_3,hcz9_4,hcz9_5⟩:=Zt aA.out;obtain ⟨hfz9_0,hfz9_1,hfz9_2,hfz9_3,hfz9_4,hfz9_5⟩:=Zu aA.out;go_wp2
    go_meet
    case rel=>exact ⟨_,(true),rg_,H',⟨by first|omega|exact Nat.le_refl _⟩,⟨ba_ aA⟩,⟨bl_ HB⟩⟩
   ·rw [if_neg c8] at H;have fI:=decide_eq_false c8;have fJ:decide (0<aB.length)=false:=decide_eq_false (by omega);clear c8;have H':=Xa.mk H;clear H;obtain ⟨hcz10_0,hcz10_1,hcz10_2,hcz10_3,hcz10_4,hcz10_5⟩:=Zt aA.out;obtain ⟨hfz10_0,hfz10_1,hfz10_2,hfz10_3,hfz10_4,hfz10_5⟩:=Zu aA.out;go_wp2
    go_meet
    case rel=>exact ⟨_,(decide (a1<1)),rg_,H',⟨by first|omega|exact Nat.le_refl _⟩,⟨ba_ aA⟩,⟨bl_ HB⟩⟩
 case rest=>
  clear fF;obtain ⟨kq,bX,rfl,HA,dR,aA,HB⟩:=hcut
  cases kq with
  |zero=>exact absurd HA.out (by simp [Yh.j0])
  |succ fM=>
   have H:=HA.out;clear HA;simp only [Yh.j0] at H;by_cases c11:bX=true
   ·subst c11
    replace H:(some false)=some r:=(by rw [if_pos rfl] at H;exact H);obtain rfl:=Option.some.inj H;go_wp2
    go_ret
    exact ⟨rf_,bl_ HB⟩
   ·replace c11:=Bool.eq_false_iff.mpr c11;subst c11
    replace H:(if aD=6 then (Yh.j1 fM a1 a2 aD (aD == 6) aD aF aH aI aC aB) else (Yh.j1 fM a1 a2 aD (aD == 7) aD aF aH aI aC aB))=some r:=(by rw [if_neg (show ¬ (false=true) by decide)] at H;exact H);have dN:=Xa.mk H;clear H;obtain ⟨cZ,dA,dB,dC,dD,dE⟩:=Zt aA.out;obtain ⟨dF,dG,dH,dI,dJ,dK⟩:=Zu aA.out
    go_upto_if 22 with (fail)
    go_cut [22] (fun v22 wc=>∃ (kq:Nat) (bN:Bool),v22=.bool bN∧Xa (Yh.j1 kq a1 a2 aD bN aD aF aH aI aC aB=some r)∧Xa (kq≤fM)∧Xa (wc.heap[aS]?=some (.cells #[.int .i64 aD,.int .i64 aF,.int .i64 aH,.int .i64 aI,(.slice aL aC.length aN),(.slice aM aB.length aO)] 69 (0,0)))∧Xa (Below w.heap.size w wc))
    case first=>
     have H:=dN.out;clear dN;by_cases c14:aD=6
     ·rw [if_pos c14] at H;have bO:=beq_iff_eq.mpr c14;have d9:=bne_eq_false_iff_eq.mpr c14;clear c14
      (first|rw [bO]|(simp only [Zc,Zb];rw [bO])|skip)
      have H':=Xa.mk H;clear H;go_wp2
      go_meet
      case rel=>exact ⟨_,((aD == 6)),rg_,H',⟨by have:=dR.out;first|omega|exact Nat.le_refl _⟩,⟨ba_ aA⟩,⟨bl_ HB⟩⟩
     ·rw [if_neg c14] at H;have bO:=beq_eq_false_iff_ne.mpr c14;have d9:=bne_iff_ne.mpr c14
      (first|rw [bO]|(simp only [Zc,Zb];rw [bO])|skip)
      have H':=Xa.mk H;clear H;go_wp2
      go_meet
      case rel=>exact ⟨_,((aD == 7)),rg_,H',⟨by have:=dR.out;first|omega|exact Nat.le_refl _⟩,⟨ba_ aA⟩,⟨bl_ HB⟩⟩
    case rest=>
     clear dN
     try clear c11
     try clear cZ
     try clear dA
     try clear dB
     try clear dC
     try clear dD
     try clear dE
     try clear dF
     try clear dG
     try clear dH
     try clear dI
     try clear dJ
     try clear dK
     obtain ⟨kq,bN,rfl,HA,cO,aA,HB⟩:=hcut
     cases kq with
     |zero=>exact absurd HA.out (by simp [Yh.j1])
     |succ bE=>
      have H:=HA.out;clear HA;simp only [Yh.j1] at H;by_cases c15:bN=true
      ·subst c15
       replace H:(if aF ≥ 0 then (if aF<3 then (if aH=0 then (if aI=0 then ((Ym.f bE aC (wrap64 (a1 - 1)) a2).bind fun bY=>(if bY=true then ((Ym.f bE aB (wrap64 (a1 - 1)) a2).bind fun t127=>(some t127)) else (some false))) else (some false)) else (some false)) else (some false)) else (some false))=some r:=(by rw [if_pos rfl] at H;exact H);by_cases c16:aF ≥ 0
       ·rw [if_pos c16] at H;have eB:=decide_eq_true c16;clear c16;by_cases c17:aF<3
        ·rw [if_pos c17] at H;have eD:=decide_eq_true c17;clear c17;by_cases c18:aH=0
         ·rw [if_pos c18] at H;have eF:=beq_iff_eq.mpr c18;have eG:=bne_eq_false_iff_eq.mpr c18;clear c18;by_cases c19:aI=0
          ·rw [if_pos c19] at H;have eH:=beq_iff_eq.mpr c19;have eO:=bne_eq_false_iff_eq.mpr c19;clear c19;replace H:=Option.bind_eq_some_iff.mp H;obtain ⟨bY,dV,H⟩:=H;replace H:(if bY=true then ((Ym.f bE aB (wrap64 (a1 - 1)) a2).bind fun t127=>(some t127)) else (some false))=some r:=H;have fO:=Xa.mk dV;clear dV;by_cases c21:bY=true
           ·subst c21
            replace H:((Ym.f bE aB (wrap64 (a1 - 1)) a2).bind fun t127=>(some t127))=some r:=(by rw [if_pos rfl] at H;exact H);replace H:=Option.bind_eq_some_iff.mp H;obtain ⟨t127,dW,H⟩:=H;replace H:(some t127)=some r:=H;have fT:=Xa.mk dW;clear dW;obtain rfl:=Option.some.inj H;obtain ⟨hcz23_0,hcz23_1,hcz23_2,hcz23_3,hcz23_4,hcz23_5⟩:=Zt aA.out;obtain ⟨hfz23_0,hfz23_1,hfz23_2,hfz23_3,hfz23_4,hfz23_5⟩:=Zu aA.out;go_wp2_with (first|(go_at_call 53;(with_reducible refine (ih_spec_l2List bE (by have:=dR.out;have:=cO.out;omega) _ _ aC (wrap64 (a1 - 1)) a2 true _ ?side1 ?side2 fO.out).mono ?_);(case side1=>exact Kd.ca_ (Kd.Xr bW.out HB.out));(case side2=>exact bV.out);rintro e w24 ⟨rfl,hb⟩;replace aA:=Xa.mk (Xt (g:=aS) (o:=.cells #[.int .i64 aD,.int .i64 aF,.int .i64 aH,.int .i64 aI,.slice aL aC.length aN,.slice aM aB.length aO] 69 (0,0)) (ba_ aA) hb);replace HB:=Xa.mk (Xe (bl_ HB) hb);clear hb;obtain ⟨hcz25_0,hcz25_1,hcz25_2,hcz25_3,hcz25_4,hcz25_5⟩:=Zt aA.out;obtain ⟨hfz25_0,hfz25_1,hfz25_2,hfz25_3,hfz25_4,hfz25_5⟩:=Zu aA.out)|(go_at_call 53;(with_reducible refine (ih_spec_l2List bE (by have:=dR.out;have:=cO.out;omega) _ _ aB (wrap64 (a1 - 1)) a2 t127 _ ?side1 ?side2 fT.out).mono ?_);(case side1=>exact Kd.ca_ (Kd.Xr dM.out HB.out));(case side2=>exact dL.out);rintro e w26 ⟨rfl,hb⟩;replace aA:=Xa.mk (Xt (g:=aS) (o:=.cells #[.int .i64 aD,.int .i64 aF,.int .i64 aH,.int .i64 aI,.slice aL aC.length aN,.slice aM aB.length aO] 69 (0,0)) (ba_ aA) hb);replace HB:=Xa.mk (Xe (bl_ HB) hb);clear hb))
            go_ret
            exact ⟨rf_,bl_ HB⟩
           ·replace c21:=Bool.eq_false_iff.mpr c21;subst c21
            replace H:(some false)=some r:=(by rw [if_neg (show ¬ (false=true) by decide)] at H;exact H);obtain rfl:=Option.some.inj H;obtain ⟨hcz27_0,hcz27_1,hcz27_2,hcz27_3,hcz27_4,hcz27_5⟩:=Zt aA.out;obtain ⟨hfz27_0,hfz27_1,hfz27_2,hfz27_3,hfz27_4,hfz27_5⟩:=Zu aA.out;go_wp2_with (first|(go_at_call 53;(with_reducible refine (ih_spec_l2List bE (by have:=dR.out;have:=cO.out;omega) _ _ aC (wrap64 (a1 - 1)) a2 false _ ?side1 ?side2 fO.out).mono ?_);(case side1=>exact Kd.ca_ (Kd.Xr bW.out HB.out));(case side2=>exact bV.out);rintro e w28 ⟨rfl,hb⟩;replace aA:=Xa.mk (Xt (g:=aS) (o:=.cells #[.int .i64 aD,.int .i64 aF,.int .i64 aH,.int .i64 aI,.slice aL aC.length aN,.slice aM aB.length aO] 69 (0,0)) (ba_ aA) hb);replace HB:=Xa.mk (Xe (bl_ HB) hb);clear hb))
            go_ret
            exact ⟨rf_,bl_ HB⟩
          ·rw [if_neg c19] at H;have eH:=beq_eq_false_iff_ne.mpr c19;have eO:=bne_iff_ne.mpr c19;obtain rfl:=Option.some.inj H;obtain ⟨hcz29_0,hcz29_1,hcz29_2,hcz29_3,hcz29_4,hcz29_5⟩:=Zt aA.out;obtain ⟨hfz29_0,hfz29_1,hfz29_2,hfz29_3,hfz29_4,hfz29_5⟩:=Zu aA.out;go_wp2
           go_ret
           exact ⟨rf_,bl_ HB⟩
         ·rw [if_neg c18] at H;have eF:=beq_eq_false_iff_ne.mpr c18;have eG:=bne_iff_ne.mpr c18;obtain rfl:=Option.some.inj H;obtain ⟨hcz30_0,hcz30_1,hcz30_2,hcz30_3,hcz30_4,hcz30_5⟩:=Zt aA.out;obtain ⟨hfz30_0,hfz30_1,hfz30_2,hfz30_3,hfz30_4,hfz30_5⟩:=Zu aA.out;go_wp2
          go_ret
          exact ⟨rf_,bl_ HB⟩
        ·rw [if_neg c17] at H;have eD:=decide_eq_false c17;clear c17;obtain rfl:=Option.some.inj H;obtain ⟨hcz31_0,hcz31_1,hcz31_2,hcz31_3,hcz31_4,hcz31_5⟩:=Zt aA.out;obtain ⟨hfz31_0,hfz31_1,hfz31_2,hfz31_3,hfz31_4,hfz31_5⟩:=Zu aA.out;go_wp2
         go_ret
         exact ⟨rf_,bl_ HB⟩
       ·rw [if_neg c16] at H;have eB:=decide_eq_false c16;clear c16;obtain rfl:=Option.some.inj H;obtain ⟨hcz32_0,hcz32_1,hcz32_2,hcz32_3,hcz32_4,hcz32_5⟩:=Zt aA.out;obtain ⟨hfz32_0,hfz32_1,hfz32_2,hfz32_3,hfz32_4,hfz32_5⟩:=Zu aA.out;go_wp2
        go_ret
        exact ⟨rf_,bl_ HB⟩
      ·replace c15:=Bool.eq_false_iff.mpr c15;subst c15
       replace H:(if aD=8 then (if a2<0 then (if aF ≥ 0 then (if aF<2 then (if aH=0 then (if aI=0 then ((Ym.f bE aC (wrap64 (a1 - 1)) aF).bind fun bZ=>(some bZ)) else (some false)) else (some false)) else (some false)) else (some false)) else (some false)) else (if (aC.length:Int)=0 then ((Zk.f bE aD aF aH aI aC aB a2).bind fun cB=>(some cB)) else (some false)))=some r:=(by rw [if_neg (show ¬ (false=true) by decide)] at H;exact H);by_cases dO:aD=8
       ·rw [if_pos dO] at H;have eP:=beq_iff_eq.mpr dO;have eQ:=bne_eq_false_iff_eq.mpr dO;clear dO;by_cases c34:a2<0
        ·rw [if_pos c34] at H;have eT:=decide_eq_true c34;clear c34;by_cases dS:aF ≥ 0
         ·rw [if_pos dS] at H;have eU:=decide_eq_true dS;clear dS;by_cases dU:aF<2
          ·rw [if_pos dU] at H;have eX:=decide_eq_true dU;clear dU;by_cases c37:aH=0
           ·rw [if_pos c37] at H;have eY:=beq_iff_eq.mpr c37;have eZ:=bne_eq_false_iff_eq.mpr c37;clear c37;by_cases dP:aI=0
            ·rw [if_pos dP] at H;have fA:=beq_iff_eq.mpr dP;have fB:=bne_eq_false_iff_eq.mpr dP;clear dP;replace H:=Option.bind_eq_some_iff.mp H;obtain ⟨bZ,dX,H⟩:=H;replace H:(some bZ)=some r:=H;have fU:=Xa.mk dX;clear dX;obtain rfl:=Option.some.inj H;obtain ⟨hcz40_0,hcz40_1,hcz40_2,hcz40_3,hcz40_4,hcz40_5⟩:=Zt aA.out;obtain ⟨hfz40_0,hfz40_1,hfz40_2,hfz40_3,hfz40_4,hfz40_5⟩:=Zu aA.out;go_wp2_with (first|(go_at_call 53;(with_reducible refine (ih_spec_l2List bE (by have:=dR.out;have:=cO.out;omega) _ _ aC (wrap64 (a1 - 1)) aF bZ _ ?side1 ?side2 fU.out).mono ?_);(case side1=>exact Kd.ca_ (Kd.Xr bW.out HB.out));(case side2=>exact bV.out);rintro e w41 ⟨rfl,hb⟩;replace aA:=Xa.mk (Xt (g:=aS) (o:=.cells #[.int .i64 aD,.int .i64 aF,.int .i64 aH,.int .i64 aI,.slice aL aC.length aN,.slice aM aB.length aO] 69 (0,0)) (ba_ aA) hb);replace HB:=Xa.mk (Xe (bl_ HB) hb);clear hb))
             go_ret
             exact ⟨rf_,bl_ HB⟩
            ·rw [if_neg dP] at H;have fA:=beq_eq_false_iff_ne.mpr dP;have fB:=bne_iff_ne.mpr dP;obtain rfl:=Option.some.inj H;obtain ⟨hcz42_0,hcz42_1,hcz42_2,hcz42_3,hcz42_4,hcz42_5⟩:=Zt aA.out;obtain ⟨hfz42_0,hfz42_1,hfz42_2,hfz42_3,hfz42_4,hfz42_5⟩:=Zu aA.out;go_wp2
             go_ret
             exact ⟨rf_,bl_ HB⟩
           ·rw [if_neg c37] at H;have eY:=beq_eq_false_iff_ne.mpr c37;have eZ:=bne_iff_ne.mpr c37;obtain rfl:=Option.some.inj H;obtain ⟨hcz43_0,hcz43_1,hcz43_2,hcz43_3,hcz43_4,hcz43_5⟩:=Zt aA.out;obtain ⟨hfz43_0,hfz43_1,hfz43_2,hfz43_3,hfz43_4,hfz43_5⟩:=Zu aA.out;go_wp2
            go_ret
            exact ⟨rf_,bl_ HB⟩
          ·rw [if_neg dU] at H;have eX:=decide_eq_false dU;clear dU;obtain rfl:=Option.some.inj H;obtain ⟨hcz44_0,hcz44_1,hcz44_2,hcz44_3,hcz44_4,hcz44_5⟩:=Zt aA.out;obtain ⟨hfz44_0,hfz44_1,hfz44_2,hfz44_3,hfz44_4,hfz44_5⟩:=Zu aA.out;go_wp2
           go_ret
           exact ⟨rf_,bl_ HB⟩
         ·rw [if_neg dS] at H;have eU:=decide_eq_false dS;clear dS;obtain rfl:=Option.some.inj H;obtain ⟨hcz45_0,hcz45_1,hcz45_2,hcz45_3,hcz45_4,hcz45_5⟩:=Zt aA.out;obtain ⟨hfz45_0,hfz45_1,hfz45_2,hfz45_3,hfz45_4,hfz45_5⟩:=Zu aA.out;go_wp2
          go_ret
          exact ⟨rf_,bl_ HB⟩
        ·rw [if_neg c34] at H;have eT:=decide_eq_false c34;clear c34;obtain rfl:=Option.some.inj H;go_wp2
         go_ret
         exact ⟨rf_,bl_ HB⟩
       ·rw [if_neg dO] at H;have eP:=beq_eq_false_iff_ne.mpr dO;have eQ:=bne_iff_ne.mpr dO;by_cases c46:(aC.length:Int)=0
        ·rw [if_pos c46] at H;have fC:=beq_iff_eq.mpr c46;have fD:=bne_eq_false_iff_eq.mpr c46;clear c46;replace H:=Option.bind_eq_some_iff.mp H;obtain ⟨cB,dY,H⟩:=H;replace H:(some cB)=some r:=H;have fV:=Xa.mk dY;clear dY;obtain rfl:=Option.some.inj H;obtain ⟨hcz48_0,hcz48_1,hcz48_2,hcz48_3,hcz48_4,hcz48_5⟩:=Zt aA.out;obtain ⟨hfz48_0,hfz48_1,hfz48_2,hfz48_3,hfz48_4,hfz48_5⟩:=Zu aA.out;go_wp2_with (first|(go_at_call 73;(with_reducible refine (Zk.calls bE aD aF aH aI _ _ aC _ _ aB a2 cB _ ?side1 ?side2 ?side3 ?side4 fV.out).mono ?_);(case side1=>exact Kd.ca_ (Kd.Xr bW.out HB.out));(case side2=>exact bV.out);(case side3=>exact Kd.ca_ (Kd.Xr dM.out HB.out));(case side4=>exact dL.out);rintro e w49 ⟨rfl,hb⟩;replace aA:=Xa.mk (Xt (g:=aS) (o:=.cells #[.int .i64 aD,.int .i64 aF,.int .i64 aH,.int .i64 aI,.slice aL aC.length aN,.slice aM aB.length aO] 69 (0,0)) (ba_ aA) hb);replace HB:=Xa.mk (Xe (bl_ HB) hb);clear hb))
         go_ret
         exact ⟨rf_,bl_ HB⟩
        ·rw [if_neg c46] at H;have fC:=beq_eq_false_iff_ne.mpr c46;have fD:=bne_iff_ne.mpr c46;have c46b2:¬ (aC=[]):=fun h_=>c46 (by rw [h_];rfl);obtain rfl:=Option.some.inj H;obtain ⟨hcz50_0,hcz50_1,hcz50_2,hcz50_3,hcz50_4,hcz50_5⟩:=Zt aA.out;obtain ⟨hfz50_0,hfz50_1,hfz50_2,hfz50_3,hfz50_4,hfz50_5⟩:=Zu aA.out;go_wp2
         go_ret
         exact ⟨rf_,bl_ HB⟩
theorem Ym.step (k:Nat) (ih_spec_l2Stmt:∀ m_,m_<k→∀ (aD:Int) (aF:Int) (aH:Int) (aI:Int) (aL:Option Addr) (aN:Nat) (aC:List (S69)) (aM:Option Addr) (aO:Nat) (aB:List (S69)) (a1:Int) (a2:Int) (r:Bool) (w:World) (bH:Kd.C k69 w aL aC.length aC) (bF:aC.length≤aN) (bI:Kd.C k69 w aM aB.length aB) (bG:aB.length≤aO) (h:Yh.f m_ aD aF aH aI aC aB a1 a2=some r),
  Calls Try.prog 63 #[.agg #[.int .i64 aD,.int .i64 aF,.int .i64 aH,.int .i64 aI,.slice aL aC.length aN,.slice aM aB.length aO],.int .i64 a1,.int .i64 a2] w fun e w'=>e=.returned (.bool r)∧Below w.heap.size w w') (ih:∀ m_,m_<k→∀ (A0:Option Addr) (c0:Nat) (l0:List (S69)) (a1:Int) (a2:Int) (r:Bool) (w:World) (hr0:Kd.C k69 w A0 l0.length l0) (hc0:l0.length≤c0) (h:Ym.f m_ l0 a1 a2=some r),
  Calls Try.prog 53 #[.slice A0 l0.length c0,.int .i64 a1,.int .i64 a2] w fun e w'=>e=.returned (.bool r)∧Below w.heap.size w w'):∀ (A0:Option Addr) (c0:Nat) (l0:List (S69)) (a1:Int) (a2:Int) (r:Bool) (w:World) (hr0:Kd.C k69 w A0 l0.length l0) (hc0:l0.length≤c0) (h:Ym.f k l0 a1 a2=some r),
  Calls Try.prog 53 #[.slice A0 l0.length c0,.int .i64 a1,.int .i64 a2] w fun e w'=>e=.returned (.bool r)∧Below w.heap.size w w':=by
 intro A0 c0 l0 a1 a2 r w hr0 hc0 h
 cases k with
 |zero=>exact absurd h (by simp [Ym.f])
 |succ k=>
 simp only [Ym.f] at h;have fK:=Try.underlying69;have fQ:=Xa.mk hr0;have HC0:=Xa.mk hc0;clear hr0 hc0;have HB:=Xa.mk (Below.refl w.heap.size w);have H:(Ym.l0 k l0 a1 a2 0)=some r:=h;clear h;have H':=Xa.mk H;clear H
 go_enter Try.func53,Try.ntmps53
 go_wp2
 go_loopg [7] k (fun kq v7 w'=>∃ (aG:Int),v7=.int .i64 aG∧Xa (Ym.l0 kq l0 a1 a2 aG=some r)∧Xa (kq≤k)∧Xa (Below w.heap.size w w'))
 case atStart=>exact ⟨(0),rg_,H',⟨Nat.le_refl _⟩,⟨bl_ HB⟩⟩
 case round=>
  clear H';obtain ⟨aG,rfl,HA,fE,HB⟩:=hrel
  cases gk with
  |zero=>exact absurd HA.out (by simp [Ym.l0])
  |succ k1=>
   have H:=HA.out;clear HA;simp only [Ym.l0] at H;by_cases c4:aG<(l0.length:Int)
   ·rw [if_pos c4] at H;have fG:=decide_eq_true c4;clear c4;by_cases c5:0≤aG
    ·rw [if_pos c5] at H;replace c5:=decide_eq_true c5;replace H:=Option.bind_eq_some_iff.mp H;obtain ⟨t131,fP,H⟩:=H;replace H:(if t131=true then (Ym.l0 k1 l0 a1 a2 (wrap64 (aG+1))) else (some false))=some r:=H;have A6:=Xa.mk fP;clear fP;by_cases c7:t131=true
     ·subst c7
      replace H:(Ym.l0 k1 l0 a1 a2 (wrap64 (aG+1)))=some r:=(by rw [if_pos rfl] at H;exact H);have H':=Xa.mk H;clear H;have bT:0≤(aG:Int):=of_decide_eq_true (by assumption);have bU:aG<(l0.length:Int):=of_decide_eq_true (by assumption);obtain ⟨dZ,bP,bR,bQ,bS,dQ,aX,aY,aZ,bA,bB,bC,aV,aT,aW,aU⟩:=at_T69 fQ.out aG bT bU;cases dQ
      replace aX:=bw_ HB aX;replace aY:=bw_ HB aY;replace aZ:=bw_ HB aZ;replace bA:=bw_ HB bA;replace bB:=bw_ HB bB;replace bC:=bw_ HB bC;have bL:=Xa.mk aT;have bJ:=Xa.mk aV;clear aT aV;have bM:=Xa.mk aU;have bK:=Xa.mk aW;clear aU aW;replace bT:=eq_true bT;replace bU:=eq_true bU;go_wp2_with (first|((with_reducible refine Xi (f:=63) rfl ?_);refine Yb (some 20) rfl rfl Try.func63 (by kernel_rfl) rfl #[.agg #[.int .i64 ((Xd l0 aG).f0),.int .i64 ((Xd l0 aG).f1),.int .i64 ((Xd l0 aG).f2),.int .i64 ((Xd l0 aG).f3),.slice bP ((Xd l0 aG).f4).length bR,.slice bQ ((Xd l0 aG).f5).length bS],.int .i64 a1,.int .i64 a2] rfl ga_ ?_;(with_reducible refine (ih_spec_l2Stmt k1 (by have:=fE.out;omega) ((Xd l0 aG).f0) ((Xd l0 aG).f1) ((Xd l0 aG).f2) ((Xd l0 aG).f3) _ _ ((Xd l0 aG).f4) _ _ ((Xd l0 aG).f5) a1 a2 true _ ?side1 ?side2 ?side3 ?side4 A6.out).mono ?_);(case side1=>exact Kd.ca_ (Kd.Xr bL.out HB.out));(case side2=>exact bJ.out);(case side3=>exact Kd.ca_ (Kd.Xr bM.out HB.out));(case side4=>exact bK.out);rintro e w8 ⟨rfl,hb⟩;refine ⟨_,rfl,?_⟩;replace HB:=Xa.mk (Xe (bl_ HB) hb);clear hb))
      go_roundg k1
      case measure=>have:=fE.out;omega
      case rel=>exact ⟨(wrap64 (aG+1)),rg_,H',⟨by have:=fE.out;omega⟩,⟨bl_ HB⟩⟩
     ·replace c7:=Bool.eq_false_iff.mpr c7;subst c7
      replace H:(some false)=some r:=(by rw [if_neg (show ¬ (false=true) by decide)] at H;exact H);obtain rfl:=Option.some.inj H;have bT:0≤(aG:Int):=of_decide_eq_true (by assumption);have bU:aG<(l0.length:Int):=of_decide_eq_true (by assumption);obtain ⟨dZ,bP,bR,bQ,bS,dQ,aX,aY,aZ,bA,bB,bC,aV,aT,aW,aU⟩:=at_T69 fQ.out aG bT bU;cases dQ
      replace aX:=bw_ HB aX;replace aY:=bw_ HB aY;replace aZ:=bw_ HB aZ;replace bA:=bw_ HB bA;replace bB:=bw_ HB bB;replace bC:=bw_ HB bC;have bL:=Xa.mk aT;have bJ:=Xa.mk aV;clear aT aV;have bM:=Xa.mk aU;have bK:=Xa.mk aW;clear aU aW;replace bT:=eq_true bT;replace bU:=eq_true bU;go_wp2_with (first|((with_reducible refine Xi (f:=63) rfl ?_);refine Yb (some 20) rfl rfl Try.func63 (by kernel_rfl) rfl #[.agg #[.int .i64 ((Xd l0 aG).f0),.int .i64 ((Xd l0 aG).f1),.int .i64 ((Xd l0 aG).f2),.int .i64 ((Xd l0 aG).f3),.slice bP ((Xd l0 aG).f4).length bR,.slice bQ ((Xd l0 aG).f5).length bS],.int .i64 a1,.int .i64 a2] rfl ga_ ?_;(with_reducible refine (ih_spec_l2Stmt k1 (by have:=fE.out;omega) ((Xd l0 aG).f0) ((Xd l0 aG).f1) ((Xd l0 aG).f2) ((Xd l0 aG).f3) _ _ ((Xd l0 aG).f4) _ _ ((Xd l0 aG).f5) a1 a2 false _ ?side1 ?side2 ?side3 ?side4 A6.out).mono ?_);(case side1=>exact Kd.ca_ (Kd.Xr bL.out HB.out));(case side2=>exact bJ.out);(case side3=>exact Kd.ca_ (Kd.Xr bM.out HB.out));(case side4=>exact bK.out);rintro e w9 ⟨rfl,hb⟩;refine ⟨_,rfl,?_⟩;replace HB:=Xa.mk (Xe (bl_ HB) hb);clear hb))
      go_ret
      exact ⟨rf_,bl_ HB⟩
    ·rw [if_neg c5] at H;exact absurd H (by simp)
   ·rw [if_neg c4] at H;have fG:=decide_eq_false c4;clear c4;obtain rfl:=Option.some.inj H;go_wp2
    go_ret
    exact ⟨rf_,bl_ HB⟩
theorem spec_l2Stmt_spec_l2List.all (k:Nat):(∀ (aD:Int) (aF:Int) (aH:Int) (aI:Int) (aL:Option Addr) (aN:Nat) (aC:List (S69)) (aM:Option Addr) (aO:Nat) (aB:List (S69)) (a1:Int) (a2:Int) (r:Bool) (w:World) (bH:Kd.C k69 w aL aC.length aC) (bF:aC.length≤aN) (bI:Kd.C k69 w aM aB.length aB) (bG:aB.length≤aO) (h:Yh.f k aD aF aH aI aC aB a1 a2=some r),
  Calls Try.prog 63 #[.agg #[.int .i64 aD,.int .i64 aF,.int .i64 aH,.int .i64 aI,.slice aL aC.length aN,.slice aM aB.length aO],.int .i64 a1,.int .i64 a2] w fun e w'=>e=.returned (.bool r)∧Below w.heap.size w w')∧(∀ (A0:Option Addr) (c0:Nat) (l0:List (S69)) (a1:Int) (a2:Int) (r:Bool) (w:World) (hr0:Kd.C k69 w A0 l0.length l0) (hc0:l0.length≤c0) (h:Ym.f k l0 a1 a2=some r),
  Calls Try.prog 53 #[.slice A0 l0.length c0,.int .i64 a1,.int .i64 a2] w fun e w'=>e=.returned (.bool r)∧Below w.heap.size w w'):=by
 induction k using Nat.strongRecOn with
 |_ k ih=>exact ⟨Yh.step k (fun m hm=>(ih m hm).1) (fun m hm=>(ih m hm).2),Ym.step k (fun m hm=>(ih m hm).1) (fun m hm=>(ih m hm).2)⟩
theorem Ym.calls (k:Nat):∀ (A0:Option Addr) (c0:Nat) (l0:List (S69)) (a1:Int) (a2:Int) (r:Bool) (w:World) (hr0:Kd.C k69 w A0 l0.length l0) (hc0:l0.length≤c0) (h:Ym.f k l0 a1 a2=some r),
  Calls Try.prog 53 #[.slice A0 l0.length c0,.int .i64 a1,.int .i64 a2] w fun e w'=>e=.returned (.bool r)∧Below w.heap.size w w':=(spec_l2Stmt_spec_l2List.all k).2
end Go.Proofs.Ytlhogkfmdnpmkaa.GWhole
