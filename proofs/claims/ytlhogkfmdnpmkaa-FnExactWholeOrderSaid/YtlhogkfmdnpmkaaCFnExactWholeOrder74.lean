import Derived.Test.YtlhogkfmdnpmkaaCFnExactWholeOrder21
import Derived.Test.YtlhogkfmdnpmkaaCFnExactWholeOrder65
set_option maxRecDepth 100000
namespace Go.Proofs.Ytlhogkfmdnpmkaa.GWhole
open Go.RowKit Go.Proofs.YtlhogkfmdnpmkaaW.PrintWords Go.Proofs.YtlhogkfmdnpmkaaW.PrintLast Go.Proofs.YtlhogkfmdnpmkaaW.PrintMore
attribute [local go_sem] Ui Uk max_two min_two Zx Zy Uj Ul
set_option linter.unusedVariables false
set_option linter.unusedSimpArgs false
mutual
def Zk.j0:Nat→Int→Bool→Int→Int→Int→Int→List (S69)→List (S69)→Option (Bool)
 |0,_,_,_,_,_,_,_,_=>none
 |k+1,x1,x5,aD,aF,aB,aC,aM,aN=>if aB ≥ 0 then (Zk.j1 k x1 x5 (decide (aB<3)) aD aF aB aC aM aN) else (Zk.j1 k x1 x5 false aD aF aB aC aM aN)
def Zk.j1:Nat→Int→Bool→Bool→Int→Int→Int→Int→List (S69)→List (S69)→Option (Bool)
 |0,_,_,_,_,_,_,_,_,_=>none
 |k+1,x1,x5,x6,aD,aF,aB,aC,aM,aN=>if aD=1 then (if x5=true then (if aB=0 then ((Ua.f aC).bind fun t124=>(some t124)) else (some false)) else (some false)) else (if aD=2 then (if x5=true then (if x6=true then (if aC ≥ 1 then (some (decide (aC≤5))) else (some false)) else (some false)) else (some false)) else (if aD=3 then (if x5=true then (if aB ≥ 0 then (if aB<3 then (some (aC == 0)) else (some false)) else (some false)) else (some false)) else (if aD=4 then (if aF ≥ 0 then (if aF<3 then (if x6=true then (some (aC == 0)) else (some false)) else (some false)) else (some false)) else (if aD=5 then (if x5=true then (if aB=0 then (some (aC == 0)) else (some false)) else (some false)) else (if aD=9 then (if x1 ≥ 0 then (if aF ≥ 0 then (if aF<2 then (if aB=0 then (some (aC == 0)) else (some false)) else (some false)) else (some false)) else (some false)) else (if aD=10 then (if aF ≥ 0 then (if aF<2 then (if aB=0 then (some (aC == 0)) else (some false)) else (some false)) else (some false)) else (if aD=11 then (if aF=0 then (if aB=0 then (some (aC == 0)) else (some false)) else (some false)) else (some false))))))))
end
def Zk.f (k:Nat) (aJ:Int) (aG:Int) (aH:Int) (aI:Int) (aK:List (S69)) (aL:List (S69)) (a1:Int):Option (Bool):=if aG ≥ 0 then (Zk.j0 k a1 (decide (aG<3)) aJ aG aH aI aK aL) else (Zk.j0 k a1 false aJ aG aH aI aK aL)
set_option maxHeartbeats 8000000 in
theorem Zk.calls (k:Nat) (aJ:Int) (aG:Int) (aH:Int) (aI:Int) (aR:Option Addr) (aT:Nat) (aK:List (S69)) (aS:Option Addr) (aU:Nat) (aL:List (S69)) (a1:Int) (r:Bool) (w:World) (aZ:Kd.C k69 w aR aK.length aK) (aX:aK.length≤aT) (bA:Kd.C k69 w aS aL.length aL) (aY:aL.length≤aU) (h:Zk.f k aJ aG aH aI aK aL a1=some r) :
  Calls Try.prog 73 #[.agg #[.int .i64 aJ,.int .i64 aG,.int .i64 aH,.int .i64 aI,.slice aR aK.length aT,.slice aS aL.length aU],.int .i64 a1] w fun e w'=>e=.returned (.bool r)∧Below w.heap.size w w':=by
 have hu69:=Try.underlying69;have HR0_4:=Xa.mk aZ;have HC0_4:=Xa.mk aX;clear aZ aX;have HR0_5:=Xa.mk bA;have HC0_5:=Xa.mk aY;clear bA aY;have HB:=Xa.mk (Below.refl w.heap.size w);have H:(if aG ≥ 0 then (Zk.j0 k a1 (decide (aG<3)) aJ aG aH aI aK aL) else (Zk.j0 k a1 false aJ aG aH aI aK aL))=some r:=h;clear h;have eF:=Xa.mk H;clear H
 go_enter Try.func73,Try.ntmps73
 go_upto_region 1 with (first|((with_reducible refine Zh (N:=2) rfl ?_);refine Zg ?hg (N:=2) ?hd (cs:=#[.int .i64 aJ,.int .i64 aG,.int .i64 aH,.int .i64 aI,.slice aR aK.length aT,.slice aS aL.length aU]) (t:=69) ?hr ?_;(case hd|hg=>rfl);(case hr=>exact hr_);intro aP hg w4 hbox hb;have aA:=Xa.mk (hbox);have GW123:=Xa.mk ((ge_ hg (Xf (bl_ HB)):w.heap.size≤aP));have GE123:=Xa.mk ((ge_ hg (Xf (bl_ HB)):w.heap.size≤aP));replace HB:=Xa.mk (Xe (bl_ HB) hb);clear hb hbox hg))
 (try simp only [Act.put,List.setIfInBounds_toArray,List.set_cons_zero,List.set_cons_succ])
 go_cut [5] (fun v5 wc=>∃ (kq:Nat) (aO:Bool),v5=.bool aO∧Xa (Zk.j0 kq a1 aO aJ aG aH aI aK aL=some r)∧Xa (kq≤k)∧Xa (wc.heap[aP]?=some (.cells #[.int .i64 aJ,.int .i64 aG,.int .i64 aH,.int .i64 aI,(.slice aR aK.length aT),(.slice aS aL.length aU)] 69 (0,0)))∧Xa (Below w.heap.size w wc))
 case first=>
  have H:=eF.out;clear eF;by_cases c5:aG ≥ 0
  ·rw [if_pos c5] at H;have aV:=decide_eq_true c5;clear c5
   (first|rw [aV]|(simp only [Zc,Zb];rw [aV])|skip)
   have H':=Xa.mk H;clear H;obtain ⟨hcz6_0,hcz6_1,hcz6_2,hcz6_3,hcz6_4,hcz6_5⟩:=Zt aA.out;obtain ⟨hfz6_0,hfz6_1,hfz6_2,hfz6_3,hfz6_4,hfz6_5⟩:=Zu aA.out;go_wp2
   go_meet
   case rel=>exact ⟨_,(decide (aG<3)),rg_,H',⟨by first|omega|exact Nat.le_refl _⟩,⟨ba_ aA⟩,⟨bl_ HB⟩⟩
  ·rw [if_neg c5] at H;have aV:=decide_eq_false c5;clear c5
   (first|rw [aV]|(simp only [Zc,Zb];rw [aV])|skip)
   have H':=Xa.mk H;clear H;obtain ⟨hcz7_0,hcz7_1,hcz7_2,hcz7_3,hcz7_4,hcz7_5⟩:=Zt aA.out;obtain ⟨hfz7_0,hfz7_1,hfz7_2,hfz7_3,hfz7_4,hfz7_5⟩:=Zu aA.out;go_wp2
   go_meet
   case rel=>exact ⟨_,(false),rg_,H',⟨by first|omega|exact Nat.le_refl _⟩,⟨ba_ aA⟩,⟨bl_ HB⟩⟩
 case rest=>
  clear eF;obtain ⟨kq,aO,rfl,HA,HJ2,aA,HB⟩:=hcut
  cases kq with
  |zero=>exact absurd HA.out (by simp [Zk.j0])
  |succ eO=>
   have H:=HA.out;clear HA;simp only [Zk.j0] at H;have eG:=Xa.mk H;clear H
   go_upto_region 2 with (fail)
   go_cut [6] (fun v6 wc=>∃ (kq:Nat) (aQ:Bool),v6=.bool aQ∧Xa (Zk.j1 kq a1 aO aQ aJ aG aH aI aK aL=some r)∧Xa (kq≤eO)∧Xa (wc.heap[aP]?=some (.cells #[.int .i64 aJ,.int .i64 aG,.int .i64 aH,.int .i64 aI,(.slice aR aK.length aT),(.slice aS aL.length aU)] 69 (0,0)))∧Xa (Below w.heap.size w wc))
   case first=>
    have H:=eG.out;clear eG;by_cases c9:aH ≥ 0
    ·rw [if_pos c9] at H;have aW:=decide_eq_true c9;clear c9
     (first|rw [aW]|(simp only [Zc,Zb];rw [aW])|skip)
     have H':=Xa.mk H;clear H;obtain ⟨hcz10_0,hcz10_1,hcz10_2,hcz10_3,hcz10_4,hcz10_5⟩:=Zt aA.out;obtain ⟨hfz10_0,hfz10_1,hfz10_2,hfz10_3,hfz10_4,hfz10_5⟩:=Zu aA.out;go_wp2
     go_meet
     case rel=>exact ⟨_,(decide (aH<3)),rg_,H',⟨by have:=HJ2.out;first|omega|exact Nat.le_refl _⟩,⟨ba_ aA⟩,⟨bl_ HB⟩⟩
    ·rw [if_neg c9] at H;have aW:=decide_eq_false c9;clear c9
     (first|rw [aW]|(simp only [Zc,Zb];rw [aW])|skip)
     have H':=Xa.mk H;clear H;obtain ⟨hcz11_0,hcz11_1,hcz11_2,hcz11_3,hcz11_4,hcz11_5⟩:=Zt aA.out;obtain ⟨hfz11_0,hfz11_1,hfz11_2,hfz11_3,hfz11_4,hfz11_5⟩:=Zu aA.out;go_wp2
     go_meet
     case rel=>exact ⟨_,(false),rg_,H',⟨by have:=HJ2.out;first|omega|exact Nat.le_refl _⟩,⟨ba_ aA⟩,⟨bl_ HB⟩⟩
   case rest=>
    clear eG;obtain ⟨kq,aQ,rfl,HA,HJ7,aA,HB⟩:=hcut
    cases kq with
    |zero=>exact absurd HA.out (by simp [Zk.j1])
    |succ kj7=>
     have H:=HA.out;clear HA;simp only [Zk.j1] at H;by_cases c12:aJ=1
     ·rw [if_pos c12] at H;have bS:=beq_iff_eq.mpr c12;have bT:=bne_eq_false_iff_eq.mpr c12;clear c12;by_cases c13:aO=true
      ·subst c13
       replace H:(if aH=0 then ((Ua.f aI).bind fun t124=>(some t124)) else (some false))=some r:=(by rw [if_pos rfl] at H;exact H);by_cases c14:aH=0
       ·rw [if_pos c14] at H;have bU:=beq_iff_eq.mpr c14;have bV:=bne_eq_false_iff_eq.mpr c14;clear c14;replace H:=Option.bind_eq_some_iff.mp H;obtain ⟨t124,bR,H⟩:=H;replace H:(some t124)=some r:=H;have eH:=Xa.mk bR;clear bR;obtain rfl:=Option.some.inj H;obtain ⟨hcz16_0,hcz16_1,hcz16_2,hcz16_3,hcz16_4,hcz16_5⟩:=Zt aA.out;obtain ⟨hfz16_0,hfz16_1,hfz16_2,hfz16_3,hfz16_4,hfz16_5⟩:=Zu aA.out;go_wp2_with (first|(go_at_call 64;(with_reducible refine (Ua.calls aI t124 _ eH.out).mono ?_);rintro e w' ⟨rfl,⟨nd,rfl⟩⟩))
        go_ret
        exact ⟨rf_,bl_ HB⟩
       ·rw [if_neg c14] at H;have bU:=beq_eq_false_iff_ne.mpr c14;have bV:=bne_iff_ne.mpr c14;obtain rfl:=Option.some.inj H;obtain ⟨hcz17_0,hcz17_1,hcz17_2,hcz17_3,hcz17_4,hcz17_5⟩:=Zt aA.out;obtain ⟨hfz17_0,hfz17_1,hfz17_2,hfz17_3,hfz17_4,hfz17_5⟩:=Zu aA.out;go_wp2
        go_ret
        exact ⟨rf_,bl_ HB⟩
      ·replace c13:=Bool.eq_false_iff.mpr c13;subst c13
       replace H:(some false)=some r:=(by rw [if_neg (show ¬ (false=true) by decide)] at H;exact H);obtain rfl:=Option.some.inj H;obtain ⟨hcz18_0,hcz18_1,hcz18_2,hcz18_3,hcz18_4,hcz18_5⟩:=Zt aA.out;obtain ⟨hfz18_0,hfz18_1,hfz18_2,hfz18_3,hfz18_4,hfz18_5⟩:=Zu aA.out;go_wp2
       go_ret
       exact ⟨rf_,bl_ HB⟩
     ·rw [if_neg c12] at H;have bS:=beq_eq_false_iff_ne.mpr c12;have bT:=bne_iff_ne.mpr c12;by_cases c19:aJ=2
      ·rw [if_pos c19] at H;have bW:=beq_iff_eq.mpr c19;have bX:=bne_eq_false_iff_eq.mpr c19;clear c19;by_cases c20:aO=true
       ·subst c20
        replace H:(if aQ=true then (if aI ≥ 1 then (some (decide (aI≤5))) else (some false)) else (some false))=some r:=(by rw [if_pos rfl] at H;exact H);by_cases c21:aQ=true
        ·subst c21
         replace H:(if aI ≥ 1 then (some (decide (aI≤5))) else (some false))=some r:=(by rw [if_pos rfl] at H;exact H);by_cases bJ:aI ≥ 1
         ·rw [if_pos bJ] at H;have bY:=decide_eq_true bJ;clear bJ;obtain rfl:=Option.some.inj H;obtain ⟨hcz23_0,hcz23_1,hcz23_2,hcz23_3,hcz23_4,hcz23_5⟩:=Zt aA.out;obtain ⟨hfz23_0,hfz23_1,hfz23_2,hfz23_3,hfz23_4,hfz23_5⟩:=Zu aA.out;go_wp2
          go_ret
          exact ⟨rf_,bl_ HB⟩
         ·rw [if_neg bJ] at H;have bY:=decide_eq_false bJ;clear bJ;obtain rfl:=Option.some.inj H;obtain ⟨hcz24_0,hcz24_1,hcz24_2,hcz24_3,hcz24_4,hcz24_5⟩:=Zt aA.out;obtain ⟨hfz24_0,hfz24_1,hfz24_2,hfz24_3,hfz24_4,hfz24_5⟩:=Zu aA.out;go_wp2
          go_ret
          exact ⟨rf_,bl_ HB⟩
        ·replace c21:=Bool.eq_false_iff.mpr c21;subst c21
         replace H:(some false)=some r:=(by rw [if_neg (show ¬ (false=true) by decide)] at H;exact H);obtain rfl:=Option.some.inj H;obtain ⟨hcz25_0,hcz25_1,hcz25_2,hcz25_3,hcz25_4,hcz25_5⟩:=Zt aA.out;obtain ⟨hfz25_0,hfz25_1,hfz25_2,hfz25_3,hfz25_4,hfz25_5⟩:=Zu aA.out;go_wp2
         go_ret
         exact ⟨rf_,bl_ HB⟩
       ·replace c20:=Bool.eq_false_iff.mpr c20;subst c20
        replace H:(some false)=some r:=(by rw [if_neg (show ¬ (false=true) by decide)] at H;exact H);obtain rfl:=Option.some.inj H;obtain ⟨hcz26_0,hcz26_1,hcz26_2,hcz26_3,hcz26_4,hcz26_5⟩:=Zt aA.out;obtain ⟨hfz26_0,hfz26_1,hfz26_2,hfz26_3,hfz26_4,hfz26_5⟩:=Zu aA.out;go_wp2
        go_ret
        exact ⟨rf_,bl_ HB⟩
      ·rw [if_neg c19] at H;have bW:=beq_eq_false_iff_ne.mpr c19;have bX:=bne_iff_ne.mpr c19;by_cases bB:aJ=3
       ·rw [if_pos bB] at H;have bZ:=beq_iff_eq.mpr bB;have cB:=bne_eq_false_iff_eq.mpr bB;clear bB;by_cases c28:aO=true
        ·subst c28
         replace H:(if aH ≥ 0 then (if aH<3 then (some (aI == 0)) else (some false)) else (some false))=some r:=(by rw [if_pos rfl] at H;exact H);by_cases bK:aH ≥ 0
         ·rw [if_pos bK] at H;have cK:=decide_eq_true bK;clear bK;by_cases bL:aH<3
          ·rw [if_pos bL] at H;have cO:=decide_eq_true bL;clear bL;obtain rfl:=Option.some.inj H;obtain ⟨hcz31_0,hcz31_1,hcz31_2,hcz31_3,hcz31_4,hcz31_5⟩:=Zt aA.out;obtain ⟨hfz31_0,hfz31_1,hfz31_2,hfz31_3,hfz31_4,hfz31_5⟩:=Zu aA.out;go_wp2
           go_ret
           exact ⟨rf_,bl_ HB⟩
          ·rw [if_neg bL] at H;have cO:=decide_eq_false bL;clear bL;obtain rfl:=Option.some.inj H;obtain ⟨hcz32_0,hcz32_1,hcz32_2,hcz32_3,hcz32_4,hcz32_5⟩:=Zt aA.out;obtain ⟨hfz32_0,hfz32_1,hfz32_2,hfz32_3,hfz32_4,hfz32_5⟩:=Zu aA.out;go_wp2
           go_ret
           exact ⟨rf_,bl_ HB⟩
         ·rw [if_neg bK] at H;have cK:=decide_eq_false bK;clear bK;obtain rfl:=Option.some.inj H;obtain ⟨hcz33_0,hcz33_1,hcz33_2,hcz33_3,hcz33_4,hcz33_5⟩:=Zt aA.out;obtain ⟨hfz33_0,hfz33_1,hfz33_2,hfz33_3,hfz33_4,hfz33_5⟩:=Zu aA.out;go_wp2
          go_ret
          exact ⟨rf_,bl_ HB⟩
        ·replace c28:=Bool.eq_false_iff.mpr c28;subst c28
         replace H:(some false)=some r:=(by rw [if_neg (show ¬ (false=true) by decide)] at H;exact H);obtain rfl:=Option.some.inj H;obtain ⟨hcz34_0,hcz34_1,hcz34_2,hcz34_3,hcz34_4,hcz34_5⟩:=Zt aA.out;obtain ⟨hfz34_0,hfz34_1,hfz34_2,hfz34_3,hfz34_4,hfz34_5⟩:=Zu aA.out;go_wp2
         go_ret
         exact ⟨rf_,bl_ HB⟩
       ·rw [if_neg bB] at H;have bZ:=beq_eq_false_iff_ne.mpr bB;have cB:=bne_iff_ne.mpr bB;by_cases bC:aJ=4
        ·rw [if_pos bC] at H;have cZ:=beq_iff_eq.mpr bC;have dA:=bne_eq_false_iff_eq.mpr bC;clear bC;by_cases bM:aG ≥ 0
         ·rw [if_pos bM] at H;have dB:=decide_eq_true bM;clear bM;by_cases c37:aG<3
          ·rw [if_pos c37] at H;have dC:=decide_eq_true c37;clear c37;by_cases eB:aQ=true
           ·subst eB
            replace H:(some (aI == 0))=some r:=(by rw [if_pos rfl] at H;exact H);obtain rfl:=Option.some.inj H;obtain ⟨hcz39_0,hcz39_1,hcz39_2,hcz39_3,hcz39_4,hcz39_5⟩:=Zt aA.out;obtain ⟨hfz39_0,hfz39_1,hfz39_2,hfz39_3,hfz39_4,hfz39_5⟩:=Zu aA.out;go_wp2
            go_ret
            exact ⟨rf_,bl_ HB⟩
           ·replace eB:=Bool.eq_false_iff.mpr eB;subst eB
            replace H:(some false)=some r:=(by rw [if_neg (show ¬ (false=true) by decide)] at H;exact H);obtain rfl:=Option.some.inj H;obtain ⟨hcz40_0,hcz40_1,hcz40_2,hcz40_3,hcz40_4,hcz40_5⟩:=Zt aA.out;obtain ⟨hfz40_0,hfz40_1,hfz40_2,hfz40_3,hfz40_4,hfz40_5⟩:=Zu aA.out;go_wp2
            go_ret
            exact ⟨rf_,bl_ HB⟩
          ·rw [if_neg c37] at H;have dC:=decide_eq_false c37;clear c37;obtain rfl:=Option.some.inj H;obtain ⟨hcz41_0,hcz41_1,hcz41_2,hcz41_3,hcz41_4,hcz41_5⟩:=Zt aA.out;obtain ⟨hfz41_0,hfz41_1,hfz41_2,hfz41_3,hfz41_4,hfz41_5⟩:=Zu aA.out;go_wp2
           go_ret
           exact ⟨rf_,bl_ HB⟩
         ·rw [if_neg bM] at H;have dB:=decide_eq_false bM;clear bM;obtain rfl:=Option.some.inj H;obtain ⟨hcz42_0,hcz42_1,hcz42_2,hcz42_3,hcz42_4,hcz42_5⟩:=Zt aA.out;obtain ⟨hfz42_0,hfz42_1,hfz42_2,hfz42_3,hfz42_4,hfz42_5⟩:=Zu aA.out;go_wp2
          go_ret
          exact ⟨rf_,bl_ HB⟩
        ·rw [if_neg bC] at H;have cZ:=beq_eq_false_iff_ne.mpr bC;have dA:=bne_iff_ne.mpr bC;by_cases bD:aJ=5
         ·rw [if_pos bD] at H;have dD:=beq_iff_eq.mpr bD;have dE:=bne_eq_false_iff_eq.mpr bD;clear bD;by_cases eD:aO=true
          ·subst eD
           replace H:(if aH=0 then (some (aI == 0)) else (some false))=some r:=(by rw [if_pos rfl] at H;exact H);by_cases bE:aH=0
           ·rw [if_pos bE] at H;have dF:=beq_iff_eq.mpr bE;have dG:=bne_eq_false_iff_eq.mpr bE;clear bE;obtain rfl:=Option.some.inj H;obtain ⟨hcz46_0,hcz46_1,hcz46_2,hcz46_3,hcz46_4,hcz46_5⟩:=Zt aA.out;obtain ⟨hfz46_0,hfz46_1,hfz46_2,hfz46_3,hfz46_4,hfz46_5⟩:=Zu aA.out;go_wp2
            go_ret
            exact ⟨rf_,bl_ HB⟩
           ·rw [if_neg bE] at H;have dF:=beq_eq_false_iff_ne.mpr bE;have dG:=bne_iff_ne.mpr bE;obtain rfl:=Option.some.inj H;obtain ⟨hcz47_0,hcz47_1,hcz47_2,hcz47_3,hcz47_4,hcz47_5⟩:=Zt aA.out;obtain ⟨hfz47_0,hfz47_1,hfz47_2,hfz47_3,hfz47_4,hfz47_5⟩:=Zu aA.out;go_wp2
            go_ret
            exact ⟨rf_,bl_ HB⟩
          ·replace eD:=Bool.eq_false_iff.mpr eD;subst eD
           replace H:(some false)=some r:=(by rw [if_neg (show ¬ (false=true) by decide)] at H;exact H);obtain rfl:=Option.some.inj H;obtain ⟨hcz48_0,hcz48_1,hcz48_2,hcz48_3,hcz48_4,hcz48_5⟩:=Zt aA.out;obtain ⟨hfz48_0,hfz48_1,hfz48_2,hfz48_3,hfz48_4,hfz48_5⟩:=Zu aA.out;go_wp2
           go_ret
           exact ⟨rf_,bl_ HB⟩
         ·rw [if_neg bD] at H;have dD:=beq_eq_false_iff_ne.mpr bD;have dE:=bne_iff_ne.mpr bD;by_cases c49:aJ=9
          ·rw [if_pos c49] at H;have dH:=beq_iff_eq.mpr c49;have dI:=bne_eq_false_iff_eq.mpr c49;clear c49;by_cases bN:a1 ≥ 0
           ·rw [if_pos bN] at H;have dJ:=decide_eq_true bN;clear bN;by_cases c51:aG ≥ 0
            ·rw [if_pos c51] at H;have dK:=decide_eq_true c51;clear c51;by_cases bO:aG<2
             ·rw [if_pos bO] at H;have dL:=decide_eq_true bO;clear bO;by_cases c53:aH=0
              ·rw [if_pos c53] at H;have dM:=beq_iff_eq.mpr c53;have dN:=bne_eq_false_iff_eq.mpr c53;clear c53;obtain rfl:=Option.some.inj H;obtain ⟨hcz54_0,hcz54_1,hcz54_2,hcz54_3,hcz54_4,hcz54_5⟩:=Zt aA.out;obtain ⟨hfz54_0,hfz54_1,hfz54_2,hfz54_3,hfz54_4,hfz54_5⟩:=Zu aA.out;go_wp2
               go_ret
               exact ⟨rf_,bl_ HB⟩
              ·rw [if_neg c53] at H;have dM:=beq_eq_false_iff_ne.mpr c53;have dN:=bne_iff_ne.mpr c53;obtain rfl:=Option.some.inj H;obtain ⟨hcz55_0,hcz55_1,hcz55_2,hcz55_3,hcz55_4,hcz55_5⟩:=Zt aA.out;obtain ⟨hfz55_0,hfz55_1,hfz55_2,hfz55_3,hfz55_4,hfz55_5⟩:=Zu aA.out;go_wp2
               go_ret
               exact ⟨rf_,bl_ HB⟩
             ·rw [if_neg bO] at H;have dL:=decide_eq_false bO;clear bO;obtain rfl:=Option.some.inj H;obtain ⟨hcz56_0,hcz56_1,hcz56_2,hcz56_3,hcz56_4,hcz56_5⟩:=Zt aA.out;obtain ⟨hfz56_0,hfz56_1,hfz56_2,hfz56_3,hfz56_4,hfz56_5⟩:=Zu aA.out;go_wp2
              go_ret
              exact ⟨rf_,bl_ HB⟩
            ·rw [if_neg c51] at H;have dK:=decide_eq_false c51;clear c51;obtain rfl:=Option.some.inj H;obtain ⟨hcz57_0,hcz57_1,hcz57_2,hcz57_3,hcz57_4,hcz57_5⟩:=Zt aA.out;obtain ⟨hfz57_0,hfz57_1,hfz57_2,hfz57_3,hfz57_4,hfz57_5⟩:=Zu aA.out;go_wp2
             go_ret
             exact ⟨rf_,bl_ HB⟩
           ·rw [if_neg bN] at H;have dJ:=decide_eq_false bN;clear bN;obtain rfl:=Option.some.inj H;obtain ⟨hcz58_0,hcz58_1,hcz58_2,hcz58_3,hcz58_4,hcz58_5⟩:=Zt aA.out;obtain ⟨hfz58_0,hfz58_1,hfz58_2,hfz58_3,hfz58_4,hfz58_5⟩:=Zu aA.out;go_wp2
            go_ret
            exact ⟨rf_,bl_ HB⟩
          ·rw [if_neg c49] at H;have dH:=beq_eq_false_iff_ne.mpr c49;have dI:=bne_iff_ne.mpr c49;by_cases c59:aJ=10
           ·rw [if_pos c59] at H;have dO:=beq_iff_eq.mpr c59;have dP:=bne_eq_false_iff_eq.mpr c59;clear c59;by_cases bP:aG ≥ 0
            ·rw [if_pos bP] at H;have dQ:=decide_eq_true bP;clear bP;by_cases bQ:aG<2
             ·rw [if_pos bQ] at H;have dR:=decide_eq_true bQ;clear bQ;by_cases bF:aH=0
              ·rw [if_pos bF] at H;have dS:=beq_iff_eq.mpr bF;have dU:=bne_eq_false_iff_eq.mpr bF;clear bF;obtain rfl:=Option.some.inj H;obtain ⟨hcz63_0,hcz63_1,hcz63_2,hcz63_3,hcz63_4,hcz63_5⟩:=Zt aA.out;obtain ⟨hfz63_0,hfz63_1,hfz63_2,hfz63_3,hfz63_4,hfz63_5⟩:=Zu aA.out;go_wp2
               go_ret
               exact ⟨rf_,bl_ HB⟩
              ·rw [if_neg bF] at H;have dS:=beq_eq_false_iff_ne.mpr bF;have dU:=bne_iff_ne.mpr bF;obtain rfl:=Option.some.inj H;obtain ⟨hcz64_0,hcz64_1,hcz64_2,hcz64_3,hcz64_4,hcz64_5⟩:=Zt aA.out;obtain ⟨hfz64_0,hfz64_1,hfz64_2,hfz64_3,hfz64_4,hfz64_5⟩:=Zu aA.out;go_wp2
               go_ret
               exact ⟨rf_,bl_ HB⟩
             ·rw [if_neg bQ] at H;have dR:=decide_eq_false bQ;clear bQ;obtain rfl:=Option.some.inj H;obtain ⟨hcz65_0,hcz65_1,hcz65_2,hcz65_3,hcz65_4,hcz65_5⟩:=Zt aA.out;obtain ⟨hfz65_0,hfz65_1,hfz65_2,hfz65_3,hfz65_4,hfz65_5⟩:=Zu aA.out;go_wp2
              go_ret
              exact ⟨rf_,bl_ HB⟩
            ·rw [if_neg bP] at H;have dQ:=decide_eq_false bP;clear bP;obtain rfl:=Option.some.inj H;obtain ⟨hcz66_0,hcz66_1,hcz66_2,hcz66_3,hcz66_4,hcz66_5⟩:=Zt aA.out;obtain ⟨hfz66_0,hfz66_1,hfz66_2,hfz66_3,hfz66_4,hfz66_5⟩:=Zu aA.out;go_wp2
             go_ret
             exact ⟨rf_,bl_ HB⟩
           ·rw [if_neg c59] at H;have dO:=beq_eq_false_iff_ne.mpr c59;have dP:=bne_iff_ne.mpr c59;by_cases bG:aJ=11
            ·rw [if_pos bG] at H;have dV:=beq_iff_eq.mpr bG;have dW:=bne_eq_false_iff_eq.mpr bG;clear bG;by_cases bH:aG=0
             ·rw [if_pos bH] at H;have dX:=beq_iff_eq.mpr bH;have dY:=bne_eq_false_iff_eq.mpr bH;clear bH;by_cases bI:aH=0
              ·rw [if_pos bI] at H;have dZ:=beq_iff_eq.mpr bI;have d9:=bne_eq_false_iff_eq.mpr bI;clear bI;obtain rfl:=Option.some.inj H;obtain ⟨hcz70_0,hcz70_1,hcz70_2,hcz70_3,hcz70_4,hcz70_5⟩:=Zt aA.out;obtain ⟨hfz70_0,hfz70_1,hfz70_2,hfz70_3,hfz70_4,hfz70_5⟩:=Zu aA.out;go_wp2
               go_ret
               exact ⟨rf_,bl_ HB⟩
              ·rw [if_neg bI] at H;have dZ:=beq_eq_false_iff_ne.mpr bI;have d9:=bne_iff_ne.mpr bI;obtain rfl:=Option.some.inj H;obtain ⟨hcz71_0,hcz71_1,hcz71_2,hcz71_3,hcz71_4,hcz71_5⟩:=Zt aA.out;obtain ⟨hfz71_0,hfz71_1,hfz71_2,hfz71_3,hfz71_4,hfz71_5⟩:=Zu aA.out;go_wp2
               go_ret
               exact ⟨rf_,bl_ HB⟩
             ·rw [if_neg bH] at H;have dX:=beq_eq_false_iff_ne.mpr bH;have dY:=bne_iff_ne.mpr bH;obtain rfl:=Option.some.inj H;obtain ⟨hcz72_0,hcz72_1,hcz72_2,hcz72_3,hcz72_4,hcz72_5⟩:=Zt aA.out;obtain ⟨hfz72_0,hfz72_1,hfz72_2,hfz72_3,hfz72_4,hfz72_5⟩:=Zu aA.out;go_wp2
              go_ret
              exact ⟨rf_,bl_ HB⟩
            ·rw [if_neg bG] at H;have dV:=beq_eq_false_iff_ne.mpr bG;have dW:=bne_iff_ne.mpr bG;obtain rfl:=Option.some.inj H;obtain ⟨hcz73_0,hcz73_1,hcz73_2,hcz73_3,hcz73_4,hcz73_5⟩:=Zt aA.out;obtain ⟨hfz73_0,hfz73_1,hfz73_2,hfz73_3,hfz73_4,hfz73_5⟩:=Zu aA.out;go_wp2
             go_ret
             exact ⟨rf_,bl_ HB⟩
end Go.Proofs.Ytlhogkfmdnpmkaa.GWhole
