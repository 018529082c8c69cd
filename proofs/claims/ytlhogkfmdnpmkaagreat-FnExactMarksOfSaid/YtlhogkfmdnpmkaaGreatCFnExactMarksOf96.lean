import Derived.Test.YtlhogkfmdnpmkaaGreatCFnExactMarksOf80
set_option linter.unusedVariables false
set_option linter.unusedSimpArgs false
set_option maxRecDepth 100000
namespace Go.Proofs.YtlhogkfmdnpmkaaGreat.GMarks
open RowKit YtlhogkfmdnpmkaaGreatW.PrintWords YtlhogkfmdnpmkaaGreatW.PrintLast YtlhogkfmdnpmkaaGreatW.PrintMore
attribute [local go_sem] Ua Ud Uu Ux Zo Zp Ub Ue
mutual
def Ze.j0:Nat→Int→Bool→Int→Int→Int→Int→List (S87)→List (S87)→Option (Bool)
 |0,_,_,_,_,_,_,_,_=>none
 |k+1,x1,x5,aH,aI,aF,aG,aM,aN=>if aF ≥ 0 then (Ze.j1 k x1 x5 (decide (aF<3)) aH aI aF aG aM aN) else (Ze.j1 k x1 x5 false aH aI aF aG aM aN)
def Ze.j1:Nat→Int→Bool→Bool→Int→Int→Int→Int→List (S87)→List (S87)→Option (Bool)
 |0,_,_,_,_,_,_,_,_,_=>none
 |k+1,x1,x5,x6,aH,aI,aF,aG,aM,aN=>if aH=1 then (if x5=true then (if aF=0 then ((Ui.f aG).bind fun aQ=>(some aQ)) else (some false)) else (some false)) else (if aH=2 then (if x5=true then (if x6=true then (if aG ≥ 1 then (some (decide (aG≤5))) else (some false)) else (some false)) else (some false)) else (if aH=3 then (if x5=true then (if aF ≥ 0 then (if aF<3 then (some (aG == 0)) else (some false)) else (some false)) else (some false)) else (if aH=4 then (if aI ≥ 0 then (if aI<3 then (if x6=true then (some (aG == 0)) else (some false)) else (some false)) else (some false)) else (if aH=5 then (if x5=true then (if aF=0 then (some (aG == 0)) else (some false)) else (some false)) else (if aH=9 then (if x1 ≥ 0 then (if aI ≥ 0 then (if aI<2 then (if aF=0 then (some (aG == 0)) else (some false)) else (some false)) else (some false)) else (some false)) else (if aH=10 then (if aI ≥ 0 then (if aI<2 then (if aF=0 then (some (aG == 0)) else (some false)) else (some false)) else (some false)) else (if aH=11 then (if aI=0 then (if aF=0 then (some (aG == 0)) else (some false)) else (some false)) else (some false))))))))
end
def Ze.f (k:Nat) (aB:Int) (aD:Int) (aC:Int) (aJ:Int) (aK:List (S87)) (aL:List (S87)) (a1:Int):Option (Bool):=if aD ≥ 0 then (Ze.j0 k a1 (decide (aD<3)) aB aD aC aJ aK aL) else (Ze.j0 k a1 false aB aD aC aJ aK aL)
set_option maxHeartbeats 8000000 in
theorem Ze.calls (k:Nat) (aB:Int) (aD:Int) (aC:Int) (aJ:Int) (aS:Option Addr) (aU:Nat) (aK:List (S87)) (aT:Option Addr) (aV:Nat) (aL:List (S87)) (a1:Int) (r:Bool) (w:World) (bA:Kd.C k87 w aS aK.length aK) (aY:aK.length≤aU) (bB:Kd.C k87 w aT aL.length aL) (aZ:aL.length≤aV) (h:Ze.f k aB aD aC aJ aK aL a1=some r) :
  Calls Tryz.prog 100 #[.agg #[.int .i64 aB,.int .i64 aD,.int .i64 aC,.int .i64 aJ,.slice aS aK.length aU,.slice aT aL.length aV],.int .i64 a1] w fun e w'=>e=.returned (.bool r)∧Below w.heap.size w w':=by
 have hu87:=Tryz.underlying87;have HR0_4:=Xa.mk bA;have HC0_4:=Xa.mk aY;clear bA aY;have HR0_5:=Xa.mk bB;have HC0_5:=Xa.mk aZ;clear bB aZ;have HB:=Xa.mk (Below.refl w.heap.size w);have H:(if aD ≥ 0 then (Ze.j0 k a1 (decide (aD<3)) aB aD aC aJ aK aL) else (Ze.j0 k a1 false aB aD aC aJ aK aL))=some r:=h;clear h;have eG:=Xa.mk H;clear H;go_enter Tryz.func100,Tryz.ntmps100;go_upto_region 1 with (first|((with_reducible refine Yv (N:=2) rfl ?_);refine Zb ?hg (N:=2) ?hd (cs:=#[.int .i64 aB,.int .i64 aD,.int .i64 aC,.int .i64 aJ,.slice aS aK.length aU,.slice aT aL.length aV]) (t:=87) ?hr ?_;(case hd|hg=>rfl);(case hr=>exact hr_);intro aP hg w4 hbox hb;have aA:=Xa.mk (hbox);have GW173:=Xa.mk ((ge_ hg (Xj (bl_ HB)):w.heap.size≤aP));have GE173:=Xa.mk ((ge_ hg (Xj (bl_ HB)):w.heap.size≤aP));replace HB:=Xa.mk (Xi (bl_ HB) hb);clear hb hbox hg))
 (try simp only [Act.put,List.setIfInBounds_toArray,List.set_cons_zero,List.set_cons_succ])
 go_cut [5] (fun v5 wc=>∃ (kq:Nat) (aO:Bool),v5=.bool aO∧Xa (Ze.j0 kq a1 aO aB aD aC aJ aK aL=some r)∧Xa (kq≤k)∧Xa (wc.heap[aP]?=some (.cells #[.int .i64 aB,.int .i64 aD,.int .i64 aC,.int .i64 aJ,(.slice aS aK.length aU),(.slice aT aL.length aV)] 87 (0,0)))∧Xa (Below w.heap.size w wc))
 case first=>
  have H:=eG.out;clear eG;by_cases c5:aD ≥ 0
  ·rw [if_pos c5] at H;have aW:decide (0≤aD)=true:=dt_ c5;clear c5
   (first|rw [aW]|(simp only [i64_w,i32_w];rw [aW])|skip)
   have H':=Xa.mk H;clear H;obtain ⟨_,_,_,_,_,_⟩:=Zr aA.out;obtain ⟨_,_,_,_,_,_⟩:=Zt aA.out;go_wp2;go_meet
   case rel=>exact ⟨_,(decide (aD<3)),rg_,H',⟨by first|omega|exact nr_ _⟩,⟨ba_ aA⟩,⟨bl_ HB⟩⟩
  ·rw [if_neg c5] at H;have aW:decide (0≤aD)=false:=df_ c5;clear c5
   (first|rw [aW]|(simp only [i64_w,i32_w];rw [aW])|skip)
   have H':=Xa.mk H;clear H;obtain ⟨_,_,_,_,_,_⟩:=Zr aA.out;obtain ⟨_,_,_,_,_,_⟩:=Zt aA.out;go_wp2;go_meet
   case rel=>exact ⟨_,(false),rg_,H',⟨by first|omega|exact nr_ _⟩,⟨ba_ aA⟩,⟨bl_ HB⟩⟩
 case rest=>
  clear eG;obtain ⟨kq,aO,rfl,HA,HJ2,aA,HB⟩:=hcut
  cases kq with
  |zero=>exact absurd HA.out (by simp [Ze.j0])
  |succ eP=>
   have H:=HA.out;clear HA;simp only [Ze.j0] at H;have eH:=Xa.mk H;clear H;go_upto_region 2 with (fail)
   go_cut [6] (fun v6 wc=>∃ (kq:Nat) (aR:Bool),v6=.bool aR∧Xa (Ze.j1 kq a1 aO aR aB aD aC aJ aK aL=some r)∧Xa (kq≤eP)∧Xa (wc.heap[aP]?=some (.cells #[.int .i64 aB,.int .i64 aD,.int .i64 aC,.int .i64 aJ,(.slice aS aK.length aU),(.slice aT aL.length aV)] 87 (0,0)))∧Xa (Below w.heap.size w wc))
   case first=>
    have H:=eH.out;clear eH;by_cases c9:aC ≥ 0
    ·rw [if_pos c9] at H;have aX:decide (0≤aC)=true:=dt_ c9;clear c9
     (first|rw [aX]|(simp only [i64_w,i32_w];rw [aX])|skip)
     have H':=Xa.mk H;clear H;obtain ⟨_,_,_,_,_,_⟩:=Zr aA.out;obtain ⟨_,_,_,_,_,_⟩:=Zt aA.out;go_wp2;go_meet
     case rel=>exact ⟨_,(decide (aC<3)),rg_,H',⟨by have:=HJ2.out;first|omega|exact nr_ _⟩,⟨ba_ aA⟩,⟨bl_ HB⟩⟩
    ·rw [if_neg c9] at H;have aX:decide (0≤aC)=false:=df_ c9;clear c9
     (first|rw [aX]|(simp only [i64_w,i32_w];rw [aX])|skip)
     have H':=Xa.mk H;clear H;obtain ⟨_,_,_,_,_,_⟩:=Zr aA.out;obtain ⟨_,_,_,_,_,_⟩:=Zt aA.out;go_wp2;go_meet
     case rel=>exact ⟨_,(false),rg_,H',⟨by have:=HJ2.out;first|omega|exact nr_ _⟩,⟨ba_ aA⟩,⟨bl_ HB⟩⟩
   case rest=>
    clear eH;obtain ⟨kq,aR,rfl,HA,HJ7,aA,HB⟩:=hcut
    cases kq with
    |zero=>exact absurd HA.out (by simp [Ze.j1])
    |succ kj7=>
     have H:=HA.out;clear HA;simp only [Ze.j1] at H;by_cases c12:aB=1
     ·rw [if_pos c12] at H;have bT:(aB == 1)=true:=eb_ c12;have bU:(aB != 1)=false:=nq_ c12;clear c12;by_cases c13:aO=true
      ·subst c13
       replace H:(if aC=0 then ((Ui.f aJ).bind fun aQ=>(some aQ)) else (some false))=some r:=ph_;by_cases c14:aC=0
       ·rw [if_pos c14] at H;have bV:(aC == 0)=true:=eb_ c14;have bW:(aC != 0)=false:=nq_ c14;clear c14;replace H:=bo_ H;obtain ⟨aQ,bS,H⟩:=H;replace H:(some aQ)=some r:=H;have eO:=Xa.mk bS;clear bS;obtain rfl:=sj_ H;obtain ⟨_,_,_,_,_,_⟩:=Zr aA.out;obtain ⟨_,_,_,_,_,_⟩:=Zt aA.out;go_wp2_with (first|(go_at_call 92;(with_reducible refine (Ui.calls aJ aQ _ eO.out).mono ?_);rintro e w' ⟨rfl,⟨nd,rfl⟩⟩));go_ret
        exact ⟨rf_,bl_ HB⟩
       ·rw [if_neg c14] at H;have bV:(aC == 0)=false:=nb_ c14;have bW:(aC != 0)=true:=nn_ c14;obtain rfl:=sj_ H;obtain ⟨_,_,_,_,_,_⟩:=Zr aA.out;obtain ⟨_,_,_,_,_,_⟩:=Zt aA.out;go_wp2;go_ret
        exact ⟨rf_,bl_ HB⟩
      ·replace c13:=Bool.eq_false_iff.mpr c13;subst c13
       replace H:(some false)=some r:=fh_;obtain rfl:=sj_ H;obtain ⟨_,_,_,_,_,_⟩:=Zr aA.out;obtain ⟨_,_,_,_,_,_⟩:=Zt aA.out;go_wp2;go_ret
       exact ⟨rf_,bl_ HB⟩
     ·rw [if_neg c12] at H;have bT:(aB == 1)=false:=nb_ c12;have bU:(aB != 1)=true:=nn_ c12;by_cases c19:aB=2
      ·rw [if_pos c19] at H;have bX:(aB == 2)=true:=eb_ c19;have bY:(aB != 2)=false:=nq_ c19;clear c19;by_cases c20:aO=true
       ·subst c20
        replace H:(if aR=true then (if aJ ≥ 1 then (some (decide (aJ≤5))) else (some false)) else (some false))=some r:=ph_;by_cases c21:aR=true
        ·subst c21
         replace H:(if aJ ≥ 1 then (some (decide (aJ≤5))) else (some false))=some r:=ph_;by_cases bK:aJ ≥ 1
         ·rw [if_pos bK] at H;have bZ:decide (1≤aJ)=true:=dt_ bK;clear bK;obtain rfl:=sj_ H;obtain ⟨_,_,_,_,_,_⟩:=Zr aA.out;obtain ⟨_,_,_,_,_,_⟩:=Zt aA.out;go_wp2;go_ret
          exact ⟨rf_,bl_ HB⟩
         ·rw [if_neg bK] at H;have bZ:decide (1≤aJ)=false:=df_ bK;clear bK;obtain rfl:=sj_ H;obtain ⟨_,_,_,_,_,_⟩:=Zr aA.out;obtain ⟨_,_,_,_,_,_⟩:=Zt aA.out;go_wp2;go_ret
          exact ⟨rf_,bl_ HB⟩
        ·replace c21:=Bool.eq_false_iff.mpr c21;subst c21
         replace H:(some false)=some r:=fh_;obtain rfl:=sj_ H;obtain ⟨_,_,_,_,_,_⟩:=Zr aA.out;obtain ⟨_,_,_,_,_,_⟩:=Zt aA.out;go_wp2;go_ret
         exact ⟨rf_,bl_ HB⟩
       ·replace c20:=Bool.eq_false_iff.mpr c20;subst c20
        replace H:(some false)=some r:=fh_;obtain rfl:=sj_ H;obtain ⟨_,_,_,_,_,_⟩:=Zr aA.out;obtain ⟨_,_,_,_,_,_⟩:=Zt aA.out;go_wp2;go_ret
        exact ⟨rf_,bl_ HB⟩
      ·rw [if_neg c19] at H;have bX:(aB == 2)=false:=nb_ c19;have bY:(aB != 2)=true:=nn_ c19;by_cases bC:aB=3
       ·rw [if_pos bC] at H;have cB:(aB == 3)=true:=eb_ bC;have cK:(aB != 3)=false:=nq_ bC;clear bC;by_cases c28:aO=true
        ·subst c28
         replace H:(if aC ≥ 0 then (if aC<3 then (some (aJ == 0)) else (some false)) else (some false))=some r:=ph_;by_cases bL:aC ≥ 0
         ·rw [if_pos bL] at H;have cO:decide (0≤aC)=true:=dt_ bL;clear bL;by_cases bM:aC<3
          ·rw [if_pos bM] at H;have cZ:decide (aC<3)=true:=dt_ bM;clear bM;obtain rfl:=sj_ H;obtain ⟨_,_,_,_,_,_⟩:=Zr aA.out;obtain ⟨_,_,_,_,_,_⟩:=Zt aA.out;go_wp2;go_ret
           exact ⟨rf_,bl_ HB⟩
          ·rw [if_neg bM] at H;have cZ:decide (aC<3)=false:=df_ bM;clear bM;obtain rfl:=sj_ H;obtain ⟨_,_,_,_,_,_⟩:=Zr aA.out;obtain ⟨_,_,_,_,_,_⟩:=Zt aA.out;go_wp2;go_ret
           exact ⟨rf_,bl_ HB⟩
         ·rw [if_neg bL] at H;have cO:decide (0≤aC)=false:=df_ bL;clear bL;obtain rfl:=sj_ H;obtain ⟨_,_,_,_,_,_⟩:=Zr aA.out;obtain ⟨_,_,_,_,_,_⟩:=Zt aA.out;go_wp2;go_ret
          exact ⟨rf_,bl_ HB⟩
        ·replace c28:=Bool.eq_false_iff.mpr c28;subst c28
         replace H:(some false)=some r:=fh_;obtain rfl:=sj_ H;obtain ⟨_,_,_,_,_,_⟩:=Zr aA.out;obtain ⟨_,_,_,_,_,_⟩:=Zt aA.out;go_wp2;go_ret
         exact ⟨rf_,bl_ HB⟩
       ·rw [if_neg bC] at H;have cB:(aB == 3)=false:=nb_ bC;have cK:(aB != 3)=true:=nn_ bC;by_cases bD:aB=4
        ·rw [if_pos bD] at H;have dA:(aB == 4)=true:=eb_ bD;have dB:(aB != 4)=false:=nq_ bD;clear bD;by_cases bN:aD ≥ 0
         ·rw [if_pos bN] at H;have dC:decide (0≤aD)=true:=dt_ bN;clear bN;by_cases c37:aD<3
          ·rw [if_pos c37] at H;have dD:decide (aD<3)=true:=dt_ c37;clear c37;by_cases eD:aR=true
           ·subst eD
            replace H:(some (aJ == 0))=some r:=ph_;obtain rfl:=sj_ H;obtain ⟨_,_,_,_,_,_⟩:=Zr aA.out;obtain ⟨_,_,_,_,_,_⟩:=Zt aA.out;go_wp2;go_ret
            exact ⟨rf_,bl_ HB⟩
           ·replace eD:=Bool.eq_false_iff.mpr eD;subst eD
            replace H:(some false)=some r:=fh_;obtain rfl:=sj_ H;obtain ⟨_,_,_,_,_,_⟩:=Zr aA.out;obtain ⟨_,_,_,_,_,_⟩:=Zt aA.out;go_wp2;go_ret
            exact ⟨rf_,bl_ HB⟩
          ·rw [if_neg c37] at H;have dD:decide (aD<3)=false:=df_ c37;clear c37;obtain rfl:=sj_ H;obtain ⟨_,_,_,_,_,_⟩:=Zr aA.out;obtain ⟨_,_,_,_,_,_⟩:=Zt aA.out;go_wp2;go_ret
           exact ⟨rf_,bl_ HB⟩
         ·rw [if_neg bN] at H;have dC:decide (0≤aD)=false:=df_ bN;clear bN;obtain rfl:=sj_ H;obtain ⟨_,_,_,_,_,_⟩:=Zr aA.out;obtain ⟨_,_,_,_,_,_⟩:=Zt aA.out;go_wp2;go_ret
          exact ⟨rf_,bl_ HB⟩
        ·rw [if_neg bD] at H;have dA:(aB == 4)=false:=nb_ bD;have dB:(aB != 4)=true:=nn_ bD;by_cases bE:aB=5
         ·rw [if_pos bE] at H;have dE:(aB == 5)=true:=eb_ bE;have dF:(aB != 5)=false:=nq_ bE;clear bE;by_cases eF:aO=true
          ·subst eF
           replace H:(if aC=0 then (some (aJ == 0)) else (some false))=some r:=ph_;by_cases bF:aC=0
           ·rw [if_pos bF] at H;have dG:(aC == 0)=true:=eb_ bF;have dH:(aC != 0)=false:=nq_ bF;clear bF;obtain rfl:=sj_ H;obtain ⟨_,_,_,_,_,_⟩:=Zr aA.out;obtain ⟨_,_,_,_,_,_⟩:=Zt aA.out;go_wp2;go_ret
            exact ⟨rf_,bl_ HB⟩
           ·rw [if_neg bF] at H;have dG:(aC == 0)=false:=nb_ bF;have dH:(aC != 0)=true:=nn_ bF;obtain rfl:=sj_ H;obtain ⟨_,_,_,_,_,_⟩:=Zr aA.out;obtain ⟨_,_,_,_,_,_⟩:=Zt aA.out;go_wp2;go_ret
            exact ⟨rf_,bl_ HB⟩
          ·replace eF:=Bool.eq_false_iff.mpr eF;subst eF
           replace H:(some false)=some r:=fh_;obtain rfl:=sj_ H;obtain ⟨_,_,_,_,_,_⟩:=Zr aA.out;obtain ⟨_,_,_,_,_,_⟩:=Zt aA.out;go_wp2;go_ret
           exact ⟨rf_,bl_ HB⟩
         ·rw [if_neg bE] at H;have dE:(aB == 5)=false:=nb_ bE;have dF:(aB != 5)=true:=nn_ bE;by_cases c49:aB=9
          ·rw [if_pos c49] at H;have dI:(aB == 9)=true:=eb_ c49;have dJ:(aB != 9)=false:=nq_ c49;clear c49;by_cases bO:a1 ≥ 0
           ·rw [if_pos bO] at H;have dK:decide (0≤a1)=true:=dt_ bO;clear bO;by_cases c51:aD ≥ 0
            ·rw [if_pos c51] at H;have dL:decide (0≤aD)=true:=dt_ c51;clear c51;by_cases bP:aD<2
             ·rw [if_pos bP] at H;have dM:decide (aD<2)=true:=dt_ bP;clear bP;by_cases c53:aC=0
              ·rw [if_pos c53] at H;have dN:(aC == 0)=true:=eb_ c53;have dO:(aC != 0)=false:=nq_ c53;clear c53;obtain rfl:=sj_ H;obtain ⟨_,_,_,_,_,_⟩:=Zr aA.out;obtain ⟨_,_,_,_,_,_⟩:=Zt aA.out;go_wp2;go_ret
               exact ⟨rf_,bl_ HB⟩
              ·rw [if_neg c53] at H;have dN:(aC == 0)=false:=nb_ c53;have dO:(aC != 0)=true:=nn_ c53;obtain rfl:=sj_ H;obtain ⟨_,_,_,_,_,_⟩:=Zr aA.out;obtain ⟨_,_,_,_,_,_⟩:=Zt aA.out;go_wp2;go_ret
               exact ⟨rf_,bl_ HB⟩
             ·rw [if_neg bP] at H;have dM:decide (aD<2)=false:=df_ bP;clear bP;obtain rfl:=sj_ H;obtain ⟨_,_,_,_,_,_⟩:=Zr aA.out;obtain ⟨_,_,_,_,_,_⟩:=Zt aA.out;go_wp2;go_ret
              exact ⟨rf_,bl_ HB⟩
            ·rw [if_neg c51] at H;have dL:decide (0≤aD)=false:=df_ c51;clear c51;obtain rfl:=sj_ H;obtain ⟨_,_,_,_,_,_⟩:=Zr aA.out;obtain ⟨_,_,_,_,_,_⟩:=Zt aA.out;go_wp2;go_ret
             exact ⟨rf_,bl_ HB⟩
           ·rw [if_neg bO] at H;have dK:decide (0≤a1)=false:=df_ bO;clear bO;obtain rfl:=sj_ H;obtain ⟨_,_,_,_,_,_⟩:=Zr aA.out;obtain ⟨_,_,_,_,_,_⟩:=Zt aA.out;go_wp2;go_ret
            exact ⟨rf_,bl_ HB⟩
          ·rw [if_neg c49] at H;have dI:(aB == 9)=false:=nb_ c49;have dJ:(aB != 9)=true:=nn_ c49;by_cases c59:aB=10
           ·rw [if_pos c59] at H;have dP:(aB == 10)=true:=eb_ c59;have dQ:(aB != 10)=false:=nq_ c59;clear c59;by_cases bQ:aD ≥ 0
            ·rw [if_pos bQ] at H;have dR:decide (0≤aD)=true:=dt_ bQ;clear bQ;by_cases bR:aD<2
             ·rw [if_pos bR] at H;have dS:decide (aD<2)=true:=dt_ bR;clear bR;by_cases bG:aC=0
              ·rw [if_pos bG] at H;have dU:(aC == 0)=true:=eb_ bG;have dV:(aC != 0)=false:=nq_ bG;clear bG;obtain rfl:=sj_ H;obtain ⟨_,_,_,_,_,_⟩:=Zr aA.out;obtain ⟨_,_,_,_,_,_⟩:=Zt aA.out;go_wp2;go_ret
               exact ⟨rf_,bl_ HB⟩
              ·rw [if_neg bG] at H;have dU:(aC == 0)=false:=nb_ bG;have dV:(aC != 0)=true:=nn_ bG;obtain rfl:=sj_ H;obtain ⟨_,_,_,_,_,_⟩:=Zr aA.out;obtain ⟨_,_,_,_,_,_⟩:=Zt aA.out;go_wp2;go_ret
               exact ⟨rf_,bl_ HB⟩
             ·rw [if_neg bR] at H;have dS:decide (aD<2)=false:=df_ bR;clear bR;obtain rfl:=sj_ H;obtain ⟨_,_,_,_,_,_⟩:=Zr aA.out;obtain ⟨_,_,_,_,_,_⟩:=Zt aA.out;go_wp2;go_ret
              exact ⟨rf_,bl_ HB⟩
            ·rw [if_neg bQ] at H;have dR:decide (0≤aD)=false:=df_ bQ;clear bQ;obtain rfl:=sj_ H;obtain ⟨_,_,_,_,_,_⟩:=Zr aA.out;obtain ⟨_,_,_,_,_,_⟩:=Zt aA.out;go_wp2;go_ret
             exact ⟨rf_,bl_ HB⟩
           ·rw [if_neg c59] at H;have dP:(aB == 10)=false:=nb_ c59;have dQ:(aB != 10)=true:=nn_ c59;by_cases bH:aB=11
            ·rw [if_pos bH] at H;have dW:(aB == 11)=true:=eb_ bH;have dX:(aB != 11)=false:=nq_ bH;clear bH;by_cases bI:aD=0
             ·rw [if_pos bI] at H;have dY:(aD == 0)=true:=eb_ bI;have dZ:(aD != 0)=false:=nq_ bI;clear bI;by_cases bJ:aC=0
              ·rw [if_pos bJ] at H;have d9:(aC == 0)=true:=eb_ bJ;have eB:(aC != 0)=false:=nq_ bJ;clear bJ;obtain rfl:=sj_ H;obtain ⟨_,_,_,_,_,_⟩:=Zr aA.out;obtain ⟨_,_,_,_,_,_⟩:=Zt aA.out;go_wp2;go_ret
               exact ⟨rf_,bl_ HB⟩
              ·rw [if_neg bJ] at H;have d9:(aC == 0)=false:=nb_ bJ;have eB:(aC != 0)=true:=nn_ bJ;obtain rfl:=sj_ H;obtain ⟨_,_,_,_,_,_⟩:=Zr aA.out;obtain ⟨_,_,_,_,_,_⟩:=Zt aA.out;go_wp2;go_ret
               exact ⟨rf_,bl_ HB⟩
             ·rw [if_neg bI] at H;have dY:(aD == 0)=false:=nb_ bI;have dZ:(aD != 0)=true:=nn_ bI;obtain rfl:=sj_ H;obtain ⟨_,_,_,_,_,_⟩:=Zr aA.out;obtain ⟨_,_,_,_,_,_⟩:=Zt aA.out;go_wp2;go_ret
              exact ⟨rf_,bl_ HB⟩
            ·rw [if_neg bH] at H;have dW:(aB == 11)=false:=nb_ bH;have dX:(aB != 11)=true:=nn_ bH;obtain rfl:=sj_ H;obtain ⟨_,_,_,_,_,_⟩:=Zr aA.out;obtain ⟨_,_,_,_,_,_⟩:=Zt aA.out;go_wp2;go_ret
             exact ⟨rf_,bl_ HB⟩
end Go.Proofs.YtlhogkfmdnpmkaaGreat.GMarks
