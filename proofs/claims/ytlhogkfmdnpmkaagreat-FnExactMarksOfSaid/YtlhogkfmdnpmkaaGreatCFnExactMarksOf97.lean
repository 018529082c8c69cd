import Derived.Test.YtlhogkfmdnpmkaaGreatCFnExactMarksOf96
set_option linter.unusedVariables false
set_option linter.unusedSimpArgs false
set_option maxHeartbeats 8000000
set_option maxRecDepth 100000
namespace Go.Proofs.YtlhogkfmdnpmkaaGreat.GMarks
open RowKit YtlhogkfmdnpmkaaGreatW.PrintWords YtlhogkfmdnpmkaaGreatW.PrintLast YtlhogkfmdnpmkaaGreatW.PrintMore
attribute [local go_sem] Ua Ud Uu Ux Zo Zp Ub Ue
mutual
def Ye.j0:Nat→Int→Int→Bool→Int→Int→Int→Int→List (S87)→List (S87)→Option (Bool)
 |0,_,_,_,_,_,_,_,_,_=>none
 |k+1,x1,x2,gD,aJ,aK,aQ,aR,aP,bD=>if gD=true then (some false) else (if aJ=6 then (Ye.j1 k x1 x2 aJ (aJ == 6) aJ aK aQ aR aP bD) else (Ye.j1 k x1 x2 aJ (aJ == 7) aJ aK aQ aR aP bD))
def Ye.j1:Nat→Int→Int→Int→Bool→Int→Int→Int→Int→List (S87)→List (S87)→Option (Bool)
 |0,_,_,_,_,_,_,_,_,_,_=>none
 |k+1,x1,x2,gF,gG,aJ,aK,aQ,aR,aP,bD=>if gG=true then (if aK ≥ 0 then (if aK<3 then (if aQ=0 then (if aR=0 then ((Yi.f k aP (wrap64 (x1 - 1)) x2).bind fun bZ=>(if bZ=true then ((Yi.f k bD (wrap64 (x1 - 1)) x2).bind fun bF=>(some bF)) else (some false))) else (some false)) else (some false)) else (some false)) else (some false)) else (if gF=8 then (if x2<0 then (if aK ≥ 0 then (if aK<2 then (if aQ=0 then (if aR=0 then ((Yi.f k aP (wrap64 (x1 - 1)) aK).bind fun cB=>(some cB)) else (some false)) else (some false)) else (some false)) else (some false)) else (some false)) else (if (aP.length:Int)=0 then ((Ze.f k aJ aK aQ aR aP bD x2).bind fun cK=>(some cK)) else (some false)))
def Ye.f:Nat→Int→Int→Int→Int→List (S87)→List (S87)→Int→Int→Option (Bool)
 |0,_,_,_,_,_,_,_,_=>none
 |k+1,aB,aF,aG,aH,aC,aD,a1,a2=>if aB=6 then (Ye.j0 k a1 a2 (decide (a1<1)) aB aF aG aH aC aD) else (if (aD.length:Int) > 0 then (Ye.j0 k a1 a2 true aB aF aG aH aC aD) else (Ye.j0 k a1 a2 (decide (a1<1)) aB aF aG aH aC aD))
def Yi.l0:Nat→List (S87)→Int→Int→Int→Option (Bool)
 |0,_,_,_,_=>none
 |k+1,x0,x1,x2,x7=>if x7<(x0.length:Int) then (if 0≤x7 then ((Ye.f k ((Xe x0 x7).f0) ((Xe x0 x7).f1) ((Xe x0 x7).f2) ((Xe x0 x7).f3) ((Xe x0 x7).f4) ((Xe x0 x7).f5) x1 x2).bind fun dM=>(if dM=true then (Yi.l0 k x0 x1 x2 (wrap64 (x7+1))) else (some false))) else (none)) else (some true)
def Yi.f:Nat→List (S87)→Int→Int→Option (Bool)
 |0,_,_,_=>none
 |k+1,l0,a1,a2=>Yi.l0 k l0 a1 a2 0
end
theorem Ye.step (k:Nat) (ih:∀ m_,m_<k→∀ (aB:Int) (aF:Int) (aG:Int) (aH:Int) (aL:Option Addr) (aN:Nat) (aC:List (S87)) (aM:Option Addr) (aO:Nat) (aD:List (S87)) (a1:Int) (a2:Int) (r:Bool) (w:World) (bI:Kd.C k87 w aL aC.length aC) (bG:aC.length≤aN) (bJ:Kd.C k87 w aM aD.length aD) (bH:aD.length≤aO) (h:Ye.f m_ aB aF aG aH aC aD a1 a2=some r),
  Calls Tryz.prog 91 #[.agg #[.int .i64 aB,.int .i64 aF,.int .i64 aG,.int .i64 aH,.slice aL aC.length aN,.slice aM aD.length aO],.int .i64 a1,.int .i64 a2] w fun e w'=>e=.returned (.bool r)∧Below w.heap.size w w') (ih_spec_l2List:∀ m_,m_<k→∀ (A0:Option Addr) (c0:Nat) (l0:List (S87)) (a1:Int) (a2:Int) (r:Bool) (w:World) (hr0:Kd.C k87 w A0 l0.length l0) (hc0:l0.length≤c0) (h:Yi.f m_ l0 a1 a2=some r),
  Calls Tryz.prog 74 #[.slice A0 l0.length c0,.int .i64 a1,.int .i64 a2] w fun e w'=>e=.returned (.bool r)∧Below w.heap.size w w'):∀ (aB:Int) (aF:Int) (aG:Int) (aH:Int) (aL:Option Addr) (aN:Nat) (aC:List (S87)) (aM:Option Addr) (aO:Nat) (aD:List (S87)) (a1:Int) (a2:Int) (r:Bool) (w:World) (bI:Kd.C k87 w aL aC.length aC) (bG:aC.length≤aN) (bJ:Kd.C k87 w aM aD.length aD) (bH:aD.length≤aO) (h:Ye.f k aB aF aG aH aC aD a1 a2=some r),
  Calls Tryz.prog 91 #[.agg #[.int .i64 aB,.int .i64 aF,.int .i64 aG,.int .i64 aH,.slice aL aC.length aN,.slice aM aD.length aO],.int .i64 a1,.int .i64 a2] w fun e w'=>e=.returned (.bool r)∧Below w.heap.size w w':=by
 intro aB aF aG aH aL aN aC aM aO aD a1 a2 r w bI bG bJ bH h
 cases k with
 |zero=>exact absurd h (by simp [Ye.f])
 |succ k=>
 simp only [Ye.f] at h;have fO:=Tryz.underlying87;have bX:=Xa.mk bI;have bW:=Xa.mk bG;clear bI bG;have dO:=Xa.mk bJ;have dN:=Xa.mk bH;clear bJ bH;have HB:=Xa.mk (Below.refl w.heap.size w);have H:(if aB=6 then (Ye.j0 k a1 a2 (decide (a1<1)) aB aF aG aH aC aD) else (if (aD.length:Int) > 0 then (Ye.j0 k a1 a2 true aB aF aG aH aC aD) else (Ye.j0 k a1 a2 (decide (a1<1)) aB aF aG aH aC aD)))=some r:=h;clear h;have fH:=Xa.mk H;clear H;go_enter Tryz.func91,Tryz.ntmps91;go_upto_region 1 with (first|((with_reducible refine Yv (N:=3) rfl ?_);(try (refine gate_guard rl1_ ?_;dsimp only));refine Zb ?hg (N:=3) ?hd (cs:=#[.int .i64 aB,.int .i64 aF,.int .i64 aG,.int .i64 aH,.slice aL aC.length aN,.slice aM aD.length aO]) (t:=87) ?hr ?_;(case hd|hg=>rfl);(case hr=>exact hr_);intro aS hg w5 hbox hb;have aA:=Xa.mk (hbox);have GW175:=Xa.mk ((ge_ hg (Xj (bl_ HB)):w.heap.size≤aS));have GE175:=Xa.mk ((ge_ hg (Xj (bl_ HB)):w.heap.size≤aS));replace HB:=Xa.mk (Xi (bl_ HB) hb);clear hb hbox hg))
 (try simp only [Act.put,List.setIfInBounds_toArray,List.set_cons_zero,List.set_cons_succ])
 go_cut [19] (fun v19 wc=>∃ (kq:Nat) (bY:Bool),v19=.bool bY∧Xa (Ye.j0 kq a1 a2 bY aB aF aG aH aC aD=some r)∧Xa (kq≤k)∧Xa (wc.heap[aS]?=some (.cells #[.int .i64 aB,.int .i64 aF,.int .i64 aG,.int .i64 aH,(.slice aL aC.length aN),(.slice aM aD.length aO)] 87 (0,0)))∧Xa (Below w.heap.size w wc))
 case first=>
  have H:=fH.out;clear fH;by_cases c6:aB=6
  ·rw [if_pos c6] at H;have cO:(aB == 6)=true:=eb_ c6;have fJ:(aB != 6)=false:=nq_ c6;clear c6
   (first|rw [cO]|(simp only [i64_w,i32_w];rw [cO])|skip)
   have H':=Xa.mk H;clear H;obtain ⟨_,_,_,_,_,_⟩:=Zr aA.out;obtain ⟨_,_,_,_,_,_⟩:=Zt aA.out;go_wp2;go_meet
   case rel=>exact ⟨_,(decide (a1<1)),rg_,H',⟨by first|omega|exact nr_ _⟩,⟨ba_ aA⟩,⟨bl_ HB⟩⟩
  ·rw [if_neg c6] at H;have cO:(aB == 6)=false:=nb_ c6;have fJ:(aB != 6)=true:=nn_ c6
   (first|rw [cO]|(simp only [i64_w,i32_w];rw [cO])|skip)
   by_cases c8:(aD.length:Int) > 0
   ·rw [if_pos c8] at H;have fK:decide (0<(aD.length:Int))=true:=dt_ c8;have fM:decide (0<aD.length)=true:=dt_ om_;clear c8;have H':=Xa.mk H;clear H;obtain ⟨_,_,_,_,_,_⟩:=Zr aA.out;obtain ⟨_,_,_,_,_,_⟩:=Zt aA.out;go_wp2;go_meet
    case rel=>exact ⟨_,(true),rg_,H',⟨by first|omega|exact nr_ _⟩,⟨ba_ aA⟩,⟨bl_ HB⟩⟩
   ·rw [if_neg c8] at H;have fK:decide (0<(aD.length:Int))=false:=df_ c8;have fM:decide (0<aD.length)=false:=df_ om_;clear c8;have H':=Xa.mk H;clear H;obtain ⟨_,_,_,_,_,_⟩:=Zr aA.out;obtain ⟨_,_,_,_,_,_⟩:=Zt aA.out;go_wp2;go_meet
    case rel=>exact ⟨_,(decide (a1<1)),rg_,H',⟨by first|omega|exact nr_ _⟩,⟨ba_ aA⟩,⟨bl_ HB⟩⟩
 case rest=>
  clear fH;obtain ⟨kq,bY,rfl,HA,dU,aA,HB⟩:=hcut
  cases kq with
  |zero=>exact absurd HA.out (by simp [Ye.j0])
  |succ fP=>
   have H:=HA.out;clear HA;simp only [Ye.j0] at H;by_cases c11:bY=true
   ·subst c11
    replace H:(some false)=some r:=ph_;obtain rfl:=sj_ H;go_wp2;go_ret
    exact ⟨rf_,bl_ HB⟩
   ·replace c11:=Bool.eq_false_iff.mpr c11;subst c11
    replace H:(if aB=6 then (Ye.j1 fP a1 a2 aB (aB == 6) aB aF aG aH aC aD) else (Ye.j1 fP a1 a2 aB (aB == 7) aB aF aG aH aC aD))=some r:=fh_;have dP:=Xa.mk H;clear H;obtain ⟨dA,dB,dC,dD,dE,dF⟩:=Zr aA.out;obtain ⟨dG,dH,dI,dJ,dK,dL⟩:=Zt aA.out;go_upto_if 22 with (fail)
    go_cut [22] (fun v22 wc=>∃ (kq:Nat) (bO:Bool),v22=.bool bO∧Xa (Ye.j1 kq a1 a2 aB bO aB aF aG aH aC aD=some r)∧Xa (kq≤fP)∧Xa (wc.heap[aS]?=some (.cells #[.int .i64 aB,.int .i64 aF,.int .i64 aG,.int .i64 aH,(.slice aL aC.length aN),(.slice aM aD.length aO)] 87 (0,0)))∧Xa (Below w.heap.size w wc))
    case first=>
     have H:=dP.out;clear dP;by_cases c14:aB=6
     ·rw [if_pos c14] at H;have bP:(aB == 6)=true:=eb_ c14;have eD:(aB != 6)=false:=nq_ c14;clear c14
      (first|rw [bP]|(simp only [i64_w,i32_w];rw [bP])|skip)
      have H':=Xa.mk H;clear H;go_wp2;go_meet
      case rel=>exact ⟨_,((aB == 6)),rg_,H',⟨by have:=dU.out;first|omega|exact nr_ _⟩,⟨ba_ aA⟩,⟨bl_ HB⟩⟩
     ·rw [if_neg c14] at H;have bP:(aB == 6)=false:=nb_ c14;have eD:(aB != 6)=true:=nn_ c14
      (first|rw [bP]|(simp only [i64_w,i32_w];rw [bP])|skip)
      have H':=Xa.mk H;clear H;go_wp2;go_meet
      case rel=>exact ⟨_,((aB == 7)),rg_,H',⟨by have:=dU.out;first|omega|exact nr_ _⟩,⟨ba_ aA⟩,⟨bl_ HB⟩⟩
    case rest=>
     clear dP
     try clear c11
     try clear dA
     try clear dB
     try clear dC
     try clear dD
     try clear dE
     try clear dF
     try clear dG
     try clear dH
     try clear dI
     try clear dJ
     try clear dK
     try clear dL
     obtain ⟨kq,bO,rfl,HA,cZ,aA,HB⟩:=hcut
     cases kq with
     |zero=>exact absurd HA.out (by simp [Ye.j1])
     |succ bE=>
      have H:=HA.out;clear HA;simp only [Ye.j1] at H;by_cases c15:bO=true
      ·subst c15
       replace H:(if aF ≥ 0 then (if aF<3 then (if aG=0 then (if aH=0 then ((Yi.f bE aC (wrap64 (a1 - 1)) a2).bind fun bZ=>(if bZ=true then ((Yi.f bE aD (wrap64 (a1 - 1)) a2).bind fun bF=>(some bF)) else (some false))) else (some false)) else (some false)) else (some false)) else (some false))=some r:=ph_;by_cases c16:aF ≥ 0
       ·rw [if_pos c16] at H;have eF:decide (0≤aF)=true:=dt_ c16;clear c16;by_cases c17:aF<3
        ·rw [if_pos c17] at H;have eG:decide (aF<3)=true:=dt_ c17;clear c17;by_cases c18:aG=0
         ·rw [if_pos c18] at H;have eH:(aG == 0)=true:=eb_ c18;have eO:(aG != 0)=false:=nq_ c18;clear c18;by_cases c19:aH=0
          ·rw [if_pos c19] at H;have eP:(aH == 0)=true:=eb_ c19;have eQ:(aH != 0)=false:=nq_ c19;clear c19;replace H:=bo_ H;obtain ⟨bZ,dX,H⟩:=H;replace H:(if bZ=true then ((Yi.f bE aD (wrap64 (a1 - 1)) a2).bind fun bF=>(some bF)) else (some false))=some r:=H;have fQ:=Xa.mk dX;clear dX;by_cases c21:bZ=true
           ·subst c21
            replace H:((Yi.f bE aD (wrap64 (a1 - 1)) a2).bind fun bF=>(some bF))=some r:=ph_;replace H:=bo_ H;obtain ⟨bF,dY,H⟩:=H;replace H:(some bF)=some r:=H;have fV:=Xa.mk dY;clear dY;obtain rfl:=sj_ H;obtain ⟨_,_,_,_,_,_⟩:=Zr aA.out;obtain ⟨_,_,_,_,_,_⟩:=Zt aA.out;go_wp2_with (first|(go_at_call 74;(with_reducible refine (ih_spec_l2List bE (by have:=dU.out;have:=cZ.out;omega) _ _ aC (wrap64 (a1 - 1)) a2 true _ ?side1 ?side2 fQ.out).mono ?_);(case side1=>exact Kd.ca_ (Kd.Xy bX.out HB.out));(case side2=>exact bW.out);rintro e w24 ⟨rfl,hb⟩;replace aA:=Xa.mk (Xm (g:=aS) (o:=.cells #[.int .i64 aB,.int .i64 aF,.int .i64 aG,.int .i64 aH,.slice aL aC.length aN,.slice aM aD.length aO] 87 (0,0)) (ba_ aA) hb);replace HB:=Xa.mk (Xi (bl_ HB) hb);clear hb;obtain ⟨_,_,_,_,_,_⟩:=Zr aA.out;obtain ⟨_,_,_,_,_,_⟩:=Zt aA.out)|(go_at_call 74;(with_reducible refine (ih_spec_l2List bE (by have:=dU.out;have:=cZ.out;omega) _ _ aD (wrap64 (a1 - 1)) a2 bF _ ?side1 ?side2 fV.out).mono ?_);(case side1=>exact Kd.ca_ (Kd.Xy dO.out HB.out));(case side2=>exact dN.out);rintro e w26 ⟨rfl,hb⟩;replace aA:=Xa.mk (Xm (g:=aS) (o:=.cells #[.int .i64 aB,.int .i64 aF,.int .i64 aG,.int .i64 aH,.slice aL aC.length aN,.slice aM aD.length aO] 87 (0,0)) (ba_ aA) hb);replace HB:=Xa.mk (Xi (bl_ HB) hb);clear hb));go_ret
            exact ⟨rf_,bl_ HB⟩
           ·replace c21:=Bool.eq_false_iff.mpr c21;subst c21
            replace H:(some false)=some r:=fh_;obtain rfl:=sj_ H;obtain ⟨_,_,_,_,_,_⟩:=Zr aA.out;obtain ⟨_,_,_,_,_,_⟩:=Zt aA.out;go_wp2_with (first|(go_at_call 74;(with_reducible refine (ih_spec_l2List bE (by have:=dU.out;have:=cZ.out;omega) _ _ aC (wrap64 (a1 - 1)) a2 false _ ?side1 ?side2 fQ.out).mono ?_);(case side1=>exact Kd.ca_ (Kd.Xy bX.out HB.out));(case side2=>exact bW.out);rintro e w28 ⟨rfl,hb⟩;replace aA:=Xa.mk (Xm (g:=aS) (o:=.cells #[.int .i64 aB,.int .i64 aF,.int .i64 aG,.int .i64 aH,.slice aL aC.length aN,.slice aM aD.length aO] 87 (0,0)) (ba_ aA) hb);replace HB:=Xa.mk (Xi (bl_ HB) hb);clear hb));go_ret
            exact ⟨rf_,bl_ HB⟩
          ·rw [if_neg c19] at H;have eP:(aH == 0)=false:=nb_ c19;have eQ:(aH != 0)=true:=nn_ c19;obtain rfl:=sj_ H;obtain ⟨_,_,_,_,_,_⟩:=Zr aA.out;obtain ⟨_,_,_,_,_,_⟩:=Zt aA.out;go_wp2;go_ret
           exact ⟨rf_,bl_ HB⟩
         ·rw [if_neg c18] at H;have eH:(aG == 0)=false:=nb_ c18;have eO:(aG != 0)=true:=nn_ c18;obtain rfl:=sj_ H;obtain ⟨_,_,_,_,_,_⟩:=Zr aA.out;obtain ⟨_,_,_,_,_,_⟩:=Zt aA.out;go_wp2;go_ret
          exact ⟨rf_,bl_ HB⟩
        ·rw [if_neg c17] at H;have eG:decide (aF<3)=false:=df_ c17;clear c17;obtain rfl:=sj_ H;obtain ⟨_,_,_,_,_,_⟩:=Zr aA.out;obtain ⟨_,_,_,_,_,_⟩:=Zt aA.out;go_wp2;go_ret
         exact ⟨rf_,bl_ HB⟩
       ·rw [if_neg c16] at H;have eF:decide (0≤aF)=false:=df_ c16;clear c16;obtain rfl:=sj_ H;obtain ⟨_,_,_,_,_,_⟩:=Zr aA.out;obtain ⟨_,_,_,_,_,_⟩:=Zt aA.out;go_wp2;go_ret
        exact ⟨rf_,bl_ HB⟩
      ·replace c15:=Bool.eq_false_iff.mpr c15;subst c15
       replace H:(if aB=8 then (if a2<0 then (if aF ≥ 0 then (if aF<2 then (if aG=0 then (if aH=0 then ((Yi.f bE aC (wrap64 (a1 - 1)) aF).bind fun cB=>(some cB)) else (some false)) else (some false)) else (some false)) else (some false)) else (some false)) else (if (aC.length:Int)=0 then ((Ze.f bE aB aF aG aH aC aD a2).bind fun cK=>(some cK)) else (some false)))=some r:=fh_;by_cases dQ:aB=8
       ·rw [if_pos dQ] at H;have eT:(aB == 8)=true:=eb_ dQ;have eU:(aB != 8)=false:=nq_ dQ;clear dQ;by_cases c34:a2<0
        ·rw [if_pos c34] at H;have eX:decide (a2<0)=true:=dt_ c34;clear c34;by_cases dV:aF ≥ 0
         ·rw [if_pos dV] at H;have eY:decide (0≤aF)=true:=dt_ dV;clear dV;by_cases dW:aF<2
          ·rw [if_pos dW] at H;have eZ:decide (aF<2)=true:=dt_ dW;clear dW;by_cases c37:aG=0
           ·rw [if_pos c37] at H;have fA:(aG == 0)=true:=eb_ c37;have fB:(aG != 0)=false:=nq_ c37;clear c37;by_cases dR:aH=0
            ·rw [if_pos dR] at H;have fC:(aH == 0)=true:=eb_ dR;have fD:(aH != 0)=false:=nq_ dR;clear dR;replace H:=bo_ H;obtain ⟨cB,dZ,H⟩:=H;replace H:(some cB)=some r:=H;have fZ:=Xa.mk dZ;clear dZ;obtain rfl:=sj_ H;obtain ⟨_,_,_,_,_,_⟩:=Zr aA.out;obtain ⟨_,_,_,_,_,_⟩:=Zt aA.out;go_wp2_with (first|(go_at_call 74;(with_reducible refine (ih_spec_l2List bE (by have:=dU.out;have:=cZ.out;omega) _ _ aC (wrap64 (a1 - 1)) aF cB _ ?side1 ?side2 fZ.out).mono ?_);(case side1=>exact Kd.ca_ (Kd.Xy bX.out HB.out));(case side2=>exact bW.out);rintro e w41 ⟨rfl,hb⟩;replace aA:=Xa.mk (Xm (g:=aS) (o:=.cells #[.int .i64 aB,.int .i64 aF,.int .i64 aG,.int .i64 aH,.slice aL aC.length aN,.slice aM aD.length aO] 87 (0,0)) (ba_ aA) hb);replace HB:=Xa.mk (Xi (bl_ HB) hb);clear hb));go_ret
             exact ⟨rf_,bl_ HB⟩
            ·rw [if_neg dR] at H;have fC:(aH == 0)=false:=nb_ dR;have fD:(aH != 0)=true:=nn_ dR;obtain rfl:=sj_ H;obtain ⟨_,_,_,_,_,_⟩:=Zr aA.out;obtain ⟨_,_,_,_,_,_⟩:=Zt aA.out;go_wp2;go_ret
             exact ⟨rf_,bl_ HB⟩
           ·rw [if_neg c37] at H;have fA:(aG == 0)=false:=nb_ c37;have fB:(aG != 0)=true:=nn_ c37;obtain rfl:=sj_ H;obtain ⟨_,_,_,_,_,_⟩:=Zr aA.out;obtain ⟨_,_,_,_,_,_⟩:=Zt aA.out;go_wp2;go_ret
            exact ⟨rf_,bl_ HB⟩
          ·rw [if_neg dW] at H;have eZ:decide (aF<2)=false:=df_ dW;clear dW;obtain rfl:=sj_ H;obtain ⟨_,_,_,_,_,_⟩:=Zr aA.out;obtain ⟨_,_,_,_,_,_⟩:=Zt aA.out;go_wp2;go_ret
           exact ⟨rf_,bl_ HB⟩
         ·rw [if_neg dV] at H;have eY:decide (0≤aF)=false:=df_ dV;clear dV;obtain rfl:=sj_ H;obtain ⟨_,_,_,_,_,_⟩:=Zr aA.out;obtain ⟨_,_,_,_,_,_⟩:=Zt aA.out;go_wp2;go_ret
          exact ⟨rf_,bl_ HB⟩
        ·rw [if_neg c34] at H;have eX:decide (a2<0)=false:=df_ c34;clear c34;obtain rfl:=sj_ H;go_wp2;go_ret
         exact ⟨rf_,bl_ HB⟩
       ·rw [if_neg dQ] at H;have eT:(aB == 8)=false:=nb_ dQ;have eU:(aB != 8)=true:=nn_ dQ;by_cases c46:(aC.length:Int)=0
        ·rw [if_pos c46] at H;have fE:((aC.length:Int) == 0)=true:=eb_ c46;have fF:((aC.length:Int) != 0)=false:=nq_ c46;clear c46;replace H:=bo_ H;obtain ⟨cK,d9,H⟩:=H;replace H:(some cK)=some r:=H;have gB:=Xa.mk d9;clear d9;obtain rfl:=sj_ H;obtain ⟨_,_,_,_,_,_⟩:=Zr aA.out;obtain ⟨_,_,_,_,_,_⟩:=Zt aA.out;go_wp2_with (first|(go_at_call 100;(with_reducible refine (Ze.calls bE aB aF aG aH _ _ aC _ _ aD a2 cK _ ?side1 ?side2 ?side3 ?side4 gB.out).mono ?_);(case side1=>exact Kd.ca_ (Kd.Xy bX.out HB.out));(case side2=>exact bW.out);(case side3=>exact Kd.ca_ (Kd.Xy dO.out HB.out));(case side4=>exact dN.out);rintro e w49 ⟨rfl,hb⟩;replace aA:=Xa.mk (Xm (g:=aS) (o:=.cells #[.int .i64 aB,.int .i64 aF,.int .i64 aG,.int .i64 aH,.slice aL aC.length aN,.slice aM aD.length aO] 87 (0,0)) (ba_ aA) hb);replace HB:=Xa.mk (Xi (bl_ HB) hb);clear hb));go_ret
         exact ⟨rf_,bl_ HB⟩
        ·rw [if_neg c46] at H;have fE:((aC.length:Int) == 0)=false:=nb_ c46;have fF:((aC.length:Int) != 0)=true:=nn_ c46;have c46b2:¬ (aC=[]):=fun h_=>c46 (by rw [h_];rfl);obtain rfl:=sj_ H;obtain ⟨_,_,_,_,_,_⟩:=Zr aA.out;obtain ⟨_,_,_,_,_,_⟩:=Zt aA.out;go_wp2;go_ret
         exact ⟨rf_,bl_ HB⟩
theorem Yi.step (k:Nat) (ih_spec_l2Stmt:∀ m_,m_<k→∀ (aB:Int) (aF:Int) (aG:Int) (aH:Int) (aL:Option Addr) (aN:Nat) (aC:List (S87)) (aM:Option Addr) (aO:Nat) (aD:List (S87)) (a1:Int) (a2:Int) (r:Bool) (w:World) (bI:Kd.C k87 w aL aC.length aC) (bG:aC.length≤aN) (bJ:Kd.C k87 w aM aD.length aD) (bH:aD.length≤aO) (h:Ye.f m_ aB aF aG aH aC aD a1 a2=some r),
  Calls Tryz.prog 91 #[.agg #[.int .i64 aB,.int .i64 aF,.int .i64 aG,.int .i64 aH,.slice aL aC.length aN,.slice aM aD.length aO],.int .i64 a1,.int .i64 a2] w fun e w'=>e=.returned (.bool r)∧Below w.heap.size w w') (ih:∀ m_,m_<k→∀ (A0:Option Addr) (c0:Nat) (l0:List (S87)) (a1:Int) (a2:Int) (r:Bool) (w:World) (hr0:Kd.C k87 w A0 l0.length l0) (hc0:l0.length≤c0) (h:Yi.f m_ l0 a1 a2=some r),
  Calls Tryz.prog 74 #[.slice A0 l0.length c0,.int .i64 a1,.int .i64 a2] w fun e w'=>e=.returned (.bool r)∧Below w.heap.size w w'):∀ (A0:Option Addr) (c0:Nat) (l0:List (S87)) (a1:Int) (a2:Int) (r:Bool) (w:World) (hr0:Kd.C k87 w A0 l0.length l0) (hc0:l0.length≤c0) (h:Yi.f k l0 a1 a2=some r),
  Calls Tryz.prog 74 #[.slice A0 l0.length c0,.int .i64 a1,.int .i64 a2] w fun e w'=>e=.returned (.bool r)∧Below w.heap.size w w':=by
 intro A0 c0 l0 a1 a2 r w hr0 hc0 h
 cases k with
 |zero=>exact absurd h (by simp [Yi.f])
 |succ k=>
 simp only [Yi.f] at h;have fO:=Tryz.underlying87;have fU:=Xa.mk hr0;have HC0:=Xa.mk hc0;clear hr0 hc0;have HB:=Xa.mk (Below.refl w.heap.size w);have H:(Yi.l0 k l0 a1 a2 0)=some r:=h;clear h;have H':=Xa.mk H;clear H;go_enter Tryz.func74,Tryz.ntmps74;go_wp2
 go_loopg [7] k (fun kq v7 w'=>∃ (aI:Int),v7=.int .i64 aI∧Xa (Yi.l0 kq l0 a1 a2 aI=some r)∧Xa (kq≤k)∧Xa (Below w.heap.size w w'))
 case atStart=>exact ⟨(0),rg_,H',⟨nr_ _⟩,⟨bl_ HB⟩⟩
 case round=>
  clear H';obtain ⟨aI,rfl,HA,fG,HB⟩:=hrel
  cases gk with
  |zero=>exact absurd HA.out (by simp [Yi.l0])
  |succ k1=>
   have H:=HA.out;clear HA;simp only [Yi.l0] at H;by_cases c4:aI<(l0.length:Int)
   ·rw [if_pos c4] at H;have fI:decide (aI<(l0.length:Int))=true:=dt_ c4;clear c4;by_cases c5:0≤aI
    ·rw [if_pos c5] at H;have c5b0:decide (0≤aI)=true:=dt_ c5;clear c5;replace H:=bo_ H;obtain ⟨dM,fT,H⟩:=H;replace H:(if dM=true then (Yi.l0 k1 l0 a1 a2 (wrap64 (aI+1))) else (some false))=some r:=H;have A6:=Xa.mk fT;clear fT;by_cases c7:dM=true
     ·subst c7
      replace H:(Yi.l0 k1 l0 a1 a2 (wrap64 (aI+1)))=some r:=ph_;have H':=Xa.mk H;clear H;have bU:0≤(aI:Int):=od_ as_;have bV:aI<(l0.length:Int):=od_ as_;obtain ⟨eB,bQ,bS,bR,bT,dS,aX,aY,aZ,bA,bB,bC,aV,aT,aW,aU⟩:=at_T87 fU.out aI bU bV;cases dS
      replace aX:=bw_ HB aX;replace aY:=bw_ HB aY;replace aZ:=bw_ HB aZ;replace bA:=bw_ HB bA;replace bB:=bw_ HB bB;replace bC:=bw_ HB bC;have bM:=Xa.mk aT;have bK:=Xa.mk aV;clear aT aV;have bN:=Xa.mk aU;have bL:=Xa.mk aW;clear aU aW;replace bU:=eq_true bU;replace bV:=eq_true bV;go_wp2_with (first|((with_reducible refine Yh (f:=91) rfl ?_);refine Zz (some 20) rfl rfl Tryz.func91 kr_ rfl #[.agg #[.int .i64 ((Xe l0 aI).f0),.int .i64 ((Xe l0 aI).f1),.int .i64 ((Xe l0 aI).f2),.int .i64 ((Xe l0 aI).f3),.slice bQ ((Xe l0 aI).f4).length bS,.slice bR ((Xe l0 aI).f5).length bT],.int .i64 a1,.int .i64 a2] rfl ga_ ?_;(with_reducible refine (ih_spec_l2Stmt k1 (by have:=fG.out;omega) ((Xe l0 aI).f0) ((Xe l0 aI).f1) ((Xe l0 aI).f2) ((Xe l0 aI).f3) _ _ ((Xe l0 aI).f4) _ _ ((Xe l0 aI).f5) a1 a2 true _ ?side1 ?side2 ?side3 ?side4 A6.out).mono ?_);(case side1=>exact Kd.ca_ (Kd.Xy bM.out HB.out));(case side2=>exact bK.out);(case side3=>exact Kd.ca_ (Kd.Xy bN.out HB.out));(case side4=>exact bL.out);rintro e w8 ⟨rfl,hb⟩;refine ⟨_,rfl,?_⟩;replace HB:=Xa.mk (Xi (bl_ HB) hb);clear hb));go_roundg k1
      case measure=>have:=fG.out;omega
      case rel=>exact ⟨(wrap64 (aI+1)),rg_,H',⟨by have:=fG.out;omega⟩,⟨bl_ HB⟩⟩
     ·replace c7:=Bool.eq_false_iff.mpr c7;subst c7
      replace H:(some false)=some r:=fh_;obtain rfl:=sj_ H;have bU:0≤(aI:Int):=od_ as_;have bV:aI<(l0.length:Int):=od_ as_;obtain ⟨eB,bQ,bS,bR,bT,dS,aX,aY,aZ,bA,bB,bC,aV,aT,aW,aU⟩:=at_T87 fU.out aI bU bV;cases dS
      replace aX:=bw_ HB aX;replace aY:=bw_ HB aY;replace aZ:=bw_ HB aZ;replace bA:=bw_ HB bA;replace bB:=bw_ HB bB;replace bC:=bw_ HB bC;have bM:=Xa.mk aT;have bK:=Xa.mk aV;clear aT aV;have bN:=Xa.mk aU;have bL:=Xa.mk aW;clear aU aW;replace bU:=eq_true bU;replace bV:=eq_true bV;go_wp2_with (first|((with_reducible refine Yh (f:=91) rfl ?_);refine Zz (some 20) rfl rfl Tryz.func91 kr_ rfl #[.agg #[.int .i64 ((Xe l0 aI).f0),.int .i64 ((Xe l0 aI).f1),.int .i64 ((Xe l0 aI).f2),.int .i64 ((Xe l0 aI).f3),.slice bQ ((Xe l0 aI).f4).length bS,.slice bR ((Xe l0 aI).f5).length bT],.int .i64 a1,.int .i64 a2] rfl ga_ ?_;(with_reducible refine (ih_spec_l2Stmt k1 (by have:=fG.out;omega) ((Xe l0 aI).f0) ((Xe l0 aI).f1) ((Xe l0 aI).f2) ((Xe l0 aI).f3) _ _ ((Xe l0 aI).f4) _ _ ((Xe l0 aI).f5) a1 a2 false _ ?side1 ?side2 ?side3 ?side4 A6.out).mono ?_);(case side1=>exact Kd.ca_ (Kd.Xy bM.out HB.out));(case side2=>exact bK.out);(case side3=>exact Kd.ca_ (Kd.Xy bN.out HB.out));(case side4=>exact bL.out);rintro e w9 ⟨rfl,hb⟩;refine ⟨_,rfl,?_⟩;replace HB:=Xa.mk (Xi (bl_ HB) hb);clear hb));go_ret
      exact ⟨rf_,bl_ HB⟩
    ·rw [if_neg c5] at H;exact absurd H sm_
   ·rw [if_neg c4] at H;have fI:decide (aI<(l0.length:Int))=false:=df_ c4;clear c4;obtain rfl:=sj_ H;go_wp2;go_ret
    exact ⟨rf_,bl_ HB⟩
theorem spec_l2Stmt_spec_l2List.all (k:Nat):(∀ (aB:Int) (aF:Int) (aG:Int) (aH:Int) (aL:Option Addr) (aN:Nat) (aC:List (S87)) (aM:Option Addr) (aO:Nat) (aD:List (S87)) (a1:Int) (a2:Int) (r:Bool) (w:World) (bI:Kd.C k87 w aL aC.length aC) (bG:aC.length≤aN) (bJ:Kd.C k87 w aM aD.length aD) (bH:aD.length≤aO) (h:Ye.f k aB aF aG aH aC aD a1 a2=some r),
  Calls Tryz.prog 91 #[.agg #[.int .i64 aB,.int .i64 aF,.int .i64 aG,.int .i64 aH,.slice aL aC.length aN,.slice aM aD.length aO],.int .i64 a1,.int .i64 a2] w fun e w'=>e=.returned (.bool r)∧Below w.heap.size w w')∧(∀ (A0:Option Addr) (c0:Nat) (l0:List (S87)) (a1:Int) (a2:Int) (r:Bool) (w:World) (hr0:Kd.C k87 w A0 l0.length l0) (hc0:l0.length≤c0) (h:Yi.f k l0 a1 a2=some r),
  Calls Tryz.prog 74 #[.slice A0 l0.length c0,.int .i64 a1,.int .i64 a2] w fun e w'=>e=.returned (.bool r)∧Below w.heap.size w w'):=by
 induction k using Nat.strongRecOn with
 |_ k ih=>exact ⟨Ye.step k (fun m hm=>(ih m hm).1) (fun m hm=>(ih m hm).2),Yi.step k (fun m hm=>(ih m hm).1) (fun m hm=>(ih m hm).2)⟩
theorem Yi.calls (k:Nat):∀ (A0:Option Addr) (c0:Nat) (l0:List (S87)) (a1:Int) (a2:Int) (r:Bool) (w:World) (hr0:Kd.C k87 w A0 l0.length l0) (hc0:l0.length≤c0) (h:Yi.f k l0 a1 a2=some r),
  Calls Tryz.prog 74 #[.slice A0 l0.length c0,.int .i64 a1,.int .i64 a2] w fun e w'=>e=.returned (.bool r)∧Below w.heap.size w w':=(spec_l2Stmt_spec_l2List.all k).2
end Go.Proofs.YtlhogkfmdnpmkaaGreat.GMarks
