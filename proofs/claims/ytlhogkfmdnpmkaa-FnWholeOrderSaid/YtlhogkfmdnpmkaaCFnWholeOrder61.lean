import Derived.Test.YtlhogkfmdnpmkaaCFnWholeOrder60
set_option linter.unusedVariables false
set_option linter.unusedSimpArgs false
set_option maxHeartbeats 8000000
set_option maxRecDepth 100000
namespace Go.Proofs.Ytlhogkfmdnpmkaa.GWhole
open RowKit YtlhogkfmdnpmkaaW.PrintWords YtlhogkfmdnpmkaaW.PrintLast YtlhogkfmdnpmkaaW.PrintMore
attribute [local go_sem] Uq Us max_two min_two Zz Ua Ur Ut
mutual
def Yi.j0:Nat→Int→Int→Bool→Int→Int→Int→Int→List (S69)→List (S69)→Option (Bool)
 |0,_,_,_,_,_,_,_,_,_=>none
 |k+1,x1,x2,fZ,aJ,aK,aQ,aR,aP,bD=>if fZ=true then (some false) else (if aJ=6 then (Yi.j1 k x1 x2 aJ (aJ == 6) aJ aK aQ aR aP bD) else (Yi.j1 k x1 x2 aJ (aJ == 7) aJ aK aQ aR aP bD))
def Yi.j1:Nat→Int→Int→Int→Bool→Int→Int→Int→Int→List (S69)→List (S69)→Option (Bool)
 |0,_,_,_,_,_,_,_,_,_,_=>none
 |k+1,x1,x2,gB,gD,aJ,aK,aQ,aR,aP,bD=>if gD=true then (if aK ≥ 0 then (if aK<3 then (if aQ=0 then (if aR=0 then ((Yo.f k aP (wrap64 (x1 - 1)) x2).bind fun bY=>(if bY=true then ((Yo.f k bD (wrap64 (x1 - 1)) x2).bind fun t127=>(some t127)) else (some false))) else (some false)) else (some false)) else (some false)) else (some false)) else (if gB=8 then (if x2<0 then (if aK ≥ 0 then (if aK<2 then (if aQ=0 then (if aR=0 then ((Yo.f k aP (wrap64 (x1 - 1)) aK).bind fun bZ=>(some bZ)) else (some false)) else (some false)) else (some false)) else (some false)) else (some false)) else (if (aP.length:Int)=0 then ((Zj.f k aJ aK aQ aR aP bD x2).bind fun cB=>(some cB)) else (some false)))
def Yi.f:Nat→Int→Int→Int→Int→List (S69)→List (S69)→Int→Int→Option (Bool)
 |0,_,_,_,_,_,_,_,_=>none
 |k+1,aB,aF,aG,aH,aC,aD,a1,a2=>if aB=6 then (Yi.j0 k a1 a2 (decide (a1<1)) aB aF aG aH aC aD) else (if (aD.length:Int) > 0 then (Yi.j0 k a1 a2 true aB aF aG aH aC aD) else (Yi.j0 k a1 a2 (decide (a1<1)) aB aF aG aH aC aD))
def Yo.l0:Nat→List (S69)→Int→Int→Int→Option (Bool)
 |0,_,_,_,_=>none
 |k+1,x0,x1,x2,x7=>if x7<(x0.length:Int) then (if 0≤x7 then ((Yi.f k ((Xb x0 x7).f0) ((Xb x0 x7).f1) ((Xb x0 x7).f2) ((Xb x0 x7).f3) ((Xb x0 x7).f4) ((Xb x0 x7).f5) x1 x2).bind fun t131=>(if t131=true then (Yo.l0 k x0 x1 x2 (wrap64 (x7+1))) else (some false))) else (none)) else (some true)
def Yo.f:Nat→List (S69)→Int→Int→Option (Bool)
 |0,_,_,_=>none
 |k+1,l0,a1,a2=>Yo.l0 k l0 a1 a2 0
end
theorem Yi.step (k:Nat) (ih:∀ m_,m_<k→∀ (aB:Int) (aF:Int) (aG:Int) (aH:Int) (aL:Option Addr) (aN:Nat) (aC:List (S69)) (aM:Option Addr) (aO:Nat) (aD:List (S69)) (a1:Int) (a2:Int) (r:Bool) (w:World) (bH:Kd.C k69 w aL aC.length aC) (bF:aC.length≤aN) (bI:Kd.C k69 w aM aD.length aD) (bG:aD.length≤aO) (h:Yi.f m_ aB aF aG aH aC aD a1 a2=some r),
  Calls Try.prog 63 #[.agg #[.int .i64 aB,.int .i64 aF,.int .i64 aG,.int .i64 aH,.slice aL aC.length aN,.slice aM aD.length aO],.int .i64 a1,.int .i64 a2] w fun e w'=>e=.returned (.bool r)∧Below w.heap.size w w') (ih_spec_l2List:∀ m_,m_<k→∀ (A0:Option Addr) (c0:Nat) (l0:List (S69)) (a1:Int) (a2:Int) (r:Bool) (w:World) (hr0:Kd.C k69 w A0 l0.length l0) (hc0:l0.length≤c0) (h:Yo.f m_ l0 a1 a2=some r),
  Calls Try.prog 53 #[.slice A0 l0.length c0,.int .i64 a1,.int .i64 a2] w fun e w'=>e=.returned (.bool r)∧Below w.heap.size w w'):∀ (aB:Int) (aF:Int) (aG:Int) (aH:Int) (aL:Option Addr) (aN:Nat) (aC:List (S69)) (aM:Option Addr) (aO:Nat) (aD:List (S69)) (a1:Int) (a2:Int) (r:Bool) (w:World) (bH:Kd.C k69 w aL aC.length aC) (bF:aC.length≤aN) (bI:Kd.C k69 w aM aD.length aD) (bG:aD.length≤aO) (h:Yi.f k aB aF aG aH aC aD a1 a2=some r),
  Calls Try.prog 63 #[.agg #[.int .i64 aB,.int .i64 aF,.int .i64 aG,.int .i64 aH,.slice aL aC.length aN,.slice aM aD.length aO],.int .i64 a1,.int .i64 a2] w fun e w'=>e=.returned (.bool r)∧Below w.heap.size w w':=by
 intro aB aF aG aH aL aN aC aM aO aD a1 a2 r w bH bF bI bG h
 cases k with
 |zero=>exact absurd h (by simp [Yi.f])
 |succ k=>
 simp only [Yi.f] at h;have fK:=Try.underlying69;have bW:=Xa.mk bH;have bV:=Xa.mk bF;clear bH bF;have dM:=Xa.mk bI;have dL:=Xa.mk bG;clear bI bG;have HB:=Xa.mk (Below.refl w.heap.size w);have H:(if aB=6 then (Yi.j0 k a1 a2 (decide (a1<1)) aB aF aG aH aC aD) else (if (aD.length:Int) > 0 then (Yi.j0 k a1 a2 true aB aF aG aH aC aD) else (Yi.j0 k a1 a2 (decide (a1<1)) aB aF aG aH aC aD)))=some r:=h;clear h;have fF:=Xa.mk H;clear H;go_enter Try.func63,Try.ntmps63;go_upto_region 1 with (first|((with_reducible refine Zc (N:=3) rfl ?_);(try (refine gate_guard rl1_ ?_;dsimp only));refine Zy ?hg (N:=3) ?hd (cs:=#[.int .i64 aB,.int .i64 aF,.int .i64 aG,.int .i64 aH,.slice aL aC.length aN,.slice aM aD.length aO]) (t:=69) ?hr ?_;(case hd|hg=>rfl);(case hr=>exact hr_);intro aS hg w5 hbox hb;have aA:=Xa.mk (hbox);have GW125:=Xa.mk ((ge_ hg (Xr (bl_ HB)):w.heap.size≤aS));have GE125:=Xa.mk ((ge_ hg (Xr (bl_ HB)):w.heap.size≤aS));replace HB:=Xa.mk (Xo (bl_ HB) hb);clear hb hbox hg))
 (try simp only [Act.put,List.setIfInBounds_toArray,List.set_cons_zero,List.set_cons_succ])
 go_cut [19] (fun v19 wc=>∃ (kq:Nat) (bX:Bool),v19=.bool bX∧Xa (Yi.j0 kq a1 a2 bX aB aF aG aH aC aD=some r)∧Xa (kq≤k)∧Xa (wc.heap[aS]?=some (.cells #[.int .i64 aB,.int .i64 aF,.int .i64 aG,.int .i64 aH,(.slice aL aC.length aN),(.slice aM aD.length aO)] 69 (0,0)))∧Xa (Below w.heap.size w wc))
 case first=>
  have H:=fF.out;clear fF;by_cases c6:aB=6
  ·rw [if_pos c6] at H;have cK:(aB == 6)=true:=eb_ c6;have fH:(aB != 6)=false:=nq_ c6;clear c6
   (first|rw [cK]|(simp only [i64_w,i32_w];rw [cK])|skip)
   have H':=Xa.mk H;clear H;obtain ⟨_,_,_,_,_,_⟩:=Ug aA.out;obtain ⟨_,_,_,_,_,_⟩:=Uh aA.out;go_wp2;go_meet
   case rel=>exact ⟨_,(decide (a1<1)),rg_,H',⟨by first|omega|exact nr_ _⟩,⟨ba_ aA⟩,⟨bl_ HB⟩⟩
  ·rw [if_neg c6] at H;have cK:(aB == 6)=false:=nb_ c6;have fH:(aB != 6)=true:=nn_ c6
   (first|rw [cK]|(simp only [i64_w,i32_w];rw [cK])|skip)
   by_cases c8:(aD.length:Int) > 0
   ·rw [if_pos c8] at H;have fI:decide (0<(aD.length:Int))=true:=dt_ c8;have fJ:decide (0<aD.length)=true:=dt_ om_;clear c8;have H':=Xa.mk H;clear H;obtain ⟨_,_,_,_,_,_⟩:=Ug aA.out;obtain ⟨_,_,_,_,_,_⟩:=Uh aA.out;go_wp2;go_meet
    case rel=>exact ⟨_,(true),rg_,H',⟨by first|omega|exact nr_ _⟩,⟨ba_ aA⟩,⟨bl_ HB⟩⟩
   ·rw [if_neg c8] at H;have fI:decide (0<(aD.length:Int))=false:=df_ c8;have fJ:decide (0<aD.length)=false:=df_ om_;clear c8;have H':=Xa.mk H;clear H;obtain ⟨_,_,_,_,_,_⟩:=Ug aA.out;obtain ⟨_,_,_,_,_,_⟩:=Uh aA.out;go_wp2;go_meet
    case rel=>exact ⟨_,(decide (a1<1)),rg_,H',⟨by first|omega|exact nr_ _⟩,⟨ba_ aA⟩,⟨bl_ HB⟩⟩
 case rest=>
  clear fF;obtain ⟨kq,bX,rfl,HA,dR,aA,HB⟩:=hcut
  cases kq with
  |zero=>exact absurd HA.out (by simp [Yi.j0])
  |succ fM=>
   have H:=HA.out;clear HA;simp only [Yi.j0] at H;by_cases c11:bX=true
   ·subst c11
    replace H:(some false)=some r:=ph_;obtain rfl:=sj_ H;go_wp2;go_ret
    exact ⟨rf_,bl_ HB⟩
   ·replace c11:=Bool.eq_false_iff.mpr c11;subst c11
    replace H:(if aB=6 then (Yi.j1 fM a1 a2 aB (aB == 6) aB aF aG aH aC aD) else (Yi.j1 fM a1 a2 aB (aB == 7) aB aF aG aH aC aD))=some r:=fh_;have dN:=Xa.mk H;clear H;obtain ⟨cZ,dA,dB,dC,dD,dE⟩:=Ug aA.out;obtain ⟨dF,dG,dH,dI,dJ,dK⟩:=Uh aA.out;go_upto_if 22 with (fail)
    go_cut [22] (fun v22 wc=>∃ (kq:Nat) (bN:Bool),v22=.bool bN∧Xa (Yi.j1 kq a1 a2 aB bN aB aF aG aH aC aD=some r)∧Xa (kq≤fM)∧Xa (wc.heap[aS]?=some (.cells #[.int .i64 aB,.int .i64 aF,.int .i64 aG,.int .i64 aH,(.slice aL aC.length aN),(.slice aM aD.length aO)] 69 (0,0)))∧Xa (Below w.heap.size w wc))
    case first=>
     have H:=dN.out;clear dN;by_cases c14:aB=6
     ·rw [if_pos c14] at H;have bO:(aB == 6)=true:=eb_ c14;have d9:(aB != 6)=false:=nq_ c14;clear c14
      (first|rw [bO]|(simp only [i64_w,i32_w];rw [bO])|skip)
      have H':=Xa.mk H;clear H;go_wp2;go_meet
      case rel=>exact ⟨_,((aB == 6)),rg_,H',⟨by have:=dR.out;first|omega|exact nr_ _⟩,⟨ba_ aA⟩,⟨bl_ HB⟩⟩
     ·rw [if_neg c14] at H;have bO:(aB == 6)=false:=nb_ c14;have d9:(aB != 6)=true:=nn_ c14
      (first|rw [bO]|(simp only [i64_w,i32_w];rw [bO])|skip)
      have H':=Xa.mk H;clear H;go_wp2;go_meet
      case rel=>exact ⟨_,((aB == 7)),rg_,H',⟨by have:=dR.out;first|omega|exact nr_ _⟩,⟨ba_ aA⟩,⟨bl_ HB⟩⟩
    case rest=>
     clear dN
     try clear c11
     try clear cZ
     try clear dA
     try clear dB
     try clear dC
     try clear dD
     try clear dE
     try clear dF
     try clear dG
     try clear dH
     try clear dI
     try clear dJ
     try clear dK
     obtain ⟨kq,bN,rfl,HA,cO,aA,HB⟩:=hcut
     cases kq with
     |zero=>exact absurd HA.out (by simp [Yi.j1])
     |succ bE=>
      have H:=HA.out;clear HA;simp only [Yi.j1] at H;by_cases c15:bN=true
      ·subst c15
       replace H:(if aF ≥ 0 then (if aF<3 then (if aG=0 then (if aH=0 then ((Yo.f bE aC (wrap64 (a1 - 1)) a2).bind fun bY=>(if bY=true then ((Yo.f bE aD (wrap64 (a1 - 1)) a2).bind fun t127=>(some t127)) else (some false))) else (some false)) else (some false)) else (some false)) else (some false))=some r:=ph_;by_cases c16:aF ≥ 0
       ·rw [if_pos c16] at H;have eB:decide (0≤aF)=true:=dt_ c16;clear c16;by_cases c17:aF<3
        ·rw [if_pos c17] at H;have eD:decide (aF<3)=true:=dt_ c17;clear c17;by_cases c18:aG=0
         ·rw [if_pos c18] at H;have eF:(aG == 0)=true:=eb_ c18;have eG:(aG != 0)=false:=nq_ c18;clear c18;by_cases c19:aH=0
          ·rw [if_pos c19] at H;have eH:(aH == 0)=true:=eb_ c19;have eO:(aH != 0)=false:=nq_ c19;clear c19;replace H:=bo_ H;obtain ⟨bY,dV,H⟩:=H;replace H:(if bY=true then ((Yo.f bE aD (wrap64 (a1 - 1)) a2).bind fun t127=>(some t127)) else (some false))=some r:=H;have fO:=Xa.mk dV;clear dV;by_cases c21:bY=true
           ·subst c21
            replace H:((Yo.f bE aD (wrap64 (a1 - 1)) a2).bind fun t127=>(some t127))=some r:=ph_;replace H:=bo_ H;obtain ⟨t127,dW,H⟩:=H;replace H:(some t127)=some r:=H;have fT:=Xa.mk dW;clear dW;obtain rfl:=sj_ H;obtain ⟨_,_,_,_,_,_⟩:=Ug aA.out;obtain ⟨_,_,_,_,_,_⟩:=Uh aA.out;go_wp2_with (first|(go_at_call 53;(with_reducible refine (ih_spec_l2List bE (by have:=dR.out;have:=cO.out;omega) _ _ aC (wrap64 (a1 - 1)) a2 true _ ?side1 ?side2 fO.out).mono ?_);(case side1=>exact Kd.ca_ (Kd.Yr bW.out HB.out));(case side2=>exact bV.out);rintro e w24 ⟨rfl,hb⟩;replace aA:=Xa.mk (Xu (g:=aS) (o:=.cells #[.int .i64 aB,.int .i64 aF,.int .i64 aG,.int .i64 aH,.slice aL aC.length aN,.slice aM aD.length aO] 69 (0,0)) (ba_ aA) hb);replace HB:=Xa.mk (Xo (bl_ HB) hb);clear hb;obtain ⟨_,_,_,_,_,_⟩:=Ug aA.out;obtain ⟨_,_,_,_,_,_⟩:=Uh aA.out)|(go_at_call 53;(with_reducible refine (ih_spec_l2List bE (by have:=dR.out;have:=cO.out;omega) _ _ aD (wrap64 (a1 - 1)) a2 t127 _ ?side1 ?side2 fT.out).mono ?_);(case side1=>exact Kd.ca_ (Kd.Yr dM.out HB.out));(case side2=>exact dL.out);rintro e w26 ⟨rfl,hb⟩;replace aA:=Xa.mk (Xu (g:=aS) (o:=.cells #[.int .i64 aB,.int .i64 aF,.int .i64 aG,.int .i64 aH,.slice aL aC.length aN,.slice aM aD.length aO] 69 (0,0)) (ba_ aA) hb);replace HB:=Xa.mk (Xo (bl_ HB) hb);clear hb));go_ret
            exact ⟨rf_,bl_ HB⟩
           ·replace c21:=Bool.eq_false_iff.mpr c21;subst c21
            replace H:(some false)=some r:=fh_;obtain rfl:=sj_ H;obtain ⟨_,_,_,_,_,_⟩:=Ug aA.out;obtain ⟨_,_,_,_,_,_⟩:=Uh aA.out;go_wp2_with (first|(go_at_call 53;(with_reducible refine (ih_spec_l2List bE (by have:=dR.out;have:=cO.out;omega) _ _ aC (wrap64 (a1 - 1)) a2 false _ ?side1 ?side2 fO.out).mono ?_);(case side1=>exact Kd.ca_ (Kd.Yr bW.out HB.out));(case side2=>exact bV.out);rintro e w28 ⟨rfl,hb⟩;replace aA:=Xa.mk (Xu (g:=aS) (o:=.cells #[.int .i64 aB,.int .i64 aF,.int .i64 aG,.int .i64 aH,.slice aL aC.length aN,.slice aM aD.length aO] 69 (0,0)) (ba_ aA) hb);replace HB:=Xa.mk (Xo (bl_ HB) hb);clear hb));go_ret
            exact ⟨rf_,bl_ HB⟩
          ·rw [if_neg c19] at H;have eH:(aH == 0)=false:=nb_ c19;have eO:(aH != 0)=true:=nn_ c19;obtain rfl:=sj_ H;obtain ⟨_,_,_,_,_,_⟩:=Ug aA.out;obtain ⟨_,_,_,_,_,_⟩:=Uh aA.out;go_wp2;go_ret
           exact ⟨rf_,bl_ HB⟩
         ·rw [if_neg c18] at H;have eF:(aG == 0)=false:=nb_ c18;have eG:(aG != 0)=true:=nn_ c18;obtain rfl:=sj_ H;obtain ⟨_,_,_,_,_,_⟩:=Ug aA.out;obtain ⟨_,_,_,_,_,_⟩:=Uh aA.out;go_wp2;go_ret
          exact ⟨rf_,bl_ HB⟩
        ·rw [if_neg c17] at H;have eD:decide (aF<3)=false:=df_ c17;clear c17;obtain rfl:=sj_ H;obtain ⟨_,_,_,_,_,_⟩:=Ug aA.out;obtain ⟨_,_,_,_,_,_⟩:=Uh aA.out;go_wp2;go_ret
         exact ⟨rf_,bl_ HB⟩
       ·rw [if_neg c16] at H;have eB:decide (0≤aF)=false:=df_ c16;clear c16;obtain rfl:=sj_ H;obtain ⟨_,_,_,_,_,_⟩:=Ug aA.out;obtain ⟨_,_,_,_,_,_⟩:=Uh aA.out;go_wp2;go_ret
        exact ⟨rf_,bl_ HB⟩
      ·replace c15:=Bool.eq_false_iff.mpr c15;subst c15
       replace H:(if aB=8 then (if a2<0 then (if aF ≥ 0 then (if aF<2 then (if aG=0 then (if aH=0 then ((Yo.f bE aC (wrap64 (a1 - 1)) aF).bind fun bZ=>(some bZ)) else (some false)) else (some false)) else (some false)) else (some false)) else (some false)) else (if (aC.length:Int)=0 then ((Zj.f bE aB aF aG aH aC aD a2).bind fun cB=>(some cB)) else (some false)))=some r:=fh_;by_cases dO:aB=8
       ·rw [if_pos dO] at H;have eP:(aB == 8)=true:=eb_ dO;have eQ:(aB != 8)=false:=nq_ dO;clear dO;by_cases c34:a2<0
        ·rw [if_pos c34] at H;have eT:decide (a2<0)=true:=dt_ c34;clear c34;by_cases dS:aF ≥ 0
         ·rw [if_pos dS] at H;have eU:decide (0≤aF)=true:=dt_ dS;clear dS;by_cases dU:aF<2
          ·rw [if_pos dU] at H;have eX:decide (aF<2)=true:=dt_ dU;clear dU;by_cases c37:aG=0
           ·rw [if_pos c37] at H;have eY:(aG == 0)=true:=eb_ c37;have eZ:(aG != 0)=false:=nq_ c37;clear c37;by_cases dP:aH=0
            ·rw [if_pos dP] at H;have fA:(aH == 0)=true:=eb_ dP;have fB:(aH != 0)=false:=nq_ dP;clear dP;replace H:=bo_ H;obtain ⟨bZ,dX,H⟩:=H;replace H:(some bZ)=some r:=H;have fU:=Xa.mk dX;clear dX;obtain rfl:=sj_ H;obtain ⟨_,_,_,_,_,_⟩:=Ug aA.out;obtain ⟨_,_,_,_,_,_⟩:=Uh aA.out;go_wp2_with (first|(go_at_call 53;(with_reducible refine (ih_spec_l2List bE (by have:=dR.out;have:=cO.out;omega) _ _ aC (wrap64 (a1 - 1)) aF bZ _ ?side1 ?side2 fU.out).mono ?_);(case side1=>exact Kd.ca_ (Kd.Yr bW.out HB.out));(case side2=>exact bV.out);rintro e w41 ⟨rfl,hb⟩;replace aA:=Xa.mk (Xu (g:=aS) (o:=.cells #[.int .i64 aB,.int .i64 aF,.int .i64 aG,.int .i64 aH,.slice aL aC.length aN,.slice aM aD.length aO] 69 (0,0)) (ba_ aA) hb);replace HB:=Xa.mk (Xo (bl_ HB) hb);clear hb));go_ret
             exact ⟨rf_,bl_ HB⟩
            ·rw [if_neg dP] at H;have fA:(aH == 0)=false:=nb_ dP;have fB:(aH != 0)=true:=nn_ dP;obtain rfl:=sj_ H;obtain ⟨_,_,_,_,_,_⟩:=Ug aA.out;obtain ⟨_,_,_,_,_,_⟩:=Uh aA.out;go_wp2;go_ret
             exact ⟨rf_,bl_ HB⟩
           ·rw [if_neg c37] at H;have eY:(aG == 0)=false:=nb_ c37;have eZ:(aG != 0)=true:=nn_ c37;obtain rfl:=sj_ H;obtain ⟨_,_,_,_,_,_⟩:=Ug aA.out;obtain ⟨_,_,_,_,_,_⟩:=Uh aA.out;go_wp2;go_ret
            exact ⟨rf_,bl_ HB⟩
          ·rw [if_neg dU] at H;have eX:decide (aF<2)=false:=df_ dU;clear dU;obtain rfl:=sj_ H;obtain ⟨_,_,_,_,_,_⟩:=Ug aA.out;obtain ⟨_,_,_,_,_,_⟩:=Uh aA.out;go_wp2;go_ret
           exact ⟨rf_,bl_ HB⟩
         ·rw [if_neg dS] at H;have eU:decide (0≤aF)=false:=df_ dS;clear dS;obtain rfl:=sj_ H;obtain ⟨_,_,_,_,_,_⟩:=Ug aA.out;obtain ⟨_,_,_,_,_,_⟩:=Uh aA.out;go_wp2;go_ret
          exact ⟨rf_,bl_ HB⟩
        ·rw [if_neg c34] at H;have eT:decide (a2<0)=false:=df_ c34;clear c34;obtain rfl:=sj_ H;go_wp2;go_ret
         exact ⟨rf_,bl_ HB⟩
       ·rw [if_neg dO] at H;have eP:(aB == 8)=false:=nb_ dO;have eQ:(aB != 8)=true:=nn_ dO;by_cases c46:(aC.length:Int)=0
        ·rw [if_pos c46] at H;have fC:((aC.length:Int) == 0)=true:=eb_ c46;have fD:((aC.length:Int) != 0)=false:=nq_ c46;clear c46;replace H:=bo_ H;obtain ⟨cB,dY,H⟩:=H;replace H:(some cB)=some r:=H;have fV:=Xa.mk dY;clear dY;obtain rfl:=sj_ H;obtain ⟨_,_,_,_,_,_⟩:=Ug aA.out;obtain ⟨_,_,_,_,_,_⟩:=Uh aA.out;go_wp2_with (first|(go_at_call 73;(with_reducible refine (Zj.calls bE aB aF aG aH _ _ aC _ _ aD a2 cB _ ?side1 ?side2 ?side3 ?side4 fV.out).mono ?_);(case side1=>exact Kd.ca_ (Kd.Yr bW.out HB.out));(case side2=>exact bV.out);(case side3=>exact Kd.ca_ (Kd.Yr dM.out HB.out));(case side4=>exact dL.out);rintro e w49 ⟨rfl,hb⟩;replace aA:=Xa.mk (Xu (g:=aS) (o:=.cells #[.int .i64 aB,.int .i64 aF,.int .i64 aG,.int .i64 aH,.slice aL aC.length aN,.slice aM aD.length aO] 69 (0,0)) (ba_ aA) hb);replace HB:=Xa.mk (Xo (bl_ HB) hb);clear hb));go_ret
         exact ⟨rf_,bl_ HB⟩
        ·rw [if_neg c46] at H;have fC:((aC.length:Int) == 0)=false:=nb_ c46;have fD:((aC.length:Int) != 0)=true:=nn_ c46;have c46b2:¬ (aC=[]):=fun h_=>c46 (by rw [h_];rfl);obtain rfl:=sj_ H;obtain ⟨_,_,_,_,_,_⟩:=Ug aA.out;obtain ⟨_,_,_,_,_,_⟩:=Uh aA.out;go_wp2;go_ret
         exact ⟨rf_,bl_ HB⟩
theorem Yo.step (k:Nat) (ih_spec_l2Stmt:∀ m_,m_<k→∀ (aB:Int) (aF:Int) (aG:Int) (aH:Int) (aL:Option Addr) (aN:Nat) (aC:List (S69)) (aM:Option Addr) (aO:Nat) (aD:List (S69)) (a1:Int) (a2:Int) (r:Bool) (w:World) (bH:Kd.C k69 w aL aC.length aC) (bF:aC.length≤aN) (bI:Kd.C k69 w aM aD.length aD) (bG:aD.length≤aO) (h:Yi.f m_ aB aF aG aH aC aD a1 a2=some r),
  Calls Try.prog 63 #[.agg #[.int .i64 aB,.int .i64 aF,.int .i64 aG,.int .i64 aH,.slice aL aC.length aN,.slice aM aD.length aO],.int .i64 a1,.int .i64 a2] w fun e w'=>e=.returned (.bool r)∧Below w.heap.size w w') (ih:∀ m_,m_<k→∀ (A0:Option Addr) (c0:Nat) (l0:List (S69)) (a1:Int) (a2:Int) (r:Bool) (w:World) (hr0:Kd.C k69 w A0 l0.length l0) (hc0:l0.length≤c0) (h:Yo.f m_ l0 a1 a2=some r),
  Calls Try.prog 53 #[.slice A0 l0.length c0,.int .i64 a1,.int .i64 a2] w fun e w'=>e=.returned (.bool r)∧Below w.heap.size w w'):∀ (A0:Option Addr) (c0:Nat) (l0:List (S69)) (a1:Int) (a2:Int) (r:Bool) (w:World) (hr0:Kd.C k69 w A0 l0.length l0) (hc0:l0.length≤c0) (h:Yo.f k l0 a1 a2=some r),
  Calls Try.prog 53 #[.slice A0 l0.length c0,.int .i64 a1,.int .i64 a2] w fun e w'=>e=.returned (.bool r)∧Below w.heap.size w w':=by
 intro A0 c0 l0 a1 a2 r w hr0 hc0 h
 cases k with
 |zero=>exact absurd h (by simp [Yo.f])
 |succ k=>
 simp only [Yo.f] at h;have fK:=Try.underlying69;have fQ:=Xa.mk hr0;have HC0:=Xa.mk hc0;clear hr0 hc0;have HB:=Xa.mk (Below.refl w.heap.size w);have H:(Yo.l0 k l0 a1 a2 0)=some r:=h;clear h;have H':=Xa.mk H;clear H;go_enter Try.func53,Try.ntmps53;go_wp2
 go_loopg [7] k (fun kq v7 w'=>∃ (aI:Int),v7=.int .i64 aI∧Xa (Yo.l0 kq l0 a1 a2 aI=some r)∧Xa (kq≤k)∧Xa (Below w.heap.size w w'))
 case atStart=>exact ⟨(0),rg_,H',⟨nr_ _⟩,⟨bl_ HB⟩⟩
 case round=>
  clear H';obtain ⟨aI,rfl,HA,fE,HB⟩:=hrel
  cases gk with
  |zero=>exact absurd HA.out (by simp [Yo.l0])
  |succ k1=>
   have H:=HA.out;clear HA;simp only [Yo.l0] at H;by_cases c4:aI<(l0.length:Int)
   ·rw [if_pos c4] at H;have fG:decide (aI<(l0.length:Int))=true:=dt_ c4;clear c4;by_cases c5:0≤aI
    ·rw [if_pos c5] at H;have c5b0:decide (0≤aI)=true:=dt_ c5;clear c5;replace H:=bo_ H;obtain ⟨t131,fP,H⟩:=H;replace H:(if t131=true then (Yo.l0 k1 l0 a1 a2 (wrap64 (aI+1))) else (some false))=some r:=H;have A6:=Xa.mk fP;clear fP;by_cases c7:t131=true
     ·subst c7
      replace H:(Yo.l0 k1 l0 a1 a2 (wrap64 (aI+1)))=some r:=ph_;have H':=Xa.mk H;clear H;have bT:0≤(aI:Int):=od_ as_;have bU:aI<(l0.length:Int):=od_ as_;obtain ⟨dZ,bP,bR,bQ,bS,dQ,aX,aY,aZ,bA,bB,bC,aV,aT,aW,aU⟩:=at_T69 fQ.out aI bT bU;cases dQ
      replace aX:=bw_ HB aX;replace aY:=bw_ HB aY;replace aZ:=bw_ HB aZ;replace bA:=bw_ HB bA;replace bB:=bw_ HB bB;replace bC:=bw_ HB bC;have bL:=Xa.mk aT;have bJ:=Xa.mk aV;clear aT aV;have bM:=Xa.mk aU;have bK:=Xa.mk aW;clear aU aW;replace bT:=eq_true bT;replace bU:=eq_true bU;go_wp2_with (first|((with_reducible refine Xq (f:=63) rfl ?_);refine Zg (some 20) rfl rfl Try.func63 kr_ rfl #[.agg #[.int .i64 ((Xb l0 aI).f0),.int .i64 ((Xb l0 aI).f1),.int .i64 ((Xb l0 aI).f2),.int .i64 ((Xb l0 aI).f3),.slice bP ((Xb l0 aI).f4).length bR,.slice bQ ((Xb l0 aI).f5).length bS],.int .i64 a1,.int .i64 a2] rfl ga_ ?_;(with_reducible refine (ih_spec_l2Stmt k1 (by have:=fE.out;omega) ((Xb l0 aI).f0) ((Xb l0 aI).f1) ((Xb l0 aI).f2) ((Xb l0 aI).f3) _ _ ((Xb l0 aI).f4) _ _ ((Xb l0 aI).f5) a1 a2 true _ ?side1 ?side2 ?side3 ?side4 A6.out).mono ?_);(case side1=>exact Kd.ca_ (Kd.Yr bL.out HB.out));(case side2=>exact bJ.out);(case side3=>exact Kd.ca_ (Kd.Yr bM.out HB.out));(case side4=>exact bK.out);rintro e w8 ⟨rfl,hb⟩;refine ⟨_,rfl,?_⟩;replace HB:=Xa.mk (Xo (bl_ HB) hb);clear hb));go_roundg k1
      case measure=>have:=fE.out;omega
      case rel=>exact ⟨(wrap64 (aI+1)),rg_,H',⟨by have:=fE.out;omega⟩,⟨bl_ HB⟩⟩
     ·replace c7:=Bool.eq_false_iff.mpr c7;subst c7
      replace H:(some false)=some r:=fh_;obtain rfl:=sj_ H;have bT:0≤(aI:Int):=od_ as_;have bU:aI<(l0.length:Int):=od_ as_;obtain ⟨dZ,bP,bR,bQ,bS,dQ,aX,aY,aZ,bA,bB,bC,aV,aT,aW,aU⟩:=at_T69 fQ.out aI bT bU;cases dQ
      replace aX:=bw_ HB aX;replace aY:=bw_ HB aY;replace aZ:=bw_ HB aZ;replace bA:=bw_ HB bA;replace bB:=bw_ HB bB;replace bC:=bw_ HB bC;have bL:=Xa.mk aT;have bJ:=Xa.mk aV;clear aT aV;have bM:=Xa.mk aU;have bK:=Xa.mk aW;clear aU aW;replace bT:=eq_true bT;replace bU:=eq_true bU;go_wp2_with (first|((with_reducible refine Xq (f:=63) rfl ?_);refine Zg (some 20) rfl rfl Try.func63 kr_ rfl #[.agg #[.int .i64 ((Xb l0 aI).f0),.int .i64 ((Xb l0 aI).f1),.int .i64 ((Xb l0 aI).f2),.int .i64 ((Xb l0 aI).f3),.slice bP ((Xb l0 aI).f4).length bR,.slice bQ ((Xb l0 aI).f5).length bS],.int .i64 a1,.int .i64 a2] rfl ga_ ?_;(with_reducible refine (ih_spec_l2Stmt k1 (by have:=fE.out;omega) ((Xb l0 aI).f0) ((Xb l0 aI).f1) ((Xb l0 aI).f2) ((Xb l0 aI).f3) _ _ ((Xb l0 aI).f4) _ _ ((Xb l0 aI).f5) a1 a2 false _ ?side1 ?side2 ?side3 ?side4 A6.out).mono ?_);(case side1=>exact Kd.ca_ (Kd.Yr bL.out HB.out));(case side2=>exact bJ.out);(case side3=>exact Kd.ca_ (Kd.Yr bM.out HB.out));(case side4=>exact bK.out);rintro e w9 ⟨rfl,hb⟩;refine ⟨_,rfl,?_⟩;replace HB:=Xa.mk (Xo (bl_ HB) hb);clear hb));go_ret
      exact ⟨rf_,bl_ HB⟩
    ·rw [if_neg c5] at H;exact absurd H sm_
   ·rw [if_neg c4] at H;have fG:decide (aI<(l0.length:Int))=false:=df_ c4;clear c4;obtain rfl:=sj_ H;go_wp2;go_ret
    exact ⟨rf_,bl_ HB⟩
theorem spec_l2Stmt_spec_l2List.all (k:Nat):(∀ (aB:Int) (aF:Int) (aG:Int) (aH:Int) (aL:Option Addr) (aN:Nat) (aC:List (S69)) (aM:Option Addr) (aO:Nat) (aD:List (S69)) (a1:Int) (a2:Int) (r:Bool) (w:World) (bH:Kd.C k69 w aL aC.length aC) (bF:aC.length≤aN) (bI:Kd.C k69 w aM aD.length aD) (bG:aD.length≤aO) (h:Yi.f k aB aF aG aH aC aD a1 a2=some r),
  Calls Try.prog 63 #[.agg #[.int .i64 aB,.int .i64 aF,.int .i64 aG,.int .i64 aH,.slice aL aC.length aN,.slice aM aD.length aO],.int .i64 a1,.int .i64 a2] w fun e w'=>e=.returned (.bool r)∧Below w.heap.size w w')∧(∀ (A0:Option Addr) (c0:Nat) (l0:List (S69)) (a1:Int) (a2:Int) (r:Bool) (w:World) (hr0:Kd.C k69 w A0 l0.length l0) (hc0:l0.length≤c0) (h:Yo.f k l0 a1 a2=some r),
  Calls Try.prog 53 #[.slice A0 l0.length c0,.int .i64 a1,.int .i64 a2] w fun e w'=>e=.returned (.bool r)∧Below w.heap.size w w'):=by
 induction k using Nat.strongRecOn with
 |_ k ih=>exact ⟨Yi.step k (fun m hm=>(ih m hm).1) (fun m hm=>(ih m hm).2),Yo.step k (fun m hm=>(ih m hm).1) (fun m hm=>(ih m hm).2)⟩
theorem Yo.calls (k:Nat):∀ (A0:Option Addr) (c0:Nat) (l0:List (S69)) (a1:Int) (a2:Int) (r:Bool) (w:World) (hr0:Kd.C k69 w A0 l0.length l0) (hc0:l0.length≤c0) (h:Yo.f k l0 a1 a2=some r),
  Calls Try.prog 53 #[.slice A0 l0.length c0,.int .i64 a1,.int .i64 a2] w fun e w'=>e=.returned (.bool r)∧Below w.heap.size w w':=(spec_l2Stmt_spec_l2List.all k).2
end Go.Proofs.Ytlhogkfmdnpmkaa.GWhole
