import Derived.Test.YtokajnfbiddpjaaCFnSlimSome21
import Derived.Test.YtokajnfbiddpjaaCFnSlimSome24
set_option maxRecDepth 100000
namespace Go.Proofs.Ytokajnfbiddpjaa.GSlim
open Go.RowKit Go.Proofs.YtokajnfbiddpjaaW.PrintWords Go.Proofs.YtokajnfbiddpjaaW.PrintLast Go.Proofs.YtokajnfbiddpjaaW.PrintMore
attribute [local go_sem] Zx Zz Ul Um Zl Zm Zy Ua
set_option linter.unusedVariables false
set_option linter.unusedSimpArgs false
mutual
def Xj.j0:Nat→Int→Bool→Int→Int→Int→Int→Option (Bool)
 |0,_,_,_,_,_,_=>none
 |k+1,x1,x5,aB,aF,aG,aD=>if aB=1 then (Xj.j1 k x1 x5 aB (aB == 1) aB aF aG aD) else (if aB=2 then (Xj.j1 k x1 x5 aB (aB == 2) aB aF aG aD) else (if aB=3 then (Xj.j1 k x1 x5 aB (aB == 3) aB aF aG aD) else (if aB=4 then (Xj.j1 k x1 x5 aB (aB == 4) aB aF aG aD) else (Xj.j1 k x1 x5 aB (aB == 5) aB aF aG aD))))
def Xj.j1:Nat→Int→Bool→Int→Bool→Int→Int→Int→Int→Option (Bool)
 |0,_,_,_,_,_,_,_,_=>none
 |k+1,x1,x5,aQ,fA,aB,aF,aG,aD=>if fA=true then ((Xr.f k aB aF aG aD ([]:List (S63)) ([]:List (S63)) (-1)).bind fun bA=>(some bA)) else (if aQ=6 then (if x5=true then (if aG=0 then (if aD ≥ 0 then (some (decide (aD<x1))) else (some false)) else (some false)) else (some false)) else (if aQ=7 then (if aF=0 then (if aG=0 then (if aD ≥ 0 then (some (decide (aD<x1))) else (some false)) else (some false)) else (some false)) else (if aQ=8 then (Xj.j2 k aQ (aQ == 8) aB aF aG aD) else (Xj.j2 k aQ (aQ == 9) aB aF aG aD))))
def Xj.j2:Nat→Int→Bool→Int→Int→Int→Int→Option (Bool)
 |0,_,_,_,_,_,_=>none
 |k+1,aQ,fB,aB,aF,aG,aD=>if fB=true then (if aF ≥ 0 then (if aF<2 then (if aG=0 then (some (aD == 0)) else (some false)) else (some false)) else (some false)) else (if aQ=10 then (Xj.j3 k aQ (aQ == 10) aB aF aG aD) else (Xj.j3 k aQ (aQ == 11) aB aF aG aD))
def Xj.j3:Nat→Int→Bool→Int→Int→Int→Int→Option (Bool)
 |0,_,_,_,_,_,_=>none
 |k+1,aQ,x93,aB,aF,aG,aD=>if x93=true then (if aF ≥ 0 then (if aF<2 then (if aG=0 then (some (aD == 0)) else (some false)) else (some false)) else (some false)) else (if aQ=12 then (if aF=0 then (if aG=0 then (some (aD == 0)) else (some false)) else (some false)) else (if aQ=13 then (if aF=0 then (if aG=0 then (some (aD == 0)) else (some false)) else (some false)) else (some false)))
end
def Xj.f (k:Nat) (aC:Int) (aH:Int) (aI:Int) (aJ:Int) (a1:Int):Option (Bool):=if aH ≥ 0 then (Xj.j0 k a1 (decide (aH<3)) aC aH aI aJ) else (Xj.j0 k a1 false aC aH aI aJ)
set_option maxHeartbeats 8000000 in
theorem Xj.calls (k:Nat) (aC:Int) (aH:Int) (aI:Int) (aJ:Int) (a1:Int) (r:Bool) (w:World) (h:Xj.f k aC aH aI aJ a1=some r) :
  Calls Try.prog 37 #[.agg #[.int .i64 aC,.int .i64 aH,.int .i64 aI,.int .i64 aJ],.int .i64 a1] w fun e w'=>e=.returned (.bool r)∧Below w.heap.size w w':=by
 have hu31:=Try.underlying31;have hu63:=Try.underlying63;have HB:=Xa.mk (Below.refl w.heap.size w);have H:(if aH ≥ 0 then (Xj.j0 k a1 (decide (aH<3)) aC aH aI aJ) else (Xj.j0 k a1 false aC aH aI aJ))=some r:=h;clear h;have eU:=Xa.mk H;clear H
 go_enter Try.func37,Try.ntmps37
 go_upto_region 1 with (first|((with_reducible refine Xt (N:=2) rfl ?_);refine Ym ?hg (N:=2) ?hd (cs:=#[.int .i64 aC,.int .i64 aH,.int .i64 aI,.int .i64 aJ]) (t:=31) ?hr ?_;(case hd|hg=>rfl);(case hr=>exact hr_);intro aK hg w4 hbox hb;have aA:=Xa.mk (hbox);have GW370:=Xa.mk ((ge_ hg (Xd (bl_ HB)):w.heap.size≤aK));have GE370:=Xa.mk ((ge_ hg (Xd (bl_ HB)):w.heap.size≤aK));replace HB:=Xa.mk (Xe (bl_ HB) hb);clear hb hbox hg))
 (try simp only [Act.put,List.setIfInBounds_toArray,List.set_cons_zero,List.set_cons_succ])
 go_cut [5] (fun v5 wc=>∃ (kq:Nat) (bB:Bool),v5=.bool bB∧Xa (Xj.j0 kq a1 bB aC aH aI aJ=some r)∧Xa (kq≤k)∧Xa (wc.heap[aK]?=some (.cells #[.int .i64 aC,.int .i64 aH,.int .i64 aI,.int .i64 aJ] 31 (0,0)))∧Xa (Below w.heap.size w wc))
 case first=>
  have H:=eU.out;clear eU;by_cases c5:aH ≥ 0
  ·rw [if_pos c5] at H;have bG:=decide_eq_true c5;clear c5
   (first|rw [bG]|(simp only [Ub,Uf];rw [bG])|skip)
   have H':=Xa.mk H;clear H;obtain ⟨hcz6_0,hcz6_1,hcz6_2,hcz6_3⟩:=Uv aA.out;obtain ⟨hfz6_0,hfz6_1,hfz6_2,hfz6_3⟩:=Uy aA.out;go_wp2
   go_meet
   case rel=>exact ⟨_,(decide (aH<3)),rg_,H',⟨by first|omega|exact Nat.le_refl _⟩,⟨ba_ aA⟩,⟨bl_ HB⟩⟩
  ·rw [if_neg c5] at H;have bG:=decide_eq_false c5;clear c5
   (first|rw [bG]|(simp only [Ub,Uf];rw [bG])|skip)
   have H':=Xa.mk H;clear H;obtain ⟨hcz7_0,hcz7_1,hcz7_2,hcz7_3⟩:=Uv aA.out;obtain ⟨hfz7_0,hfz7_1,hfz7_2,hfz7_3⟩:=Uy aA.out;go_wp2
   go_meet
   case rel=>exact ⟨_,(false),rg_,H',⟨by first|omega|exact Nat.le_refl _⟩,⟨ba_ aA⟩,⟨bl_ HB⟩⟩
 case rest=>
  clear eU;obtain ⟨kq,bB,rfl,HA,HJ2,aA,HB⟩:=hcut
  cases kq with
  |zero=>exact absurd HA.out (by simp [Xj.j0])
  |succ eZ=>
   have H:=HA.out;clear HA;simp only [Xj.j0] at H;have eX:=Xa.mk H;clear H;obtain ⟨aR,aS,aT,aU⟩:=Uv aA.out;obtain ⟨aV,aW,aX,aY⟩:=Uy aA.out
   go_upto_if 16 with (fail)
   go_cut [16] (fun v16 wc=>∃ (kq:Nat) (aZ:Bool),v16=.bool aZ∧Xa (Xj.j1 kq a1 bB aC aZ aC aH aI aJ=some r)∧Xa (kq≤eZ)∧Xa (wc.heap[aK]?=some (.cells #[.int .i64 aC,.int .i64 aH,.int .i64 aI,.int .i64 aJ] 31 (0,0)))∧Xa (Below w.heap.size w wc))
   case first=>
    have H:=eX.out;clear eX;by_cases c10:aC=1
    ·rw [if_pos c10] at H;have aN:=beq_iff_eq.mpr c10;have bY:=bne_eq_false_iff_eq.mpr c10;clear c10
     (first|rw [aN]|(simp only [Ub,Uf];rw [aN])|skip)
     have H':=Xa.mk H;clear H;go_wp2
     go_meet
     case rel=>exact ⟨_,((aC == 1)),rg_,H',⟨by have:=HJ2.out;first|omega|exact Nat.le_refl _⟩,⟨ba_ aA⟩,⟨bl_ HB⟩⟩
    ·rw [if_neg c10] at H;have aN:=beq_eq_false_iff_ne.mpr c10;have bY:=bne_iff_ne.mpr c10
     (first|rw [aN]|(simp only [Ub,Uf];rw [aN])|skip)
     by_cases c11:aC=2
     ·rw [if_pos c11] at H;have bZ:=beq_iff_eq.mpr c11;have cB:=bne_eq_false_iff_eq.mpr c11;clear c11;have H':=Xa.mk H;clear H;go_wp2
      go_meet
      case rel=>exact ⟨_,((aC == 2)),rg_,H',⟨by have:=HJ2.out;first|omega|exact Nat.le_refl _⟩,⟨ba_ aA⟩,⟨bl_ HB⟩⟩
     ·rw [if_neg c11] at H;have bZ:=beq_eq_false_iff_ne.mpr c11;have cB:=bne_iff_ne.mpr c11;by_cases c12:aC=3
      ·rw [if_pos c12] at H;have cK:=beq_iff_eq.mpr c12;have cO:=bne_eq_false_iff_eq.mpr c12;clear c12;have H':=Xa.mk H;clear H;go_wp2
       go_meet
       case rel=>exact ⟨_,((aC == 3)),rg_,H',⟨by have:=HJ2.out;first|omega|exact Nat.le_refl _⟩,⟨ba_ aA⟩,⟨bl_ HB⟩⟩
      ·rw [if_neg c12] at H;have cK:=beq_eq_false_iff_ne.mpr c12;have cO:=bne_iff_ne.mpr c12;by_cases c13:aC=4
       ·rw [if_pos c13] at H;have cZ:=beq_iff_eq.mpr c13;have dA:=bne_eq_false_iff_eq.mpr c13;clear c13;have H':=Xa.mk H;clear H;go_wp2
        go_meet
        case rel=>exact ⟨_,((aC == 4)),rg_,H',⟨by have:=HJ2.out;first|omega|exact Nat.le_refl _⟩,⟨ba_ aA⟩,⟨bl_ HB⟩⟩
       ·rw [if_neg c13] at H;have cZ:=beq_eq_false_iff_ne.mpr c13;have dA:=bne_iff_ne.mpr c13;have H':=Xa.mk H;clear H;go_wp2
        go_meet
        case rel=>exact ⟨_,((aC == 5)),rg_,H',⟨by have:=HJ2.out;first|omega|exact Nat.le_refl _⟩,⟨ba_ aA⟩,⟨bl_ HB⟩⟩
   case rest=>
    clear eX
    try clear aR
    try clear aS
    try clear aT
    try clear aU
    try clear aV
    try clear aW
    try clear aX
    try clear aY
    obtain ⟨kq,aZ,rfl,HA,eQ,aA,HB⟩:=hcut
    cases kq with
    |zero=>exact absurd HA.out (by simp [Xj.j1])
    |succ eP=>
     have H:=HA.out;clear HA;simp only [Xj.j1] at H;by_cases c14:aZ=true
     ·subst c14
      replace H:((Xr.f eP aC aH aI aJ ([]:List (S63)) ([]:List (S63)) (-1)).bind fun bA=>(some bA))=some r:=(by rw [if_pos rfl] at H;exact H);replace H:=Option.bind_eq_some_iff.mp H;obtain ⟨bA,bW,H⟩:=H;replace H:(some bA)=some r:=H;have eY:=Xa.mk bW;clear bW;obtain rfl:=Option.some.inj H;obtain ⟨hcz16_0,hcz16_1,hcz16_2,hcz16_3⟩:=Uv aA.out;obtain ⟨hfz16_0,hfz16_1,hfz16_2,hfz16_3⟩:=Uy aA.out;go_wp2_with (first|((with_reducible refine Xh (f:=62) rfl ?_);refine Ye (some 31) rfl rfl Try.func62 (by kernel_rfl) rfl #[.agg #[.int .i64 aC,.int .i64 aH,.int .i64 aI,.int .i64 aJ,.slice none 0 0,.slice none 0 0],.int .i64 (-1)] rfl ga_ ?_;(refine (Xr.calls eP aC aH aI aJ _ _ ([]:List (S63)) _ _ ([]:List (S63)) (-1) bA _ ?side1 ?side2 ?side3 ?side4 eY.out).mono ?_);(case side1=>exact Kd.C_nil _ _);(case side2=>exact Nat.le_refl _);(case side3=>exact Kd.C_nil _ _);(case side4=>exact Nat.le_refl _);rintro e w17 ⟨rfl,hb⟩;refine ⟨_,rfl,?_⟩;replace aA:=Xa.mk (Zp (g:=aK) (o:=.cells #[.int .i64 aC,.int .i64 aH,.int .i64 aI,.int .i64 aJ] 31 (0,0)) (ba_ aA) hb);replace HB:=Xa.mk (Xe (bl_ HB) hb);clear hb))
      go_ret
      exact ⟨rf_,bl_ HB⟩
     ·replace c14:=Bool.eq_false_iff.mpr c14;subst c14
      replace H:(if aC=6 then (if bB=true then (if aI=0 then (if aJ ≥ 0 then (some (decide (aJ<a1))) else (some false)) else (some false)) else (some false)) else (if aC=7 then (if aH=0 then (if aI=0 then (if aJ ≥ 0 then (some (decide (aJ<a1))) else (some false)) else (some false)) else (some false)) else (if aC=8 then (Xj.j2 eP aC (aC == 8) aC aH aI aJ) else (Xj.j2 eP aC (aC == 9) aC aH aI aJ))))=some r:=(by rw [if_neg (show ¬ (false=true) by decide)] at H;exact H);by_cases c18:aC=6
      ·rw [if_pos c18] at H;have bC:=beq_iff_eq.mpr c18;have bD:=bne_eq_false_iff_eq.mpr c18;clear c18;by_cases c19:bB=true
       ·subst c19
        replace H:(if aI=0 then (if aJ ≥ 0 then (some (decide (aJ<a1))) else (some false)) else (some false))=some r:=(by rw [if_pos rfl] at H;exact H);by_cases c20:aI=0
        ·rw [if_pos c20] at H;have dB:=beq_iff_eq.mpr c20;have dC:=bne_eq_false_iff_eq.mpr c20;clear c20;by_cases c21:aJ ≥ 0
         ·rw [if_pos c21] at H;have dD:=decide_eq_true c21;clear c21;obtain rfl:=Option.some.inj H;obtain ⟨hcz22_0,hcz22_1,hcz22_2,hcz22_3⟩:=Uv aA.out;obtain ⟨hfz22_0,hfz22_1,hfz22_2,hfz22_3⟩:=Uy aA.out;go_wp2
          go_ret
          exact ⟨rf_,bl_ HB⟩
         ·rw [if_neg c21] at H;have dD:=decide_eq_false c21;clear c21;obtain rfl:=Option.some.inj H;obtain ⟨hcz23_0,hcz23_1,hcz23_2,hcz23_3⟩:=Uv aA.out;obtain ⟨hfz23_0,hfz23_1,hfz23_2,hfz23_3⟩:=Uy aA.out;go_wp2
          go_ret
          exact ⟨rf_,bl_ HB⟩
        ·rw [if_neg c20] at H;have dB:=beq_eq_false_iff_ne.mpr c20;have dC:=bne_iff_ne.mpr c20;obtain rfl:=Option.some.inj H;obtain ⟨hcz24_0,hcz24_1,hcz24_2,hcz24_3⟩:=Uv aA.out;obtain ⟨hfz24_0,hfz24_1,hfz24_2,hfz24_3⟩:=Uy aA.out;go_wp2
         go_ret
         exact ⟨rf_,bl_ HB⟩
       ·replace c19:=Bool.eq_false_iff.mpr c19;subst c19
        replace H:(some false)=some r:=(by rw [if_neg (show ¬ (false=true) by decide)] at H;exact H);obtain rfl:=Option.some.inj H;go_wp2
        go_ret
        exact ⟨rf_,bl_ HB⟩
      ·rw [if_neg c18] at H;have bC:=beq_eq_false_iff_ne.mpr c18;have bD:=bne_iff_ne.mpr c18;by_cases bH:aC=7
       ·rw [if_pos bH] at H;have bE:=beq_iff_eq.mpr bH;have bF:=bne_eq_false_iff_eq.mpr bH;clear bH;by_cases bK:aH=0
        ·rw [if_pos bK] at H;have dE:=beq_iff_eq.mpr bK;have dF:=bne_eq_false_iff_eq.mpr bK;clear bK;by_cases bL:aI=0
         ·rw [if_pos bL] at H;have dG:=beq_iff_eq.mpr bL;have dH:=bne_eq_false_iff_eq.mpr bL;clear bL;by_cases c28:aJ ≥ 0
          ·rw [if_pos c28] at H;have dI:=decide_eq_true c28;clear c28;obtain rfl:=Option.some.inj H;obtain ⟨hcz29_0,hcz29_1,hcz29_2,hcz29_3⟩:=Uv aA.out;obtain ⟨hfz29_0,hfz29_1,hfz29_2,hfz29_3⟩:=Uy aA.out;go_wp2
           go_ret
           exact ⟨rf_,bl_ HB⟩
          ·rw [if_neg c28] at H;have dI:=decide_eq_false c28;clear c28;obtain rfl:=Option.some.inj H;obtain ⟨hcz30_0,hcz30_1,hcz30_2,hcz30_3⟩:=Uv aA.out;obtain ⟨hfz30_0,hfz30_1,hfz30_2,hfz30_3⟩:=Uy aA.out;go_wp2
           go_ret
           exact ⟨rf_,bl_ HB⟩
         ·rw [if_neg bL] at H;have dG:=beq_eq_false_iff_ne.mpr bL;have dH:=bne_iff_ne.mpr bL;obtain rfl:=Option.some.inj H;obtain ⟨hcz31_0,hcz31_1,hcz31_2,hcz31_3⟩:=Uv aA.out;obtain ⟨hfz31_0,hfz31_1,hfz31_2,hfz31_3⟩:=Uy aA.out;go_wp2
          go_ret
          exact ⟨rf_,bl_ HB⟩
        ·rw [if_neg bK] at H;have dE:=beq_eq_false_iff_ne.mpr bK;have dF:=bne_iff_ne.mpr bK;obtain rfl:=Option.some.inj H;obtain ⟨hcz32_0,hcz32_1,hcz32_2,hcz32_3⟩:=Uv aA.out;obtain ⟨hfz32_0,hfz32_1,hfz32_2,hfz32_3⟩:=Uy aA.out;go_wp2
         go_ret
         exact ⟨rf_,bl_ HB⟩
       ·rw [if_neg bH] at H;have bE:=beq_eq_false_iff_ne.mpr bH;have bF:=bne_iff_ne.mpr bH;have bI:=Xa.mk H;clear H
        go_upto_if 72 with (fail)
        go_cut [72] (fun v72 wc=>∃ (kq:Nat) (aL:Bool),v72=.bool aL∧Xa (Xj.j2 kq aC aL aC aH aI aJ=some r)∧Xa (kq≤eP)∧Xa (wc.heap[aK]?=some (.cells #[.int .i64 aC,.int .i64 aH,.int .i64 aI,.int .i64 aJ] 31 (0,0)))∧Xa (Below w.heap.size w wc))
        case first=>
         have H:=bI.out;clear bI;by_cases c34:aC=8
         ·rw [if_pos c34] at H;have aO:=beq_iff_eq.mpr c34;have dJ:=bne_eq_false_iff_eq.mpr c34;clear c34
          (first|rw [aO]|(simp only [Ub,Uf];rw [aO])|skip)
          have H':=Xa.mk H;clear H;go_wp2
          go_meet
          case rel=>exact ⟨_,((aC == 8)),rg_,H',⟨by have:=HJ2.out;have:=eQ.out;first|omega|exact Nat.le_refl _⟩,⟨ba_ aA⟩,⟨bl_ HB⟩⟩
         ·rw [if_neg c34] at H;have aO:=beq_eq_false_iff_ne.mpr c34;have dJ:=bne_iff_ne.mpr c34
          (first|rw [aO]|(simp only [Ub,Uf];rw [aO])|skip)
          have H':=Xa.mk H;clear H;go_wp2
          go_meet
          case rel=>exact ⟨_,((aC == 9)),rg_,H',⟨by have:=HJ2.out;have:=eQ.out;first|omega|exact Nat.le_refl _⟩,⟨ba_ aA⟩,⟨bl_ HB⟩⟩
        case rest=>
         clear bI
         try clear c14
         try clear c18
         try clear bC
         try clear bD
         try clear bH
         try clear bE
         try clear bF
         try clear aR
         try clear aS
         try clear aT
         try clear aU
         try clear aV
         try clear aW
         try clear aX
         try clear aY
         obtain ⟨kq,aL,rfl,HA,bX,aA,HB⟩:=hcut
         cases kq with
         |zero=>exact absurd HA.out (by simp [Xj.j2])
         |succ bT=>
          have H:=HA.out;clear HA;simp only [Xj.j2] at H;by_cases dK:aL=true
          ·subst dK
           replace H:(if aH ≥ 0 then (if aH<2 then (if aI=0 then (some (aJ == 0)) else (some false)) else (some false)) else (some false))=some r:=(by rw [if_pos rfl] at H;exact H);by_cases bU:aH ≥ 0
           ·rw [if_pos bU] at H;have dL:=decide_eq_true bU;clear bU;by_cases c37:aH<2
            ·rw [if_pos c37] at H;have dM:=decide_eq_true c37;clear c37;by_cases bM:aI=0
             ·rw [if_pos bM] at H;have dN:=beq_iff_eq.mpr bM;have dO:=bne_eq_false_iff_eq.mpr bM;clear bM;obtain rfl:=Option.some.inj H;obtain ⟨hcz39_0,hcz39_1,hcz39_2,hcz39_3⟩:=Uv aA.out;obtain ⟨hfz39_0,hfz39_1,hfz39_2,hfz39_3⟩:=Uy aA.out;go_wp2
              go_ret
              exact ⟨rf_,bl_ HB⟩
             ·rw [if_neg bM] at H;have dN:=beq_eq_false_iff_ne.mpr bM;have dO:=bne_iff_ne.mpr bM;obtain rfl:=Option.some.inj H;obtain ⟨hcz40_0,hcz40_1,hcz40_2,hcz40_3⟩:=Uv aA.out;obtain ⟨hfz40_0,hfz40_1,hfz40_2,hfz40_3⟩:=Uy aA.out;go_wp2
              go_ret
              exact ⟨rf_,bl_ HB⟩
            ·rw [if_neg c37] at H;have dM:=decide_eq_false c37;clear c37;obtain rfl:=Option.some.inj H;obtain ⟨hcz41_0,hcz41_1,hcz41_2,hcz41_3⟩:=Uv aA.out;obtain ⟨hfz41_0,hfz41_1,hfz41_2,hfz41_3⟩:=Uy aA.out;go_wp2
             go_ret
             exact ⟨rf_,bl_ HB⟩
           ·rw [if_neg bU] at H;have dL:=decide_eq_false bU;clear bU;obtain rfl:=Option.some.inj H;obtain ⟨hcz42_0,hcz42_1,hcz42_2,hcz42_3⟩:=Uv aA.out;obtain ⟨hfz42_0,hfz42_1,hfz42_2,hfz42_3⟩:=Uy aA.out;go_wp2
            go_ret
            exact ⟨rf_,bl_ HB⟩
          ·replace dK:=Bool.eq_false_iff.mpr dK;subst dK
           replace H:(if aC=10 then (Xj.j3 bT aC (aC == 10) aC aH aI aJ) else (Xj.j3 bT aC (aC == 11) aC aH aI aJ))=some r:=(by rw [if_neg (show ¬ (false=true) by decide)] at H;exact H);have bJ:=Xa.mk H;clear H
           go_upto_if 93 with (fail)
           go_cut [93] (fun v93 wc=>∃ (kq:Nat) (aM:Bool),v93=.bool aM∧Xa (Xj.j3 kq aC aM aC aH aI aJ=some r)∧Xa (kq≤bT)∧Xa (wc.heap[aK]?=some (.cells #[.int .i64 aC,.int .i64 aH,.int .i64 aI,.int .i64 aJ] 31 (0,0)))∧Xa (Below w.heap.size w wc))
           case first=>
            have H:=bJ.out;clear bJ;by_cases bN:aC=10
            ·rw [if_pos bN] at H;have aP:=beq_iff_eq.mpr bN;have dP:=bne_eq_false_iff_eq.mpr bN;clear bN
             (first|rw [aP]|(simp only [Ub,Uf];rw [aP])|skip)
             have H':=Xa.mk H;clear H;go_wp2
             go_meet
             case rel=>exact ⟨_,((aC == 10)),rg_,H',⟨by have:=HJ2.out;have:=eQ.out;have:=bX.out;first|omega|exact Nat.le_refl _⟩,⟨ba_ aA⟩,⟨bl_ HB⟩⟩
            ·rw [if_neg bN] at H;have aP:=beq_eq_false_iff_ne.mpr bN;have dP:=bne_iff_ne.mpr bN
             (first|rw [aP]|(simp only [Ub,Uf];rw [aP])|skip)
             have H':=Xa.mk H;clear H;go_wp2
             go_meet
             case rel=>exact ⟨_,((aC == 11)),rg_,H',⟨by have:=HJ2.out;have:=eQ.out;have:=bX.out;first|omega|exact Nat.le_refl _⟩,⟨ba_ aA⟩,⟨bl_ HB⟩⟩
           case rest=>
            clear bJ
            try clear c14
            try clear c18
            try clear bC
            try clear bD
            try clear bH
            try clear bE
            try clear bF
            try clear dK
            try clear aR
            try clear aS
            try clear aT
            try clear aU
            try clear aV
            try clear aW
            try clear aX
            try clear aY
            obtain ⟨kq,aM,rfl,HA,HJ42,aA,HB⟩:=hcut
            cases kq with
            |zero=>exact absurd HA.out (by simp [Xj.j3])
            |succ kj42=>
             have H:=HA.out;clear HA;simp only [Xj.j3] at H;by_cases eT:aM=true
             ·subst eT
              replace H:(if aH ≥ 0 then (if aH<2 then (if aI=0 then (some (aJ == 0)) else (some false)) else (some false)) else (some false))=some r:=(by rw [if_pos rfl] at H;exact H);by_cases c46:aH ≥ 0
              ·rw [if_pos c46] at H;have dQ:=decide_eq_true c46;clear c46;by_cases bV:aH<2
               ·rw [if_pos bV] at H;have dR:=decide_eq_true bV;clear bV;by_cases bO:aI=0
                ·rw [if_pos bO] at H;have dS:=beq_iff_eq.mpr bO;have dU:=bne_eq_false_iff_eq.mpr bO;clear bO;obtain rfl:=Option.some.inj H;obtain ⟨hcz49_0,hcz49_1,hcz49_2,hcz49_3⟩:=Uv aA.out;obtain ⟨hfz49_0,hfz49_1,hfz49_2,hfz49_3⟩:=Uy aA.out;go_wp2
                 go_ret
                 exact ⟨rf_,bl_ HB⟩
                ·rw [if_neg bO] at H;have dS:=beq_eq_false_iff_ne.mpr bO;have dU:=bne_iff_ne.mpr bO;obtain rfl:=Option.some.inj H;obtain ⟨hcz50_0,hcz50_1,hcz50_2,hcz50_3⟩:=Uv aA.out;obtain ⟨hfz50_0,hfz50_1,hfz50_2,hfz50_3⟩:=Uy aA.out;go_wp2
                 go_ret
                 exact ⟨rf_,bl_ HB⟩
               ·rw [if_neg bV] at H;have dR:=decide_eq_false bV;clear bV;obtain rfl:=Option.some.inj H;obtain ⟨hcz51_0,hcz51_1,hcz51_2,hcz51_3⟩:=Uv aA.out;obtain ⟨hfz51_0,hfz51_1,hfz51_2,hfz51_3⟩:=Uy aA.out;go_wp2
                go_ret
                exact ⟨rf_,bl_ HB⟩
              ·rw [if_neg c46] at H;have dQ:=decide_eq_false c46;clear c46;obtain rfl:=Option.some.inj H;obtain ⟨hcz52_0,hcz52_1,hcz52_2,hcz52_3⟩:=Uv aA.out;obtain ⟨hfz52_0,hfz52_1,hfz52_2,hfz52_3⟩:=Uy aA.out;go_wp2
               go_ret
               exact ⟨rf_,bl_ HB⟩
             ·replace eT:=Bool.eq_false_iff.mpr eT;subst eT
              replace H:(if aC=12 then (if aH=0 then (if aI=0 then (some (aJ == 0)) else (some false)) else (some false)) else (if aC=13 then (if aH=0 then (if aI=0 then (some (aJ == 0)) else (some false)) else (some false)) else (some false)))=some r:=(by rw [if_neg (show ¬ (false=true) by decide)] at H;exact H);by_cases c53:aC=12
              ·rw [if_pos c53] at H;have dV:=beq_iff_eq.mpr c53;have dW:=bne_eq_false_iff_eq.mpr c53;clear c53;by_cases bP:aH=0
               ·rw [if_pos bP] at H;have dX:=beq_iff_eq.mpr bP;have dY:=bne_eq_false_iff_eq.mpr bP;clear bP;by_cases bQ:aI=0
                ·rw [if_pos bQ] at H;have dZ:=beq_iff_eq.mpr bQ;have d9:=bne_eq_false_iff_eq.mpr bQ;clear bQ;obtain rfl:=Option.some.inj H;obtain ⟨hcz56_0,hcz56_1,hcz56_2,hcz56_3⟩:=Uv aA.out;obtain ⟨hfz56_0,hfz56_1,hfz56_2,hfz56_3⟩:=Uy aA.out;go_wp2
                 go_ret
                 exact ⟨rf_,bl_ HB⟩
                ·rw [if_neg bQ] at H;have dZ:=beq_eq_false_iff_ne.mpr bQ;have d9:=bne_iff_ne.mpr bQ;obtain rfl:=Option.some.inj H;obtain ⟨hcz57_0,hcz57_1,hcz57_2,hcz57_3⟩:=Uv aA.out;obtain ⟨hfz57_0,hfz57_1,hfz57_2,hfz57_3⟩:=Uy aA.out;go_wp2
                 go_ret
                 exact ⟨rf_,bl_ HB⟩
               ·rw [if_neg bP] at H;have dX:=beq_eq_false_iff_ne.mpr bP;have dY:=bne_iff_ne.mpr bP;obtain rfl:=Option.some.inj H;obtain ⟨hcz58_0,hcz58_1,hcz58_2,hcz58_3⟩:=Uv aA.out;obtain ⟨hfz58_0,hfz58_1,hfz58_2,hfz58_3⟩:=Uy aA.out;go_wp2
                go_ret
                exact ⟨rf_,bl_ HB⟩
              ·rw [if_neg c53] at H;have dV:=beq_eq_false_iff_ne.mpr c53;have dW:=bne_iff_ne.mpr c53;by_cases c59:aC=13
               ·rw [if_pos c59] at H;have eB:=beq_iff_eq.mpr c59;have eD:=bne_eq_false_iff_eq.mpr c59;clear c59;by_cases bR:aH=0
                ·rw [if_pos bR] at H;have eF:=beq_iff_eq.mpr bR;have eG:=bne_eq_false_iff_eq.mpr bR;clear bR;by_cases bS:aI=0
                 ·rw [if_pos bS] at H;have eH:=beq_iff_eq.mpr bS;have eO:=bne_eq_false_iff_eq.mpr bS;clear bS;obtain rfl:=Option.some.inj H;obtain ⟨hcz62_0,hcz62_1,hcz62_2,hcz62_3⟩:=Uv aA.out;obtain ⟨hfz62_0,hfz62_1,hfz62_2,hfz62_3⟩:=Uy aA.out;go_wp2
                  go_ret
                  exact ⟨rf_,bl_ HB⟩
                 ·rw [if_neg bS] at H;have eH:=beq_eq_false_iff_ne.mpr bS;have eO:=bne_iff_ne.mpr bS;obtain rfl:=Option.some.inj H;obtain ⟨hcz63_0,hcz63_1,hcz63_2,hcz63_3⟩:=Uv aA.out;obtain ⟨hfz63_0,hfz63_1,hfz63_2,hfz63_3⟩:=Uy aA.out;go_wp2
                  go_ret
                  exact ⟨rf_,bl_ HB⟩
                ·rw [if_neg bR] at H;have eF:=beq_eq_false_iff_ne.mpr bR;have eG:=bne_iff_ne.mpr bR;obtain rfl:=Option.some.inj H;obtain ⟨hcz64_0,hcz64_1,hcz64_2,hcz64_3⟩:=Uv aA.out;obtain ⟨hfz64_0,hfz64_1,hfz64_2,hfz64_3⟩:=Uy aA.out;go_wp2
                 go_ret
                 exact ⟨rf_,bl_ HB⟩
               ·rw [if_neg c59] at H;have eB:=beq_eq_false_iff_ne.mpr c59;have eD:=bne_iff_ne.mpr c59;obtain rfl:=Option.some.inj H;go_wp2
                go_ret
                exact ⟨rf_,bl_ HB⟩
end Go.Proofs.Ytokajnfbiddpjaa.GSlim
