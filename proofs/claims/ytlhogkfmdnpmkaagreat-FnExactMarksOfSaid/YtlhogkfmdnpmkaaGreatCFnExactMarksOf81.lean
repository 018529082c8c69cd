import Derived.Test.YtlhogkfmdnpmkaaGreatCFnExactMarksOf80
set_option linter.unusedVariables false
set_option linter.unusedSimpArgs false
set_option maxHeartbeats 8000000
set_option maxRecDepth 100000
namespace Go.Proofs.YtlhogkfmdnpmkaaGreat.GMarks
open RowKit YtlhogkfmdnpmkaaGreatW.PrintWords YtlhogkfmdnpmkaaGreatW.PrintLast YtlhogkfmdnpmkaaGreatW.PrintMore
attribute [local go_sem] Ua Ud Uu Ux Zo Zp Ub Ue
def spec_l1Max.f (a0:Int) (a1:Int):Option (Int):=if a0 > a1 then (some a0) else (some a1)
theorem spec_l1Max.calls (a0:Int) (a1:Int) (r:Int) (w:World) (h:spec_l1Max.f a0 a1=some r) :
  Calls Tryz.prog 76 #[.int .i64 a0,.int .i64 a1] w fun e w'=>e=.returned (.int .i64 r)∧Xz w w':=by
 have H:(if a0 > a1 then (some a0) else (some a1))=some r:=h;clear h;by_cases c3:a0 > a1
 ·rw [if_pos c3] at H;have bX:decide (a1<a0)=true:=dt_ c3;clear c3;obtain rfl:=sj_ H;go_enter Tryz.func76,Tryz.ntmps76;go_wp2;go_ret
  exact ⟨by first|rfl|(simp;done)|(simp [*];done),by repeat (first|exact Xz.refl _|apply Xz.step)⟩
 ·rw [if_neg c3] at H;have bX:decide (a1<a0)=false:=df_ c3;clear c3;obtain rfl:=sj_ H;go_enter Tryz.func76,Tryz.ntmps76;go_wp2;go_ret
  exact ⟨by first|rfl|(simp;done)|(simp [*];done),by repeat (first|exact Xz.refl _|apply Xz.step)⟩
mutual
def Xu.l0:Nat→List Int→List Int→List Int→Int→Option (List Int)
 |0,_,_,_,_=>none
 |k+1,x0,x1,x5,x6=>if x6<(x0.length:Int) then (Xu.j1 k x0 x1 x5 x6 true) else (Xu.j1 k x0 x1 x5 x6 (decide (x6<(x1.length:Int))))
def Xu.j1:Nat→List Int→List Int→List Int→Int→Bool→Option (List Int)
 |0,_,_,_,_,_=>none
 |k+1,x0,x1,x5,x6,fO=>if fO=true then (if x6<(x0.length:Int) then (if 0≤x6 then (Xu.j2 k x0 x1 x5 x6 (rd x0 x6)) else (none)) else (Xu.j2 k x0 x1 x5 x6 0)) else (some x5)
def Xu.j2:Nat→List Int→List Int→List Int→Int→Int→Option (List Int)
 |0,_,_,_,_,_=>none
 |k+1,x0,x1,x5,x6,x7=>if x6<(x1.length:Int) then (if 0≤x6 then ((spec_l1Max.f x7 (rd x1 x6)).bind fun aY=>((spec_l1Max.f aY 0).bind fun aJ=>(if x5.length<17592186044416 then (Xu.l0 k x0 x1 (x5 ++ [aJ]) (wrap64 (x6+1))) else (none)))) else (none)) else ((spec_l1Max.f x7 0).bind fun aQ=>(if x5.length<17592186044416 then (Xu.l0 k x0 x1 (x5 ++ [aQ]) (wrap64 (x6+1))) else (none)))
end
def Xu.f (k:Nat) (l0:List Int) (l1:List Int):Option (List Int):=Xu.l0 k l0 l1 (([]:List Int)) 0
theorem Xu.calls (k:Nat) (A0:Option Addr) (c0:Nat) (l0:List Int) (A1:Option Addr) (c1:Nat) (l1:List Int) (r:List Int) (w:World) (hr0:Kd.C (Kd.int .i64) w A0 l0.length l0) (hc0:l0.length≤c0) (hr1:Kd.C (Kd.int .i64) w A1 l1.length l1) (hc1:l1.length≤c1) (h:Xu.f k l0 l1=some r) :
  Calls Tryz.prog 54 #[.slice A0 l0.length c0,.slice A1 l1.length c1] w fun e w'=>∃ dZ:Value,e=.returned (dZ)∧Kd.R (Kd.int .i64) 3 w' w.heap.size (fun _=>True) dZ r∧Below w.heap.size w w':=by
 have fK:=Xa.mk hr0;have HC0:=Xa.mk hc0;clear hr0 hc0;have HR1:=Xa.mk hr1;have HC1:=Xa.mk hc1;clear hr1 hc1;have HB:=Xa.mk (Below.refl w.heap.size w);have H:(Xu.l0 k l0 l1 (([]:List Int)) 0)=some r:=h;clear h;obtain ⟨d9,bJ⟩:∃ y_:List Int,y_=(([]:List Int)):=⟨_,rfl⟩
 replace H:(Xu.l0 k l0 l1 d9 0)=some r:=by subst bJ;exact hh_ H
 have bT:=Xa.mk bJ;clear bJ;have H':=Xa.mk H;clear H;go_enter Tryz.func54,Tryz.ntmps54;go_wp2_with (first|((with_reducible refine Yv (N:=8) rfl ?_);(try (refine gate_guard rl1_ ?_;dsimp only));refine Kd.R_lit (Kd.int .i64) _ 3 ?hg (N:=8) ?hd (xs:=([]:List Int)) (inner:=[]) (ok:=fun _=>True) (okp:=fun _=>True) ?hr ?hp (fun _ hk=>hk) trivial (Below.refl _ _) (nr_ _) sm_ ?_;(case hd|hg=>rfl);(case hr=>exact hr_);(case hp=>exact (Reps.none _ _));intro v215 w3 dY hb eZ bI;clear eZ bI;(first|rw [← bT.out] at dY|(simp only [Int.reduceToNat] at dY;rw [← bT.out] at dY));have dG:=Xa.mk (Kd.R_lower dY (Xj (bl_ HB)));replace HB:=Xa.mk (Xi (bl_ HB) hb);clear hb dY))
 go_loopg [5,6] k (fun kq v5 v6 w'=>∃ (aC:List Int) (aA:Int),v6=.int .i64 aA∧Xa (Xu.l0 kq l0 l1 aC aA=some r)∧Xa (kq≤k)∧Xa (Kd.R (Kd.int .i64) 3 w' w.heap.size (fun _=>True) v5 aC)∧Xa (Below w.heap.size w w'))
 case atStart=>exact ⟨(d9),(0),rg_,H',⟨nr_ _⟩,⟨Kd.ra_ (dG.out)⟩,⟨bl_ HB⟩⟩
 case round=>
  clear H'
  try clear c1
  obtain ⟨aC,aA,rfl,HA,bQ,aG,HB⟩:=hrel
  cases gk with
  |zero=>exact absurd HA.out (by simp [Xu.l0])
  |succ k1=>
   have H:=HA.out;clear HA;simp only [Xu.l0] at H;have eO:=Xa.mk H;clear H;go_upto_region 3 with (fail)
   go_cut [18] (fun v18 wc=>∃ (kq:Nat) (aX:Bool),v18=.bool aX∧Xa (Xu.j1 kq l0 l1 aC aA aX=some r)∧Xa (kq≤k1)∧Xa (Kd.R (Kd.int .i64) 3 wc w.heap.size (fun _=>True) u5 aC)∧Xa (Below w.heap.size w wc))
   case first=>
    have H:=eO.out;clear eO;by_cases c6:aA<(l0.length:Int)
    ·rw [if_pos c6] at H;have bH:decide (aA<(l0.length:Int))=true:=dt_ c6;clear c6
     (first|rw [bH]|(simp only [i64_w,i32_w];rw [bH])|skip)
     have H':=Xa.mk H;clear H;go_wp2;go_meet
     case rel=>exact ⟨_,(true),rg_,H',⟨by have:=bQ.out;first|omega|exact nr_ _⟩,⟨Kd.ra_ (aG.out)⟩,⟨bl_ HB⟩⟩
    ·rw [if_neg c6] at H;have bH:decide (aA<(l0.length:Int))=false:=df_ c6;clear c6
     (first|rw [bH]|(simp only [i64_w,i32_w];rw [bH])|skip)
     have H':=Xa.mk H;clear H;go_wp2;go_meet
     case rel=>exact ⟨_,(decide (aA<(l1.length:Int))),rg_,H',⟨by have:=bQ.out;first|omega|exact nr_ _⟩,⟨Kd.ra_ (aG.out)⟩,⟨bl_ HB⟩⟩
   case rest=>
    clear eO
    try clear c1
    obtain ⟨kq,aX,rfl,HA,cZ,aG,HB⟩:=hcut
    cases kq with
    |zero=>exact absurd HA.out (by simp [Xu.j1])
    |succ fA=>
     have H:=HA.out;clear HA;simp only [Xu.j1] at H;by_cases c7:aX=true
     ·subst c7
      replace H:(if aA<(l0.length:Int) then (if 0≤aA then (Xu.j2 fA l0 l1 aC aA (rd l0 aA)) else (none)) else (Xu.j2 fA l0 l1 aC aA 0))=some r:=ph_;have eP:=Xa.mk H;clear H;go_upto_if 24 with (fail)
      go_cut [7] (fun v7 wc=>∃ (kq:Nat) (aT:Int),v7=.int .i64 aT∧Xa (Xu.j2 kq l0 l1 aC aA aT=some r)∧Xa (kq≤fA)∧Xa (Kd.R (Kd.int .i64) 3 wc w.heap.size (fun _=>True) u5 aC)∧Xa (Below w.heap.size w wc))
      case first=>
       have H:=eP.out;clear eP;by_cases c9:aA<(l0.length:Int)
       ·rw [if_pos c9] at H;have aN:decide (aA<(l0.length:Int))=true:=dt_ c9;clear c9
        (first|rw [aN]|(simp only [i64_w,i32_w];rw [aN])|skip)
        by_cases c10:0≤aA
        ·rw [if_pos c10] at H;have c10b0:decide (0≤aA)=true:=dt_ c10;clear c10;have H':=Xa.mk H;clear H;have bZ:0≤(aA:Int):=od_ as_;have cK:aA<(l0.length:Int):=od_ as_;obtain ⟨ad217,e217,aU⟩:=Kd.at_int fK.out aA bZ cK;cases e217
         replace aU:=bw_ HB aU;replace bZ:=eq_true bZ;replace cK:=eq_true cK;go_wp2;go_meet
         case rel=>exact ⟨_,(rd l0 aA),rg_,H',⟨by have:=bQ.out;have:=cZ.out;first|omega|exact nr_ _⟩,⟨Kd.ra_ (aG.out)⟩,⟨bl_ HB⟩⟩
        ·rw [if_neg c10] at H;exact absurd H sm_
       ·rw [if_neg c9] at H;have aN:decide (aA<(l0.length:Int))=false:=df_ c9;clear c9
        (first|rw [aN]|(simp only [i64_w,i32_w];rw [aN])|skip)
        have H':=Xa.mk H;clear H;go_wp2;go_meet
        case rel=>exact ⟨_,(0),rg_,H',⟨by have:=bQ.out;have:=cZ.out;first|omega|exact nr_ _⟩,⟨Kd.ra_ (aG.out)⟩,⟨bl_ HB⟩⟩
      case rest=>
       clear eP
       try clear c1
       try clear c7
       obtain ⟨kq,aT,rfl,HA,eF,aG,HB⟩:=hcut
       cases kq with
       |zero=>exact absurd HA.out (by simp [Xu.j2])
       |succ bY=>
        have H:=HA.out;clear HA;simp only [Xu.j2] at H;by_cases c11:aA<(l1.length:Int)
        ·rw [if_pos c11] at H;have bG:decide (aA<(l1.length:Int))=true:=dt_ c11;clear c11;by_cases c12:0≤aA
         ·rw [if_pos c12] at H;have c12b0:decide (0≤aA)=true:=dt_ c12;clear c12;replace H:=bo_ H;obtain ⟨aY,dC,H⟩:=H;replace H:((spec_l1Max.f aY 0).bind fun aJ=>(if aC.length<17592186044416 then (Xu.l0 bY l0 l1 (aC ++ [aJ]) (wrap64 (aA+1))) else (none)))=some r:=H;have fG:=Xa.mk dC;clear dC;replace H:=bo_ H;obtain ⟨aJ,bF,H⟩:=H;replace H:(if aC.length<17592186044416 then (Xu.l0 bY l0 l1 (aC ++ [aJ]) (wrap64 (aA+1))) else (none))=some r:=H;have eG:=Xa.mk bF;clear bF;by_cases c15:aC.length<17592186044416
          ·rw [if_pos c15] at H;have dK:=Xa.mk c15;clear c15;obtain ⟨eB,bK⟩:∃ y_:List Int,y_=(aC ++ [aJ]):=⟨_,rfl⟩
           replace H:(Xu.l0 bY l0 l1 eB (wrap64 (aA+1)))=some r:=by subst bK;exact hh_ H
           have dM:=Xa.mk bK;clear bK;have H':=Xa.mk H;clear H;have cB:0≤(aA:Int):=od_ as_;have cO:aA<(l1.length:Int):=od_ as_;obtain ⟨ad218,eY,aV⟩:=Kd.at_int HR1.out aA cB cO;cases eY
           replace aV:=bw_ HB aV;replace cB:=eq_true cB;replace cO:=eq_true cO;go_wp2_with (first|((with_reducible refine Yh (f:=76) rfl ?_);refine Zz (some 38) rfl rfl Tryz.func76 kr_ rfl #[.int .i64 aT,.int .i64 (rd l1 aA)] rfl ga_ ?_;(with_reducible refine (spec_l1Max.calls aT (rd l1 aA) aY _ fG.out).mono ?_);rintro e w' ⟨rfl,⟨nd,rfl⟩⟩;refine ⟨_,rfl,?_⟩)|((with_reducible refine Yh (f:=76) rfl ?_);refine Zz (some 41) rfl rfl Tryz.func76 kr_ rfl #[.int .i64 aY,.int .i64 0] rfl ga_ ?_;(with_reducible refine (spec_l1Max.calls aY 0 aJ _ eG.out).mono ?_);rintro e w' ⟨rfl,⟨nd,rfl⟩⟩;refine ⟨_,rfl,?_⟩)|((with_reducible refine gate_builtin (b:=.append) (xs:=#[.tmp 39,.tmp 42]) rfl ?_);(try (refine gate_guard rl1_ ?_;dsimp only));at_builtin;refine Kd.R_append (Kd.int .i64) (w0:=w) w.heap.size rfl (.tmp 39) (.tmp 42) 23 3 (.int .i64 0) 8 rfl Tryz.underlying23 info3 rfl de_ om_ u5 aC aJ [.int .i64 aJ] (fun _=>True) (fun _=>False) rfl rfl ?aP (fun _ hk=>hk.elim) ?aF ?aO ?aB ?aS ?aL ?_;(case aP=>exact rfl);(case aB=>exact (bl_ HB));(case aF=>exact (fun _ _=>trivial));(case aO=>exact (Kd.ra_ (aG.out)));(case aS=>exact (Xj (bl_ HB)));(case aL=>have:=dK.out;omega);intro v222 w16 ho hb hg hat;rw [← dM.out] at ho;replace HB:=Xa.mk (hb);have dH:=Xa.mk (ho);clear aG ho hb hg hat));go_roundg bY
           case measure=>have:=bQ.out;have:=cZ.out;have:=eF.out;omega
           case rel=>exact ⟨(eB),(wrap64 (aA+1)),rg_,H',⟨by have:=bQ.out;have:=cZ.out;have:=eF.out;omega⟩,⟨Kd.ra_ (dH.out)⟩,⟨bl_ HB⟩⟩
          ·rw [if_neg c15] at H;exact absurd H sm_
         ·rw [if_neg c12] at H;exact absurd H sm_
        ·rw [if_neg c11] at H;have bG:decide (aA<(l1.length:Int))=false:=df_ c11;clear c11;replace H:=bo_ H;obtain ⟨aQ,dE,H⟩:=H;replace H:(if aC.length<17592186044416 then (Xu.l0 bY l0 l1 (aC ++ [aQ]) (wrap64 (aA+1))) else (none))=some r:=H;have fI:=Xa.mk dE;clear dE;by_cases c18:aC.length<17592186044416
         ·rw [if_pos c18] at H;have dL:=Xa.mk c18;clear c18;obtain ⟨eD,bL⟩:∃ y_:List Int,y_=(aC ++ [aQ]):=⟨_,rfl⟩
          replace H:(Xu.l0 bY l0 l1 eD (wrap64 (aA+1)))=some r:=by subst bL;exact hh_ H
          have dN:=Xa.mk bL;clear bL;have H':=Xa.mk H;clear H;go_wp2_with (first|((with_reducible refine Yh (f:=76) rfl ?_);refine Zz (some 41) rfl rfl Tryz.func76 kr_ rfl #[.int .i64 aT,.int .i64 0] rfl ga_ ?_;(with_reducible refine (spec_l1Max.calls aT 0 aQ _ fI.out).mono ?_);rintro e w' ⟨rfl,⟨nd,rfl⟩⟩;refine ⟨_,rfl,?_⟩)|((with_reducible refine gate_builtin (b:=.append) (xs:=#[.tmp 39,.tmp 42]) rfl ?_);(try (refine gate_guard rl1_ ?_;dsimp only));at_builtin;refine Kd.R_append (Kd.int .i64) (w0:=w) w.heap.size rfl (.tmp 39) (.tmp 42) 23 3 (.int .i64 0) 8 rfl Tryz.underlying23 info3 rfl de_ om_ u5 aC aQ [.int .i64 aQ] (fun _=>True) (fun _=>False) rfl rfl ?aP (fun _ hk=>hk.elim) ?aF ?aO ?aB ?aS ?aL ?_;(case aP=>exact rfl);(case aB=>exact (bl_ HB));(case aF=>exact (fun _ _=>trivial));(case aO=>exact (Kd.ra_ (aG.out)));(case aS=>exact (Xj (bl_ HB)));(case aL=>have:=dL.out;omega);intro v226 w19 ho hb hg hat;rw [← dN.out] at ho;replace HB:=Xa.mk (hb);have dI:=Xa.mk (ho);clear aG ho hb hg hat));go_roundg bY
          case measure=>have:=bQ.out;have:=cZ.out;have:=eF.out;omega
          case rel=>exact ⟨(eD),(wrap64 (aA+1)),rg_,H',⟨by have:=bQ.out;have:=cZ.out;have:=eF.out;omega⟩,⟨Kd.ra_ (dI.out)⟩,⟨bl_ HB⟩⟩
         ·rw [if_neg c18] at H;exact absurd H sm_
     ·replace c7:=Bool.eq_false_iff.mpr c7;subst c7
      replace H:(some aC)=some r:=fh_;obtain rfl:=sj_ H;go_wp2;go_ret
      exact ⟨_,rf_,Kd.ra_ (aG.out),bl_ HB⟩
def Zn.f (l0:List (S87)) (l1:List (S87)):Option ((List (S87))):=(some (([]:List (S87)):List (S87))).bind fun aI=>(if aI.length+l0.length<1759218604441 then ((some (aI ++ l0:List (S87))).bind fun aD=>(if aD.length+l1.length<1759218604441 then (some (aD ++ l1)) else (none))) else (none))
theorem Zn.calls (aK:Nat→Prop) (A0:Option Addr) (c0:Nat) (l0:List (S87)) (aM:Nat→Prop) (A1:Option Addr) (c1:Nat) (l1:List (S87)) (r:List (S87)) (w:World) (hs0:Kd.V k87 87 w w.heap.size (fun k_=>aK k_) (.slice A0 l0.length c0) l0) (hs1:Kd.V k87 87 w w.heap.size (fun k_=>aM k_) (.slice A1 l1.length c1) l1) (h:Zn.f l0 l1=some r) :
  Calls Tryz.prog 77 #[.slice A0 l0.length c0,.slice A1 l1.length c1] w fun e w'=>∃ dZ:Value,e=.returned (dZ)∧Kd.N k87 87 w' w.heap.size (fun k_=>((aK k_∨aM k_)∨w.heap.size≤k_)) dZ r∧Below w.heap.size w w':=by
 have bV:=Xa.mk (show Kd.V k87 87 w w.heap.size (fun k_=>((aK k_∨aM k_)∨w.heap.size≤k_)) (.slice A0 l0.length c0) l0 from Kd.Ut hs0 (fun k_ hk=>.inl (.inl hk)));have bW:=Xa.mk (show Kd.V k87 87 w w.heap.size (fun k_=>((aK k_∨aM k_)∨w.heap.size≤k_)) (.slice A1 l1.length c1) l1 from Kd.Ut hs1 (fun k_ hk=>.inl (.inr hk)));have HB:=Xa.mk (Below.refl w.heap.size w);have H:((some (([]:List (S87)):List (S87))).bind fun aI=>(if aI.length+l0.length<1759218604441 then ((some (aI ++ l0:List (S87))).bind fun aD=>(if aD.length+l1.length<1759218604441 then (some (aD ++ l1)) else (none))) else (none)))=some r:=h;clear h;obtain ⟨aI,bM⟩:∃ y_:List (S87),y_=(([]:List (S87))):=⟨_,rfl⟩
 replace H:(if aI.length+l0.length<1759218604441 then ((some (aI ++ l0:List (S87))).bind fun aD=>(if aD.length+l1.length<1759218604441 then (some (aD ++ l1)) else (none))) else (none))=some r:=by subst bM;exact hh_ H
 have bU:=Xa.mk bM;clear bM;by_cases c3:aI.length+l0.length<1759218604441
 ·rw [if_pos c3] at H;have eQ:=Xa.mk c3;clear c3;obtain ⟨aD,bN⟩:∃ y_:List (S87),y_=(aI ++ l0):=⟨_,rfl⟩
  replace H:(if aD.length+l1.length<1759218604441 then (some (aD ++ l1)) else (none))=some r:=by subst bN;exact hh_ H
  have dO:=Xa.mk bN;clear bN;by_cases c4:aD.length+l1.length<1759218604441
  ·rw [if_pos c4] at H;have eT:=Xa.mk c4;clear c4;obtain ⟨fB,bO⟩:∃ y_:List (S87),y_=(aD ++ l1):=⟨_,rfl⟩
   replace H:(some fB)=some r:=by subst bO;exact hh_ H
   have dP:=Xa.mk bO;clear bO;obtain rfl:=sj_ H;go_enter Tryz.func77,Tryz.ntmps77;go_wp2_with (first|((with_reducible refine Yv (N:=5) rfl ?_);refine Kd.N_lit k87 _ 87 ?hg (N':=5) ?hd (xs:=([]:List (S87))) (inner:=[]) (ok:=(fun k_=>((aK k_∨aM k_)∨w.heap.size≤k_))) (okp:=(fun k_=>((aK k_∨aM k_)∨w.heap.size≤k_))) ?hr ?hp (fun _ hk=>hk) ((show ∀ k_,w.heap.size≤k_→(fun k_=>((aK k_∨aM k_)∨w.heap.size≤k_)) k_ from fun k_ hk=>(.inr (nt_ (Xj (bl_ HB)) hk))) _ (nr_ _)) (Below.refl _ _) (nr_ _) sm_ ?_;(case hd|hg=>rfl);(case hr=>exact hr_);(case hp=>exact (Reps.none _ _));intro v229 w5 bP hb eZ bI;clear eZ bI;(first|rw [← bU.out] at bP|(simp only [Int.reduceToNat] at bP;rw [← bU.out] at bP));replace bV:=Xa.mk (Kd.V_elder' (Kd.va_ (bV.out)) (by first|exact Kd.N_base bP|exact Kd.R_base bP) hb);replace bW:=Xa.mk (Kd.V_elder' (Kd.va_ (bW.out)) (by first|exact Kd.N_base bP|exact Kd.R_base bP) hb);have bR:=Xa.mk (Kd.N_lower bP (Xj (bl_ HB)));replace HB:=Xa.mk (Xi (bl_ HB) hb);clear hb bP)|((with_reducible refine gate_builtin (b:=.append) (xs:=#[.tmp 5,.tmp 6]) rfl ?_);at_builtin;refine Kd.N_append_rows k87 (w0:=w) w.heap.size rfl (.tmp 5) (.tmp 6) 64 87 (.agg #[(.int .i64 0),(.int .i64 0),(.int .i64 0),(.int .i64 0),(.slice none 0 0),(.slice none 0 0)]) 80 rfl Tryz.underlying64 info87 rfl de_ om_ v229 aI l0 _ _ _ (fun k_=>((aK k_∨aM k_)∨w.heap.size≤k_)) (fun k_=>((fun k_=>((aK k_∨aM k_)∨w.heap.size≤k_))) k_∧some k_≠(v229:Value).ownBlock) rfl rfl ?aO ?aR (fun _ hk=>hk) ?aF ?aB ?aS ?aL ?_;(case aR=>exact (by skip;exact Kd.V_F (Kd.Ut (ok':=(fun k_=>((fun k_=>((aK k_∨aM k_)∨w.heap.size≤k_))) k_∧some k_≠(v229:Value).ownBlock)) (bV.out) (fun k_ hk=>⟨hk.1,hk.2⟩))));(case aB=>exact (bl_ HB));(case aF=>exact (fun k_ hk=>(.inr (nt_ (Xj (bl_ HB)) hk))));(case aO=>exact (Kd.na_ (bR.out)));(case aS=>exact (Xj (bl_ HB)));(case aL=>have:=eQ.out;omega);intro v232 w7 ho hb hg hat;rw [← dO.out] at ho;replace bV:=Xa.mk (Kd.V_afterv (ok:=(fun k_=>((aK k_∨aM k_)∨w.heap.size≤k_))) (Kd.va_ (bV.out)) hg hat);replace bW:=Xa.mk (Kd.V_afterv (ok:=(fun k_=>((aK k_∨aM k_)∨w.heap.size≤k_))) (Kd.va_ (bW.out)) hg hat);replace HB:=Xa.mk (hb);have bS:=Xa.mk (ho);clear bR ho hb hg hat)|((with_reducible refine gate_builtin (b:=.append) (xs:=#[.tmp 7,.tmp 8]) rfl ?_);at_builtin;refine Kd.N_append_rows k87 (w0:=w) w.heap.size rfl (.tmp 7) (.tmp 8) 64 87 (.agg #[(.int .i64 0),(.int .i64 0),(.int .i64 0),(.int .i64 0),(.slice none 0 0),(.slice none 0 0)]) 80 rfl Tryz.underlying64 info87 rfl de_ om_ v232 aD l1 _ _ _ (fun k_=>((aK k_∨aM k_)∨w.heap.size≤k_)) (fun k_=>((fun k_=>((aK k_∨aM k_)∨w.heap.size≤k_))) k_∧some k_≠(v232:Value).ownBlock) rfl rfl ?aO ?aR (fun _ hk=>hk) ?aF ?aB ?aS ?aL ?_;(case aR=>exact (by skip;exact Kd.V_F (Kd.Ut (ok':=(fun k_=>((fun k_=>((aK k_∨aM k_)∨w.heap.size≤k_))) k_∧some k_≠(v232:Value).ownBlock)) (bW.out) (fun k_ hk=>⟨hk.1,hk.2⟩))));(case aB=>exact (bl_ HB));(case aF=>exact (fun k_ hk=>(.inr (nt_ (Xj (bl_ HB)) hk))));(case aO=>exact (Kd.na_ (bS.out)));(case aS=>exact (Xj (bl_ HB)));(case aL=>have:=eT.out;omega);intro v235 w8 ho hb hg hat;rw [← dP.out] at ho;replace bV:=Xa.mk (Kd.V_afterv (ok:=(fun k_=>((aK k_∨aM k_)∨w.heap.size≤k_))) (Kd.va_ (bV.out)) hg hat);replace bW:=Xa.mk (Kd.V_afterv (ok:=(fun k_=>((aK k_∨aM k_)∨w.heap.size≤k_))) (Kd.va_ (bW.out)) hg hat);replace HB:=Xa.mk (hb);have dJ:=Xa.mk (ho);clear bS ho hb hg hat));go_ret
   exact ⟨_,rf_,Kd.na_ (dJ.out),bl_ HB⟩
  ·rw [if_neg c4] at H;exact absurd H sm_
 ·rw [if_neg c3] at H;exact absurd H sm_
def Vf.f (a0:Int):Option (Int):=if a0 > 999 then (some 999) else (if a0<(-999) then (some (-999)) else (some a0))
theorem Vf.calls (a0:Int) (r:Int) (w:World) (h:Vf.f a0=some r) :
  Calls Tryz.prog 93 #[.int .i64 a0] w fun e w'=>e=.returned (.int .i64 r)∧Xz w w':=by
 have H:(if a0 > 999 then (some 999) else (if a0<(-999) then (some (-999)) else (some a0)))=some r:=h;clear h;by_cases c2:a0 > 999
 ·rw [if_pos c2] at H;have eU:decide (999<a0)=true:=dt_ c2;clear c2;obtain rfl:=sj_ H;go_enter Tryz.func93,Tryz.ntmps93;go_wp2;go_ret
  exact ⟨by first|rfl|(simp;done)|(simp [*];done),by repeat (first|exact Xz.refl _|apply Xz.step)⟩
 ·rw [if_neg c2] at H;have eU:decide (999<a0)=false:=df_ c2;clear c2;by_cases c3:a0<(-999)
  ·rw [if_pos c3] at H;have bX:decide (a0<(-999))=true:=dt_ c3;clear c3;obtain rfl:=sj_ H;go_enter Tryz.func93,Tryz.ntmps93;go_wp2;go_ret
   exact ⟨by first|rfl|(simp;done)|(simp [*];done),by repeat (first|exact Xz.refl _|apply Xz.step)⟩
  ·rw [if_neg c3] at H;have bX:decide (a0<(-999))=false:=df_ c3;clear c3;obtain rfl:=sj_ H;go_enter Tryz.func93,Tryz.ntmps93;go_wp2;go_ret
   exact ⟨by first|rfl|(simp;done)|(simp [*];done),by repeat (first|exact Xz.refl _|apply Xz.step)⟩
def spec_l1If.f (a0:Bool):Option (Int):=if a0=true then (some 1) else (some 0)
theorem spec_l1If.calls (a0:Bool) (r:Int) (w:World) (h:spec_l1If.f a0=some r) :
  Calls Tryz.prog 94 #[.bool a0] w fun e w'=>e=.returned (.int .i64 r)∧Xz w w':=by
 have H:(if a0=true then (some 1) else (some 0))=some r:=h;clear h;by_cases c2:a0=true
 ·subst c2
  replace H:(some 1)=some r:=ph_;obtain rfl:=sj_ H;go_enter Tryz.func94,Tryz.ntmps94;go_wp2;go_ret
  exact ⟨by first|rfl|(simp;done)|(simp [*];done),by repeat (first|exact Xz.refl _|apply Xz.step)⟩
 ·replace c2:=Bool.eq_false_iff.mpr c2;subst c2
  replace H:(some 0)=some r:=fh_;obtain rfl:=sj_ H;go_enter Tryz.func94,Tryz.ntmps94;go_wp2;go_ret
  exact ⟨by first|rfl|(simp;done)|(simp [*];done),by repeat (first|exact Xz.refl _|apply Xz.step)⟩
def Zu.j0:Nat→Int→Int→Int→Bool→Option (Int × Bool)
 |0,_,_,_,_=>none
 |k+1,x0,x1,x2,fM=>if fM=true then (some (0,false)) else (if x0=1 then ((Vf.f (wrap64 (x1+x2))).bind fun bA=>(some (bA,true))) else (if x0=2 then ((Vf.f (wrap64 (x1 - x2))).bind fun bB=>(some (bB,true))) else (if x0=3 then ((Vf.f (wrap64 (x1 * x2))).bind fun bC=>(some (bC,true))) else (if x0=4 then ((spec_l1If.f (decide (x1<x2))).bind fun bD=>(some (bD,true))) else (if x0=5 then ((spec_l1If.f (x1 == x2)).bind fun bE=>(some (bE,true))) else (some (0,false)))))))
def Zu.f (k:Nat) (a0:Int) (a1:Int) (a2:Int):Option (Int × Bool):=(Ui.f a1).bind fun aZ=>(if aZ=true then ((Ui.f a2).bind fun aH=>(Zu.j0 k a0 a1 a2 (!aH))) else (Zu.j0 k a0 a1 a2 true))
theorem Zu.calls (k:Nat) (a0:Int) (a1:Int) (a2:Int) (r1:Int) (r2:Bool) (w:World) (h:Zu.f k a0 a1 a2=some (r1,r2)) :
  Calls Tryz.prog 79 #[.int .i64 a0,.int .i64 a1,.int .i64 a2] w fun e w'=>e=.returned (.tuple #[.int .i64 r1,.bool r2])∧Xz w w':=by
 have H:((Ui.f a1).bind fun aZ=>(if aZ=true then ((Ui.f a2).bind fun aH=>(Zu.j0 k a0 a1 a2 (!aH))) else (Zu.j0 k a0 a1 a2 true)))=some (r1,r2):=h;clear h;have eH:=Xa.mk H;clear H;go_enter Tryz.func79,Tryz.ntmps79;go_upto_region 1 with (fail)
 go_cut [15] (fun v15 wc=>∃ (kq:Nat) (aW:Bool),v15=.bool aW∧Xa (Zu.j0 kq a0 a1 a2 aW=some (r1,r2))∧Xa (kq≤k)∧Xz w wc)
 case first=>
  have H:=eH.out;clear eH;replace H:=bo_ H;obtain ⟨aZ,fC,H⟩:=H;replace H:(if aZ=true then ((Ui.f a2).bind fun aH=>(Zu.j0 k a0 a1 a2 (!aH))) else (Zu.j0 k a0 a1 a2 true))=some (r1,r2):=H;have A5:=Xa.mk fC;clear fC;by_cases c6:aZ=true
  ·subst c6
   replace H:((Ui.f a2).bind fun aH=>(Zu.j0 k a0 a1 a2 (!aH)))=some (r1,r2):=ph_;replace H:=bo_ H;obtain ⟨aH,fD,H⟩:=H;replace H:(Zu.j0 k a0 a1 a2 (!aH))=some (r1,r2):=H;have A7:=Xa.mk fD;clear fD;have H':=Xa.mk H;clear H;go_wp2_with (first|((with_reducible refine Yh (f:=92) rfl ?_);refine Zz (some 9) rfl rfl Tryz.func92 kr_ rfl #[.int .i64 a1] rfl ga_ ?_;(with_reducible refine (Ui.calls a1 true _ A5.out).mono ?_);rintro e w' ⟨rfl,⟨nd,rfl⟩⟩;refine ⟨_,rfl,?_⟩)|(go_at_call 92;(with_reducible refine (Ui.calls a2 aH _ A7.out).mono ?_);rintro e w' ⟨rfl,⟨nd,rfl⟩⟩));go_meet
   case rel=>exact ⟨_,(!aH),rg_,H',⟨by first|omega|exact nr_ _⟩,by repeat (first|exact Xz.refl _|apply Xz.step)⟩
  ·replace c6:=Bool.eq_false_iff.mpr c6;subst c6
   replace H:(Zu.j0 k a0 a1 a2 true)=some (r1,r2):=fh_;have H':=Xa.mk H;clear H;go_wp2_with (first|((with_reducible refine Yh (f:=92) rfl ?_);refine Zz (some 9) rfl rfl Tryz.func92 kr_ rfl #[.int .i64 a1] rfl ga_ ?_;(with_reducible refine (Ui.calls a1 false _ A5.out).mono ?_);rintro e w' ⟨rfl,⟨nd,rfl⟩⟩;refine ⟨_,rfl,?_⟩));go_meet
   case rel=>exact ⟨_,(true),rg_,H',⟨by first|omega|exact nr_ _⟩,by repeat (first|exact Xz.refl _|apply Xz.step)⟩
 case rest=>
  clear eH;obtain ⟨kq,aW,rfl,HA,HJ3,⟨mc3,rfl⟩⟩:=hcut
  cases kq with
  |zero=>exact absurd HA.out (by simp [Zu.j0])
  |succ kj3=>
   have H:=HA.out;clear HA;simp only [Zu.j0] at H;by_cases c8:aW=true
   ·subst c8
    replace H:(some (0,false))=some (r1,r2):=ph_;simp only [Option.some.injEq,Prod.mk.injEq] at H;obtain ⟨rfl,rfl⟩:=H;go_wp2;go_ret2
    exact ⟨by first|rfl|(simp;done)|(simp [*];done),by repeat (first|exact Xz.refl _|apply Xz.step)⟩
   ·replace c8:=Bool.eq_false_iff.mpr c8;subst c8
    replace H:(if a0=1 then ((Vf.f (wrap64 (a1+a2))).bind fun bA=>(some (bA,true))) else (if a0=2 then ((Vf.f (wrap64 (a1 - a2))).bind fun bB=>(some (bB,true))) else (if a0=3 then ((Vf.f (wrap64 (a1 * a2))).bind fun bC=>(some (bC,true))) else (if a0=4 then ((spec_l1If.f (decide (a1<a2))).bind fun bD=>(some (bD,true))) else (if a0=5 then ((spec_l1If.f (a1 == a2)).bind fun bE=>(some (bE,true))) else (some (0,false)))))))=some (r1,r2):=fh_;by_cases c9:a0=1
    ·rw [if_pos c9] at H;have aN:(a0 == 1)=true:=eb_ c9;have eX:(a0 != 1)=false:=nq_ c9;clear c9;replace H:=bo_ H;obtain ⟨bA,dA,H⟩:=H;replace H:(some (bA,true))=some (r1,r2):=H;have fE:=Xa.mk dA;clear dA;simp only [Option.some.injEq,Prod.mk.injEq] at H;obtain ⟨rfl,rfl⟩:=H;go_wp2_with (first|((with_reducible refine Yh (f:=93) rfl ?_);refine Zz (some 22) rfl rfl Tryz.func93 kr_ rfl #[.int .i64 (wrap64 (a1+a2))] rfl ga_ ?_;(with_reducible refine (Vf.calls (wrap64 (a1+a2)) bA _ fE.out).mono ?_);rintro e w' ⟨rfl,⟨nd,rfl⟩⟩;refine ⟨_,rfl,?_⟩));go_ret2
     exact ⟨by first|rfl|(simp;done)|(simp [*];done),by repeat (first|exact Xz.refl _|apply Xz.step)⟩
    ·rw [if_neg c9] at H;have aN:(a0 == 1)=false:=nb_ c9;have eX:(a0 != 1)=true:=nn_ c9;by_cases c11:a0=2
     ·rw [if_pos c11] at H;have bG:(a0 == 2)=true:=eb_ c11;have dQ:(a0 != 2)=false:=nq_ c11;clear c11;replace H:=bo_ H;obtain ⟨bB,dB,H⟩:=H;replace H:(some (bB,true))=some (r1,r2):=H;have fF:=Xa.mk dB;clear dB;simp only [Option.some.injEq,Prod.mk.injEq] at H;obtain ⟨rfl,rfl⟩:=H;go_wp2_with (first|((with_reducible refine Yh (f:=93) rfl ?_);refine Zz (some 28) rfl rfl Tryz.func93 kr_ rfl #[.int .i64 (wrap64 (a1 - a2))] rfl ga_ ?_;(with_reducible refine (Vf.calls (wrap64 (a1 - a2)) bB _ fF.out).mono ?_);rintro e w' ⟨rfl,⟨nd,rfl⟩⟩;refine ⟨_,rfl,?_⟩));go_ret2
      exact ⟨by first|rfl|(simp;done)|(simp [*];done),by repeat (first|exact Xz.refl _|apply Xz.step)⟩
     ·rw [if_neg c11] at H;have bG:(a0 == 2)=false:=nb_ c11;have dQ:(a0 != 2)=true:=nn_ c11;by_cases c13:a0=3
      ·rw [if_pos c13] at H;have dR:(a0 == 3)=true:=eb_ c13;have dS:(a0 != 3)=false:=nq_ c13;clear c13;replace H:=bo_ H;obtain ⟨bC,bF,H⟩:=H;replace H:(some (bC,true))=some (r1,r2):=H;have eG:=Xa.mk bF;clear bF;simp only [Option.some.injEq,Prod.mk.injEq] at H;obtain ⟨rfl,rfl⟩:=H;go_wp2_with (first|((with_reducible refine Yh (f:=93) rfl ?_);refine Zz (some 34) rfl rfl Tryz.func93 kr_ rfl #[.int .i64 (wrap64 (a1 * a2))] rfl ga_ ?_;(with_reducible refine (Vf.calls (wrap64 (a1 * a2)) bC _ eG.out).mono ?_);rintro e w' ⟨rfl,⟨nd,rfl⟩⟩;refine ⟨_,rfl,?_⟩));go_ret2
       exact ⟨by first|rfl|(simp;done)|(simp [*];done),by repeat (first|exact Xz.refl _|apply Xz.step)⟩
      ·rw [if_neg c13] at H;have dR:(a0 == 3)=false:=nb_ c13;have dS:(a0 != 3)=true:=nn_ c13;by_cases c15:a0=4
       ·rw [if_pos c15] at H;have dU:(a0 == 4)=true:=eb_ c15;have dV:(a0 != 4)=false:=nq_ c15;clear c15;replace H:=bo_ H;obtain ⟨bD,dD,H⟩:=H;replace H:(some (bD,true))=some (r1,r2):=H;have fH:=Xa.mk dD;clear dD;simp only [Option.some.injEq,Prod.mk.injEq] at H;obtain ⟨rfl,rfl⟩:=H;go_wp2_with (first|((with_reducible refine Yh (f:=94) rfl ?_);refine Zz (some 40) rfl rfl Tryz.func94 kr_ rfl #[.bool (decide (a1<a2))] rfl ga_ ?_;(with_reducible refine (spec_l1If.calls (decide (a1<a2)) bD _ fH.out).mono ?_);rintro e w' ⟨rfl,⟨nd,rfl⟩⟩;refine ⟨_,rfl,?_⟩));go_ret2
        exact ⟨by first|rfl|(simp;done)|(simp [*];done),by repeat (first|exact Xz.refl _|apply Xz.step)⟩
       ·rw [if_neg c15] at H;have dU:(a0 == 4)=false:=nb_ c15;have dV:(a0 != 4)=true:=nn_ c15;by_cases c17:a0=5
        ·rw [if_pos c17] at H;have dW:(a0 == 5)=true:=eb_ c17;have dX:(a0 != 5)=false:=nq_ c17;clear c17;replace H:=bo_ H;obtain ⟨bE,dF,H⟩:=H;replace H:(some (bE,true))=some (r1,r2):=H;have fJ:=Xa.mk dF;clear dF;simp only [Option.some.injEq,Prod.mk.injEq] at H;obtain ⟨rfl,rfl⟩:=H;go_wp2_with (first|((with_reducible refine Yh (f:=94) rfl ?_);refine Zz (some 46) rfl rfl Tryz.func94 kr_ rfl #[.bool (a1 == a2)] rfl ga_ ?_;(with_reducible refine (spec_l1If.calls (a1 == a2) bE _ fJ.out).mono ?_);rintro e w' ⟨rfl,⟨nd,rfl⟩⟩;refine ⟨_,rfl,?_⟩));go_ret2
         exact ⟨by first|rfl|(simp;done)|(simp [*];done),by repeat (first|exact Xz.refl _|apply Xz.step)⟩
        ·rw [if_neg c17] at H;have dW:(a0 == 5)=false:=nb_ c17;have dX:(a0 != 5)=true:=nn_ c17;simp only [Option.some.injEq,Prod.mk.injEq] at H;obtain ⟨rfl,rfl⟩:=H;go_wp2;go_ret2
         exact ⟨by first|rfl|(simp;done)|(simp [*];done),by repeat (first|exact Xz.refl _|apply Xz.step)⟩
end Go.Proofs.YtlhogkfmdnpmkaaGreat.GMarks
