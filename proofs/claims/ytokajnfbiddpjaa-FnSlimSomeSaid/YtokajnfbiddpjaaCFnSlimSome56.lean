import Derived.Test.YtokajnfbiddpjaaCFnSlimSome21
import Derived.Test.YtokajnfbiddpjaaCFnSlimSome53
import Derived.Test.YtokajnfbiddpjaaCFnSlimSome55
set_option maxHeartbeats 8000000
set_option maxRecDepth 100000
namespace Go.Proofs.Ytokajnfbiddpjaa.GSlim
open Go.RowKit Go.Proofs.YtokajnfbiddpjaaW.PrintWords Go.Proofs.YtokajnfbiddpjaaW.PrintLast Go.Proofs.YtokajnfbiddpjaaW.PrintMore
attribute [local go_sem] Zx Zz Ul Um Zl Zm Zy Ua
set_option linter.unusedVariables false
set_option linter.unusedSimpArgs false
mutual
def Yb.j0:Nat→List (S31)→Int→Bool→Option (Bool)
 |0,_,_,_=>none
 |k+1,x0,x3,fH=>if fH=true then (some false) else (Yb.l0 k x0 x3 0)
def Yb.l0:Nat→List (S31)→Int→Int→Option (Bool)
 |0,_,_,_=>none
 |k+1,x0,x3,x4=>if x4<x3 then (if 0≤x4 then (if x4<(x0.length:Int) then ((Xj.f k ((Xb x0 x4).f0) ((Xb x0 x4).f1) ((Xb x0 x4).f2) ((Xb x0 x4).f3) x3).bind fun bU=>(if bU=true then (if ((Xb x0 x4).f0)=13 then (if x4<(wrap64 (x3 - 1)) then (some false) else (Yb.l0 k x0 x3 (wrap64 (x4+1)))) else (Yb.l0 k x0 x3 (wrap64 (x4+1)))) else (some false))) else (none)) else (none)) else ((Xp.f k x0).bind fun dM=>(some dM.2))
end
def Yb.f (k:Nat) (l0:List (S31)):Option (Bool):=if (l0.length:Int)<1 then (Yb.j0 k l0 (l0.length:Int) true) else (if (l0.length:Int) > 60 then (Yb.j0 k l0 (l0.length:Int) true) else (if 0≤(wrap64 ((l0.length:Int) - 1)) then (if (wrap64 ((l0.length:Int) - 1))<(l0.length:Int) then (Yb.j0 k l0 (l0.length:Int) (((Xb l0 (wrap64 ((l0.length:Int) - 1))).f0) != 13)) else (none)) else (none)))
theorem Yb.calls (k:Nat) (A0:Option Addr) (c0:Nat) (l0:List (S31)) (r:Bool) (w:World) (hr0:Kd.C k31 w A0 l0.length l0) (hc0:l0.length≤c0) (h:Yb.f k l0=some r) :
  Calls Try.prog 19 #[.slice A0 l0.length c0] w fun e w'=>e=.returned (.bool r)∧Below w.heap.size w w':=by
 have hu31:=Try.underlying31;have bD:=Xa.mk hr0;have eB:=Xa.mk hc0;clear hr0 hc0;have HB:=Xa.mk (Below.refl w.heap.size w);have H:(if (l0.length:Int)<1 then (Yb.j0 k l0 (l0.length:Int) true) else (if (l0.length:Int) > 60 then (Yb.j0 k l0 (l0.length:Int) true) else (if 0≤(wrap64 ((l0.length:Int) - 1)) then (if (wrap64 ((l0.length:Int) - 1))<(l0.length:Int) then (Yb.j0 k l0 (l0.length:Int) (((Xb l0 (wrap64 ((l0.length:Int) - 1))).f0) != 13)) else (none)) else (none))))=some r:=h;clear h;have eG:=Xa.mk H;clear H
 go_enter Try.func19,Try.ntmps19
 go_upto_region 2 with (fail)
 go_cut [23] (fun v23 wc=>∃ (kq:Nat) (bI:Bool),v23=.bool bI∧Xa (Yb.j0 kq l0 (l0.length:Int) bI=some r)∧Xa (kq≤k)∧Xa (Below w.heap.size w wc))
 case first=>
  have H:=eG.out;clear eG;by_cases c3:(l0.length:Int)<1
  ·rw [if_pos c3] at H;have bN:=decide_eq_true c3;have eO:decide (l0.length<1)=true:=decide_eq_true (by omega);clear c3
   (first|rw [bN]|(simp only [Ub,Uf];rw [bN])|skip)
   have H':=Xa.mk H;clear H;go_wp2
   go_meet
   case rel=>exact ⟨_,(true),rg_,H',⟨by first|omega|exact Nat.le_refl _⟩,⟨bl_ HB⟩⟩
  ·rw [if_neg c3] at H;have bN:=decide_eq_false c3;have eO:decide (l0.length<1)=false:=decide_eq_false (by omega);clear c3
   (first|rw [bN]|(simp only [Ub,Uf];rw [bN])|skip)
   by_cases c4:(l0.length:Int) > 60
   ·rw [if_pos c4] at H;have bW:=decide_eq_true c4;have eP:decide (60<l0.length)=true:=decide_eq_true (by omega);clear c4;have H':=Xa.mk H;clear H;go_wp2
    go_meet
    case rel=>exact ⟨_,(true),rg_,H',⟨by first|omega|exact Nat.le_refl _⟩,⟨bl_ HB⟩⟩
   ·rw [if_neg c4] at H;have bW:=decide_eq_false c4;have eP:decide (60<l0.length)=false:=decide_eq_false (by omega);clear c4;obtain ⟨bR,bT⟩:∃ j_:Int,(wrap64 ((l0.length:Int) - 1))=j_:=⟨_,rfl⟩
    replace H:(if 0≤(bR) then (if (bR)<(l0.length:Int) then (Yb.j0 k l0 (l0.length:Int) (((Xb l0 (bR)).f0) != 13)) else (none)) else (none))=some r:=by first|(rw [bT] at H;exact H)|(simp only [bT] at H ⊢;exact H)
    have hji5w:(IntKind.i64.wrap ((l0.length:Int) - 1))=bR:=(Ub _).trans bT;by_cases c6:0≤(bR)
    ·rw [if_pos c6] at H;have bX:=decide_eq_true c6;clear c6;by_cases c7:(bR)<(l0.length:Int)
     ·rw [if_pos c7] at H;have eQ:=decide_eq_true c7;clear c7;have H':=Xa.mk H;clear H;have cB:0≤((bR):Int):=of_decide_eq_true (by assumption);have dA:(bR)<(l0.length:Int):=of_decide_eq_true (by assumption);obtain ⟨ad418,eT,bE,bF,bG,bH⟩:=Zv bD.out (bR) cB dA;cases eT
      replace bE:=bw_ HB bE;replace bF:=bw_ HB bF;replace bG:=bw_ HB bG;replace bH:=bw_ HB bH;replace cB:=eq_true cB;replace dA:=eq_true dA;go_wp2
      go_meet
      case rel=>exact ⟨_,((((Xb l0 (bR)).f0) != 13)),(by first|rfl|(simp;done)|(simp only [← bT] <;> (first|rfl|simp))|(simp [*];done)),H',⟨by first|omega|exact Nat.le_refl _⟩,⟨bl_ HB⟩⟩
     ·rw [if_neg c7] at H;exact absurd H (by simp)
    ·rw [if_neg c6] at H;exact absurd H (by simp)
 case rest=>
  clear eG;obtain ⟨kq,bI,rfl,HA,eD,HB⟩:=hcut
  cases kq with
  |zero=>exact absurd HA.out (by simp [Yb.j0])
  |succ fA=>
   have H:=HA.out;clear HA;simp only [Yb.j0] at H;by_cases c8:bI=true
   ·subst c8
    replace H:(some false)=some r:=(by rw [if_pos rfl] at H;exact H);obtain rfl:=Option.some.inj H;go_wp2
    go_ret
    exact ⟨rf_,bl_ HB⟩
   ·replace c8:=Bool.eq_false_iff.mpr c8;subst c8
    replace H:(Yb.l0 fA l0 (l0.length:Int) 0)=some r:=(by rw [if_neg (show ¬ (false=true) by decide)] at H;exact H);have H':=Xa.mk H;clear H;go_wp2
    go_loopg [4] fA (fun kq v4 w'=>∃ (aA:Int),v4=.int .i64 aA∧Xa (Yb.l0 kq l0 (l0.length:Int) aA=some r)∧Xa (kq≤fA)∧Xa (Below w.heap.size w w'))
    case atStart=>exact ⟨(0),rg_,H',⟨Nat.le_refl _⟩,⟨bl_ HB⟩⟩
    case round=>
     clear H'
     try clear c8
     obtain ⟨aA,rfl,HA,eF,HB⟩:=hrel
     cases gk with
     |zero=>exact absurd HA.out (by simp [Yb.l0])
     |succ k2=>
      have H:=HA.out;clear HA;simp only [Yb.l0] at H;by_cases c9:aA<(l0.length:Int)
      ·rw [if_pos c9] at H;have dS:=decide_eq_true c9;clear c9;by_cases c10:0≤aA
       ·rw [if_pos c10] at H;have dN:=decide_eq_true c10;clear c10;by_cases c11:aA<(l0.length:Int)
        ·rw [if_pos c11] at H;have dO:=decide_eq_true c11;clear c11;replace H:=Option.bind_eq_some_iff.mp H;obtain ⟨bU,dE,H⟩:=H;replace H:(if bU=true then (if ((Xb l0 aA).f0)=13 then (if aA<(wrap64 ((l0.length:Int) - 1)) then (some false) else (Yb.l0 k2 l0 (l0.length:Int) (wrap64 (aA+1)))) else (Yb.l0 k2 l0 (l0.length:Int) (wrap64 (aA+1)))) else (some false))=some r:=H;have dZ:=Xa.mk dE;clear dE;by_cases c13:bU=true
         ·subst c13
          replace H:(if ((Xb l0 aA).f0)=13 then (if aA<(wrap64 ((l0.length:Int) - 1)) then (some false) else (Yb.l0 k2 l0 (l0.length:Int) (wrap64 (aA+1)))) else (Yb.l0 k2 l0 (l0.length:Int) (wrap64 (aA+1))))=some r:=(by rw [if_pos rfl] at H;exact H);by_cases c14:((Xb l0 aA).f0)=13
          ·rw [if_pos c14] at H;have dP:=beq_iff_eq.mpr c14;have dQ:=bne_eq_false_iff_eq.mpr c14;clear c14;by_cases c15:aA<(wrap64 ((l0.length:Int) - 1))
           ·rw [if_pos c15] at H;have dR:=decide_eq_true c15;clear c15;obtain rfl:=Option.some.inj H;have aQ:0≤(aA:Int):=of_decide_eq_true (by assumption);have aR:aA<(l0.length:Int):=of_decide_eq_true (by assumption);obtain ⟨aX,bA,aC,aD,aG,aH⟩:=Zv bD.out aA aQ aR;cases bA
            replace aC:=bw_ HB aC;replace aD:=bw_ HB aD;replace aG:=bw_ HB aG;replace aH:=bw_ HB aH;replace aQ:=eq_true aQ;replace aR:=eq_true aR;go_wp2_with (first|((with_reducible refine Xh (f:=37) rfl ?_);refine Ye (some 34) rfl rfl Try.func37 (by kernel_rfl) rfl #[.agg #[.int .i64 ((Xb l0 aA).f0),.int .i64 ((Xb l0 aA).f1),.int .i64 ((Xb l0 aA).f2),.int .i64 ((Xb l0 aA).f3)],.int .i64 (l0.length:Int)] rfl ga_ ?_;(with_reducible refine (Xj.calls k2 ((Xb l0 aA).f0) ((Xb l0 aA).f1) ((Xb l0 aA).f2) ((Xb l0 aA).f3) (l0.length:Int) true _ dZ.out).mono ?_);rintro e w16 ⟨rfl,hb⟩;refine ⟨_,rfl,?_⟩;replace HB:=Xa.mk (Xe (bl_ HB) hb);clear hb;have aU:0≤(aA:Int):=of_decide_eq_true (by assumption);have aV:aA<(l0.length:Int):=of_decide_eq_true (by assumption);obtain ⟨aZ,bO,aI,aJ,aK,aM⟩:=Zv bD.out aA aU aV;obtain rfl:aX=aZ:=(by injection bO);replace aI:=bw_ HB aI;replace aJ:=bw_ HB aJ;replace aK:=bw_ HB aK;replace aM:=bw_ HB aM;replace aU:=eq_true aU;replace aV:=eq_true aV))
            go_ret
            exact ⟨rf_,bl_ HB⟩
           ·rw [if_neg c15] at H;have dR:=decide_eq_false c15;clear c15;have H':=Xa.mk H;clear H;have aQ:0≤(aA:Int):=of_decide_eq_true (by assumption);have aR:aA<(l0.length:Int):=of_decide_eq_true (by assumption);obtain ⟨aX,bA,aC,aD,aG,aH⟩:=Zv bD.out aA aQ aR;cases bA
            replace aC:=bw_ HB aC;replace aD:=bw_ HB aD;replace aG:=bw_ HB aG;replace aH:=bw_ HB aH;replace aQ:=eq_true aQ;replace aR:=eq_true aR;go_wp2_with (first|((with_reducible refine Xh (f:=37) rfl ?_);refine Ye (some 34) rfl rfl Try.func37 (by kernel_rfl) rfl #[.agg #[.int .i64 ((Xb l0 aA).f0),.int .i64 ((Xb l0 aA).f1),.int .i64 ((Xb l0 aA).f2),.int .i64 ((Xb l0 aA).f3)],.int .i64 (l0.length:Int)] rfl ga_ ?_;(with_reducible refine (Xj.calls k2 ((Xb l0 aA).f0) ((Xb l0 aA).f1) ((Xb l0 aA).f2) ((Xb l0 aA).f3) (l0.length:Int) true _ dZ.out).mono ?_);rintro e w17 ⟨rfl,hb⟩;refine ⟨_,rfl,?_⟩;replace HB:=Xa.mk (Xe (bl_ HB) hb);clear hb;have aU:0≤(aA:Int):=of_decide_eq_true (by assumption);have aV:aA<(l0.length:Int):=of_decide_eq_true (by assumption);obtain ⟨aZ,bO,aI,aJ,aK,aM⟩:=Zv bD.out aA aU aV;obtain rfl:aX=aZ:=(by injection bO);replace aI:=bw_ HB aI;replace aJ:=bw_ HB aJ;replace aK:=bw_ HB aK;replace aM:=bw_ HB aM;replace aU:=eq_true aU;replace aV:=eq_true aV))
            go_roundg k2
            case measure=>have:=eD.out;have:=eF.out;omega
            case rel=>exact ⟨(wrap64 (aA+1)),rg_,H',⟨by have:=eD.out;have:=eF.out;omega⟩,⟨bl_ HB⟩⟩
          ·rw [if_neg c14] at H;have dP:=beq_eq_false_iff_ne.mpr c14;have dQ:=bne_iff_ne.mpr c14;have H':=Xa.mk H;clear H;have aQ:0≤(aA:Int):=of_decide_eq_true (by assumption);have aR:aA<(l0.length:Int):=of_decide_eq_true (by assumption);obtain ⟨aX,bA,aC,aD,aG,aH⟩:=Zv bD.out aA aQ aR;cases bA
           replace aC:=bw_ HB aC;replace aD:=bw_ HB aD;replace aG:=bw_ HB aG;replace aH:=bw_ HB aH;replace aQ:=eq_true aQ;replace aR:=eq_true aR;go_wp2_with (first|((with_reducible refine Xh (f:=37) rfl ?_);refine Ye (some 34) rfl rfl Try.func37 (by kernel_rfl) rfl #[.agg #[.int .i64 ((Xb l0 aA).f0),.int .i64 ((Xb l0 aA).f1),.int .i64 ((Xb l0 aA).f2),.int .i64 ((Xb l0 aA).f3)],.int .i64 (l0.length:Int)] rfl ga_ ?_;(with_reducible refine (Xj.calls k2 ((Xb l0 aA).f0) ((Xb l0 aA).f1) ((Xb l0 aA).f2) ((Xb l0 aA).f3) (l0.length:Int) true _ dZ.out).mono ?_);rintro e w18 ⟨rfl,hb⟩;refine ⟨_,rfl,?_⟩;replace HB:=Xa.mk (Xe (bl_ HB) hb);clear hb;have aU:0≤(aA:Int):=of_decide_eq_true (by assumption);have aV:aA<(l0.length:Int):=of_decide_eq_true (by assumption);obtain ⟨aZ,bO,aI,aJ,aK,aM⟩:=Zv bD.out aA aU aV;obtain rfl:aX=aZ:=(by injection bO);replace aI:=bw_ HB aI;replace aJ:=bw_ HB aJ;replace aK:=bw_ HB aK;replace aM:=bw_ HB aM;replace aU:=eq_true aU;replace aV:=eq_true aV))
           go_roundg k2
           case measure=>have:=eD.out;have:=eF.out;omega
           case rel=>exact ⟨(wrap64 (aA+1)),rg_,H',⟨by have:=eD.out;have:=eF.out;omega⟩,⟨bl_ HB⟩⟩
         ·replace c13:=Bool.eq_false_iff.mpr c13;subst c13
          replace H:(some false)=some r:=(by rw [if_neg (show ¬ (false=true) by decide)] at H;exact H);obtain rfl:=Option.some.inj H;have aQ:0≤(aA:Int):=of_decide_eq_true (by assumption);have aR:aA<(l0.length:Int):=of_decide_eq_true (by assumption);obtain ⟨aX,bA,aC,aD,aG,aH⟩:=Zv bD.out aA aQ aR;cases bA
          replace aC:=bw_ HB aC;replace aD:=bw_ HB aD;replace aG:=bw_ HB aG;replace aH:=bw_ HB aH;replace aQ:=eq_true aQ;replace aR:=eq_true aR;go_wp2_with (first|((with_reducible refine Xh (f:=37) rfl ?_);refine Ye (some 34) rfl rfl Try.func37 (by kernel_rfl) rfl #[.agg #[.int .i64 ((Xb l0 aA).f0),.int .i64 ((Xb l0 aA).f1),.int .i64 ((Xb l0 aA).f2),.int .i64 ((Xb l0 aA).f3)],.int .i64 (l0.length:Int)] rfl ga_ ?_;(with_reducible refine (Xj.calls k2 ((Xb l0 aA).f0) ((Xb l0 aA).f1) ((Xb l0 aA).f2) ((Xb l0 aA).f3) (l0.length:Int) false _ dZ.out).mono ?_);rintro e w19 ⟨rfl,hb⟩;refine ⟨_,rfl,?_⟩;replace HB:=Xa.mk (Xe (bl_ HB) hb);clear hb))
          go_ret
          exact ⟨rf_,bl_ HB⟩
        ·rw [if_neg c11] at H;exact absurd H (by simp)
       ·rw [if_neg c10] at H;exact absurd H (by simp)
      ·rw [if_neg c9] at H;have dS:=decide_eq_false c9;clear c9;replace H:=Option.bind_eq_some_iff.mp H;obtain ⟨⟨fB,dW⟩,dF,H⟩:=H;replace H:(some dW)=some r:=H;have d9:=Xa.mk dF;clear dF;obtain rfl:=Option.some.inj H;go_wp2_with (first|((with_reducible refine Xh (f:=38) rfl ?_);refine Ye (some 52) rfl rfl Try.func38 (by kernel_rfl) rfl #[.slice A0 l0.length c0] rfl ga_ ?_;(with_reducible refine (Xp.calls k2 _ _ l0 fB dW _ ?side1 ?side2 d9.out).mono ?_);(case side1=>exact Kd.ca_ (Kd.Ze bD.out HB.out));(case side2=>exact eB.out);rintro e w21 ⟨v424,rfl,ho0,hb⟩;refine ⟨_,rfl,?_⟩;have HO425:=Xa.mk (Kd.Yi ho0 (Xd (bl_ HB)));replace HB:=Xa.mk (Xe (bl_ HB) hb);clear hb ho0))
       go_ret
       exact ⟨rf_,bl_ HB⟩
def Uj.l0:Nat→List (S31)→List Int→List Bool→Int→Option (List Bool)
 |0,_,_,_,_=>none
 |k+1,x0,x3,x5,x6=>if x6<(x0.length:Int) then (if 0≤x6 then (if x6<(x3.length:Int) then (if x5.length<140737488355328 then (Uj.l0 k x0 x3 (x5 ++ [decide ((rd x3 x6) ≥ 0)]) (wrap64 (x6+1))) else (none)) else (none)) else (none)) else (some x5)
def Uj.f (k:Nat) (l0:List (S31)):Option (List Bool):=(Xp.f k l0).bind fun bM=>(Uj.l0 k l0 bM.1 (([]:List Bool)) 0)
theorem Uj.calls (k:Nat) (A0:Option Addr) (c0:Nat) (l0:List (S31)) (r:List Bool) (w:World) (hr0:Kd.C k31 w A0 l0.length l0) (hc0:l0.length≤c0) (h:Uj.f k l0=some r) :
  Calls Try.prog 39 #[.slice A0 l0.length c0] w fun e w'=>∃ fF:Value,e=.returned (fF)∧Kd.R Kd.bool 4 w' w.heap.size (fun _=>True) fF r∧Below w.heap.size w w':=by
 have bD:=Xa.mk hr0;have eB:=Xa.mk hc0;clear hr0 hc0;have HB:=Xa.mk (Below.refl w.heap.size w);have H:((Xp.f k l0).bind fun bM=>(Uj.l0 k l0 bM.1 (([]:List Bool)) 0))=some r:=h;clear h;replace H:=Option.bind_eq_some_iff.mp H;obtain ⟨⟨aW,fC⟩,d9,H⟩:=H;replace H:(Uj.l0 k l0 aW (([]:List Bool)) 0)=some r:=H;have A2:=Xa.mk d9;clear d9;obtain ⟨dX,bP⟩:∃ y_:List Bool,y_=(([]:List Bool)):=⟨_,rfl⟩
 replace H:(Uj.l0 k l0 aW dX 0)=some r:=by subst bP;first|with_reducible exact H|(have z:=(Option.bind_some _ _).symm.trans H;with_reducible exact z)|exact H
 have bV:=Xa.mk bP;clear bP;have H':=Xa.mk H;clear H
 go_enter Try.func39,Try.ntmps39
 go_wp2_with (first|((with_reducible refine Xh (f:=38) rfl ?_);refine Ye (some 9) rfl rfl Try.func38 (by kernel_rfl) rfl #[.slice A0 l0.length c0] rfl ga_ ?_;(with_reducible refine (Xp.calls k _ _ l0 aW fC _ ?side1 ?side2 A2.out).mono ?_);(case side1=>exact Kd.ca_ bD.out);(case side2=>exact eB.out);rintro e w3 ⟨fD,rfl,ho0,hb⟩;refine ⟨_,rfl,?_⟩;have bK:=Xa.mk (Kd.Yi ho0 (Xd (bl_ HB)));replace HB:=Xa.mk (Xe (bl_ HB) hb);clear hb ho0)|((with_reducible refine Xt (N:=12) rfl ?_);refine Kd.Vo Kd.bool _ 4 ?hg (N:=12) ?hd (xs:=([]:List Bool)) (inner:=[]) (ok:=fun _=>True) (okp:=fun _=>True) ?hr ?hp (fun _ hk=>hk) trivial (Below.refl _ _) (Nat.le_refl _) (by simp) ?_;(case hd|hg=>rfl);(case hr=>exact hr_);(case hp=>exact (Yj.none _ _));intro v431 w4 dV hb fG dU;clear fG dU;(first|rw [← bV.out] at dV|(simp only [Int.reduceToNat] at dV;rw [← bV.out] at dV));replace bK:=Xa.mk (Kd.Zf (Kd.ra_ (bK.out)) hb);have dH:=Xa.mk (Kd.Yi dV (Xd (bl_ HB)));replace HB:=Xa.mk (Xe (bl_ HB) hb);clear hb dV))
 go_loopg [5,6] k (fun kq v5 v6 w'=>∃ (bJ:List Bool) (aT:Int),v6=.int .i64 aT∧Xa (Uj.l0 kq l0 aW bJ aT=some r)∧Xa (kq≤k)∧Xa (Kd.R (Kd.int .i64) 3 w' w.heap.size (fun _=>True) fD aW)∧Xa (Kd.R Kd.bool 4 w' w.heap.size (fun _=>True) v5 bJ)∧Xa (Below w.heap.size w w'))
 case atStart=>exact ⟨(dX),(0),rg_,H',⟨Nat.le_refl _⟩,⟨Kd.ra_ (bK.out)⟩,⟨Kd.ra_ (dH.out)⟩,⟨bl_ HB⟩⟩
 case round=>
  clear H';obtain ⟨bJ,aT,rfl,HA,dG,bL,bS,HB⟩:=hrel
  cases gk with
  |zero=>exact absurd HA.out (by simp [Uj.l0])
  |succ k1=>
   have H:=HA.out;clear HA;simp only [Uj.l0] at H;by_cases c6:aT<(l0.length:Int)
   ·rw [if_pos c6] at H;have bX:=decide_eq_true c6;clear c6;by_cases c7:0≤aT
    ·rw [if_pos c7] at H;have eQ:=decide_eq_true c7;clear c7;by_cases c8:aT<(aW.length:Int)
     ·rw [if_pos c8] at H;replace c8:=decide_eq_true c8;by_cases c9:bJ.length<140737488355328
      ·rw [if_pos c9] at H;have eH:=Xa.mk c9;clear c9;obtain ⟨dY,bQ⟩:∃ y_:List Bool,y_=(bJ ++ [decide ((rd aW aT) ≥ 0)]):=⟨_,rfl⟩
       replace H:(Uj.l0 k1 l0 aW dY (wrap64 (aT+1)))=some r:=by subst bQ;first|with_reducible exact H|(have z:=(Option.bind_some _ _).symm.trans H;with_reducible exact z)|exact H
       have dK:=Xa.mk bQ;clear bQ;have H':=Xa.mk H;clear H;obtain ⟨Ao10,co10,eZ⟩:=Kd.Yo bL.out;subst eZ;have cK:0≤(aT:Int):=of_decide_eq_true (by assumption);have dB:aT<(aW.length:Int):=of_decide_eq_true (by assumption);obtain ⟨ad433,eU,hx433_0⟩:=Kd.Ur (Kd.R_reads' bL.out).2.2 aT cK dB;cases eU
       replace cK:=eq_true cK;replace dB:=eq_true dB;go_wp2_with (first|((with_reducible refine Yp (b:=.append) (xs:=#[.tmp 19,.tmp 25]) rfl ?_);at_builtin;refine Kd.R_append Kd.bool (w0:=w) w.heap.size rfl (.tmp 19) (.tmp 25) 57 4 (.bool false) 1 rfl Try.underlying57 info4 rfl (by decide) (by omega) u5 bJ (decide ((rd aW aT) ≥ 0)) [.bool (decide ((rd aW aT) ≥ 0))] (fun _=>True) (fun _=>False) rfl rfl ?aP (fun _ hk=>hk.elim) ?aF ?aO ?aB ?aS ?aL ?_;(case aP=>exact rfl);(case aB=>exact (bl_ HB));(case aF=>exact (fun _ _=>trivial));(case aO=>exact (Kd.ra_ (bS.out)));(case aS=>exact (Xd (bl_ HB)));(case aL=>have:=eH.out;omega);intro v435 w11 ho hb hg hat;rw [← dK.out] at ho;replace bL:=Xa.mk (Kd.R_over' (Kd.ra_ (bL.out)) (Kd.R_typed (Kd.ra_ (bS.out))) (by decide) hg);replace HB:=Xa.mk (hb);have dI:=Xa.mk (ho);clear bS ho hb hg hat))
       go_roundg k1
       case measure=>have:=dG.out;omega
       case rel=>exact ⟨(dY),(wrap64 (aT+1)),rg_,H',⟨by have:=dG.out;omega⟩,⟨Kd.ra_ (bL.out)⟩,⟨Kd.ra_ (dI.out)⟩,⟨bl_ HB⟩⟩
      ·rw [if_neg c9] at H;exact absurd H (by simp)
     ·rw [if_neg c8] at H;exact absurd H (by simp)
    ·rw [if_neg c7] at H;exact absurd H (by simp)
   ·rw [if_neg c6] at H;have bX:=decide_eq_false c6;clear c6;obtain rfl:=Option.some.inj H;go_wp2
    go_ret
    exact ⟨_,rf_,Kd.ra_ (bS.out),bl_ HB⟩
def Uk.l0:Nat→List (S31)→List Bool→Int→Int→Option (Bool)
 |0,_,_,_,_=>none
 |k+1,x0,x1,x2,x7=>if x7<(wrap64 ((x0.length:Int) - 1)) then (if 0≤x7 then (if x7<(x1.length:Int) then (if rdOf false x1 x7=true then (if 0≤x2 then (if x2<(x0.length:Int) then (some (((Xb x0 x2).f3) == x7)) else (none)) else (none)) else (Uk.l0 k x0 x1 x2 (wrap64 (x7+1)))) else (none)) else (none)) else (if 0≤x2 then (if x2<(x0.length:Int) then (some (((Xb x0 x2).f3) == x7)) else (none)) else (none))
def Uk.f (k:Nat) (l0:List (S31)) (l1:List Bool) (a2:Int):Option (Bool):=Uk.l0 k l0 l1 a2 (wrap64 (a2+1))
theorem Uk.calls (k:Nat) (A0:Option Addr) (c0:Nat) (l0:List (S31)) (A1:Option Addr) (c1:Nat) (l1:List Bool) (a2:Int) (r:Bool) (w:World) (hr0:Kd.C k31 w A0 l0.length l0) (hc0:l0.length≤c0) (hr1:Kd.C Kd.bool w A1 l1.length l1) (hc1:l1.length≤c1) (h:Uk.f k l0 l1 a2=some r) :
  Calls Try.prog 65 #[.slice A0 l0.length c0,.slice A1 l1.length c1,.int .i64 a2] w fun e w'=>e=.returned (.bool r)∧Yf w w':=by
 have bD:=Xa.mk hr0;have eB:=Xa.mk hc0;clear hr0 hc0;have HR1:=Xa.mk hr1;have HC1:=Xa.mk hc1;clear hr1 hc1;have H:(Uk.l0 k l0 l1 a2 (wrap64 (a2+1)))=some r:=h;clear h;have H':=Xa.mk H;clear H
 go_enter Try.func65,Try.ntmps65
 go_wp2
 go_loopg [7] k (fun kq v7 w'=>∃ (aN:Int),v7=.int .i64 aN∧Xa (Uk.l0 kq l0 l1 a2 aN=some r)∧Xa (kq≤k)∧Yf w w')
 case atStart=>exact ⟨(wrap64 (a2+1)),rg_,H',⟨Nat.le_refl _⟩,by repeat (first|exact Yf.refl _|apply Yf.step)⟩
 case round=>
  clear H'
  try clear c1
  obtain ⟨aN,rfl,HA,dG,⟨m1,rfl⟩⟩:=hrel
  cases gk with
  |zero=>exact absurd HA.out (by simp [Uk.l0])
  |succ k1=>
   have H:=HA.out;clear HA;simp only [Uk.l0] at H;by_cases c4:aN<(wrap64 ((l0.length:Int) - 1))
   ·rw [if_pos c4] at H;have bW:=decide_eq_true c4;clear c4;by_cases c5:0≤aN
    ·rw [if_pos c5] at H;replace c5:=decide_eq_true c5;by_cases c6:aN<(l1.length:Int)
     ·rw [if_pos c6] at H;have bX:=decide_eq_true c6;clear c6;obtain ⟨fE,bZ⟩:∃ b_:Bool,b_=(rdOf false l1 aN):=⟨_,rfl⟩
      replace H:(if fE=true then (if 0≤a2 then (if a2<(l0.length:Int) then (some (((Xb l0 a2).f3) == aN)) else (none)) else (none)) else (Uk.l0 k1 l0 l1 a2 (wrap64 (aN+1))))=some r:=by rw [← bZ] at H;exact H
      have dJ:=Xa.mk bZ;clear bZ;by_cases c8:fE=true
      ·subst c8
       replace H:(if 0≤a2 then (if a2<(l0.length:Int) then (some (((Xb l0 a2).f3) == aN)) else (none)) else (none))=some r:=(by rw [if_pos rfl] at H;exact H);by_cases c9:0≤a2
       ·rw [if_pos c9] at H;have dS:=decide_eq_true c9;clear c9;by_cases c10:a2<(l0.length:Int)
        ·rw [if_pos c10] at H;have dN:=decide_eq_true c10;clear c10;obtain rfl:=Option.some.inj H;have bB:0≤(aN:Int):=of_decide_eq_true (by assumption);have bC:aN<(l1.length:Int):=of_decide_eq_true (by assumption);obtain ⟨dL,bY,aY⟩:=Kd.at_bool HR1.out aN bB bC
         (try rw [← dJ.out] at aY)
         cases bY
         replace bB:=eq_true bB;replace bC:=eq_true bC;have cO:0≤(a2:Int):=of_decide_eq_true (by assumption);have dC:a2<(l0.length:Int):=of_decide_eq_true (by assumption);obtain ⟨ad438,eX,hx438_0,hx438_1,hx438_2,hx438_3⟩:=Zv bD.out a2 cO dC;cases eX
         replace cO:=eq_true cO;replace dC:=eq_true dC;go_wp2
         go_ret
         exact ⟨by first|rfl|(simp;done)|(simp [*];done),by repeat (first|exact Yf.refl _|apply Yf.step)⟩
        ·rw [if_neg c10] at H;exact absurd H (by simp)
       ·rw [if_neg c9] at H;exact absurd H (by simp)
      ·replace c8:=Bool.eq_false_iff.mpr c8;subst c8
       replace H:(Uk.l0 k1 l0 l1 a2 (wrap64 (aN+1)))=some r:=(by rw [if_neg (show ¬ (false=true) by decide)] at H;exact H);have H':=Xa.mk H;clear H;have bB:0≤(aN:Int):=of_decide_eq_true (by assumption);have bC:aN<(l1.length:Int):=of_decide_eq_true (by assumption);obtain ⟨dL,bY,aY⟩:=Kd.at_bool HR1.out aN bB bC
       (try rw [← dJ.out] at aY)
       cases bY
       replace bB:=eq_true bB;replace bC:=eq_true bC;go_wp2
       go_roundg k1
       case measure=>have:=dG.out;omega
       case rel=>exact ⟨(wrap64 (aN+1)),rg_,H',⟨by have:=dG.out;omega⟩,by repeat (first|exact Yf.refl _|apply Yf.step)⟩
     ·rw [if_neg c6] at H;exact absurd H (by simp)
    ·rw [if_neg c5] at H;exact absurd H (by simp)
   ·rw [if_neg c4] at H;have bW:=decide_eq_false c4;clear c4;by_cases c11:0≤a2
    ·rw [if_pos c11] at H;have dO:=decide_eq_true c11;clear c11;by_cases c12:a2<(l0.length:Int)
     ·rw [if_pos c12] at H;replace c12:=decide_eq_true c12;obtain rfl:=Option.some.inj H;have cZ:0≤(a2:Int):=of_decide_eq_true (by assumption);have dD:a2<(l0.length:Int):=of_decide_eq_true (by assumption);obtain ⟨ad439,eY,hx439_0,hx439_1,hx439_2,hx439_3⟩:=Zv bD.out a2 cZ dD;cases eY
      replace cZ:=eq_true cZ;replace dD:=eq_true dD;go_wp2
      go_ret
      exact ⟨by first|rfl|(simp;done)|(simp [*];done),by repeat (first|exact Yf.refl _|apply Yf.step)⟩
     ·rw [if_neg c12] at H;exact absurd H (by simp)
    ·rw [if_neg c11] at H;exact absurd H (by simp)
end Go.Proofs.Ytokajnfbiddpjaa.GSlim
