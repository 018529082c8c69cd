import Derived.Test.YtokajnfbiddpjaaCFnSlimSome21
import Derived.Test.YtokajnfbiddpjaaCFnSlimSome44
set_option maxHeartbeats 8000000
set_option maxRecDepth 100000
namespace Go.Proofs.Ytokajnfbiddpjaa.GSlim
open Go.RowKit Go.Proofs.YtokajnfbiddpjaaW.PrintWords Go.Proofs.YtokajnfbiddpjaaW.PrintLast Go.Proofs.YtokajnfbiddpjaaW.PrintMore
attribute [local go_sem] Zx Zz Ul Um Zl Zm Zy Ua
set_option linter.unusedVariables false
set_option linter.unusedSimpArgs false
attribute [local go_sem high] eqA31
def Zw.l0:Nat→List (S31)→List (S31)→Int→Int→Option (Bool)
 |0,_,_,_,_=>none
 |k+1,x0,x1,aJ,bE=>if bE<aJ then (if 0≤bE then (if bE<(x0.length:Int) then (if bE<(x1.length:Int) then (if (!(((Xb x0 bE).f0) == ((Xb x1 bE).f0))||(!(((Xb x0 bE).f1) == ((Xb x1 bE).f1))||(!(((Xb x0 bE).f2) == ((Xb x1 bE).f2))||(!(((Xb x0 bE).f3) == ((Xb x1 bE).f3))))))=true then (some false) else (Zw.l0 k x0 x1 aJ (wrap64 (bE+1)))) else (none)) else (none)) else (none)) else (some true)
def Zw.f (k:Nat) (l0:List (S31)) (l1:List (S31)):Option (Bool):=if (l0.length:Int)=(l1.length:Int) then (Zw.l0 k l0 l1 (l0.length:Int) 0) else (some false)
theorem Zw.calls (k:Nat) (A0:Option Addr) (c0:Nat) (l0:List (S31)) (A1:Option Addr) (c1:Nat) (l1:List (S31)) (r:Bool) (w:World) (hr0:Kd.C k31 w A0 l0.length l0) (hc0:l0.length≤c0) (hr1:Kd.C k31 w A1 l1.length l1) (hc1:l1.length≤c1) (h:Zw.f k l0 l1=some r) :
  Calls Try.prog 18 #[.slice A0 l0.length c0,.slice A1 l1.length c1] w fun e w'=>e=.returned (.bool r)∧Yf w w':=by
 have fJ:=Try.underlying31;have bF:=Xa.mk hr0;have dX:=Xa.mk hc0;clear hr0 hc0;have HR1:=Xa.mk hr1;have HC1:=Xa.mk hc1;clear hr1 hc1;have H:(if (l0.length:Int)=(l1.length:Int) then (Zw.l0 k l0 l1 (l0.length:Int) 0) else (some false))=some r:=h;clear h;by_cases c3:(l0.length:Int)=(l1.length:Int)
 ·rw [if_pos c3] at H;have bK:=beq_iff_eq.mpr c3;have eO:=bne_eq_false_iff_eq.mpr c3
  have eP:(l0.length == l1.length)=true:=by first|simpa using c3|(simp at c3 ⊢;omega)
  clear c3;have H':=Xa.mk H;clear H
  go_enter Try.func18,Try.ntmps18
  go_wp2
  repeat (go_quiet (fail);try go_wp2)
  go_loopg [13] k (fun kq v13 w'=>∃ (aB:Int),v13=.int .i64 aB∧Xa (Zw.l0 kq l0 l1 (l0.length:Int) aB=some r)∧Xa (kq≤k)∧Yf w w')
  case atStart=>exact ⟨(0),rg_,H',⟨Nat.le_refl _⟩,by repeat (first|exact Yf.refl _|apply Yf.step)⟩
  case round=>
   clear H'
   try clear c1
   try clear c3
   try clear bK
   try clear eO
   try clear eP
   obtain ⟨aB,rfl,HA,bB,⟨m1,rfl⟩⟩:=hrel
   cases gk with
   |zero=>exact absurd HA.out (by simp [Zw.l0])
   |succ k1=>
    have H:=HA.out;clear HA;simp only [Zw.l0] at H;by_cases c4:aB<(l0.length:Int)
    ·rw [if_pos c4] at H;have bG:=decide_eq_true c4;clear c4;by_cases c5:0≤aB
     ·rw [if_pos c5] at H;have dC:=decide_eq_true c5;clear c5;by_cases c6:aB<(l0.length:Int)
      ·rw [if_pos c6] at H;have bL:=decide_eq_true c6;clear c6;by_cases c7:aB<(l1.length:Int)
       ·rw [if_pos c7] at H;replace c7:=decide_eq_true c7;by_cases c8:(!(((Xb l0 aB).f0) == ((Xb l1 aB).f0))||(!(((Xb l0 aB).f1) == ((Xb l1 aB).f1))||(!(((Xb l0 aB).f2) == ((Xb l1 aB).f2))||(!(((Xb l0 aB).f3) == ((Xb l1 aB).f3))))))=true
        ·rw [if_pos c8] at H;have fG:(!(((Xb l0 aB).f0) == ((Xb l1 aB).f0))||(!(((Xb l0 aB).f1) == ((Xb l1 aB).f1))||(!(((Xb l0 aB).f2) == ((Xb l1 aB).f2))||(!(((Xb l0 aB).f3) == ((Xb l1 aB).f3))))))=true:=c8;clear c8;obtain rfl:=Option.some.inj H;have aU:0≤(aB:Int):=of_decide_eq_true (by assumption);have aX:aB<(l0.length:Int):=of_decide_eq_true (by assumption);obtain ⟨eD,e339,bM,bN,bO,bP⟩:=Zv bF.out aB aU aX;cases e339
         replace aU:=eq_true aU;replace aX:=eq_true aX;have aV:0≤(aB:Int):=of_decide_eq_true (by assumption);have aY:aB<(l1.length:Int):=of_decide_eq_true (by assumption);obtain ⟨eF,dD,bQ,bR,bS,bT⟩:=Zv HR1.out aB aV aY;cases dD
         replace aV:=eq_true aV;replace aY:=eq_true aY;go_wp2
         repeat (go_quiet (fail);try go_wp2)
         go_ret
         exact ⟨by first|rfl|(simp;done)|(simp [*];done),by repeat (first|exact Yf.refl _|apply Yf.step)⟩
        ·rw [if_neg c8] at H
         have fG:(!(((Xb l0 aB).f0) == ((Xb l1 aB).f0))||(!(((Xb l0 aB).f1) == ((Xb l1 aB).f1))||(!(((Xb l0 aB).f2) == ((Xb l1 aB).f2))||(!(((Xb l0 aB).f3) == ((Xb l1 aB).f3))))))=false:=by simpa using c8
         clear c8;have H':=Xa.mk H;clear H;have aU:0≤(aB:Int):=of_decide_eq_true (by assumption);have aX:aB<(l0.length:Int):=of_decide_eq_true (by assumption);obtain ⟨eD,e339,bM,bN,bO,bP⟩:=Zv bF.out aB aU aX;cases e339
         replace aU:=eq_true aU;replace aX:=eq_true aX;have aV:0≤(aB:Int):=of_decide_eq_true (by assumption);have aY:aB<(l1.length:Int):=of_decide_eq_true (by assumption);obtain ⟨eF,dD,bQ,bR,bS,bT⟩:=Zv HR1.out aB aV aY;cases dD
         replace aV:=eq_true aV;replace aY:=eq_true aY;go_wp2
         repeat (go_quiet (fail);try go_wp2)
         go_roundg k1
         case measure=>have:=bB.out;omega
         case rel=>exact ⟨(wrap64 (aB+1)),rg_,H',⟨by have:=bB.out;omega⟩,by repeat (first|exact Yf.refl _|apply Yf.step)⟩
       ·rw [if_neg c7] at H;exact absurd H (by simp)
      ·rw [if_neg c6] at H;exact absurd H (by simp)
     ·rw [if_neg c5] at H;exact absurd H (by simp)
    ·rw [if_neg c4] at H;have bG:=decide_eq_false c4;clear c4;obtain rfl:=Option.some.inj H;go_wp2
     repeat (go_quiet (fail);try go_wp2)
     go_ret
     exact ⟨by first|rfl|(simp;done)|(simp [*];done),by repeat (first|exact Yf.refl _|apply Yf.step)⟩
 ·rw [if_neg c3] at H;have bK:=beq_eq_false_iff_ne.mpr c3;have eO:=bne_iff_ne.mpr c3
  have eP:(l0.length == l1.length)=false:=by first|simpa using c3|(simp at c3 ⊢;omega)
  obtain rfl:=Option.some.inj H
  go_enter Try.func18,Try.ntmps18
  go_wp2
  repeat (go_quiet (fail);try go_wp2)
  go_ret
  exact ⟨by first|rfl|(simp;done)|(simp [*];done),by repeat (first|exact Yf.refl _|apply Yf.step)⟩
def Us.l0:Nat→List (S31)→Int→Int→Int→Option (Int × Bool)
 |0,_,_,_,_=>none
 |k+1,x0,x1,x8,x9=>if x9<x8 then (if 0≤x1 then (if x1<(x0.length:Int) then (if ((Xb x0 x1).f0)=7 then (Us.l0 k x0 ((Xb x0 x1).f3) x8 (wrap64 (x9+1))) else (some (x1,true))) else (none)) else (none)) else (some (0,false))
def Us.f (k:Nat) (l0:List (S31)) (a1:Int):Option (Int × Bool):=Us.l0 k l0 a1 (wrap64 ((l0.length:Int)+1)) 0
theorem Us.calls (k:Nat) (A0:Option Addr) (c0:Nat) (l0:List (S31)) (a1:Int) (r1:Int) (r2:Bool) (w:World) (hr0:Kd.C k31 w A0 l0.length l0) (hc0:l0.length≤c0) (h:Us.f k l0 a1=some (r1,r2)) :
  Calls Try.prog 60 #[.slice A0 l0.length c0,.int .i64 a1] w fun e w'=>e=.returned (.tuple #[.int .i64 r1,.bool r2])∧Yf w w':=by
 have bF:=Xa.mk hr0;have dX:=Xa.mk hc0;clear hr0 hc0;have H:(Us.l0 k l0 a1 (wrap64 ((l0.length:Int)+1)) 0)=some (r1,r2):=h;clear h;have H':=Xa.mk H;clear H
 go_enter Try.func60,Try.ntmps60
 go_wp2
 go_loopg [1,9] k (fun kq v1 v9 w'=>∃ (aH:Int) (bJ:Int),v1=.int .i64 aH∧v9=.int .i64 bJ∧Xa (Us.l0 kq l0 aH (wrap64 ((l0.length:Int)+1)) bJ=some (r1,r2))∧Xa (kq≤k)∧Yf w w')
 case atStart=>exact ⟨(a1),(0),rg_,rg_,H',⟨Nat.le_refl _⟩,by repeat (first|exact Yf.refl _|apply Yf.step)⟩
 case round=>
  clear H';obtain ⟨aH,bJ,rfl,rfl,HA,bB,⟨m1,rfl⟩⟩:=hrel
  cases gk with
  |zero=>exact absurd HA.out (by simp [Us.l0])
  |succ k1=>
   have H:=HA.out;clear HA;simp only [Us.l0] at H;by_cases c3:bJ<(wrap64 ((l0.length:Int)+1))
   ·rw [if_pos c3] at H;have bK:=decide_eq_true c3;clear c3;by_cases c4:0≤aH
    ·rw [if_pos c4] at H;have bG:=decide_eq_true c4;clear c4;by_cases c5:aH<(l0.length:Int)
     ·rw [if_pos c5] at H;have dC:=decide_eq_true c5;clear c5;by_cases c6:((Xb l0 aH).f0)=7
      ·rw [if_pos c6] at H;have bL:=beq_iff_eq.mpr c6;have fF:=bne_eq_false_iff_eq.mpr c6;clear c6;have H':=Xa.mk H;clear H;have aW:0≤(aH:Int):=of_decide_eq_true (by assumption);have aZ:aH<(l0.length:Int):=of_decide_eq_true (by assumption);obtain ⟨cK,dE,bU,bV,bW,bX⟩:=Zv bF.out aH aW aZ;cases dE
       replace aW:=eq_true aW;replace aZ:=eq_true aZ;have dP:0≤(aH:Int):=of_decide_eq_true (by assumption);have dQ:aH<(l0.length:Int):=of_decide_eq_true (by assumption);obtain ⟨eG,fH,hx342_0,hx342_1,hx342_2,hx342_3⟩:=Zv bF.out aH dP dQ;obtain rfl:cK=eG:=(by injection fH);replace dP:=eq_true dP;replace dQ:=eq_true dQ;go_wp2
       go_roundg k1
       case measure=>have:=bB.out;omega
       case rel=>exact ⟨((Xb l0 aH).f3),(wrap64 (bJ+1)),rg_,rg_,H',⟨by have:=bB.out;omega⟩,by repeat (first|exact Yf.refl _|apply Yf.step)⟩
      ·rw [if_neg c6] at H;have bL:=beq_eq_false_iff_ne.mpr c6;have fF:=bne_iff_ne.mpr c6;simp only [Option.some.injEq,Prod.mk.injEq] at H;obtain ⟨rfl,rfl⟩:=H;have aW:0≤(aH:Int):=of_decide_eq_true (by assumption);have aZ:aH<(l0.length:Int):=of_decide_eq_true (by assumption);obtain ⟨cK,dE,bU,bV,bW,bX⟩:=Zv bF.out aH aW aZ;cases dE
       replace aW:=eq_true aW;replace aZ:=eq_true aZ;go_wp2
       go_ret2
       exact ⟨by first|rfl|(simp;done)|(simp [*];done),by repeat (first|exact Yf.refl _|apply Yf.step)⟩
     ·rw [if_neg c5] at H;exact absurd H (by simp)
    ·rw [if_neg c4] at H;exact absurd H (by simp)
   ·rw [if_neg c3] at H;have bK:=decide_eq_false c3;clear c3;simp only [Option.some.injEq,Prod.mk.injEq] at H;obtain ⟨rfl,rfl⟩:=H;go_wp2
    go_ret2
    exact ⟨by first|rfl|(simp;done)|(simp [*];done),by repeat (first|exact Yf.refl _|apply Yf.step)⟩
mutual
def Ya.l0:Nat→List (S31)→List (S31)→List (S31)→Int→Int→Option ((List (S31)))
 |0,_,_,_,_,_=>none
 |k+1,x0,x3,aT,dS,aJ=>if aJ<dS then (if 0≤aJ then (if aJ<(aT.length:Int) then (if ((Xb aT aJ).f0)=7 then (Ya.j1 k x0 x3 aJ aT dS aJ false ((Xb aT aJ).f0) ((Xb aT aJ).f1) ((Xb aT aJ).f2) ((Xb aT aJ).f3)) else (Ya.j1 k x0 x3 aJ aT dS aJ (((Xb aT aJ).f0) != 6) ((Xb aT aJ).f0) ((Xb aT aJ).f1) ((Xb aT aJ).f2) ((Xb aT aJ).f3))) else (none)) else (none)) else (some x3)
def Ya.j1:Nat→List (S31)→List (S31)→Int→List (S31)→Int→Int→Bool→Int→Int→Int→Int→Option ((List (S31)))
 |0,_,_,_,_,_,_,_,_,_,_,_=>none
 |k+1,x0,x3,x4,aT,dS,aJ,x24,x348000,x348001,x348002,cB=>if x24=true then (Ya.l0 k x0 x3 aT dS (wrap64 (aJ+1))) else ((Us.f k x0 cB).bind fun aP=>(if aP.2=true then (if 0≤x4 then (if x4<(x3.length:Int) then (Ya.l0 k x0 (x3.set (x4:Int).toNat (⟨(Xb x3 x4).f0,(Xb x3 x4).f1,(Xb x3 x4).f2,aP.1⟩:S31)) aT dS (wrap64 (aJ+1))) else (none)) else (none)) else (Ya.l0 k x0 x3 aT dS (wrap64 (aJ+1)))))
end
def Ya.f (k:Nat) (l0:List (S31)):Option ((List (S31))):=(impl_Ins_16.f l0).bind fun bA=>(Ya.l0 k l0 bA l0 (l0.length:Int) 0)
theorem Ya.calls (k:Nat) (A0:Option Addr) (c0:Nat) (l0:List (S31)) (r:List (S31)) (w:World) (hr0:Kd.C k31 w A0 l0.length l0) (hc0:l0.length≤c0) (h:Ya.f k l0=some r) :
  Calls Try.prog 35 #[.slice A0 l0.length c0] w fun e w'=>∃ gB:Value,e=.returned (gB)∧Kd.R k31 31 w' w.heap.size (fun _=>True) gB r∧Below w.heap.size w w':=by
 have fJ:=Try.underlying31;have bF:=Xa.mk hr0;have dX:=Xa.mk hc0;clear hr0 hc0;have HB:=Xa.mk (Below.refl w.heap.size w);have H:((impl_Ins_16.f l0).bind fun bA=>(Ya.l0 k l0 bA l0 (l0.length:Int) 0))=some r:=h;clear h;replace H:=Option.bind_eq_some_iff.mp H;obtain ⟨bA,fT,H⟩:=H;replace H:(Ya.l0 k l0 bA l0 (l0.length:Int) 0)=some r:=H;have A2:=Xa.mk fT;clear fT;have H':=Xa.mk H;clear H
 go_enter Try.func35,Try.ntmps35
 go_wp2_with (first|((with_reducible refine Xh (f:=16) rfl ?_);refine Ye (some 9) rfl rfl Try.func16 (by kernel_rfl) rfl #[.slice A0 l0.length c0] rfl ga_ ?_;(with_reducible refine (impl_Ins_16.calls _ _ l0 bA _ ?side1 ?side2 A2.out).mono ?_);(case side1=>exact Kd.ca_ bF.out);(case side2=>exact dX.out);rintro e w3 ⟨dR,rfl,ho0,hb⟩;refine ⟨_,rfl,?_⟩;have dZ:=Xa.mk (Kd.Yi ho0 (Xd (bl_ HB)));replace HB:=Xa.mk (Xe (bl_ HB) hb);clear hb ho0))
 go_loopg [12] k (fun kq v12 w'=>∃ (aC:List (S31)) (aA:Int),v12=.int .i64 aA∧Xa (Ya.l0 kq l0 aC l0 (l0.length:Int) aA=some r)∧Xa (kq≤k)∧Xa (Kd.R k31 31 w' w.heap.size (fun _=>True) dR aC)∧Xa (Below w.heap.size w w'))
 case atStart=>exact ⟨(bA),(0),rg_,H',⟨Nat.le_refl _⟩,⟨Kd.ra_ (dZ.out)⟩,⟨bl_ HB⟩⟩
 case round=>
  clear H';obtain ⟨aC,aA,rfl,HA,bB,aG,HB⟩:=hrel
  cases gk with
  |zero=>exact absurd HA.out (by simp [Ya.l0])
  |succ k1=>
   have H:=HA.out;clear HA;simp only [Ya.l0] at H;by_cases c4:aA<(l0.length:Int)
   ·rw [if_pos c4] at H;have bG:=decide_eq_true c4;clear c4;by_cases c5:0≤aA
    ·rw [if_pos c5] at H;have dC:=decide_eq_true c5;clear c5;by_cases c6:aA<(l0.length:Int)
     ·rw [if_pos c6] at H;have bL:=decide_eq_true c6;clear c6;have fE:=Xa.mk H;clear H;have bY:0≤(aA:Int):=of_decide_eq_true (by assumption);have bZ:aA<(l0.length:Int):=of_decide_eq_true (by assumption);obtain ⟨cO,e346,aK,aL,aM,aN⟩:=Zv bF.out aA bY bZ;cases e346
      replace aK:=bw_ HB aK;replace aL:=bw_ HB aL;replace aM:=bw_ HB aM;replace aN:=bw_ HB aN;replace bY:=eq_true bY;replace bZ:=eq_true bZ
      go_upto_region 5 with (first|((with_reducible refine Xt (N:=5) rfl ?_);refine Ym ?hg (N:=5) ?hd (cs:=#[.int .i64 0,.int .i64 0,.int .i64 0,.int .i64 0]) (t:=31) ?hr ?_;(case hd|hg=>rfl);(case hr=>exact hr_);intro aD hg w8 hbox hb;replace aG:=Xa.mk (Kd.Zf (Kd.R_elderB (Kd.ra_ (aG.out)) aD (Nat.le_of_eq hg.symm)) hb);have aF:=Xa.mk (hbox);have GW347:=Xa.mk ((ge_ hg (Xd (bl_ HB)):w.heap.size≤aD));have GE347:=Xa.mk ((ge_ hg (Xd (bl_ HB)):w.heap.size≤aD));replace HB:=Xa.mk (Xe (bl_ HB) hb);clear hb hbox hg;obtain ⟨dF,dG,dH,dI⟩:=Uv aF.out;obtain ⟨dK,dL,dM,dN⟩:=Uy aF.out))
      (try simp only [Act.put,List.setIfInBounds_toArray,List.set_cons_zero,List.set_cons_succ])
      go_cut [24] (fun v24 wc=>∃ (kq:Nat) (bD:Bool),v24=.bool bD∧Xa (Ya.j1 kq l0 aC aA l0 (l0.length:Int) aA bD ((Xb l0 aA).f0) ((Xb l0 aA).f1) ((Xb l0 aA).f2) ((Xb l0 aA).f3)=some r)∧Xa (kq≤k1)∧Xa (Kd.R k31 31 wc w.heap.size (fun k_=>k_≠aD) dR aC)∧Xa (wc.heap[aD]?=some (.cells #[.int .i64 ((Xb l0 aA).f0),.int .i64 ((Xb l0 aA).f1),.int .i64 ((Xb l0 aA).f2),.int .i64 ((Xb l0 aA).f3)] 31 (0,0)))∧Xa (Below w.heap.size w wc))
      case first=>
       have H:=fE.out;clear fE;by_cases c10:((Xb l0 aA).f0)=7
       ·rw [if_pos c10] at H;have aQ:=beq_iff_eq.mpr c10;have eH:=bne_eq_false_iff_eq.mpr c10;clear c10
        (first|rw [aQ]|(simp only [Ub,Uf];rw [aQ])|skip)
        have H':=Xa.mk H;clear H;obtain ⟨hcz11_0,hcz11_1,hcz11_2,hcz11_3⟩:=Uv aF.out;obtain ⟨hfz11_0,hfz11_1,hfz11_2,hfz11_3⟩:=Uy aF.out;go_wp2
        go_meet
        case rel=>exact ⟨_,(false),rg_,H',⟨by have:=bB.out;first|omega|exact Nat.le_refl _⟩,⟨Kd.ra_ (Kd.Xo (Kd.Yr (p:=⟨aD,3,none⟩) (Kd.Yr (p:=⟨aD,2,none⟩) (Kd.Yr (p:=⟨aD,1,none⟩) (Kd.Yr (p:=⟨aD,0,none⟩) (Kd.Xo aG.out (fun k_ hk=>(⟨hk,hk.2⟩:_∧k_≠aD))) (fun _ hk=>hk.2) (.int .i64 ((Xb l0 aA).f0))) (fun _ hk=>hk.2) (.int .i64 ((Xb l0 aA).f1))) (fun _ hk=>hk.2) (.int .i64 ((Xb l0 aA).f2))) (fun _ hk=>hk.2) (.int .i64 ((Xb l0 aA).f3))) (fun _ hk=>hk.1.2))⟩,⟨by refine bb_ (Xv (cs:=#[.int .i64 ((Xb l0 aA).f0),.int .i64 ((Xb l0 aA).f1),.int .i64 ((Xb l0 aA).f2),.int .i64 0]) ?_ 3 _ rfl);refine bb_ (Xv (cs:=#[.int .i64 ((Xb l0 aA).f0),.int .i64 ((Xb l0 aA).f1),.int .i64 0,.int .i64 0]) ?_ 2 _ rfl);refine bb_ (Xv (cs:=#[.int .i64 ((Xb l0 aA).f0),.int .i64 0,.int .i64 0,.int .i64 0]) ?_ 1 _ rfl);refine bb_ (Xv (cs:=#[.int .i64 0,.int .i64 0,.int .i64 0,.int .i64 0]) ?_ 0 _ rfl);(with_reducible repeat (first|refine Uo ?_ _|refine Uw ?_|refine Un ?_ _));exact aF.out⟩,⟨bl_ HB⟩⟩
       ·rw [if_neg c10] at H;have aQ:=beq_eq_false_iff_ne.mpr c10;have eH:=bne_iff_ne.mpr c10
        (first|rw [aQ]|(simp only [Ub,Uf];rw [aQ])|skip)
        have H':=Xa.mk H;clear H;obtain ⟨hcz12_0,hcz12_1,hcz12_2,hcz12_3⟩:=Uv aF.out;obtain ⟨hfz12_0,hfz12_1,hfz12_2,hfz12_3⟩:=Uy aF.out;go_wp2
        go_meet
        case rel=>exact ⟨_,((((Xb l0 aA).f0) != 6)),rg_,H',⟨by have:=bB.out;first|omega|exact Nat.le_refl _⟩,⟨Kd.ra_ (Kd.Xo (Kd.Yr (p:=⟨aD,3,none⟩) (Kd.Yr (p:=⟨aD,2,none⟩) (Kd.Yr (p:=⟨aD,1,none⟩) (Kd.Yr (p:=⟨aD,0,none⟩) (Kd.Xo aG.out (fun k_ hk=>(⟨hk,hk.2⟩:_∧k_≠aD))) (fun _ hk=>hk.2) (.int .i64 ((Xb l0 aA).f0))) (fun _ hk=>hk.2) (.int .i64 ((Xb l0 aA).f1))) (fun _ hk=>hk.2) (.int .i64 ((Xb l0 aA).f2))) (fun _ hk=>hk.2) (.int .i64 ((Xb l0 aA).f3))) (fun _ hk=>hk.1.2))⟩,⟨by refine bb_ (Xv (cs:=#[.int .i64 ((Xb l0 aA).f0),.int .i64 ((Xb l0 aA).f1),.int .i64 ((Xb l0 aA).f2),.int .i64 0]) ?_ 3 _ rfl);refine bb_ (Xv (cs:=#[.int .i64 ((Xb l0 aA).f0),.int .i64 ((Xb l0 aA).f1),.int .i64 0,.int .i64 0]) ?_ 2 _ rfl);refine bb_ (Xv (cs:=#[.int .i64 ((Xb l0 aA).f0),.int .i64 0,.int .i64 0,.int .i64 0]) ?_ 1 _ rfl);refine bb_ (Xv (cs:=#[.int .i64 0,.int .i64 0,.int .i64 0,.int .i64 0]) ?_ 0 _ rfl);(with_reducible repeat (first|refine Uo ?_ _|refine Uw ?_|refine Un ?_ _));exact aF.out⟩,⟨bl_ HB⟩⟩
      case rest=>
       clear fE
       try clear c4
       try clear bG
       try clear c5
       try clear dC
       try clear c6
       try clear bL
       try clear dF
       try clear dG
       try clear dH
       try clear dI
       try clear dK
       try clear dL
       try clear dM
       try clear dN
       try clear aK
       try clear aL
       try clear aM
       try clear aN
       try clear bY
       try clear bZ
       obtain ⟨kq,bD,rfl,HA,dV,aG,aF,HB⟩:=hcut
       cases kq with
       |zero=>exact absurd HA.out (by simp [Ya.j1])
       |succ bC=>
        have H:=HA.out;clear HA;simp only [Ya.j1] at H;by_cases c13:bD=true
        ·subst c13
         replace H:(Ya.l0 bC l0 aC l0 (l0.length:Int) (wrap64 (aA+1)))=some r:=(by rw [if_pos rfl] at H;exact H);have H':=Xa.mk H;clear H;go_wp2
         go_roundg bC
         case measure=>have:=bB.out;have:=dV.out;omega
         case rel=>exact ⟨(aC),(wrap64 (aA+1)),rg_,H',⟨by have:=bB.out;have:=dV.out;omega⟩,⟨Kd.ra_ (Kd.Xo aG.out (fun _ hk=>trivial))⟩,⟨bl_ HB⟩⟩
        ·replace c13:=Bool.eq_false_iff.mpr c13;subst c13
         replace H:((Us.f bC l0 ((Xb l0 aA).f3)).bind fun aP=>(if aP.2=true then (if 0≤aA then (if aA<(aC.length:Int) then (Ya.l0 bC l0 (aC.set (aA:Int).toNat (⟨(Xb aC aA).f0,(Xb aC aA).f1,(Xb aC aA).f2,aP.1⟩:S31)) l0 (l0.length:Int) (wrap64 (aA+1))) else (none)) else (none)) else (Ya.l0 bC l0 aC l0 (l0.length:Int) (wrap64 (aA+1)))))=some r:=(by rw [if_neg (show ¬ (false=true) by decide)] at H;exact H);replace H:=Option.bind_eq_some_iff.mp H;obtain ⟨⟨aO,fA⟩,dW,H⟩:=H;replace H:(if fA=true then (if 0≤aA then (if aA<(aC.length:Int) then (Ya.l0 bC l0 (aC.set (aA:Int).toNat (⟨(Xb aC aA).f0,(Xb aC aA).f1,(Xb aC aA).f2,aO⟩:S31)) l0 (l0.length:Int) (wrap64 (aA+1))) else (none)) else (none)) else (Ya.l0 bC l0 aC l0 (l0.length:Int) (wrap64 (aA+1))))=some r:=H;have fQ:=Xa.mk dW;clear dW;by_cases c15:fA=true
         ·subst c15
          replace H:(if 0≤aA then (if aA<(aC.length:Int) then (Ya.l0 bC l0 (aC.set (aA:Int).toNat (⟨(Xb aC aA).f0,(Xb aC aA).f1,(Xb aC aA).f2,aO⟩:S31)) l0 (l0.length:Int) (wrap64 (aA+1))) else (none)) else (none))=some r:=(by rw [if_pos rfl] at H;exact H);by_cases c16:0≤aA
          ·rw [if_pos c16] at H;replace c16:=decide_eq_true c16;by_cases c17:aA<(aC.length:Int)
           ·rw [if_pos c17] at H;replace c17:=decide_eq_true c17;obtain ⟨dU,bI⟩:∃ y_:List (S31),y_=(aC.set (aA:Int).toNat (⟨(Xb aC aA).f0,(Xb aC aA).f1,(Xb aC aA).f2,aO⟩:S31)):=⟨_,rfl⟩
            replace H:(Ya.l0 bC l0 dU l0 (l0.length:Int) (wrap64 (aA+1)))=some r:=by subst bI;first|with_reducible exact H|(have z:=(Option.bind_some _ _).symm.trans H;with_reducible exact z)|exact H
            have eB:=Xa.mk bI;clear bI;have H':=Xa.mk H;clear H;obtain ⟨hcz19_0,hcz19_1,hcz19_2,hcz19_3⟩:=Uv aF.out;obtain ⟨hfz19_0,hfz19_1,hfz19_2,hfz19_3⟩:=Uy aF.out;go_wp2_with (first|((with_reducible refine Xh (f:=60) rfl ?_);refine Ye (some 29) rfl rfl Try.func60 (by kernel_rfl) rfl #[.slice (some cO) l0.length c0,.int .i64 ((Xb l0 aA).f3)] rfl ga_ ?_;(with_reducible refine (Us.calls bC _ _ l0 ((Xb l0 aA).f3) aO true _ ?side1 ?side2 fQ.out).mono ?_);(case side1=>exact Kd.ca_ (Kd.Ze bF.out HB.out));(case side2=>exact dX.out);rintro e w' ⟨rfl,⟨nd,rfl⟩⟩;refine ⟨_,rfl,?_⟩;(try (rw [drewN_self wc];generalize fC:World.drewN wc _=wc;have fV:Xa (Kd.R k31 31 wc w.heap.size (fun k_=>k_≠aD) dR aC):=⟨by rw [← fC];exact (Kd.ra_ (aG.out))⟩;have fK:Xa (wc.heap[aD]?=some (.cells #[.int .i64 ((Xb l0 aA).f0),.int .i64 ((Xb l0 aA).f1),.int .i64 ((Xb l0 aA).f2),.int .i64 ((Xb l0 aA).f3)] 31 (0,0))):=⟨by rw [← fC];exact (ba_ aF)⟩;have fZ:Xa (Below w.heap.size w wc):=⟨by rw [← fC];exact (bl_ HB)⟩;obtain ⟨hbz_gb347_0,hbz_gb347_1,hbz_gb347_2,hbz_gb347_3⟩:=Uv fK.out;clear aG aF HB fC;have aG:=fV;have aF:=fK;have HB:=fZ;clear fV fK fZ));have fM:0≤(aA:Int):=of_decide_eq_true (by assumption);have fO:(aA:Int)<((aC.length:Int):Int):=of_decide_eq_true (by assumption);obtain ⟨aI,eQ,eT,eU,fI,cl18,dY⟩:=Kd.R_form aG.out (by omega);(first|cases eT|(injection eT with fB gF gD;(first|subst fB|(injection fB with fB;subst fB));subst gD;clear gF));have fD:=Xa.mk eU;have GG18:=Xa.mk dY;clear eU fI dY;obtain ⟨ce18,eZ,eX,aR,aS⟩:=Kd.R_elem aG.out z31 (aA:Int) fM fO;obtain rfl:=k31_openM eX;have hx18_0:wc.cell? ⟨aI,(aA:Int).toNat * 4,none⟩=some (.int .i64 ((Xb aC aA).f0)):=aR 0 _ rfl;have hx18_1:wc.cell? ⟨aI,(aA:Int).toNat * 4+1,none⟩=some (.int .i64 ((Xb aC aA).f1)):=aR 1 _ rfl;have hx18_2:wc.cell? ⟨aI,(aA:Int).toNat * 4+2,none⟩=some (.int .i64 ((Xb aC aA).f2)):=aR 2 _ rfl;have hx18_3:wc.cell? ⟨aI,(aA:Int).toNat * 4+3,none⟩=some (.int .i64 ((Xb aC aA).f3)):=aR 3 _ rfl;have hf18_0:wc.frozen? ⟨aI,(aA:Int).toNat * 4,none⟩=false:=aS 0;have hf18_1:wc.frozen? ⟨aI,(aA:Int).toNat * 4+1,none⟩=false:=aS 1;have hf18_2:wc.frozen? ⟨aI,(aA:Int).toNat * 4+2,none⟩=false:=aS 2;have hf18_3:wc.frozen? ⟨aI,(aA:Int).toNat * 4+3,none⟩=false:=aS 3;clear eZ aR aS;(try clear eX);replace fM:=eq_true fM;replace fO:=eq_true fO;have d9:=Xa.mk (show Kd.R k31 31 wc w.heap.size (fun k_=>k_≠aD) (.slice (some ⟨aI,0,none⟩) aC.length eQ) aC from (Kd.ra_ (aG.out)));obtain ⟨ce20,cZ,eY,bH,dA⟩:=Kd.R_elem d9.out z31 (aA:Int) (of_decide_eq_true (by assumption)) (by have h_:(aA:Int)<((aC.length:Int):Int):=of_decide_eq_true (by assumption);first|exact h_|(have e_:=(Kd.R_reads' aG.out).1;omega)|simpa using h_);obtain rfl:=k31_openM eY;have dB:=Kd.R_seg d9.out (aA:Int) (of_decide_eq_true (by assumption)) (by have h_:(aA:Int)<((aC.length:Int):Int):=of_decide_eq_true (by assumption);first|exact h_|(have e_:=(Kd.R_reads' aG.out).1;omega)|simpa using h_) (seg:=[.int .i64 aO]) (j:=3) cZ bH (show 4≤4 from by decide) (x':=(⟨(Xb aC aA).f0,(Xb aC aA).f1,(Xb aC aA).f2,aO⟩:S31)) (Vg _ _ _ (⟨(Xb aC aA).f0,(Xb aC aA).f1,(Xb aC aA).f2,aO⟩:S31) ) (fun _ hk=>hk);have dO:=bH 3 _ rfl;(try simp only [show (k31).sz=4 from rfl,Nat.mul_one,Nat.add_zero] at dO);have dJ:=dA 3;(try simp only [show (k31).sz=4 from rfl,Nat.mul_one,Nat.add_zero] at dJ);clear cZ bH dA;(try clear eY))|((with_reducible refine Vn (t:=3) (p:=37) rfl ?_);refine Ve (t:=3) (p:=37) (v:=?vo_w21) (w1:=(wc.setCell ⟨aI,(aA:Int).toNat * 4+3,none⟩ (.int .i64 aO))) ?hg ?ho ?hn ?hr ?_;(case ho=>rfl);(case hg=>rfl);(case hn=>rfl);(case hr=>exact hr_);intro fP hw;have hg:wc.grownBy fP (some aI):=(by rw [hw];exact dB.2);have fU:Kd.R k31 31 fP w.heap.size (fun k_=>k_≠aD) (.slice (some ⟨aI,0,none⟩) aC.length eQ) dU:=(by rw [hw,eB.out];exact dB.1);clear dB;replace aF:=Xa.mk (blk_grown (g:=aD) (o:=.cells #[.int .i64 ((Xb l0 aA).f0),.int .i64 ((Xb l0 aA).f1),.int .i64 ((Xb l0 aA).f2),.int .i64 ((Xb l0 aA).f3)] 31 (0,0)) (ba_ aF) hg (Kd.R_away aG.out (fun _ hk=>hk)));replace aG:=Xa.mk (fU);replace HB:=Xa.mk ((by rw [hw];exact Vk (HB.out) fD.out:Below w.heap.size w fP));clear hg hw fU))
            go_roundg bC
            case measure=>have:=bB.out;have:=dV.out;omega
            case rel=>exact ⟨(dU),(wrap64 (aA+1)),rg_,H',⟨by have:=bB.out;have:=dV.out;omega⟩,⟨Kd.ra_ (Kd.Xo aG.out (fun _ hk=>trivial))⟩,⟨bl_ HB⟩⟩
           ·rw [if_neg c17] at H;exact absurd H (by simp)
          ·rw [if_neg c16] at H;exact absurd H (by simp)
         ·replace c15:=Bool.eq_false_iff.mpr c15;subst c15
          replace H:(Ya.l0 bC l0 aC l0 (l0.length:Int) (wrap64 (aA+1)))=some r:=(by rw [if_neg (show ¬ (false=true) by decide)] at H;exact H);have H':=Xa.mk H;clear H;obtain ⟨hcz22_0,hcz22_1,hcz22_2,hcz22_3⟩:=Uv aF.out;obtain ⟨hfz22_0,hfz22_1,hfz22_2,hfz22_3⟩:=Uy aF.out;go_wp2_with (first|((with_reducible refine Xh (f:=60) rfl ?_);refine Ye (some 29) rfl rfl Try.func60 (by kernel_rfl) rfl #[.slice (some cO) l0.length c0,.int .i64 ((Xb l0 aA).f3)] rfl ga_ ?_;(with_reducible refine (Us.calls bC _ _ l0 ((Xb l0 aA).f3) aO false _ ?side1 ?side2 fQ.out).mono ?_);(case side1=>exact Kd.ca_ (Kd.Ze bF.out HB.out));(case side2=>exact dX.out);rintro e w' ⟨rfl,⟨nd,rfl⟩⟩;refine ⟨_,rfl,?_⟩))
          go_roundg bC
          case measure=>have:=bB.out;have:=dV.out;omega
          case rel=>exact ⟨(aC),(wrap64 (aA+1)),rg_,H',⟨by have:=bB.out;have:=dV.out;omega⟩,⟨Kd.ra_ (Kd.Xo aG.out (fun _ hk=>trivial))⟩,⟨bl_ HB⟩⟩
     ·rw [if_neg c6] at H;exact absurd H (by simp)
    ·rw [if_neg c5] at H;exact absurd H (by simp)
   ·rw [if_neg c4] at H;have bG:=decide_eq_false c4;clear c4;obtain rfl:=Option.some.inj H;go_wp2
    go_ret
    exact ⟨_,rf_,Kd.ra_ (aG.out),bl_ HB⟩
end Go.Proofs.Ytokajnfbiddpjaa.GSlim
