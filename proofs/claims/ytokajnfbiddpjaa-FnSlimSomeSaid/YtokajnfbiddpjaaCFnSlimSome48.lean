import Derived.Test.YtokajnfbiddpjaaCFnSlimSome21
import Derived.Test.YtokajnfbiddpjaaCFnSlimSome46
import Derived.Test.YtokajnfbiddpjaaCFnSlimSome47
set_option maxHeartbeats 8000000
set_option maxRecDepth 100000
namespace Go.Proofs.Ytokajnfbiddpjaa.GSlim
open Go.RowKit Go.Proofs.YtokajnfbiddpjaaW.PrintWords Go.Proofs.YtokajnfbiddpjaaW.PrintLast Go.Proofs.YtokajnfbiddpjaaW.PrintMore
attribute [local go_sem] Zx Zz Ul Um Zl Zm Zy Ua
set_option linter.unusedVariables false
set_option linter.unusedSimpArgs false
def Yu.l0:Nat→List Bool→Bool→Int→Int→Option (Int)
 |0,_,_,_,_=>none
 |k+1,x0,x1,x7,x8=>if x8<x7 then (if 0≤x8 then (if x8<(x0.length:Int) then (if (x1 == (rdOf false x0 x8))=true then (some x8) else (Yu.l0 k x0 x1 x7 (wrap64 (x8+1)))) else (none)) else (none)) else (some (-1))
def Yu.f (k:Nat) (l0:List Bool) (a1:Bool):Option (Int):=Yu.l0 k l0 a1 (l0.length:Int) 0
theorem Yu.calls (k:Nat) (A0:Option Addr) (c0:Nat) (l0:List Bool) (a1:Bool) (r:Int) (w:World) (hr0:Kd.C Kd.bool w A0 l0.length l0) (hc0:l0.length≤c0) (h:Yu.f k l0 a1=some r) :
  Calls Try.prog 81 #[.slice A0 l0.length c0,.bool a1] w fun e w'=>e=.returned (.int .i64 r)∧Yf w w':=by
 have eD:=Xa.mk hr0;have fV:=Xa.mk hc0;clear hr0 hc0;have H:(Yu.l0 k l0 a1 (l0.length:Int) 0)=some r:=h;clear h;have H':=Xa.mk H;clear H
 go_enter Try.func81,Try.ntmps81
 go_wp2
 go_loopg [8] k (fun kq v8 w'=>∃ (aM:Int),v8=.int .i64 aM∧Xa (Yu.l0 kq l0 a1 (l0.length:Int) aM=some r)∧Xa (kq≤k)∧Yf w w')
 case atStart=>exact ⟨(0),rg_,H',⟨Nat.le_refl _⟩,by repeat (first|exact Yf.refl _|apply Yf.step)⟩
 case round=>
  clear H';obtain ⟨aM,rfl,HA,bQ,⟨m1,rfl⟩⟩:=hrel
  cases gk with
  |zero=>exact absurd HA.out (by simp [Yu.l0])
  |succ k1=>
   have H:=HA.out;clear HA;simp only [Yu.l0] at H;by_cases c3:aM<(l0.length:Int)
   ·rw [if_pos c3] at H;have gP:=decide_eq_true c3;clear c3;by_cases c4:0≤aM
    ·rw [if_pos c4] at H;have eF:=decide_eq_true c4;clear c4;by_cases c5:aM<(l0.length:Int)
     ·rw [if_pos c5] at H;have eG:=decide_eq_true c5;clear c5;by_cases c6:(a1 == (rdOf false l0 aM))=true
      ·rw [if_pos c6] at H;have gQ:(a1 == (rdOf false l0 aM))=true:=c6
       (try (have gT:decide (a1=(rdOf false l0 aM))=true:=by simpa using c6))
       (try (have gU:(a1 == (rdOf false l0 aM))=true:=by simpa using c6))
       clear c6;obtain rfl:=Option.some.inj H;have bM:0≤(aM:Int):=of_decide_eq_true (by assumption);have bO:aM<(l0.length:Int):=of_decide_eq_true (by assumption);obtain ⟨fE,eH,dL⟩:=Kd.at_bool eD.out aM bM bO;cases eH
       replace bM:=eq_true bM;replace bO:=eq_true bO;go_wp2
       go_ret
       exact ⟨by first|rfl|(simp;done)|(simp [*];done),by repeat (first|exact Yf.refl _|apply Yf.step)⟩
      ·rw [if_neg c6] at H
       have gQ:(a1 == (rdOf false l0 aM))=false:=by simpa using c6
       (try (have gT:decide (a1=(rdOf false l0 aM))=false:=by simpa using c6))
       (try (have gU:(a1 == (rdOf false l0 aM))=false:=by simpa using c6))
       (try (have c6b3:¬ (a1=(rdOf false l0 aM)):=by simpa using c6))
       clear c6;have H':=Xa.mk H;clear H;have bM:0≤(aM:Int):=of_decide_eq_true (by assumption);have bO:aM<(l0.length:Int):=of_decide_eq_true (by assumption);obtain ⟨fE,eH,dL⟩:=Kd.at_bool eD.out aM bM bO;cases eH
       replace bM:=eq_true bM;replace bO:=eq_true bO;go_wp2
       go_roundg k1
       case measure=>have:=bQ.out;omega
       case rel=>exact ⟨(wrap64 (aM+1)),rg_,H',⟨by have:=bQ.out;omega⟩,by repeat (first|exact Yf.refl _|apply Yf.step)⟩
     ·rw [if_neg c5] at H;exact absurd H (by simp)
    ·rw [if_neg c4] at H;exact absurd H (by simp)
   ·rw [if_neg c3] at H;have gP:=decide_eq_false c3;clear c3;obtain rfl:=Option.some.inj H;go_wp2
    go_ret
    exact ⟨by first|rfl|(simp;done)|(simp [*];done),by repeat (first|exact Yf.refl _|apply Yf.step)⟩
def Zi.f (k:Nat) (l0:List Bool) (a1:Bool):Option (Bool):=(Yu.f k l0 a1).bind fun bS=>(some (decide (bS ≥ 0)))
theorem Zi.calls (k:Nat) (A0:Option Addr) (c0:Nat) (l0:List Bool) (a1:Bool) (r:Bool) (w:World) (hr0:Kd.C Kd.bool w A0 l0.length l0) (hc0:l0.length≤c0) (h:Zi.f k l0 a1=some r) :
  Calls Try.prog 74 #[.slice A0 l0.length c0,.bool a1] w fun e w'=>e=.returned (.bool r)∧Yf w w':=by
 have eD:=Xa.mk hr0;have fV:=Xa.mk hc0;clear hr0 hc0;have H:((Yu.f k l0 a1).bind fun bS=>(some (decide (bS ≥ 0))))=some r:=h;clear h;replace H:=Option.bind_eq_some_iff.mp H;obtain ⟨bS,iN,H⟩:=H;replace H:(some (decide (bS ≥ 0)))=some r:=H;have A3:=Xa.mk iN;clear iN;obtain rfl:=Option.some.inj H
 go_enter Try.func74,Try.ntmps74
 go_wp2_with (first|((with_reducible refine Xh (f:=81) rfl ?_);refine Ye (some 7) rfl rfl Try.func81 (by kernel_rfl) rfl #[.slice A0 l0.length c0,.bool a1] rfl ga_ ?_;(with_reducible refine (Yu.calls k _ _ l0 a1 bS _ ?side1 ?side2 A3.out).mono ?_);(case side1=>exact Kd.ca_ eD.out);(case side2=>exact fV.out);rintro e w' ⟨rfl,⟨nd,rfl⟩⟩;refine ⟨_,rfl,?_⟩))
 go_ret
 exact ⟨by first|rfl|(simp;done)|(simp [*];done),by repeat (first|exact Yf.refl _|apply Yf.step)⟩
mutual
def Yq.l0:Nat→List Bool→List Bool→List (S31)→Int→Int→Option (List Bool)
 |0,_,_,_,_,_=>none
 |k+1,x3,x5,bH,dZ,x20=>if x20<dZ then (if 0≤x20 then (if x20<(bH.length:Int) then (if ((Xb bH x20).f0)=7 then (Yq.j1 k x3 x5 x20 bH dZ x20 (decide (((Xb bH x20).f3)≤x20)) ((Xb bH x20).f0) ((Xb bH x20).f1) ((Xb bH x20).f2) ((Xb bH x20).f3)) else (Yq.j1 k x3 x5 x20 bH dZ x20 true ((Xb bH x20).f0) ((Xb bH x20).f1) ((Xb bH x20).f2) ((Xb bH x20).f3))) else (none)) else (none)) else (some x5)
def Yq.j1:Nat→List Bool→List Bool→Int→List (S31)→Int→Int→Bool→Int→Int→Int→Int→Option (List Bool)
 |0,_,_,_,_,_,_,_,_,_,_,_=>none
 |k+1,x3,x5,x6,bH,dZ,x20,jE,x362000,x362001,x362002,aR=>if jE=true then (Yq.l0 k x3 x5 bH dZ (wrap64 (x20+1))) else (if 0≤(wrap64 (x6+1)) then (if (wrap64 (x6+1))≤aR then (if aR≤(x3.length:Int) then ((Zi.f k ((x3.take (aR:Int).toNat).drop ((wrap64 (x6+1)):Int).toNat) true).bind fun aZ=>(if aZ=true then (Yq.l0 k x3 x5 bH dZ (wrap64 (x20+1))) else (if 0≤aR then (if aR<(x3.length:Int) then (if rdOf false x3 aR=true then (if 0≤x6 then (if x6<(x5.length:Int) then (Yq.l0 k x3 (x5.set (x6:Int).toNat false) bH dZ (wrap64 (x20+1))) else (none)) else (none)) else (Yq.l0 k x3 x5 bH dZ (wrap64 (x20+1)))) else (none)) else (none)))) else (none)) else (none)) else (none))
end
def Yq.f (k:Nat) (l0:List (S31)):Option (List Bool):=(impl_reach.f k l0).bind fun aQ=>(if 0≤(wrap64 ((l0.length:Int) - 1)) then (if (wrap64 ((l0.length:Int) - 1))<(aQ.length:Int) then ((some (aQ.set ((wrap64 ((l0.length:Int) - 1)):Int).toNat true:List Bool)).bind fun aB=>((Ud.f aB).bind fun aS=>(Yq.l0 k aB aS l0 (l0.length:Int) 0))) else (none)) else (none))
theorem Yq.calls (k:Nat) (A0:Option Addr) (c0:Nat) (l0:List (S31)) (r:List Bool) (w:World) (hr0:Kd.C k31 w A0 l0.length l0) (hc0:l0.length≤c0) (h:Yq.f k l0=some r) :
  Calls Try.prog 61 #[.slice A0 l0.length c0] w fun e w'=>∃ jB:Value,e=.returned (jB)∧Kd.R Kd.bool 4 w' w.heap.size (fun _=>True) jB r∧Below w.heap.size w w':=by
 have hu31:=Try.underlying31;have eD:=Xa.mk hr0;have fV:=Xa.mk hc0;clear hr0 hc0;have HB:=Xa.mk (Below.refl w.heap.size w);have H:((impl_reach.f k l0).bind fun aQ=>(if 0≤(wrap64 ((l0.length:Int) - 1)) then (if (wrap64 ((l0.length:Int) - 1))<(aQ.length:Int) then ((some (aQ.set ((wrap64 ((l0.length:Int) - 1)):Int).toNat true:List Bool)).bind fun aB=>((Ud.f aB).bind fun aS=>(Yq.l0 k aB aS l0 (l0.length:Int) 0))) else (none)) else (none)))=some r:=h;clear h;replace H:=Option.bind_eq_some_iff.mp H;obtain ⟨aQ,iL,H⟩:=H;replace H:(if 0≤(wrap64 ((l0.length:Int) - 1)) then (if (wrap64 ((l0.length:Int) - 1))<(aQ.length:Int) then ((some (aQ.set ((wrap64 ((l0.length:Int) - 1)):Int).toNat true:List Bool)).bind fun aB=>((Ud.f aB).bind fun aS=>(Yq.l0 k aB aS l0 (l0.length:Int) 0))) else (none)) else (none))=some r:=H;have A2:=Xa.mk iL;clear iL;obtain ⟨bR,bW⟩:∃ j_:Int,(wrap64 ((l0.length:Int) - 1))=j_:=⟨_,rfl⟩
 replace H:(if 0≤(bR) then (if (bR)<(aQ.length:Int) then ((some (aQ.set ((bR):Int).toNat true:List Bool)).bind fun aB=>((Ud.f aB).bind fun aS=>(Yq.l0 k aB aS l0 (l0.length:Int) 0))) else (none)) else (none))=some r:=by first|(rw [bW] at H;exact H)|(simp only [bW] at H ⊢;exact H)
 (try rw [bW] at A2)
 have hji3w:(IntKind.i64.wrap ((l0.length:Int) - 1))=bR:=(Ub _).trans bW;by_cases c4:0≤(bR)
 ·rw [if_pos c4] at H;have eF:=decide_eq_true c4;clear c4;by_cases c5:(bR)<(aQ.length:Int)
  ·rw [if_pos c5] at H;have eG:=decide_eq_true c5;clear c5;obtain ⟨aB,cB⟩:∃ y_:List Bool,y_=(aQ.set ((bR):Int).toNat true):=⟨_,rfl⟩
   replace H:((Ud.f aB).bind fun aS=>(Yq.l0 k aB aS l0 (l0.length:Int) 0))=some r:=by subst cB;first|with_reducible exact H|(have z:=(Option.bind_some _ _).symm.trans H;with_reducible exact z)|exact H
   have fC:=Xa.mk cB;clear cB;replace H:=Option.bind_eq_some_iff.mp H;obtain ⟨aS,iP,H⟩:=H;replace H:(Yq.l0 k aB aS l0 (l0.length:Int) 0)=some r:=H;have A7:=Xa.mk iP;clear iP;have H':=Xa.mk H;clear H
   go_enter Try.func61,Try.ntmps61
   go_wp2_with (first|((with_reducible refine Xh (f:=72) rfl ?_);refine Ye (some 9) rfl rfl Try.func72 (by kernel_rfl) rfl #[.slice A0 l0.length c0] rfl ga_ ?_;(with_reducible refine (impl_reach.calls k _ _ l0 aQ _ ?side1 ?side2 A2.out).mono ?_);(case side1=>exact Kd.ca_ eD.out);(case side2=>exact fV.out);rintro e w8 ⟨v354,rfl,ho0,hb⟩;refine ⟨_,rfl,?_⟩;have aN:=Xa.mk (Kd.Yi ho0 (Xd (bl_ HB)));replace HB:=Xa.mk (Xe (bl_ HB) hb);clear hb ho0;have p6:0≤((bR):Int):=of_decide_eq_true (by assumption);have q6:((bR):Int)<((aQ.length:Int):Int):=of_decide_eq_true (by assumption);obtain ⟨aU,aT,iV,iW,jD,cl6,iQ⟩:=Kd.R_form aN.out (by omega);(first|cases iV|(injection iV with cZ gX gW;(first|subst cZ|(injection cZ with cZ;subst cZ));subst gW;clear gX));have jC:=Xa.mk iW;have GG6:=Xa.mk iQ;clear iW jD iQ;obtain ⟨dY,hf6_0⟩:=Kd.R_celln false aN.out ((bR):Int) p6 q6;replace p6:=eq_true p6;replace q6:=eq_true q6;obtain ⟨hy9_,hz9_⟩:=Kd.R_celln false aN.out ((bR):Int) (of_decide_eq_true (by assumption)) (of_decide_eq_true (by assumption));have gJ:=Kd.R_putg aN.out ((bR):Int) true)|((with_reducible refine Vn (t:=4) (p:=15) rfl ?_);refine Ve (t:=4) (p:=15) (v:=?vo_w10) (w1:=(w8.setCell ⟨aU,((bR):Int).toNat,none⟩ (.bool true))) ?hg ?ho ?hn ?hr ?_;(case ho=>rfl);(case hg=>rfl);(case hn=>rfl);(case hr=>exact hr_);intro iK hw;have hg:w8.grownBy iK (some aU):=(by rw [hw];exact gJ.2);have fT:Kd.R Kd.bool 4 iK w.heap.size (fun _=>True) (.slice (some ⟨aU,0,none⟩) aQ.length aT) aB:=(by rw [hw,fC.out];exact gJ.1);clear gJ;replace aN:=Xa.mk (fT);replace HB:=Xa.mk ((by rw [hw];exact Vk (HB.out) jC.out:Below w.heap.size w iK));clear hg hw fT)|((with_reducible refine Xh (f:=73) rfl ?_);refine Ye (some 17) rfl rfl Try.func73 (by kernel_rfl) rfl #[.slice (some ⟨aU,0,none⟩) aB.length aT] rfl (by (try simp only [List.map_toArray,List.map_cons,List.map_nil]);first|done|(rw [show aB.length=aQ.length from (Kd.R_reads' aN.out).1.symm] <;> rfl)|rfl|(simp only [List.length_drop,List.length_take];rfl)) ?_;(with_reducible refine (Ud.calls _ _ aB aS _ ?side1 ?side2 A7.out).mono ?_);(case side1=>exact Kd.ca_ (Kd.R_reads' aN.out).2.2);(case side2=>rw [show aB.length=aQ.length from (Kd.R_reads' aN.out).1.symm];exact (Kd.R_reads' aN.out).2.1);rintro e w11 ⟨bT,rfl,ho0,hb⟩;refine ⟨_,rfl,?_⟩;have fB:=Xa.mk (Kd.Yi (Kd.R_new' ho0 (Kd.Uu (Kd.ra_ (aN.out)))) (Xd (bl_ HB)));replace aN:=Xa.mk (Kd.R_elder' (Kd.ra_ (aN.out)) (Kd.Yv ho0) hb);replace HB:=Xa.mk (Xe (bl_ HB) hb);clear hb ho0))
   go_loopg [20] k (fun kq v20 w'=>∃ (aD:List Bool) (aA:Int),v20=.int .i64 aA∧Xa (Yq.l0 kq aB aD l0 (l0.length:Int) aA=some r)∧Xa (kq≤k)∧Xa (Kd.R Kd.bool 4 w' w.heap.size (fun k_=>some k_≠(bT:Value).ownBlock) (.slice (some ⟨aU,0,none⟩) aQ.length aT) aB)∧Xa (Kd.R Kd.bool 4 w' w.heap.size (fun k_=>some k_≠((.slice (some ⟨aU,0,none⟩) aQ.length aT):Value).ownBlock) bT aD)∧Xa (Below w.heap.size w w'))
   case atStart=>exact ⟨(aS),(0),rg_,H',⟨Nat.le_refl _⟩,⟨Kd.ra_ (Kd.Xo aN.out (fun _ hk=>hk.2))⟩,⟨Kd.ra_ (Kd.Xo fB.out (fun _ hk=>hk.2))⟩,⟨bl_ HB⟩⟩
   case round=>
    clear H'
    try clear c4
    try clear eF
    try clear c5
    try clear eG
    try clear p6
    try clear q6
    try clear dY
    try clear p6
    try clear q6
    obtain ⟨aD,aA,rfl,HA,bQ,aJ,aO,HB⟩:=hrel;have aH:=(Kd.R_reads' aJ.out).1;rw [aH] at aJ
    (try simp only [aH])
    (try simp only [aH] at aO)
    cases gk with
    |zero=>exact absurd HA.out (by simp [Yq.l0])
    |succ k1=>
     have H:=HA.out;clear HA;simp only [Yq.l0] at H;by_cases c12:aA<(l0.length:Int)
     ·rw [if_pos c12] at H;have dQ:=decide_eq_true c12;clear c12;by_cases c13:0≤aA
      ·rw [if_pos c13] at H;have fG:=decide_eq_true c13;clear c13;by_cases c14:aA<(l0.length:Int)
       ·rw [if_pos c14] at H;have fH:=decide_eq_true c14;clear c14;have d9:=Xa.mk H;clear H;have dN:0≤(aA:Int):=of_decide_eq_true (by assumption);have dO:aA<(l0.length:Int):=of_decide_eq_true (by assumption);obtain ⟨ad360,gV,bC,bD,bE,bF⟩:=Zv eD.out aA dN dO;cases gV
        replace bC:=bw_ HB bC;replace bD:=bw_ HB bD;replace bE:=bw_ HB bE;replace bF:=bw_ HB bF;replace dN:=eq_true dN;replace dO:=eq_true dO
        go_upto_region 7 with (first|((with_reducible refine Xt (N:=7) rfl ?_);refine Ym ?hg (N:=7) ?hd (cs:=#[.int .i64 0,.int .i64 0,.int .i64 0,.int .i64 0]) (t:=31) ?hr ?_;(case hd|hg=>rfl);(case hr=>exact hr_);intro aG hg w16 hbox hb;replace aJ:=Xa.mk (Kd.Zf (Kd.ra_ (aJ.out)) hb);replace aO:=Xa.mk (Kd.Zf (Kd.ra_ (aO.out)) hb);have aF:=Xa.mk (hbox);have GW361:=Xa.mk ((ge_ hg (Xd (bl_ HB)):w.heap.size≤aG));have GE361:=Xa.mk ((ge_ hg (Xd (bl_ HB)):w.heap.size≤aG));replace HB:=Xa.mk (Xe (bl_ HB) hb);clear hb hbox hg;obtain ⟨dD,dE,dF,dG⟩:=Uv aF.out;obtain ⟨dH,dI,dJ,dK⟩:=Uy aF.out))
        (try simp only [Act.put,List.setIfInBounds_toArray,List.set_cons_zero,List.set_cons_succ])
        go_cut [33] (fun v33 wc=>∃ (kq:Nat) (bG:Bool),v33=.bool bG∧Xa (Yq.j1 kq aB aD aA l0 (l0.length:Int) aA bG ((Xb l0 aA).f0) ((Xb l0 aA).f1) ((Xb l0 aA).f2) ((Xb l0 aA).f3)=some r)∧Xa (kq≤k1)∧Xa (Kd.R Kd.bool 4 wc w.heap.size (fun k_=>some k_≠(bT:Value).ownBlock) (.slice (some ⟨aU,0,none⟩) aB.length aT) aB)∧Xa (Kd.R Kd.bool 4 wc w.heap.size (fun k_=>some k_≠((.slice (some ⟨aU,0,none⟩) aB.length aT):Value).ownBlock) bT aD)∧Xa (wc.heap[aG]?=some (.cells #[.int .i64 ((Xb l0 aA).f0),.int .i64 ((Xb l0 aA).f1),.int .i64 ((Xb l0 aA).f2),.int .i64 ((Xb l0 aA).f3)] 31 (0,0)))∧Xa (Below w.heap.size w wc))
        case first=>
         have H:=d9.out;clear d9;by_cases c18:((Xb l0 aA).f0)=7
         ·rw [if_pos c18] at H;have bK:=beq_iff_eq.mpr c18;have fI:=bne_eq_false_iff_eq.mpr c18;clear c18
          (first|rw [bK]|(simp only [Ub,Uf];rw [bK])|skip)
          have H':=Xa.mk H;clear H;obtain ⟨hcz19_0,hcz19_1,hcz19_2,hcz19_3⟩:=Uv aF.out;obtain ⟨hfz19_0,hfz19_1,hfz19_2,hfz19_3⟩:=Uy aF.out;go_wp2
          go_meet
          case rel=>exact ⟨_,(decide (((Xb l0 aA).f3)≤aA)),rg_,H',⟨by have:=bQ.out;first|omega|exact Nat.le_refl _⟩,⟨by (try simp only [aH]);(with_reducible repeat (first|apply Kd.Uh|apply Kd.Ug|apply Kd.Uz));exact Kd.Xo (Kd.Yr (p:=⟨aG,3,none⟩) (Kd.Yr (p:=⟨aG,2,none⟩) (Kd.Yr (p:=⟨aG,1,none⟩) (Kd.Yr (p:=⟨aG,0,none⟩) (Kd.R_types aJ.out aF.out (by decide)) (fun _ hk=>hk.2) (.int .i64 ((Xb l0 aA).f0))) (fun _ hk=>hk.2) (.int .i64 ((Xb l0 aA).f1))) (fun _ hk=>hk.2) (.int .i64 ((Xb l0 aA).f2))) (fun _ hk=>hk.2) (.int .i64 ((Xb l0 aA).f3))) (fun _ hk=>hk.1)⟩,⟨by (try simp only [aH]);(with_reducible repeat (first|apply Kd.Uh|apply Kd.Ug|apply Kd.Uz));exact Kd.Xo (Kd.Yr (p:=⟨aG,3,none⟩) (Kd.Yr (p:=⟨aG,2,none⟩) (Kd.Yr (p:=⟨aG,1,none⟩) (Kd.Yr (p:=⟨aG,0,none⟩) (Kd.R_types aO.out aF.out (by decide)) (fun _ hk=>hk.2) (.int .i64 ((Xb l0 aA).f0))) (fun _ hk=>hk.2) (.int .i64 ((Xb l0 aA).f1))) (fun _ hk=>hk.2) (.int .i64 ((Xb l0 aA).f2))) (fun _ hk=>hk.2) (.int .i64 ((Xb l0 aA).f3))) (fun _ hk=>hk.1)⟩,⟨by (try simp only [aH]);refine bb_ (Xv (cs:=#[.int .i64 ((Xb l0 aA).f0),.int .i64 ((Xb l0 aA).f1),.int .i64 ((Xb l0 aA).f2),.int .i64 0]) ?_ 3 _ rfl);refine bb_ (Xv (cs:=#[.int .i64 ((Xb l0 aA).f0),.int .i64 ((Xb l0 aA).f1),.int .i64 0,.int .i64 0]) ?_ 2 _ rfl);refine bb_ (Xv (cs:=#[.int .i64 ((Xb l0 aA).f0),.int .i64 0,.int .i64 0,.int .i64 0]) ?_ 1 _ rfl);refine bb_ (Xv (cs:=#[.int .i64 0,.int .i64 0,.int .i64 0,.int .i64 0]) ?_ 0 _ rfl);(with_reducible repeat (first|refine Uo ?_ _|refine Uw ?_|refine Un ?_ _));exact aF.out⟩,⟨bl_ HB⟩⟩
         ·rw [if_neg c18] at H;have bK:=beq_eq_false_iff_ne.mpr c18;have fI:=bne_iff_ne.mpr c18
          (first|rw [bK]|(simp only [Ub,Uf];rw [bK])|skip)
          have H':=Xa.mk H;clear H;obtain ⟨hcz20_0,hcz20_1,hcz20_2,hcz20_3⟩:=Uv aF.out;obtain ⟨hfz20_0,hfz20_1,hfz20_2,hfz20_3⟩:=Uy aF.out;go_wp2
          go_meet
          case rel=>exact ⟨_,(true),rg_,H',⟨by have:=bQ.out;first|omega|exact Nat.le_refl _⟩,⟨by (try simp only [aH]);(with_reducible repeat (first|apply Kd.Uh|apply Kd.Ug|apply Kd.Uz));exact Kd.Xo (Kd.Yr (p:=⟨aG,3,none⟩) (Kd.Yr (p:=⟨aG,2,none⟩) (Kd.Yr (p:=⟨aG,1,none⟩) (Kd.Yr (p:=⟨aG,0,none⟩) (Kd.R_types aJ.out aF.out (by decide)) (fun _ hk=>hk.2) (.int .i64 ((Xb l0 aA).f0))) (fun _ hk=>hk.2) (.int .i64 ((Xb l0 aA).f1))) (fun _ hk=>hk.2) (.int .i64 ((Xb l0 aA).f2))) (fun _ hk=>hk.2) (.int .i64 ((Xb l0 aA).f3))) (fun _ hk=>hk.1)⟩,⟨by (try simp only [aH]);(with_reducible repeat (first|apply Kd.Uh|apply Kd.Ug|apply Kd.Uz));exact Kd.Xo (Kd.Yr (p:=⟨aG,3,none⟩) (Kd.Yr (p:=⟨aG,2,none⟩) (Kd.Yr (p:=⟨aG,1,none⟩) (Kd.Yr (p:=⟨aG,0,none⟩) (Kd.R_types aO.out aF.out (by decide)) (fun _ hk=>hk.2) (.int .i64 ((Xb l0 aA).f0))) (fun _ hk=>hk.2) (.int .i64 ((Xb l0 aA).f1))) (fun _ hk=>hk.2) (.int .i64 ((Xb l0 aA).f2))) (fun _ hk=>hk.2) (.int .i64 ((Xb l0 aA).f3))) (fun _ hk=>hk.1)⟩,⟨by (try simp only [aH]);refine bb_ (Xv (cs:=#[.int .i64 ((Xb l0 aA).f0),.int .i64 ((Xb l0 aA).f1),.int .i64 ((Xb l0 aA).f2),.int .i64 0]) ?_ 3 _ rfl);refine bb_ (Xv (cs:=#[.int .i64 ((Xb l0 aA).f0),.int .i64 ((Xb l0 aA).f1),.int .i64 0,.int .i64 0]) ?_ 2 _ rfl);refine bb_ (Xv (cs:=#[.int .i64 ((Xb l0 aA).f0),.int .i64 0,.int .i64 0,.int .i64 0]) ?_ 1 _ rfl);refine bb_ (Xv (cs:=#[.int .i64 0,.int .i64 0,.int .i64 0,.int .i64 0]) ?_ 0 _ rfl);(with_reducible repeat (first|refine Uo ?_ _|refine Uw ?_|refine Un ?_ _));exact aF.out⟩,⟨bl_ HB⟩⟩
        case rest=>
         clear d9
         try clear c4
         try clear eF
         try clear c5
         try clear eG
         try clear p6
         try clear q6
         try clear c12
         try clear dQ
         try clear c13
         try clear fG
         try clear c14
         try clear fH
         try clear dD
         try clear dE
         try clear dF
         try clear dG
         try clear dH
         try clear dI
         try clear dJ
         try clear dK
         try clear bC
         try clear bD
         try clear bE
         try clear bF
         try clear dY
         try clear dN
         try clear p6
         try clear dO
         try clear q6
         obtain ⟨kq,bG,rfl,HA,bJ,aJ,aO,aF,HB⟩:=hcut
         cases kq with
         |zero=>exact absurd HA.out (by simp [Yq.j1])
         |succ aI=>
          have H:=HA.out;clear HA;simp only [Yq.j1] at H;by_cases c21:bG=true
          ·subst c21
           replace H:(Yq.l0 aI aB aD l0 (l0.length:Int) (wrap64 (aA+1)))=some r:=(by rw [if_pos rfl] at H;exact H);have H':=Xa.mk H;clear H;go_wp2
           (try simp only [← aH])
           go_roundg aI
           case measure=>have:=bQ.out;have:=bJ.out;omega
           case rel=>exact ⟨(aD),(wrap64 (aA+1)),rg_,H',⟨by have:=bQ.out;have:=bJ.out;omega⟩,⟨by (try simp only [aH]);(with_reducible repeat (first|apply Kd.Uh|apply Kd.Ug|apply Kd.Uz));exact aJ.out⟩,⟨by (try simp only [aH]);(with_reducible repeat (first|apply Kd.Uh|apply Kd.Ug|apply Kd.Uz));exact aO.out⟩,⟨bl_ HB⟩⟩
          ·replace c21:=Bool.eq_false_iff.mpr c21;subst c21
           replace H:(if 0≤(wrap64 (aA+1)) then (if (wrap64 (aA+1))≤((Xb l0 aA).f3) then (if ((Xb l0 aA).f3)≤(aB.length:Int) then ((Zi.f aI ((aB.take (((Xb l0 aA).f3):Int).toNat).drop ((wrap64 (aA+1)):Int).toNat) true).bind fun aZ=>(if aZ=true then (Yq.l0 aI aB aD l0 (l0.length:Int) (wrap64 (aA+1))) else (if 0≤((Xb l0 aA).f3) then (if ((Xb l0 aA).f3)<(aB.length:Int) then (if rdOf false aB ((Xb l0 aA).f3)=true then (if 0≤aA then (if aA<(aD.length:Int) then (Yq.l0 aI aB (aD.set (aA:Int).toNat false) l0 (l0.length:Int) (wrap64 (aA+1))) else (none)) else (none)) else (Yq.l0 aI aB aD l0 (l0.length:Int) (wrap64 (aA+1)))) else (none)) else (none)))) else (none)) else (none)) else (none))=some r:=(by rw [if_neg (show ¬ (false=true) by decide)] at H;exact H);obtain ⟨aC,bA⟩:∃ j_:Int,(wrap64 (aA+1))=j_:=⟨_,rfl⟩
           replace H:(if 0≤(aC) then (if (aC)≤((Xb l0 aA).f3) then (if ((Xb l0 aA).f3)≤(aB.length:Int) then ((Zi.f aI ((aB.take (((Xb l0 aA).f3):Int).toNat).drop ((aC):Int).toNat) true).bind fun aZ=>(if aZ=true then (Yq.l0 aI aB aD l0 (l0.length:Int) aC) else (if 0≤((Xb l0 aA).f3) then (if ((Xb l0 aA).f3)<(aB.length:Int) then (if rdOf false aB ((Xb l0 aA).f3)=true then (if 0≤aA then (if aA<(aD.length:Int) then (Yq.l0 aI aB (aD.set (aA:Int).toNat false) l0 (l0.length:Int) aC) else (none)) else (none)) else (Yq.l0 aI aB aD l0 (l0.length:Int) aC)) else (none)) else (none)))) else (none)) else (none)) else (none))=some r:=by first|(rw [bA] at H;exact H)|(simp only [bA] at H ⊢;exact H)
           have hji22w:(IntKind.i64.wrap (aA+1))=aC:=(Ub _).trans bA;by_cases c23:0≤(aC)
           ·rw [if_pos c23] at H;have c23b0:=eq_true c23;replace c23:=decide_eq_true c23;by_cases c24:(aC)≤((Xb l0 aA).f3)
            ·rw [if_pos c24] at H;have c24b0:=eq_true c24;replace c24:=decide_eq_true c24;by_cases fJ:((Xb l0 aA).f3)≤(aB.length:Int)
             ·rw [if_pos fJ] at H;have c25b0:=eq_true fJ;replace fJ:=decide_eq_true fJ;obtain ⟨aK,cK⟩:∃ y_:List Bool,y_=((aB.take (((Xb l0 aA).f3):Int).toNat).drop ((aC):Int).toNat):=⟨_,rfl⟩
              replace H:((Zi.f aI aK true).bind fun aZ=>(if aZ=true then (Yq.l0 aI aB aD l0 (l0.length:Int) aC) else (if 0≤((Xb l0 aA).f3) then (if ((Xb l0 aA).f3)<(aB.length:Int) then (if rdOf false aB ((Xb l0 aA).f3)=true then (if 0≤aA then (if aA<(aD.length:Int) then (Yq.l0 aI aB (aD.set (aA:Int).toNat false) l0 (l0.length:Int) aC) else (none)) else (none)) else (Yq.l0 aI aB aD l0 (l0.length:Int) aC)) else (none)) else (none))))=some r:=by subst cK;first|with_reducible exact H|(have z:=(Option.bind_some _ _).symm.trans H;with_reducible exact z)|exact H
              have aY:=Xa.mk cK;clear cK;replace H:=Option.bind_eq_some_iff.mp H;obtain ⟨aZ,eZ,H⟩:=H;replace H:(if aZ=true then (Yq.l0 aI aB aD l0 (l0.length:Int) aC) else (if 0≤((Xb l0 aA).f3) then (if ((Xb l0 aA).f3)<(aB.length:Int) then (if rdOf false aB ((Xb l0 aA).f3)=true then (if 0≤aA then (if aA<(aD.length:Int) then (Yq.l0 aI aB (aD.set (aA:Int).toNat false) l0 (l0.length:Int) aC) else (none)) else (none)) else (Yq.l0 aI aB aD l0 (l0.length:Int) aC)) else (none)) else (none)))=some r:=H;have gH:=Xa.mk eZ;clear eZ;by_cases fZ:aZ=true
              ·subst fZ
               replace H:(Yq.l0 aI aB aD l0 (l0.length:Int) aC)=some r:=(by rw [if_pos rfl] at H;exact H);have H':=Xa.mk H;clear H;obtain ⟨hcz28_0,hcz28_1,hcz28_2,hcz28_3⟩:=Uv aF.out;obtain ⟨hfz28_0,hfz28_1,hfz28_2,hfz28_3⟩:=Uy aF.out;have iD:(((Xb l0 aA).f3):Int)≤((aB.length:Int):Int):=of_decide_eq_true (by assumption);obtain ⟨i029,dR,_,dV,_⟩:=info_parts info4;have aV:aB.length≤aT:=(Kd.R_reads' aJ.out).2.1;have fO:Kd.C Kd.bool _ (some ⟨aU,0,none⟩) aB.length aB:=(Kd.R_reads' aJ.out).2.2;have iH:((aC):Int)≤(((Xb l0 aA).f3):Int):=of_decide_eq_true (by assumption);have iA:(0:Int)≤((aC):Int):=of_decide_eq_true (by assumption);have eQ:=cut_mid (P:=Try.prog) 57 4 .i64 .i64 Try.underlying57 dR 1 dV (some ⟨aU,0,none⟩) aB.length aT (aC) ((Xb l0 aA).f3) iA iH iD aV;have bX:=Kd.C_mid (lo:=((aC):Int).toNat) (hi:=(((Xb l0 aA).f3):Int).toNat) (c:=aT) fO (by omega) (by omega) aV;obtain ⟨iM,dA⟩:∃ A1,A1=(if aT=((aC):Int).toNat then (some ⟨aU,0,none⟩) else ((some ⟨aU,0,none⟩):Option Addr).map (·.add (((aC):Int).toNat * 1))):=⟨_,rfl⟩;obtain ⟨iR,hc29⟩:∃ c1,c1=aT - ((aC):Int).toNat:=⟨_,rfl⟩;have hy29:aK.length=(((Xb l0 aA).f3):Int).toNat - ((aC):Int).toNat:=(by rw [aY.out,List.length_drop,List.length_take] <;> omega);rw [show ((aB).take (((Xb l0 aA).f3):Int).toNat).drop ((aC):Int).toNat=aK from aY.out.symm] at bX;replace bX:Kd.C Kd.bool _ iM aK.length aK:=(by rw [dA];exact bX);rw [← hy29,← dA,← hc29] at eQ;have aP:=Xa.mk bX;have bI:=Xa.mk (show aK.length≤iR from by rw [hy29,hc29];exact Nat.sub_le_sub_right (Nat.le_trans (by omega) aV) _);clear bX fO aV dR dV hc29;have KY29:=Xa.mk hy29;have KA29:=Xa.mk dA;clear hy29 dA;have KL29:=Xa.mk (show (((Xb l0 aA).f3):Int).toNat≤aB.length from by omega);have KM29:=Xa.mk (show ((aC):Int).toNat≤(((Xb l0 aA).f3):Int).toNat from by omega);replace iD:=eq_true iD;go_wp2_with (first|((with_reducible refine Xh (f:=74) rfl ?_);refine Ye (some 40) rfl rfl Try.func74 (by kernel_rfl) rfl #[.slice iM aK.length iR,.bool true] rfl ga_ ?_;(with_reducible refine (Zi.calls aI _ _ aK true true _ ?side1 ?side2 gH.out).mono ?_);(case side1=>repeat (first|exact (by repeat (first|(with_reducible exact aP.out)|(with_reducible refine Kd.C_alloc ?_ _)|(with_reducible refine Kd.C_drewN ?_ _)|(with_reducible refine Kd.C_drew ?_)|exact aP.out))|(with_reducible refine Kd.C_alloc ?_ _)|(with_reducible refine Kd.C_drewN ?_ _)|(with_reducible refine Kd.C_drew ?_)));(case side2=>exact bI.out);rintro e w' ⟨rfl,⟨nd,rfl⟩⟩;refine ⟨_,rfl,?_⟩))
               (try simp only [← aH])
               go_roundg aI
               case measure=>have:=bQ.out;have:=bJ.out;omega
               case rel=>exact ⟨(aD),(aC),(by first|rfl|(simp;done)|(simp only [← bA] <;> (first|rfl|simp))|(simp [*];done)),H',⟨by have:=bQ.out;have:=bJ.out;omega⟩,⟨by (try simp only [aH]);(with_reducible repeat (first|apply Kd.Uh|apply Kd.Ug|apply Kd.Uz));exact aJ.out⟩,⟨by (try simp only [aH]);(with_reducible repeat (first|apply Kd.Uh|apply Kd.Ug|apply Kd.Uz));exact aO.out⟩,⟨bl_ HB⟩⟩
              ·replace fZ:=Bool.eq_false_iff.mpr fZ;subst fZ
               replace H:(if 0≤((Xb l0 aA).f3) then (if ((Xb l0 aA).f3)<(aB.length:Int) then (if rdOf false aB ((Xb l0 aA).f3)=true then (if 0≤aA then (if aA<(aD.length:Int) then (Yq.l0 aI aB (aD.set (aA:Int).toNat false) l0 (l0.length:Int) aC) else (none)) else (none)) else (Yq.l0 aI aB aD l0 (l0.length:Int) aC)) else (none)) else (none))=some r:=(by rw [if_neg (show ¬ (false=true) by decide)] at H;exact H);by_cases gB:0≤((Xb l0 aA).f3)
               ·rw [if_pos gB] at H;replace gB:=decide_eq_true gB;by_cases c31:((Xb l0 aA).f3)<(aB.length:Int)
                ·rw [if_pos c31] at H;replace c31:=decide_eq_true c31;obtain ⟨fF,bV⟩:∃ b_:Bool,b_=(rdOf false aB ((Xb l0 aA).f3)):=⟨_,rfl⟩
                 replace H:(if fF=true then (if 0≤aA then (if aA<(aD.length:Int) then (Yq.l0 aI aB (aD.set (aA:Int).toNat false) l0 (l0.length:Int) aC) else (none)) else (none)) else (Yq.l0 aI aB aD l0 (l0.length:Int) aC))=some r:=by rw [← bV] at H;exact H
                 have dP:=Xa.mk bV;clear bV;by_cases gD:fF=true
                 ·subst gD
                  replace H:(if 0≤aA then (if aA<(aD.length:Int) then (Yq.l0 aI aB (aD.set (aA:Int).toNat false) l0 (l0.length:Int) aC) else (none)) else (none))=some r:=(by rw [if_pos rfl] at H;exact H);by_cases c34:0≤aA
                  ·rw [if_pos c34] at H;replace c34:=decide_eq_true c34;by_cases gF:aA<(aD.length:Int)
                   ·rw [if_pos gF] at H;replace gF:=decide_eq_true gF;obtain ⟨eX,cO⟩:∃ y_:List Bool,y_=(aD.set (aA:Int).toNat false):=⟨_,rfl⟩
                    replace H:(Yq.l0 aI aB eX l0 (l0.length:Int) aC)=some r:=by subst cO;first|with_reducible exact H|(have z:=(Option.bind_some _ _).symm.trans H;with_reducible exact z)|exact H
                    have fD:=Xa.mk cO;clear cO;have H':=Xa.mk H;clear H;obtain ⟨hcz37_0,hcz37_1,hcz37_2,hcz37_3⟩:=Uv aF.out;obtain ⟨hfz37_0,hfz37_1,hfz37_2,hfz37_3⟩:=Uy aF.out;have iF:(((Xb l0 aA).f3):Int)≤((aB.length:Int):Int):=of_decide_eq_true (by assumption);obtain ⟨i038,dS,_,dW,_⟩:=info_parts info4;have aW:aB.length≤aT:=(Kd.R_reads' aJ.out).2.1;have fP:Kd.C Kd.bool _ (some ⟨aU,0,none⟩) aB.length aB:=(Kd.R_reads' aJ.out).2.2;have iI:((aC):Int)≤(((Xb l0 aA).f3):Int):=of_decide_eq_true (by assumption);have iB:(0:Int)≤((aC):Int):=of_decide_eq_true (by assumption);have eT:=cut_mid (P:=Try.prog) 57 4 .i64 .i64 Try.underlying57 dS 1 dW (some ⟨aU,0,none⟩) aB.length aT (aC) ((Xb l0 aA).f3) iB iI iF aW;have bY:=Kd.C_mid (lo:=((aC):Int).toNat) (hi:=(((Xb l0 aA).f3):Int).toNat) (c:=aT) fP (by omega) (by omega) aW;obtain ⟨fU,dB⟩:∃ A1,A1=(if aT=((aC):Int).toNat then (some ⟨aU,0,none⟩) else ((some ⟨aU,0,none⟩):Option Addr).map (·.add (((aC):Int).toNat * 1))):=⟨_,rfl⟩;obtain ⟨iT,hc38⟩:∃ c1,c1=aT - ((aC):Int).toNat:=⟨_,rfl⟩;have hy38:aK.length=(((Xb l0 aA).f3):Int).toNat - ((aC):Int).toNat:=(by rw [aY.out,List.length_drop,List.length_take] <;> omega);rw [show ((aB).take (((Xb l0 aA).f3):Int).toNat).drop ((aC):Int).toNat=aK from aY.out.symm] at bY;replace bY:Kd.C Kd.bool _ fU aK.length aK:=(by rw [dB];exact bY);rw [← hy38,← dB,← hc38] at eT;have aP:=Xa.mk bY;have bI:=Xa.mk (show aK.length≤iT from by rw [hy38,hc38];exact Nat.sub_le_sub_right (Nat.le_trans (by omega) aW) _);clear bY fP aW dS dW hc38;have KY38:=Xa.mk hy38;have gK:=Xa.mk dB;clear hy38 dB;have gM:=Xa.mk (show (((Xb l0 aA).f3):Int).toNat≤aB.length from by omega);have gN:=Xa.mk (show ((aC):Int).toNat≤(((Xb l0 aA).f3):Int).toNat from by omega);replace iF:=eq_true iF;go_wp2_with (first|((with_reducible refine Xh (f:=74) rfl ?_);refine Ye (some 40) rfl rfl Try.func74 (by kernel_rfl) rfl #[.slice fU aK.length iT,.bool true] rfl ga_ ?_;(with_reducible refine (Zi.calls aI _ _ aK true false _ ?side1 ?side2 gH.out).mono ?_);(case side1=>repeat (first|exact (by repeat (first|(with_reducible exact aP.out)|(with_reducible refine Kd.C_alloc ?_ _)|(with_reducible refine Kd.C_drewN ?_ _)|(with_reducible refine Kd.C_drew ?_)|exact aP.out))|(with_reducible refine Kd.C_alloc ?_ _)|(with_reducible refine Kd.C_drewN ?_ _)|(with_reducible refine Kd.C_drew ?_)));(case side2=>exact bI.out);rintro e w' ⟨rfl,⟨nd,rfl⟩⟩;refine ⟨_,rfl,?_⟩;(try (rw [drewN_self wc];generalize eY:World.drewN wc _=wc;have iX:Xa (Kd.R Kd.bool 4 wc w.heap.size (fun k_=>some k_≠(bT:Value).ownBlock) (.slice (some ⟨aU,0,none⟩) aB.length aT) aB):=⟨by rw [← eY];exact (Kd.ra_ (aJ.out))⟩;have iY:Xa (Kd.R Kd.bool 4 wc w.heap.size (fun k_=>some k_≠(.slice (some ⟨aU,0,none⟩) aB.length aT:Value).ownBlock) bT aD):=⟨by rw [← eY];exact (Kd.ra_ (aO.out))⟩;have gZ:Xa (wc.heap[aG]?=some (.cells #[.int .i64 ((Xb l0 aA).f0),.int .i64 ((Xb l0 aA).f1),.int .i64 ((Xb l0 aA).f2),.int .i64 ((Xb l0 aA).f3)] 31 (0,0))):=⟨by rw [← eY];exact (ba_ aF)⟩;have iZ:Xa (Below w.heap.size w wc):=⟨by rw [← eY];exact (bl_ HB)⟩;have jA:Xa (Kd.C Kd.bool wc fU aK.length aK):=⟨by rw [← eY];exact (by repeat (first|(with_reducible exact aP.out)|(with_reducible refine Kd.C_alloc ?_ _)|(with_reducible refine Kd.C_drewN ?_ _)|(with_reducible refine Kd.C_drew ?_)|exact aP.out))⟩;obtain ⟨hbz_gb361_0,hbz_gb361_1,hbz_gb361_2,hbz_gb361_3⟩:=Uv gZ.out;clear aJ aO aF HB aP eY;have aJ:=iX;have aO:=iY;have aF:=gZ;have HB:=iZ;have aP:=jA;clear iX iY gZ iZ jA));have bN:0≤(((Xb l0 aA).f3):Int):=of_decide_eq_true (by assumption);have bP:((Xb l0 aA).f3)<(aB.length:Int):=of_decide_eq_true (by assumption);obtain ⟨bU,eO,aL⟩:=Kd.at_bool (Kd.R_reads' aJ.out).2.2 ((Xb l0 aA).f3) bN bP;(try rw [← dP.out] at aL);obtain rfl:(⟨aU,0,none⟩:Addr)=bU:=(by injection eO);(first|simp only [add_plain] at aL|simp only [add_at] at aL|simp only [Addr.add,Nat.zero_add] at aL|skip);replace bN:=eq_true bN;replace bP:=eq_true bP;have p36:0≤(aA:Int):=of_decide_eq_true (by assumption);have iE:(aA:Int)<((aD.length:Int):Int):=of_decide_eq_true (by assumption);obtain ⟨bB,bL,fK,fM,gY,cl36,fA⟩:=Kd.R_form aO.out (by omega);(first|cases fK|(injection fK with cZ gX gW;(first|subst cZ|(injection cZ with cZ;subst cZ));subst gW;clear gX));have gI:=Xa.mk fM;have GG36:=Xa.mk fA;clear fM gY fA;obtain ⟨hx36_0,hf36_0⟩:=Kd.R_celln false aO.out (aA:Int) p36 iE;replace p36:=eq_true p36;replace iE:=eq_true iE;obtain ⟨hy39_,hz39_⟩:=Kd.R_celln false aO.out (aA:Int) (of_decide_eq_true (by assumption)) (of_decide_eq_true (by assumption));have eB:=Kd.R_putg aO.out (aA:Int) false)|((with_reducible refine Vn (t:=4) (p:=51) rfl ?_);refine Ve (t:=4) (p:=51) (v:=?vo_w40) (w1:=(wc.setCell ⟨bB,(aA:Int).toNat,none⟩ (.bool false))) ?hg ?ho ?hn ?hr ?_;(case ho=>rfl);(case hg=>rfl);(case hn=>rfl);(case hr=>exact hr_);intro gG hw;have hg:wc.grownBy gG (some bB):=(by rw [hw];exact eB.2);have fT:Kd.R Kd.bool 4 gG w.heap.size (fun k_=>some k_≠(.slice (some ⟨aU,0,none⟩) aB.length aT:Value).ownBlock) (.slice (some ⟨bB,0,none⟩) aD.length bL) eX:=(by rw [hw,fD.out];exact eB.1);clear eB;replace aF:=Xa.mk (blk_grown (g:=aG) (o:=.cells #[.int .i64 ((Xb l0 aA).f0),.int .i64 ((Xb l0 aA).f1),.int .i64 ((Xb l0 aA).f2),.int .i64 ((Xb l0 aA).f3)] 31 (0,0)) (ba_ aF) hg (Kd.R_ne aO.out aF.out (by decide)));replace aO:=Xa.mk (fT);replace HB:=Xa.mk ((by rw [hw];exact Vk (HB.out) gI.out:Below w.heap.size w gG));replace aP:=Xa.mk ((show Kd.C Kd.bool gG fU aK.length aK from by rw [aY.out,gK.out];exact Kd.C_mid (lo:=((aC):Int).toNat) (hi:=(((Xb l0 aA).f3):Int).toNat) (c:=aT) ((Kd.R_reads' (Kd.Ue (v:=(.slice (some ⟨bB,0,none⟩) aD.length bL)) (v1:=(.slice (some ⟨bB,0,none⟩) aD.length bL)) (ok:=(fun _=>True)) (Kd.ra_ (Kd.Xo aJ.out (fun _ hk=>⟨trivial,hk⟩))) hg (.inl rfl))).2.2) gN.out gM.out ((Kd.R_reads' (Kd.Ue (v:=(.slice (some ⟨bB,0,none⟩) aD.length bL)) (v1:=(.slice (some ⟨bB,0,none⟩) aD.length bL)) (ok:=(fun _=>True)) (Kd.ra_ (Kd.Xo aJ.out (fun _ hk=>⟨trivial,hk⟩))) hg (.inl rfl))).2.1)));replace aJ:=Xa.mk (Kd.Ue (v:=(.slice (some ⟨bB,0,none⟩) aD.length bL)) (v1:=(.slice (some ⟨bB,0,none⟩) aD.length bL)) (ok:=(fun _=>True)) (Kd.ra_ (Kd.Xo aJ.out (fun _ hk=>⟨trivial,hk⟩))) hg (.inl rfl));clear hg hw fT))
                    (try simp only [← aH])
                    go_roundg aI
                    case measure=>have:=bQ.out;have:=bJ.out;omega
                    case rel=>exact ⟨(eX),(aC),(by first|rfl|(simp;done)|(simp only [← bA] <;> (first|rfl|simp))|(simp [*];done)),H',⟨by have:=bQ.out;have:=bJ.out;omega⟩,⟨by (try simp only [aH]);(with_reducible repeat (first|apply Kd.Uh|apply Kd.Ug|apply Kd.Uz));exact Kd.Xo aJ.out (fun _ hk=>hk.2)⟩,⟨by (try simp only [aH]);(with_reducible repeat (first|apply Kd.Uh|apply Kd.Ug|apply Kd.Uz));exact aO.out⟩,⟨bl_ HB⟩⟩
                   ·rw [if_neg gF] at H;exact absurd H (by simp)
                  ·rw [if_neg c34] at H;exact absurd H (by simp)
                 ·replace gD:=Bool.eq_false_iff.mpr gD;subst gD
                  replace H:(Yq.l0 aI aB aD l0 (l0.length:Int) aC)=some r:=(by rw [if_neg (show ¬ (false=true) by decide)] at H;exact H);have H':=Xa.mk H;clear H;obtain ⟨hcz41_0,hcz41_1,hcz41_2,hcz41_3⟩:=Uv aF.out;obtain ⟨hfz41_0,hfz41_1,hfz41_2,hfz41_3⟩:=Uy aF.out;have iG:(((Xb l0 aA).f3):Int)≤((aB.length:Int):Int):=of_decide_eq_true (by assumption);obtain ⟨i042,dU,_,dX,_⟩:=info_parts info4;have aX:aB.length≤aT:=(Kd.R_reads' aJ.out).2.1;have fQ:Kd.C Kd.bool _ (some ⟨aU,0,none⟩) aB.length aB:=(Kd.R_reads' aJ.out).2.2;have iJ:((aC):Int)≤(((Xb l0 aA).f3):Int):=of_decide_eq_true (by assumption);have iC:(0:Int)≤((aC):Int):=of_decide_eq_true (by assumption);have eU:=cut_mid (P:=Try.prog) 57 4 .i64 .i64 Try.underlying57 dU 1 dX (some ⟨aU,0,none⟩) aB.length aT (aC) ((Xb l0 aA).f3) iC iJ iG aX;have bZ:=Kd.C_mid (lo:=((aC):Int).toNat) (hi:=(((Xb l0 aA).f3):Int).toNat) (c:=aT) fQ (by omega) (by omega) aX;obtain ⟨iO,dC⟩:∃ A1,A1=(if aT=((aC):Int).toNat then (some ⟨aU,0,none⟩) else ((some ⟨aU,0,none⟩):Option Addr).map (·.add (((aC):Int).toNat * 1))):=⟨_,rfl⟩;obtain ⟨iU,eP⟩:∃ c1,c1=aT - ((aC):Int).toNat:=⟨_,rfl⟩;have dM:aK.length=(((Xb l0 aA).f3):Int).toNat - ((aC):Int).toNat:=(by rw [aY.out,List.length_drop,List.length_take] <;> omega);rw [show ((aB).take (((Xb l0 aA).f3):Int).toNat).drop ((aC):Int).toNat=aK from aY.out.symm] at bZ;replace bZ:Kd.C Kd.bool _ iO aK.length aK:=(by rw [dC];exact bZ);rw [← dM,← dC,← eP] at eU;have aP:=Xa.mk bZ;have bI:=Xa.mk (show aK.length≤iU from by rw [dM,eP];exact Nat.sub_le_sub_right (Nat.le_trans (by omega) aX) _);clear bZ fQ aX dU dX eP;have KY42:=Xa.mk dM;have KA42:=Xa.mk dC;clear dM dC;have KL42:=Xa.mk (show (((Xb l0 aA).f3):Int).toNat≤aB.length from by omega);have KM42:=Xa.mk (show ((aC):Int).toNat≤(((Xb l0 aA).f3):Int).toNat from by omega);replace iG:=eq_true iG;go_wp2_with (first|((with_reducible refine Xh (f:=74) rfl ?_);refine Ye (some 40) rfl rfl Try.func74 (by kernel_rfl) rfl #[.slice iO aK.length iU,.bool true] rfl ga_ ?_;(with_reducible refine (Zi.calls aI _ _ aK true false _ ?side1 ?side2 gH.out).mono ?_);(case side1=>repeat (first|exact (by repeat (first|(with_reducible exact aP.out)|(with_reducible refine Kd.C_alloc ?_ _)|(with_reducible refine Kd.C_drewN ?_ _)|(with_reducible refine Kd.C_drew ?_)|exact aP.out))|(with_reducible refine Kd.C_alloc ?_ _)|(with_reducible refine Kd.C_drewN ?_ _)|(with_reducible refine Kd.C_drew ?_)));(case side2=>exact bI.out);rintro e w' ⟨rfl,⟨nd,rfl⟩⟩;refine ⟨_,rfl,?_⟩;have bN:0≤(((Xb l0 aA).f3):Int):=of_decide_eq_true (by assumption);have bP:((Xb l0 aA).f3)<(aB.length:Int):=of_decide_eq_true (by assumption);obtain ⟨bU,eO,aL⟩:=Kd.at_bool (Kd.R_reads' aJ.out).2.2 ((Xb l0 aA).f3) bN bP;(try rw [← dP.out] at aL);obtain rfl:(⟨aU,0,none⟩:Addr)=bU:=(by injection eO);(first|simp only [add_plain] at aL|simp only [add_at] at aL|simp only [Addr.add,Nat.zero_add] at aL|skip);replace bN:=eq_true bN;replace bP:=eq_true bP))
                  (try simp only [← aH])
                  go_roundg aI
                  case measure=>have:=bQ.out;have:=bJ.out;omega
                  case rel=>exact ⟨(aD),(aC),(by first|rfl|(simp;done)|(simp only [← bA] <;> (first|rfl|simp))|(simp [*];done)),H',⟨by have:=bQ.out;have:=bJ.out;omega⟩,⟨by (try simp only [aH]);(with_reducible repeat (first|apply Kd.Uh|apply Kd.Ug|apply Kd.Uz));exact aJ.out⟩,⟨by (try simp only [aH]);(with_reducible repeat (first|apply Kd.Uh|apply Kd.Ug|apply Kd.Uz));exact aO.out⟩,⟨bl_ HB⟩⟩
                ·rw [if_neg c31] at H;exact absurd H (by simp)
               ·rw [if_neg gB] at H;exact absurd H (by simp)
             ·rw [if_neg fJ] at H;exact absurd H (by simp)
            ·rw [if_neg c24] at H;exact absurd H (by simp)
           ·rw [if_neg c23] at H;exact absurd H (by simp)
       ·rw [if_neg c14] at H;exact absurd H (by simp)
      ·rw [if_neg c13] at H;exact absurd H (by simp)
     ·rw [if_neg c12] at H;have dQ:=decide_eq_false c12;clear c12;obtain rfl:=Option.some.inj H;go_wp2
      go_ret
      exact ⟨_,by first|rfl|(simp [errW_none,errW_some] <;> rfl)|(simp only [← bW];first|rfl|(simp [errW_none,errW_some] <;> rfl))|(simp [*,errW_none,errW_some] <;> rfl),Kd.ra_ (Kd.Xo aO.out (fun _ hk=>trivial)),bl_ HB⟩
  ·rw [if_neg c5] at H;exact absurd H (by simp)
 ·rw [if_neg c4] at H;exact absurd H (by simp)
end Go.Proofs.Ytokajnfbiddpjaa.GSlim
