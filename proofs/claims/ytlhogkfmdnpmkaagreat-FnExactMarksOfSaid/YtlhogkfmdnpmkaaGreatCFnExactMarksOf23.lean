import Derived.Test.YtlhogkfmdnpmkaaGreatCFnExactMarksOf22
set_option linter.unusedVariables false
set_option linter.unusedSimpArgs false
set_option maxHeartbeats 8000000
set_option maxRecDepth 100000
namespace Go.Proofs.YtlhogkfmdnpmkaaGreat.GMarks
open RowKit YtlhogkfmdnpmkaaGreatW.PrintWords YtlhogkfmdnpmkaaGreatW.PrintLast YtlhogkfmdnpmkaaGreatW.PrintMore
attribute [local go_sem] Ua Ud Uu Ux Zo Zp Ub Ue
def Yy.l0:Nat→List (List (S83))→List (List (S87))→Int→Option ((List (List (S87))))
 |0,_,_,_=>none
 |k+1,x0,x3,x4=>if x4<(x0.length:Int) then (if 0≤x4 then ((Yk.f k (rd_L2 x0 x4)).bind fun aD=>(if x4<(x3.length:Int) then (Yy.l0 k x0 (x3.set (x4:Int).toNat aD) (wrap64 (x4+1))) else (none))) else (none)) else (some x3)
def Yy.f (k:Nat) (l0:List (List (S83))):Option ((List (List (S87)))):=if 0≤(l0.length:Int) then (if ((l0.length:Int):Int).toNat≤11728124029610 then (Yy.l0 k l0 (List.replicate ((l0.length:Int):Int).toNat []) 0) else (none)) else (none)
theorem Yy.calls (k:Nat) (A0:Option Addr) (c0:Nat) (l0:List (List (S83))) (r:List (List (S87))) (w:World) (hr0:Kd.C (Kd.slice 83 k83) w A0 l0.length l0) (hc0:l0.length≤c0) (h:Yy.f k l0=some r) :
  Calls Tryz.prog 10 #[.slice A0 l0.length c0] w fun e w'=>∃ dH:Value,e=.returned (dH)∧Kd.R (Kd.slice 87 k87) 64 w' w.heap.size (fun _=>True) dH r∧Below w.heap.size w w':=by
 have dL:=Xa.mk hr0;have eF:=Xa.mk hc0;clear hr0 hc0;have HB:=Xa.mk (Below.refl w.heap.size w);have H:(if 0≤(l0.length:Int) then (if ((l0.length:Int):Int).toNat≤11728124029610 then (Yy.l0 k l0 (List.replicate ((l0.length:Int):Int).toNat []) 0) else (none)) else (none))=some r:=h;clear h;by_cases c2:0≤(l0.length:Int)
 ·rw [if_pos c2] at H;have bH:=eq_true c2;have bI:decide (0≤(l0.length:Int))=true:=dt_ c2;clear c2;by_cases c3:((l0.length:Int):Int).toNat≤11728124029610
  ·rw [if_pos c3] at H;have bJ:=eq_true c3;have bK:decide (((l0.length:Int):Int).toNat≤11728124029610)=true:=dt_ c3;clear c3;obtain ⟨dI,aO⟩:∃ y_:List (List (S87)),y_=(List.replicate ((l0.length:Int):Int).toNat []):=⟨_,rfl⟩
   replace H:(Yy.l0 k l0 dI 0)=some r:=by subst aO;exact hh_ H
   have aY:=Xa.mk aO;clear aO;have H':=Xa.mk H;clear H;go_enter Tryz.func10,Tryz.ntmps10;go_wp2_with (first|((with_reducible refine Yv (N:=7) rfl ?_);refine Kd.R_make (Kd.slice 87 k87) _ 64 rfl (N:=7) rfl 27 _ _ rfl (l0.length:Int) rfl rfl Tryz.underlying27 (.slice none 0 0) 24 info64 rfl de_ om_ [] (ok:=fun _=>True) (okp:=fun _=>True) ⟨_,rfl,Kd.R_nil _ _ _ _ _⟩ (fun _ hk=>hk) trivial (od_ as_) (nt_ (Nat.mul_le_mul_right _ (od_ as_:(l0.length:Int).toNat≤11728124029610)) om_) (Below.refl _ _) (nr_ _) ?_;intro dW w4 aN hb dS aM;clear dS aM;(first|rw [← aY.out] at aN|(simp only [Int.reduceToNat] at aN;rw [← aY.out] at aN));have bZ:=Xa.mk (Kd.R_lower aN (Xj (bl_ HB)));replace HB:=Xa.mk (Xi (bl_ HB) hb);clear hb aN))
   go_loopg [4] k (fun kq v4 w'=>∃ (aB:List (List (S87))) (aA:Int),v4=.int .i64 aA∧Xa (Yy.l0 kq l0 aB aA=some r)∧Xa (kq≤k)∧Xa (Kd.R (Kd.slice 87 k87) 64 w' w.heap.size (fun _=>True) dW aB)∧Xa (Below w.heap.size w w'))
   case atStart=>exact ⟨(dI),(0),rg_,H',⟨nr_ _⟩,⟨Kd.ra_ (bZ.out)⟩,⟨bl_ HB⟩⟩
   case round=>
    clear H'
    try clear c2
    try clear bH
    try clear bI
    try clear c3
    try clear bJ
    try clear bK
    obtain ⟨aB,aA,rfl,HA,bY,aC,HB⟩:=hrel
    cases gk with
    |zero=>exact absurd HA.out (by simp [Yy.l0])
    |succ k1=>
     have H:=HA.out;clear HA;simp only [Yy.l0] at H;by_cases c6:aA<(l0.length:Int)
     ·rw [if_pos c6] at H;have bL:decide (aA<(l0.length:Int))=true:=dt_ c6;clear c6;by_cases c7:0≤aA
      ·rw [if_pos c7] at H;have dM:decide (0≤aA)=true:=dt_ c7;clear c7;replace H:=bo_ H;obtain ⟨aD,dY,H⟩:=H;replace H:(if aA<(aB.length:Int) then (Yy.l0 k1 l0 (aB.set (aA:Int).toNat aD) (wrap64 (aA+1))) else (none))=some r:=H;have A8:=Xa.mk dY;clear dY;by_cases c9:aA<(aB.length:Int)
       ·rw [if_pos c9] at H;have c9b0:decide (aA<(aB.length:Int))=true:=dt_ c9;clear c9;obtain ⟨bV,aP⟩:∃ y_:List (List (S87)),y_=(aB.set (aA:Int).toNat aD):=⟨_,rfl⟩
        replace H:(Yy.l0 k1 l0 bV (wrap64 (aA+1)))=some r:=by subst aP;exact hh_ H
        have cO:=Xa.mk aP;clear aP;have H':=Xa.mk H;clear H;have bQ:0≤(aA:Int):=od_ as_;have bS:aA<(l0.length:Int):=od_ as_;obtain ⟨ad135,bE,bG,dN,aH,aG,aF⟩:=at_L2 dL.out aA bQ bS;cases dN
        replace aH:=bw_ HB aH;have aU:=Xa.mk aF;have aS:=Xa.mk aG;clear aF aG;replace bQ:=eq_true bQ;replace bS:=eq_true bS;go_wp2_with (first|((with_reducible refine Yh (f:=36) rfl ?_);refine Zz (some 20) rfl rfl Tryz.func36 kr_ rfl #[.slice bE (rd_L2 l0 aA).length bG] rfl ga_ ?_;(with_reducible refine (Yk.calls k1 _ _ (rd_L2 l0 aA) aD _ ?side1 ?side2 A8.out).mono ?_);(case side1=>exact Kd.ca_ (Kd.Xy aU.out HB.out));(case side2=>exact aS.out);rintro e bU ⟨v137,rfl,ho0,hb⟩;obtain ⟨aJ,aK,rfl⟩:=Kd.Zq ho0;refine ⟨_,rfl,?_⟩;replace aC:=Xa.mk (Kd.R_elder' (Kd.ra_ (aC.out)) (Kd.R_base ho0) hb);have aX:=Xa.mk (Kd.R_lower ho0 (Xj (bl_ HB)));replace HB:=Xa.mk (Xi (bl_ HB) hb);clear hb ho0;have dU:0≤(aA:Int):=od_ as_;have dV:(aA:Int)<((aB.length:Int):Int):=od_ as_;obtain ⟨aW,dA,dB,dC,dQ,cl10,bX⟩:=Kd.R_form aC.out om_;(first|cases dB|(injection dB with aV dP dO;(first|subst aV|(injection aV with aV;subst aV));subst dO;clear dP));have dK:=Xa.mk dC;have GG10:=Xa.mk bX;clear dC dQ bX;obtain ⟨ce10,dF,dD,bA,bC⟩:=Kd.R_elem aC.out [] (aA:Int) dU dV;obtain ⟨ve10_0,rfl,ge10_0⟩:=dD;have bO:=bA 0 _ rfl;have bM:=bC 0;(try simp only [show ((Kd.slice 87 k87)).sz=1 from rfl,Nat.mul_one,Nat.add_zero] at bO);(try simp only [show ((Kd.slice 87 k87)).sz=1 from rfl,Nat.mul_one,Nat.add_zero] at bM);clear dF bA bC;(try clear dD);replace dU:=eq_true dU;replace dV:=eq_true dV;replace aC:=Xa.mk (Kd.Zc (ok':=(fun k_=>some k_≠((.slice aJ aD.length aK):Value).ownBlock)) aC.out (fun k_ hk=>hk.2));have cK:=Xa.mk (show Kd.R (Kd.slice 87 k87) 64 bU w.heap.size (fun _=>True) (.slice (some ⟨aW,0,none⟩) aB.length dA) aB from (Kd.ra_ (Kd.Zc aC.out (fun _ hk=>trivial))));obtain ⟨ce12,bB,dE,aL,bD⟩:=Kd.R_elem cK.out [] (aA:Int) (od_ as_) (by have h_:(aA:Int)<((aB.length:Int):Int):=od_ as_;first|exact h_|(have e_:=(Kd.R_reads' aC.out).1;omega)|simpa using h_);obtain ⟨ve12_0,rfl,ge12_0⟩:=dE;have aT:=Kd.R_seg cK.out (aA:Int) (od_ as_) (by have h_:(aA:Int)<((aB.length:Int):Int):=od_ as_;first|exact h_|(have e_:=(Kd.R_reads' aC.out).1;omega)|simpa using h_) (seg:=[(.slice aJ aD.length aK)]) (j:=0) bB aL (show 1≤1 from by decide) (x':=aD) (Kd.M_row (Kd.Zc (Kd.R_apart' (aX.out) (Kd.R_typed aC.out) de_) (fun k_ hk=>⟨trivial,fun e_=>(hk.2) (by rw [e_];rfl)⟩))) (fun _ hk=>hk);have bP:=aL 0 _ rfl;(try simp only [show ((Kd.slice 87 k87)).sz=1 from rfl,Nat.mul_one,Nat.add_zero] at bP);have bN:=bD 0;(try simp only [show ((Kd.slice 87 k87)).sz=1 from rfl,Nat.mul_one,Nat.add_zero] at bN);clear bB aL bD;(try clear dE);(try simp only [show ((Kd.slice 87 k87)).sz=1 from rfl,Nat.mul_one,Nat.add_zero] at aT))|((with_reducible refine gate_store (t:=64) (p:=21) rfl ?_);refine store_event (t:=64) (p:=21) (v:=?vo_w13) (w1:=(bU.setCell ⟨aW,(aA:Int).toNat,none⟩ ((.slice aJ aD.length aK)))) ?hg ?ho ?hn ?hr ?_;(case ho=>rfl);(case hg=>rfl);(case hn=>rfl);(case hr=>exact hr_);intro dX hw;have hg:bU.grownBy dX (some aW):=(by rw [hw];exact aT.2);have dG:Kd.R (Kd.slice 87 k87) 64 dX w.heap.size (fun _=>True) (.slice (some ⟨aW,0,none⟩) aB.length dA) bV:=(by rw [hw,cO.out];exact aT.1);clear aT;replace aC:=Xa.mk (dG);replace HB:=Xa.mk ((by rw [hw];exact below_set (HB.out) dK.out:Below w.heap.size w dX));clear aX hg hw dG));go_roundg k1
        case measure=>have:=bY.out;omega
        case rel=>exact ⟨(bV),(wrap64 (aA+1)),rg_,H',⟨by have:=bY.out;omega⟩,⟨Kd.ra_ (aC.out)⟩,⟨bl_ HB⟩⟩
       ·rw [if_neg c9] at H;exact absurd H sm_
      ·rw [if_neg c7] at H;exact absurd H sm_
     ·rw [if_neg c6] at H;have bL:decide (aA<(l0.length:Int))=false:=df_ c6;clear c6;obtain rfl:=sj_ H;go_wp2;go_ret
      exact ⟨_,rf_,Kd.ra_ (aC.out),bl_ HB⟩
  ·rw [if_neg c3] at H;exact absurd H sm_
 ·rw [if_neg c2] at H;exact absurd H sm_
def Zk.l0:Nat→List Int→List Int→Int→Option (List Int)
 |0,_,_,_=>none
 |k+1,x0,x3,x4=>if x4<(x0.length:Int) then (if 0≤x4 then (if x4<(x3.length:Int) then (Zk.l0 k x0 (x3.set (x4:Int).toNat (rd x0 x4)) (wrap64 (x4+1))) else (none)) else (none)) else (some x3)
def Zk.f (k:Nat) (l0:List Int):Option (List Int):=if 0≤(l0.length:Int) then (if ((l0.length:Int):Int).toNat≤35184372088832 then (Zk.l0 k l0 (List.replicate ((l0.length:Int):Int).toNat 0) 0) else (none)) else (none)
theorem Zk.calls (k:Nat) (A0:Option Addr) (c0:Nat) (l0:List Int) (r:List Int) (w:World) (hr0:Kd.C (Kd.int .i64) w A0 l0.length l0) (hc0:l0.length≤c0) (h:Zk.f k l0=some r) :
  Calls Tryz.prog 11 #[.slice A0 l0.length c0] w fun e w'=>∃ dH:Value,e=.returned (dH)∧Kd.R (Kd.int .i64) 3 w' w.heap.size (fun _=>True) dH r∧Below w.heap.size w w':=by
 have dL:=Xa.mk hr0;have eF:=Xa.mk hc0;clear hr0 hc0;have HB:=Xa.mk (Below.refl w.heap.size w);have H:(if 0≤(l0.length:Int) then (if ((l0.length:Int):Int).toNat≤35184372088832 then (Zk.l0 k l0 (List.replicate ((l0.length:Int):Int).toNat 0) 0) else (none)) else (none))=some r:=h;clear h;by_cases c2:0≤(l0.length:Int)
 ·rw [if_pos c2] at H;have bH:=eq_true c2;have bI:decide (0≤(l0.length:Int))=true:=dt_ c2;clear c2;by_cases c3:((l0.length:Int):Int).toNat≤35184372088832
  ·rw [if_pos c3] at H;have bJ:=eq_true c3;have bK:decide (((l0.length:Int):Int).toNat≤35184372088832)=true:=dt_ c3;clear c3;obtain ⟨dJ,aQ⟩:∃ y_:List Int,y_=(List.replicate ((l0.length:Int):Int).toNat 0):=⟨_,rfl⟩
   replace H:(Zk.l0 k l0 dJ 0)=some r:=by subst aQ;exact hh_ H
   have aZ:=Xa.mk aQ;clear aQ;have H':=Xa.mk H;clear H;go_enter Tryz.func11,Tryz.ntmps11;go_wp2_with (first|((with_reducible refine Yv (N:=7) rfl ?_);refine Kd.R_make (Kd.int .i64) _ 3 rfl (N:=7) rfl 23 _ _ rfl (l0.length:Int) rfl rfl Tryz.underlying23 (.int .i64 0) 8 info3 rfl de_ om_ 0 (ok:=fun _=>True) (okp:=fun _=>True) rfl (fun _ hk=>hk) trivial (od_ as_) (nt_ (Nat.mul_le_mul_right _ (od_ as_:(l0.length:Int).toNat≤35184372088832)) om_) (Below.refl _ _) (nr_ _) ?_;intro v141 w4 aN hb dS aM;clear dS aM;(first|rw [← aZ.out] at aN|(simp only [Int.reduceToNat] at aN;rw [← aZ.out] at aN));have cB:=Xa.mk (Kd.R_lower aN (Xj (bl_ HB)));replace HB:=Xa.mk (Xi (bl_ HB) hb);clear hb aN))
   go_loopg [4] k (fun kq v4 w'=>∃ (aB:List Int) (aA:Int),v4=.int .i64 aA∧Xa (Zk.l0 kq l0 aB aA=some r)∧Xa (kq≤k)∧Xa (Kd.R (Kd.int .i64) 3 w' w.heap.size (fun _=>True) v141 aB)∧Xa (Below w.heap.size w w'))
   case atStart=>exact ⟨(dJ),(0),rg_,H',⟨nr_ _⟩,⟨Kd.ra_ (cB.out)⟩,⟨bl_ HB⟩⟩
   case round=>
    clear H'
    try clear c2
    try clear bH
    try clear bI
    try clear c3
    try clear bJ
    try clear bK
    obtain ⟨aB,aA,rfl,HA,bY,aC,HB⟩:=hrel
    cases gk with
    |zero=>exact absurd HA.out (by simp [Zk.l0])
    |succ k1=>
     have H:=HA.out;clear HA;simp only [Zk.l0] at H;by_cases c6:aA<(l0.length:Int)
     ·rw [if_pos c6] at H;have bL:decide (aA<(l0.length:Int))=true:=dt_ c6;clear c6;by_cases c7:0≤aA
      ·rw [if_pos c7] at H;have dM:decide (0≤aA)=true:=dt_ c7;clear c7;by_cases c8:aA<(aB.length:Int)
       ·rw [if_pos c8] at H;have c8b0:decide (aA<(aB.length:Int))=true:=dt_ c8;clear c8;obtain ⟨bW,aR⟩:∃ y_:List Int,y_=(aB.set (aA:Int).toNat (rd l0 aA)):=⟨_,rfl⟩
        replace H:(Zk.l0 k1 l0 bW (wrap64 (aA+1)))=some r:=by subst aR;exact hh_ H
        have cZ:=Xa.mk aR;clear aR;have H':=Xa.mk H;clear H;have bR:0≤(aA:Int):=od_ as_;have bT:aA<(l0.length:Int):=od_ as_;obtain ⟨ad143,e143,aI⟩:=Kd.at_int dL.out aA bR bT;cases e143
        replace aI:=bw_ HB aI;replace bR:=eq_true bR;replace bT:=eq_true bT;have p9:0≤(aA:Int):=od_ as_;have q9:(aA:Int)<((aB.length:Int):Int):=od_ as_;obtain ⟨dR,eG,d9,eB,eH,cl9,dZ⟩:=Kd.R_form aC.out om_
        (first|cases d9|(injection d9 with aV dP dO;(first|subst aV|(injection aV with aV;subst aV));subst dO;clear dP))
        have eD:=Xa.mk eB;have GG9:=Xa.mk dZ;clear eB eH dZ;obtain ⟨hx9_0,hf9_0⟩:=Kd.R_celln 0 aC.out (aA:Int) p9 q9;replace p9:=eq_true p9;replace q9:=eq_true q9;have bF:=Kd.R_putg aC.out (aA:Int) (rd l0 aA);go_wp2_with (first|((with_reducible refine gate_store (t:=3) (p:=20) rfl ?_);refine store_event (t:=3) (p:=20) (v:=?vo_w11) (w1:=(wr.setCell ⟨dR,(aA:Int).toNat,none⟩ (.int .i64 (rd l0 aA)))) ?hg ?ho ?hn ?hr ?_;(case ho=>rfl);(case hg=>rfl);(case hn=>rfl);(case hr=>exact hr_);intro bU hw;have hg:wr.grownBy bU (some dR):=(by rw [hw];exact bF.2);have dG:Kd.R (Kd.int .i64) 3 bU w.heap.size (fun _=>True) (.slice (some ⟨dR,0,none⟩) aB.length eG) bW:=(by rw [hw,cZ.out];exact bF.1);clear bF;replace aC:=Xa.mk (dG);replace HB:=Xa.mk ((by rw [hw];exact below_set (HB.out) eD.out:Below w.heap.size w bU));clear hg hw dG));go_roundg k1
        case measure=>have:=bY.out;omega
        case rel=>exact ⟨(bW),(wrap64 (aA+1)),rg_,H',⟨by have:=bY.out;omega⟩,⟨Kd.ra_ (aC.out)⟩,⟨bl_ HB⟩⟩
       ·rw [if_neg c8] at H;exact absurd H sm_
      ·rw [if_neg c7] at H;exact absurd H sm_
     ·rw [if_neg c6] at H;have bL:decide (aA<(l0.length:Int))=false:=df_ c6;clear c6;obtain rfl:=sj_ H;go_wp2;go_ret
      exact ⟨_,rf_,Kd.ra_ (aC.out),bl_ HB⟩
  ·rw [if_neg c3] at H;exact absurd H sm_
 ·rw [if_neg c2] at H;exact absurd H sm_
end Go.Proofs.YtlhogkfmdnpmkaaGreat.GMarks
