import Derived.Test.YtlhogkfmdnpmkaaCFnExactWholeOrder21
set_option maxRecDepth 100000
namespace Go.Proofs.Ytlhogkfmdnpmkaa.GWhole
open Go.RowKit Go.Proofs.YtlhogkfmdnpmkaaW.PrintWords Go.Proofs.YtlhogkfmdnpmkaaW.PrintLast Go.Proofs.YtlhogkfmdnpmkaaW.PrintMore
attribute [local go_sem] Ui Uk max_two min_two Zx Zy Uj Ul
set_option linter.unusedVariables false
set_option linter.unusedSimpArgs false
mutual
def Ze.j0:Nat→Int→Bool→List (S67)→List Int→List Int→List (List Int)→List (S95)→Option (Int)
 |0,_,_,_,_,_,_,_=>none
 |k+1,x1,jP,aC,dB,bI,dC,dD=>if jP=true then (some 3) else (if 0≤x1 then (if x1<(aC.length:Int) then (if ((Xk aC x1).f2)=1 then (Ze.j1 k true aC dB bI dC dD ((Xk aC x1).f0) ((Xk aC x1).f1) ((Xk aC x1).f2) ((Xk aC x1).f3) ((Xk aC x1).f4)) else (if ((Xk aC x1).f2)=2 then (if 0≤((Xk aC x1).f4) then (if ((Xk aC x1).f4)<(bI.length:Int) then (Ze.j1 k (decide ((rd bI ((Xk aC x1).f4)) > 0)) aC dB bI dC dD ((Xk aC x1).f0) ((Xk aC x1).f1) ((Xk aC x1).f2) ((Xk aC x1).f3) ((Xk aC x1).f4)) else (none)) else (none)) else (Ze.j1 k false aC dB bI dC dD ((Xk aC x1).f0) ((Xk aC x1).f1) ((Xk aC x1).f2) ((Xk aC x1).f3) ((Xk aC x1).f4)))) else (none)) else (none))
def Ze.j1:Nat→Bool→List (S67)→List Int→List Int→List (List Int)→List (S95)→List Int→List (S69)→Int→Int→Int→Option (Int)
 |0,_,_,_,_,_,_,_,_,_,_,_=>none
 |k+1,x20,aC,dB,bI,dC,dD,x143000,bJ,gK,x143003,x143004=>if x20=true then (some 2) else (if gK=2 then (some 0) else (if (bJ.length:Int)=0 then (some 1) else (if 0<(bJ.length:Int) then (if ((Xd bJ 0).f0)=8 then (if 0≤((Xd bJ 0).f1) then (if ((Xd bJ 0).f1)<(bI.length:Int) then (if (rd bI ((Xd bJ 0).f1)) > 0 then (some 2) else (some 0)) else (none)) else (none)) else (some 0)) else (none))))
end
def Ze.f (k:Nat) (aA:List (S67)) (aZ:List Int) (aP:List Int) (bA:List (List Int)) (bB:List (S95)) (a1:Int):Option (Int):=if a1<0 then (Ze.j0 k a1 true aA aZ aP bA bB) else (Ze.j0 k a1 (decide (a1 ≥ (aA.length:Int))) aA aZ aP bA bB)
set_option maxHeartbeats 8000000 in
theorem Ze.calls (k:Nat) (fB:Option Addr) (bO:Nat) (aA:List (S67)) (bK:Option Addr) (bP:Nat) (aZ:List Int) (bL:Option Addr) (bQ:Nat) (aP:List Int) (bM:Option Addr) (bR:Nat) (bA:List (List Int)) (bN:Option Addr) (bS:Nat) (bB:List (S95)) (a1:Int) (r:Int) (w:World) (gZ:Kd.C k67 w fB aA.length aA) (gQ:aA.length≤bO) (iA:Kd.C (Kd.int .i64) w bK aZ.length aZ) (gT:aZ.length≤bP) (iB:Kd.C (Kd.int .i64) w bL aP.length aP) (gU:aP.length≤bQ) (iC:Kd.C (Kd.slice 3 (Kd.int .i64)) w bM bA.length bA) (gV:bA.length≤bR) (iD:Kd.C k95 w bN bB.length bB) (gW:bB.length≤bS) (h:Ze.f k aA aZ aP bA bB a1=some r) :
  Calls Try.prog 20 #[.agg #[.slice fB aA.length bO,.slice bK aZ.length bP,.slice bL aP.length bQ,.slice bM bA.length bR,.slice bN bB.length bS],.int .i64 a1] w fun e w'=>e=.returned (.int .i64 r)∧Below w.heap.size w w':=by
 have hu45:=Try.underlying45;have hu67:=Try.underlying67;have iR:=Xa.mk gZ;have HC0_0:=Xa.mk gQ;clear gZ gQ;have HR0_1:=Xa.mk iA;have HC0_1:=Xa.mk gT;clear iA gT;have fE:=Xa.mk iB;have HC0_2:=Xa.mk gU;clear iB gU;have HR0_3:=Xa.mk iC;have HC0_3:=Xa.mk gV;clear iC gV;have HR0_4:=Xa.mk iD;have HC0_4:=Xa.mk gW;clear iD gW;have HB:=Xa.mk (Below.refl w.heap.size w);have H:(if a1<0 then (Ze.j0 k a1 true aA aZ aP bA bB) else (Ze.j0 k a1 (decide (a1 ≥ (aA.length:Int))) aA aZ aP bA bB))=some r:=h;clear h;have jK:=Xa.mk H;clear H
 go_enter Try.func20,Try.ntmps20
 go_upto_region 1 with (first|((with_reducible refine Zh (N:=2) rfl ?_);(try (refine gate_guard (by rfl) ?_;dsimp only));refine Zg ?hg (N:=2) ?hd (cs:=#[.slice fB aA.length bO,.slice bK aZ.length bP,.slice bL aP.length bQ,.slice bM bA.length bR,.slice bN bB.length bS]) (t:=45) ?hr ?_;(case hd|hg=>rfl);(case hr=>exact hr_);intro aQ hg w4 hbox hb;have aH:=Xa.mk (hbox);have gN:=Xa.mk ((ge_ hg (Xf (bl_ HB)):w.heap.size≤aQ));have gL:=Xa.mk ((ge_ hg (Xf (bl_ HB)):w.heap.size≤aQ));replace HB:=Xa.mk (Xe (bl_ HB) hb);clear hb hbox hg))
 repeat (go_quiet (first|((with_reducible refine Zh (N:=2) rfl ?_);(try (refine gate_guard (by rfl) ?_;dsimp only));refine Zg ?hg (N:=2) ?hd (cs:=#[.slice fB aA.length bO,.slice bK aZ.length bP,.slice bL aP.length bQ,.slice bM bA.length bR,.slice bN bB.length bS]) (t:=45) ?hr ?_;(case hd|hg=>rfl);(case hr=>exact hr_);intro aQ hg w4 hbox hb;have aH:=Xa.mk (hbox);have gN:=Xa.mk ((ge_ hg (Xf (bl_ HB)):w.heap.size≤aQ));have gL:=Xa.mk ((ge_ hg (Xf (bl_ HB)):w.heap.size≤aQ));replace HB:=Xa.mk (Xe (bl_ HB) hb);clear hb hbox hg));go_upto_region 1 with (first|((with_reducible refine Zh (N:=2) rfl ?_);(try (refine gate_guard (by rfl) ?_;dsimp only));refine Zg ?hg (N:=2) ?hd (cs:=#[.slice fB aA.length bO,.slice bK aZ.length bP,.slice bL aP.length bQ,.slice bM bA.length bR,.slice bN bB.length bS]) (t:=45) ?hr ?_;(case hd|hg=>rfl);(case hr=>exact hr_);intro aQ hg w4 hbox hb;have aH:=Xa.mk (hbox);have gN:=Xa.mk ((ge_ hg (Xf (bl_ HB)):w.heap.size≤aQ));have gL:=Xa.mk ((ge_ hg (Xf (bl_ HB)):w.heap.size≤aQ));replace HB:=Xa.mk (Xe (bl_ HB) hb);clear hb hbox hg)))
 (try simp only [Act.put,List.setIfInBounds_toArray,List.set_cons_zero,List.set_cons_succ])
 go_cut [14] (fun v14 wc=>∃ (kq:Nat) (eZ:Bool),v14=.bool eZ∧Xa (Ze.j0 kq a1 eZ aA aZ aP bA bB=some r)∧Xa (kq≤k)∧Xa (wc.heap[aQ]?=some (.cells #[(.slice fB aA.length bO),(.slice bK aZ.length bP),(.slice bL aP.length bQ),(.slice bM bA.length bR),(.slice bN bB.length bS)] 45 (0,0)))∧Xa (Below w.heap.size w wc))
 case first=>
  have H:=jK.out;clear jK;by_cases c5:a1<0
  ·rw [if_pos c5] at H;have fI:=decide_eq_true c5;clear c5
   (first|rw [fI]|(simp only [Zc,Zb];rw [fI])|skip)
   have H':=Xa.mk H;clear H;go_wp2
   repeat (go_quiet (fail);try go_wp2)
   go_meet
   case rel=>exact ⟨_,(true),rg_,H',⟨by first|omega|exact Nat.le_refl _⟩,⟨ba_ aH⟩,⟨bl_ HB⟩⟩
  ·rw [if_neg c5] at H;have fI:=decide_eq_false c5;clear c5
   (first|rw [fI]|(simp only [Zc,Zb];rw [fI])|skip)
   have H':=Xa.mk H;clear H;obtain ⟨hcz6_0,hcz6_1,hcz6_2,hcz6_3,hcz6_4⟩:=bc5_ aH.out;obtain ⟨hfz6_0,hfz6_1,hfz6_2,hfz6_3,hfz6_4⟩:=bf5_ aH.out;go_wp2
   repeat (go_quiet (fail);try go_wp2)
   go_meet
   case rel=>exact ⟨_,(decide (a1 ≥ (aA.length:Int))),rg_,H',⟨by first|omega|exact Nat.le_refl _⟩,⟨ba_ aH⟩,⟨bl_ HB⟩⟩
 case rest=>
  clear jK;obtain ⟨kq,eZ,rfl,HA,HJ2,aH,HB⟩:=hcut
  cases kq with
  |zero=>exact absurd HA.out (by simp [Ze.j0])
  |succ jJ=>
   have H:=HA.out;clear HA;simp only [Ze.j0] at H;by_cases c7:eZ=true
   ·subst c7
    replace H:(some 3)=some r:=(by rw [if_pos rfl] at H;exact H);obtain rfl:=Option.some.inj H;go_wp2
    repeat (go_quiet (fail);try go_wp2)
    go_ret
    exact ⟨rf_,bl_ HB⟩
   ·replace c7:=Bool.eq_false_iff.mpr c7;subst c7
    replace H:(if 0≤a1 then (if a1<(aA.length:Int) then (if ((Xk aA a1).f2)=1 then (Ze.j1 jJ true aA aZ aP bA bB ((Xk aA a1).f0) ((Xk aA a1).f1) ((Xk aA a1).f2) ((Xk aA a1).f3) ((Xk aA a1).f4)) else (if ((Xk aA a1).f2)=2 then (if 0≤((Xk aA a1).f4) then (if ((Xk aA a1).f4)<(aP.length:Int) then (Ze.j1 jJ (decide ((rd aP ((Xk aA a1).f4)) > 0)) aA aZ aP bA bB ((Xk aA a1).f0) ((Xk aA a1).f1) ((Xk aA a1).f2) ((Xk aA a1).f3) ((Xk aA a1).f4)) else (none)) else (none)) else (Ze.j1 jJ false aA aZ aP bA bB ((Xk aA a1).f0) ((Xk aA a1).f1) ((Xk aA a1).f2) ((Xk aA a1).f3) ((Xk aA a1).f4)))) else (none)) else (none))=some r:=(by rw [if_neg (show ¬ (false=true) by decide)] at H;exact H);by_cases c8:0≤a1
    ·rw [if_pos c8] at H;have jL:=decide_eq_true c8;clear c8;by_cases c9:a1<(aA.length:Int)
     ·rw [if_pos c9] at H;have jM:=decide_eq_true c9;clear c9;have iH:=Xa.mk H;clear H;obtain ⟨fQ,fT,fU,fV,fZ⟩:=bc5_ aH.out;obtain ⟨gB,gD,gF,gG,gH⟩:=bf5_ aH.out;have gI:0≤(a1:Int):=of_decide_eq_true (by assumption);have gJ:a1<(aA.length:Int):=of_decide_eq_true (by assumption);obtain ⟨bT,aT,aU,bC,bD,jN,dR,dS,dU,dV,dW,eX,eT,eY,eU⟩:=at_T67 iR.out a1 gI gJ;cases jN
      replace dR:=bw_ HB dR;replace dS:=bw_ HB dS;replace dU:=bw_ HB dU;replace dV:=bw_ HB dV;replace dW:=bw_ HB dW;have HR141_0:=Xa.mk eT;have HC141_0:=Xa.mk eX;clear eT eX;have bU:=Xa.mk eU;have HC141_1:=Xa.mk eY;clear eU eY;replace gI:=eq_true gI;replace gJ:=eq_true gJ
      go_upto_region 4 with (first|((with_reducible refine Zh (N:=5) rfl ?_);(try (refine gate_guard (by rfl) ?_;dsimp only));refine Zg ?hg (N:=5) ?hd (cs:=#[.slice none 0 0,.slice none 0 0,.int .i64 0,.int .i64 0,.int .i64 0]) (t:=67) ?hr ?_;(case hd|hg=>rfl);(case hr=>exact hr_);intro aJ hg jO hbox hb;have aO:=Xa.mk (hbox);have dE:=Xa.mk ((ge_ hg (Xf (bl_ HB)):w.heap.size≤aJ));have gM:=Xa.mk ((ge_ hg (Xf (bl_ HB)):w.heap.size≤aJ));replace HB:=Xa.mk (Xe (bl_ HB) hb);have aB:=Xa.mk ((by rw [hg];exact Nat.ne_of_lt (Yu (g:=aQ) (o:=.cells #[.slice (some bT) aA.length bO,.slice bK aZ.length bP,.slice bL aP.length bQ,.slice bM bA.length bR,.slice bN bB.length bS] 45 (0,0)) (ba_ aH)):aQ≠aJ));have aG:=Xa.mk ((by rw [hg];exact Nat.ne_of_gt (Yu (g:=aQ) (o:=.cells #[.slice (some bT) aA.length bO,.slice bK aZ.length bP,.slice bL aP.length bQ,.slice bM bA.length bR,.slice bN bB.length bS] 45 (0,0)) (ba_ aH)):aJ≠aQ));replace aH:=Xa.mk (Xt (g:=aQ) (o:=.cells #[.slice (some bT) aA.length bO,.slice bK aZ.length bP,.slice bL aP.length bQ,.slice bM bA.length bR,.slice bN bB.length bS] 45 (0,0)) (ba_ aH) hb);clear hb hbox hg;have gX:=aG.out;have gY:=aB.out;obtain ⟨dH,dI,dJ,dK,dL⟩:=bc5_ aO.out;obtain ⟨dM,dN,dO,dP,dQ⟩:=bf5_ aO.out))
      repeat (go_quiet (first|((with_reducible refine Zh (N:=5) rfl ?_);(try (refine gate_guard (by rfl) ?_;dsimp only));refine Zg ?hg (N:=5) ?hd (cs:=#[.slice none 0 0,.slice none 0 0,.int .i64 0,.int .i64 0,.int .i64 0]) (t:=67) ?hr ?_;(case hd|hg=>rfl);(case hr=>exact hr_);intro aJ hg jO hbox hb;have aO:=Xa.mk (hbox);have dE:=Xa.mk ((ge_ hg (Xf (bl_ HB)):w.heap.size≤aJ));have gM:=Xa.mk ((ge_ hg (Xf (bl_ HB)):w.heap.size≤aJ));replace HB:=Xa.mk (Xe (bl_ HB) hb);have aB:=Xa.mk ((by rw [hg];exact Nat.ne_of_lt (Yu (g:=aQ) (o:=.cells #[.slice (some bT) aA.length bO,.slice bK aZ.length bP,.slice bL aP.length bQ,.slice bM bA.length bR,.slice bN bB.length bS] 45 (0,0)) (ba_ aH)):aQ≠aJ));have aG:=Xa.mk ((by rw [hg];exact Nat.ne_of_gt (Yu (g:=aQ) (o:=.cells #[.slice (some bT) aA.length bO,.slice bK aZ.length bP,.slice bL aP.length bQ,.slice bM bA.length bR,.slice bN bB.length bS] 45 (0,0)) (ba_ aH)):aJ≠aQ));replace aH:=Xa.mk (Xt (g:=aQ) (o:=.cells #[.slice (some bT) aA.length bO,.slice bK aZ.length bP,.slice bL aP.length bQ,.slice bM bA.length bR,.slice bN bB.length bS] 45 (0,0)) (ba_ aH) hb);clear hb hbox hg;have gX:=aG.out;have gY:=aB.out;obtain ⟨dH,dI,dJ,dK,dL⟩:=bc5_ aO.out;obtain ⟨dM,dN,dO,dP,dQ⟩:=bf5_ aO.out));go_upto_region 4 with (first|((with_reducible refine Zh (N:=5) rfl ?_);(try (refine gate_guard (by rfl) ?_;dsimp only));refine Zg ?hg (N:=5) ?hd (cs:=#[.slice none 0 0,.slice none 0 0,.int .i64 0,.int .i64 0,.int .i64 0]) (t:=67) ?hr ?_;(case hd|hg=>rfl);(case hr=>exact hr_);intro aJ hg jO hbox hb;have aO:=Xa.mk (hbox);have dE:=Xa.mk ((ge_ hg (Xf (bl_ HB)):w.heap.size≤aJ));have gM:=Xa.mk ((ge_ hg (Xf (bl_ HB)):w.heap.size≤aJ));replace HB:=Xa.mk (Xe (bl_ HB) hb);have aB:=Xa.mk ((by rw [hg];exact Nat.ne_of_lt (Yu (g:=aQ) (o:=.cells #[.slice (some bT) aA.length bO,.slice bK aZ.length bP,.slice bL aP.length bQ,.slice bM bA.length bR,.slice bN bB.length bS] 45 (0,0)) (ba_ aH)):aQ≠aJ));have aG:=Xa.mk ((by rw [hg];exact Nat.ne_of_gt (Yu (g:=aQ) (o:=.cells #[.slice (some bT) aA.length bO,.slice bK aZ.length bP,.slice bL aP.length bQ,.slice bM bA.length bR,.slice bN bB.length bS] 45 (0,0)) (ba_ aH)):aJ≠aQ));replace aH:=Xa.mk (Xt (g:=aQ) (o:=.cells #[.slice (some bT) aA.length bO,.slice bK aZ.length bP,.slice bL aP.length bQ,.slice bM bA.length bR,.slice bN bB.length bS] 45 (0,0)) (ba_ aH) hb);clear hb hbox hg;have gX:=aG.out;have gY:=aB.out;obtain ⟨dH,dI,dJ,dK,dL⟩:=bc5_ aO.out;obtain ⟨dM,dN,dO,dP,dQ⟩:=bf5_ aO.out)))
      (try simp only [Act.put,List.setIfInBounds_toArray,List.set_cons_zero,List.set_cons_succ])
      go_cut [20] (fun v20 wc=>∃ (kq:Nat) (fA:Bool),v20=.bool fA∧Xa (Ze.j1 kq fA aA aZ aP bA bB ((Xk aA a1).f0) ((Xk aA a1).f1) ((Xk aA a1).f2) ((Xk aA a1).f3) ((Xk aA a1).f4)=some r)∧Xa (kq≤jJ)∧Xa (wc.heap[aQ]?=some (.cells #[(.slice (some bT) aA.length bO),(.slice bK aZ.length bP),(.slice bL aP.length bQ),(.slice bM bA.length bR),(.slice bN bB.length bS)] 45 (0,0)))∧Xa (wc.heap[aJ]?=some (.cells #[(.slice aT ((Xk aA a1).f0).length aU),(.slice bC ((Xk aA a1).f1).length bD),.int .i64 ((Xk aA a1).f2),.int .i64 ((Xk aA a1).f3),.int .i64 ((Xk aA a1).f4)] 67 (0,0)))∧Xa (Below w.heap.size w wc))
      case first=>
       have H:=iH.out;clear iH;by_cases c15:((Xk aA a1).f2)=1
       ·rw [if_pos c15] at H;have dY:=beq_iff_eq.mpr c15;have iU:=bne_eq_false_iff_eq.mpr c15;clear c15
        (first|rw [dY]|(simp only [Zc,Zb];rw [dY])|skip)
        have H':=Xa.mk H;clear H;have hnb16:=aG.out;have hnc16:=aB.out;obtain ⟨hcz17_0,hcz17_1,hcz17_2,hcz17_3,hcz17_4⟩:=bc5_ aO.out;obtain ⟨hfz17_0,hfz17_1,hfz17_2,hfz17_3,hfz17_4⟩:=bf5_ aO.out;go_wp2
        repeat (go_quiet (fail);try go_wp2)
        go_meet
        case rel=>exact ⟨_,(true),rg_,H',⟨by have:=HJ2.out;first|omega|exact Nat.le_refl _⟩,⟨by (with_reducible repeat (first|refine Yg ?_ _|refine Yc ?_|refine Ye ?_ _));refine Zf ?_ aB.out _;(with_reducible repeat (first|refine Yg ?_ _|refine Yc ?_|refine Ye ?_ _));refine Zf ?_ aB.out _;(with_reducible repeat (first|refine Yg ?_ _|refine Yc ?_|refine Ye ?_ _));refine Zf ?_ aB.out _;(with_reducible repeat (first|refine Yg ?_ _|refine Yc ?_|refine Ye ?_ _));refine Zf ?_ aB.out _;(with_reducible repeat (first|refine Yg ?_ _|refine Yc ?_|refine Ye ?_ _));refine Zf ?_ aB.out _;(with_reducible repeat (first|refine Yg ?_ _|refine Yc ?_|refine Ye ?_ _));exact aH.out⟩,⟨by refine bb_ (Zm (cs:=#[.slice aT ((Xk aA a1).f0).length aU,.slice bC ((Xk aA a1).f1).length bD,.int .i64 ((Xk aA a1).f2),.int .i64 ((Xk aA a1).f3),.int .i64 0]) ?_ 4 _ rfl);refine bb_ (Zm (cs:=#[.slice aT ((Xk aA a1).f0).length aU,.slice bC ((Xk aA a1).f1).length bD,.int .i64 ((Xk aA a1).f2),.int .i64 0,.int .i64 0]) ?_ 3 _ rfl);refine bb_ (Zm (cs:=#[.slice aT ((Xk aA a1).f0).length aU,.slice bC ((Xk aA a1).f1).length bD,.int .i64 0,.int .i64 0,.int .i64 0]) ?_ 2 _ rfl);refine bb_ (Zm (cs:=#[.slice aT ((Xk aA a1).f0).length aU,.slice none 0 0,.int .i64 0,.int .i64 0,.int .i64 0]) ?_ 1 _ rfl);refine bb_ (Zm (cs:=#[.slice none 0 0,.slice none 0 0,.int .i64 0,.int .i64 0,.int .i64 0]) ?_ 0 _ rfl);(with_reducible repeat (first|refine Yg ?_ _|refine Yc ?_|refine Ye ?_ _));exact aO.out⟩,⟨bl_ HB⟩⟩
       ·rw [if_neg c15] at H;have dY:=beq_eq_false_iff_ne.mpr c15;have iU:=bne_iff_ne.mpr c15
        (first|rw [dY]|(simp only [Zc,Zb];rw [dY])|skip)
        by_cases c18:((Xk aA a1).f2)=2
        ·rw [if_pos c18] at H;have iV:=beq_iff_eq.mpr c18;have iW:=bne_eq_false_iff_eq.mpr c18;clear c18;by_cases c19:0≤((Xk aA a1).f4)
         ·rw [if_pos c19] at H;replace c19:=decide_eq_true c19;by_cases c20:((Xk aA a1).f4)<(aP.length:Int)
          ·rw [if_pos c20] at H;replace c20:=decide_eq_true c20;have H':=Xa.mk H;clear H;have hnb21:=aG.out;have hnc21:=aB.out;obtain ⟨hcz22_0,hcz22_1,hcz22_2,hcz22_3,hcz22_4⟩:=bc5_ aO.out;obtain ⟨hfz22_0,hfz22_1,hfz22_2,hfz22_3,hfz22_4⟩:=bf5_ aO.out;obtain ⟨hcz23_0,hcz23_1,hcz23_2,hcz23_3,hcz23_4⟩:=bc5_ aH.out;obtain ⟨hfz23_0,hfz23_1,hfz23_2,hfz23_3,hfz23_4⟩:=bf5_ aH.out;have iP:0≤(((Xk aA a1).f4):Int):=of_decide_eq_true (by assumption);have iQ:((Xk aA a1).f4)<(aP.length:Int):=of_decide_eq_true (by assumption);obtain ⟨dX,e143,aI⟩:=Kd.at_int fE.out ((Xk aA a1).f4) iP iQ;cases e143
           have cB:dX.block≠aJ:=Nat.ne_of_lt (Nat.lt_of_lt_of_le (by have:=World.block_lt_of_cell? _ _ aI;first|rwa [add_block] at this|exact this) dE.out);have cK:dX.block≠aJ:=Nat.ne_of_lt (Nat.lt_of_lt_of_le (by have:=World.block_lt_of_cell? _ _ aI;first|rwa [add_block] at this|exact this) dE.out);have cO:dX.block≠aJ:=Nat.ne_of_lt (Nat.lt_of_lt_of_le (by have:=World.block_lt_of_cell? _ _ aI;first|rwa [add_block] at this|exact this) dE.out);have cZ:dX.block≠aJ:=Nat.ne_of_lt (Nat.lt_of_lt_of_le (by have:=World.block_lt_of_cell? _ _ aI;first|rwa [add_block] at this|exact this) dE.out);have dA:dX.block≠aJ:=Nat.ne_of_lt (Nat.lt_of_lt_of_le (by have:=World.block_lt_of_cell? _ _ aI;first|rwa [add_block] at this|exact this) dE.out);replace aI:=bw_ HB aI;replace aI:=(cell_far (p:=⟨aJ,0,none⟩) (by first|(rw [add_block];exact cB)|(show (Addr.add _ _).block≠_;rw [add_block];exact cB)|exact cB) (.slice aT ((Xk aA a1).f0).length aU)).trans aI;replace aI:=(cell_far (p:=⟨aJ,1,none⟩) (by first|(rw [add_block];exact cK)|(show (Addr.add _ _).block≠_;rw [add_block];exact cK)|exact cK) (.slice bC ((Xk aA a1).f1).length bD)).trans aI;replace aI:=(cell_far (p:=⟨aJ,2,none⟩) (by first|(rw [add_block];exact cO)|(show (Addr.add _ _).block≠_;rw [add_block];exact cO)|exact cO) (.int .i64 ((Xk aA a1).f2))).trans aI;replace aI:=(cell_far (p:=⟨aJ,3,none⟩) (by first|(rw [add_block];exact cZ)|(show (Addr.add _ _).block≠_;rw [add_block];exact cZ)|exact cZ) (.int .i64 ((Xk aA a1).f3))).trans aI;replace aI:=(cell_far (p:=⟨aJ,4,none⟩) (by first|(rw [add_block];exact dA)|(show (Addr.add _ _).block≠_;rw [add_block];exact dA)|exact dA) (.int .i64 ((Xk aA a1).f4))).trans aI
           (try have hy143_0:=fun (n_:Nat)=>(show (((((((jO.drewN n_).setCell ⟨aJ,0,none⟩ (.slice aT ((Xk aA a1).f0).length aU)).setCell ⟨aJ,1,none⟩ (.slice bC ((Xk aA a1).f1).length bD)).setCell ⟨aJ,2,none⟩ (.int .i64 ((Xk aA a1).f2))).setCell ⟨aJ,3,none⟩ (.int .i64 ((Xk aA a1).f3))).setCell ⟨aJ,4,none⟩ (.int .i64 ((Xk aA a1).f4)))).cell? _=some _ from aI))
           clear cB cK cO cZ dA;replace iP:=eq_true iP;replace iQ:=eq_true iQ;go_wp2
           repeat (go_quiet (fail);try go_wp2)
           go_meet
           case rel=>exact ⟨_,(decide ((rd aP ((Xk aA a1).f4)) > 0)),rg_,H',⟨by have:=HJ2.out;first|omega|exact Nat.le_refl _⟩,⟨by (with_reducible repeat (first|refine Yg ?_ _|refine Yc ?_|refine Ye ?_ _));refine Zf ?_ aB.out _;(with_reducible repeat (first|refine Yg ?_ _|refine Yc ?_|refine Ye ?_ _));refine Zf ?_ aB.out _;(with_reducible repeat (first|refine Yg ?_ _|refine Yc ?_|refine Ye ?_ _));refine Zf ?_ aB.out _;(with_reducible repeat (first|refine Yg ?_ _|refine Yc ?_|refine Ye ?_ _));refine Zf ?_ aB.out _;(with_reducible repeat (first|refine Yg ?_ _|refine Yc ?_|refine Ye ?_ _));refine Zf ?_ aB.out _;(with_reducible repeat (first|refine Yg ?_ _|refine Yc ?_|refine Ye ?_ _));exact aH.out⟩,⟨by refine bb_ (Zm (cs:=#[.slice aT ((Xk aA a1).f0).length aU,.slice bC ((Xk aA a1).f1).length bD,.int .i64 ((Xk aA a1).f2),.int .i64 ((Xk aA a1).f3),.int .i64 0]) ?_ 4 _ rfl);refine bb_ (Zm (cs:=#[.slice aT ((Xk aA a1).f0).length aU,.slice bC ((Xk aA a1).f1).length bD,.int .i64 ((Xk aA a1).f2),.int .i64 0,.int .i64 0]) ?_ 3 _ rfl);refine bb_ (Zm (cs:=#[.slice aT ((Xk aA a1).f0).length aU,.slice bC ((Xk aA a1).f1).length bD,.int .i64 0,.int .i64 0,.int .i64 0]) ?_ 2 _ rfl);refine bb_ (Zm (cs:=#[.slice aT ((Xk aA a1).f0).length aU,.slice none 0 0,.int .i64 0,.int .i64 0,.int .i64 0]) ?_ 1 _ rfl);refine bb_ (Zm (cs:=#[.slice none 0 0,.slice none 0 0,.int .i64 0,.int .i64 0,.int .i64 0]) ?_ 0 _ rfl);(with_reducible repeat (first|refine Yg ?_ _|refine Yc ?_|refine Ye ?_ _));exact aO.out⟩,⟨bl_ HB⟩⟩
          ·rw [if_neg c20] at H;exact absurd H (by simp)
         ·rw [if_neg c19] at H;exact absurd H (by simp)
        ·rw [if_neg c18] at H;have iV:=beq_eq_false_iff_ne.mpr c18;have iW:=bne_iff_ne.mpr c18;have H':=Xa.mk H;clear H;have hnb24:=aG.out;have hnc24:=aB.out;obtain ⟨hcz25_0,hcz25_1,hcz25_2,hcz25_3,hcz25_4⟩:=bc5_ aO.out;obtain ⟨hfz25_0,hfz25_1,hfz25_2,hfz25_3,hfz25_4⟩:=bf5_ aO.out;go_wp2
         repeat (go_quiet (fail);try go_wp2)
         go_meet
         case rel=>exact ⟨_,(false),rg_,H',⟨by have:=HJ2.out;first|omega|exact Nat.le_refl _⟩,⟨by (with_reducible repeat (first|refine Yg ?_ _|refine Yc ?_|refine Ye ?_ _));refine Zf ?_ aB.out _;(with_reducible repeat (first|refine Yg ?_ _|refine Yc ?_|refine Ye ?_ _));refine Zf ?_ aB.out _;(with_reducible repeat (first|refine Yg ?_ _|refine Yc ?_|refine Ye ?_ _));refine Zf ?_ aB.out _;(with_reducible repeat (first|refine Yg ?_ _|refine Yc ?_|refine Ye ?_ _));refine Zf ?_ aB.out _;(with_reducible repeat (first|refine Yg ?_ _|refine Yc ?_|refine Ye ?_ _));refine Zf ?_ aB.out _;(with_reducible repeat (first|refine Yg ?_ _|refine Yc ?_|refine Ye ?_ _));exact aH.out⟩,⟨by refine bb_ (Zm (cs:=#[.slice aT ((Xk aA a1).f0).length aU,.slice bC ((Xk aA a1).f1).length bD,.int .i64 ((Xk aA a1).f2),.int .i64 ((Xk aA a1).f3),.int .i64 0]) ?_ 4 _ rfl);refine bb_ (Zm (cs:=#[.slice aT ((Xk aA a1).f0).length aU,.slice bC ((Xk aA a1).f1).length bD,.int .i64 ((Xk aA a1).f2),.int .i64 0,.int .i64 0]) ?_ 3 _ rfl);refine bb_ (Zm (cs:=#[.slice aT ((Xk aA a1).f0).length aU,.slice bC ((Xk aA a1).f1).length bD,.int .i64 0,.int .i64 0,.int .i64 0]) ?_ 2 _ rfl);refine bb_ (Zm (cs:=#[.slice aT ((Xk aA a1).f0).length aU,.slice none 0 0,.int .i64 0,.int .i64 0,.int .i64 0]) ?_ 1 _ rfl);refine bb_ (Zm (cs:=#[.slice none 0 0,.slice none 0 0,.int .i64 0,.int .i64 0,.int .i64 0]) ?_ 0 _ rfl);(with_reducible repeat (first|refine Yg ?_ _|refine Yc ?_|refine Ye ?_ _));exact aO.out⟩,⟨bl_ HB⟩⟩
      case rest=>
       clear iH
       try clear c7
       try clear c8
       try clear jL
       try clear c9
       try clear jM
       try clear fQ
       try clear fT
       try clear fU
       try clear fV
       try clear fZ
       try clear dH
       try clear dI
       try clear dJ
       try clear dK
       try clear dL
       try clear gB
       try clear gD
       try clear gF
       try clear gG
       try clear gH
       try clear dM
       try clear dN
       try clear dO
       try clear dP
       try clear dQ
       try clear dR
       try clear dS
       try clear dU
       try clear dV
       try clear dW
       try clear gI
       try clear gJ
       obtain ⟨kq,fA,rfl,HA,HJ9,aH,aO,HB⟩:=hcut
       cases kq with
       |zero=>exact absurd HA.out (by simp [Ze.j1])
       |succ kj9=>
        have H:=HA.out;clear HA;simp only [Ze.j1] at H;by_cases jF:fA=true
        ·subst jF
         replace H:(some 2)=some r:=(by rw [if_pos rfl] at H;exact H);obtain rfl:=Option.some.inj H;go_wp2
         repeat (go_quiet (fail);try go_wp2)
         go_ret
         exact ⟨rf_,bl_ HB⟩
        ·replace jF:=Bool.eq_false_iff.mpr jF;subst jF
         replace H:(if ((Xk aA a1).f2)=2 then (some 0) else (if (((Xk aA a1).f1).length:Int)=0 then (some 1) else (if 0<(((Xk aA a1).f1).length:Int) then (if ((Xd ((Xk aA a1).f1) 0).f0)=8 then (if 0≤((Xd ((Xk aA a1).f1) 0).f1) then (if ((Xd ((Xk aA a1).f1) 0).f1)<(aP.length:Int) then (if (rd aP ((Xd ((Xk aA a1).f1) 0).f1)) > 0 then (some 2) else (some 0)) else (none)) else (none)) else (some 0)) else (none))))=some r:=(by rw [if_neg (show ¬ (false=true) by decide)] at H;exact H);by_cases iK:((Xk aA a1).f2)=2
         ·rw [if_pos iK] at H;have iX:=beq_iff_eq.mpr iK;have iY:=bne_eq_false_iff_eq.mpr iK;clear iK;obtain rfl:=Option.some.inj H;have hnb28:=aG.out;have hnc28:=aB.out;obtain ⟨hcz29_0,hcz29_1,hcz29_2,hcz29_3,hcz29_4⟩:=bc5_ aO.out;obtain ⟨hfz29_0,hfz29_1,hfz29_2,hfz29_3,hfz29_4⟩:=bf5_ aO.out;go_wp2
          repeat (go_quiet (fail);try go_wp2)
          go_ret
          exact ⟨rf_,bl_ HB⟩
         ·rw [if_neg iK] at H;have iX:=beq_eq_false_iff_ne.mpr iK;have iY:=bne_iff_ne.mpr iK;by_cases gP:(((Xk aA a1).f1).length:Int)=0
          ·rw [if_pos gP] at H;have iZ:=beq_iff_eq.mpr gP;have jA:=bne_eq_false_iff_eq.mpr gP;clear gP;obtain rfl:=Option.some.inj H;have hnb31:=aG.out;have hnc31:=aB.out;obtain ⟨hcz32_0,hcz32_1,hcz32_2,hcz32_3,hcz32_4⟩:=bc5_ aO.out;obtain ⟨hfz32_0,hfz32_1,hfz32_2,hfz32_3,hfz32_4⟩:=bf5_ aO.out;go_wp2
           repeat (go_quiet (fail);try go_wp2)
           go_ret
           exact ⟨rf_,bl_ HB⟩
          ·rw [if_neg gP] at H;have iZ:=beq_eq_false_iff_ne.mpr gP;have jA:=bne_iff_ne.mpr gP;have c30b2:¬ (((Xk aA a1).f1)=[]):=fun h_=>gP (by rw [h_];rfl);by_cases jG:0<(((Xk aA a1).f1).length:Int)
           ·rw [if_pos jG] at H;have c33b0:=decide_eq_true jG;have c33b1:decide (0<((Xk aA a1).f1).length)=true:=decide_eq_true (by omega);clear jG;by_cases c34:((Xd ((Xk aA a1).f1) 0).f0)=8
            ·rw [if_pos c34] at H;have jB:=beq_iff_eq.mpr c34;have jC:=bne_eq_false_iff_eq.mpr c34;clear c34;by_cases jH:0≤((Xd ((Xk aA a1).f1) 0).f1)
             ·rw [if_pos jH] at H;replace jH:=decide_eq_true jH;by_cases jI:((Xd ((Xk aA a1).f1) 0).f1)<(aP.length:Int)
              ·rw [if_pos jI] at H;replace jI:=decide_eq_true jI;by_cases c37:(rd aP ((Xd ((Xk aA a1).f1) 0).f1)) > 0
               ·rw [if_pos c37] at H;have jD:=decide_eq_true c37;clear c37;obtain rfl:=Option.some.inj H;have hnb38:=aG.out;have hnc38:=aB.out;obtain ⟨hcz39_0,hcz39_1,hcz39_2,hcz39_3,hcz39_4⟩:=bc5_ aO.out;obtain ⟨hfz39_0,hfz39_1,hfz39_2,hfz39_3,hfz39_4⟩:=bf5_ aO.out;have dF:0≤(0:Int):=(by omega);have dG:0<(((Xk aA a1).f1).length:Int):=of_decide_eq_true (by assumption);obtain ⟨eQ,fC,fG,fD,fH,fJ,aK,aL,aM,aN,aD,aF,bG,bE,bH,bF⟩:=at_T69 bU.out 0 dF dG;cases fJ
                have iE:(0<((Xk aA a1).f1).length)=True:=eq_true (by omega)
                (try rw [show ((0:Int)).toNat=0 from rfl] at aK)
                (try rw [show 0 * 6=0 from rfl] at aK)
                (try rw [Addr.add_zero'] at aK)
                (try rw [show ((0:Int)).toNat=0 from rfl] at aL)
                (try rw [show 0 * 6=0 from rfl] at aL)
                (try rw [Addr.add_zero'] at aL)
                (try rw [show ((0:Int)).toNat=0 from rfl] at aM)
                (try rw [show 0 * 6=0 from rfl] at aM)
                (try rw [Addr.add_zero'] at aM)
                (try rw [show ((0:Int)).toNat=0 from rfl] at aN)
                (try rw [show 0 * 6=0 from rfl] at aN)
                (try rw [Addr.add_zero'] at aN)
                (try rw [show ((0:Int)).toNat=0 from rfl] at aD)
                (try rw [show 0 * 6=0 from rfl] at aD)
                (try rw [Addr.add_zero'] at aD)
                (try rw [show ((0:Int)).toNat=0 from rfl] at aF)
                (try rw [show 0 * 6=0 from rfl] at aF)
                (try rw [Addr.add_zero'] at aF)
                replace aK:=bw_ HB aK;replace aL:=bw_ HB aL;replace aM:=bw_ HB aM;replace aN:=bw_ HB aN;replace aD:=bw_ HB aD;replace aF:=bw_ HB aF;have eO:=Xa.mk bE;have eG:=Xa.mk bG;clear bE bG;have eP:=Xa.mk bF;have eH:=Xa.mk bH;clear bF bH;replace dF:=eq_true dF;replace dG:=eq_true dG;obtain ⟨hcz40_0,hcz40_1,hcz40_2,hcz40_3,hcz40_4⟩:=bc5_ aH.out;obtain ⟨hfz40_0,hfz40_1,hfz40_2,hfz40_3,hfz40_4⟩:=bf5_ aH.out;have d9:0≤(0:Int):=(by omega);have eD:0<(((Xk aA a1).f1).length:Int):=of_decide_eq_true (by assumption);obtain ⟨fF,iF,iI,iG,iJ,iL,aV,aW,aX,aY,aR,aS,bX,bV,bY,bW⟩:=at_T69 bU.out 0 d9 eD;obtain rfl:eQ=fF:=(by injection iL);have jE:(0<((Xk aA a1).f1).length)=True:=eq_true (by omega)
                (try rw [show ((0:Int)).toNat=0 from rfl] at aV)
                (try rw [show 0 * 6=0 from rfl] at aV)
                (try rw [Addr.add_zero'] at aV)
                (try rw [show ((0:Int)).toNat=0 from rfl] at aW)
                (try rw [show 0 * 6=0 from rfl] at aW)
                (try rw [Addr.add_zero'] at aW)
                (try rw [show ((0:Int)).toNat=0 from rfl] at aX)
                (try rw [show 0 * 6=0 from rfl] at aX)
                (try rw [Addr.add_zero'] at aX)
                (try rw [show ((0:Int)).toNat=0 from rfl] at aY)
                (try rw [show 0 * 6=0 from rfl] at aY)
                (try rw [Addr.add_zero'] at aY)
                (try rw [show ((0:Int)).toNat=0 from rfl] at aR)
                (try rw [show 0 * 6=0 from rfl] at aR)
                (try rw [Addr.add_zero'] at aR)
                (try rw [show ((0:Int)).toNat=0 from rfl] at aS)
                (try rw [show 0 * 6=0 from rfl] at aS)
                (try rw [Addr.add_zero'] at aS)
                replace aV:=bw_ HB aV;replace aW:=bw_ HB aW;replace aX:=bw_ HB aX;replace aY:=bw_ HB aY;replace aR:=bw_ HB aR;replace aS:=bw_ HB aS;have fO:=Xa.mk bV;have fK:=Xa.mk bX;clear bV bX;have fP:=Xa.mk bW;have fM:=Xa.mk bY;clear bW bY;replace d9:=eq_true d9;replace eD:=eq_true eD;have dZ:=Option.some.inj (aD.symm.trans aR)
                injection dZ with dZ iO iN
                subst dZ;subst iN;clear iO;have dZ:=Option.some.inj (aF.symm.trans aS)
                injection dZ with dZ iO iN
                subst dZ;subst iN;clear iO;have eB:0≤(((Xd ((Xk aA a1).f1) 0).f1):Int):=of_decide_eq_true (by assumption);have eF:((Xd ((Xk aA a1).f1) 0).f1)<(aP.length:Int):=of_decide_eq_true (by assumption);obtain ⟨iT,iM,bZ⟩:=Kd.at_int fE.out ((Xd ((Xk aA a1).f1) 0).f1) eB eF;cases iM
                replace bZ:=bw_ HB bZ;replace eB:=eq_true eB;replace eF:=eq_true eF;go_wp2
                repeat (go_quiet (fail);try go_wp2)
                go_ret
                exact ⟨rf_,bl_ HB⟩
               ·rw [if_neg c37] at H;have jD:=decide_eq_false c37;clear c37;obtain rfl:=Option.some.inj H;have hnb41:=aG.out;have hnc41:=aB.out;obtain ⟨hcz42_0,hcz42_1,hcz42_2,hcz42_3,hcz42_4⟩:=bc5_ aO.out;obtain ⟨hfz42_0,hfz42_1,hfz42_2,hfz42_3,hfz42_4⟩:=bf5_ aO.out;have dF:0≤(0:Int):=(by omega);have dG:0<(((Xk aA a1).f1).length:Int):=of_decide_eq_true (by assumption);obtain ⟨eQ,fC,fG,fD,fH,fJ,aK,aL,aM,aN,aD,aF,bG,bE,bH,bF⟩:=at_T69 bU.out 0 dF dG;cases fJ
                have iE:(0<((Xk aA a1).f1).length)=True:=eq_true (by omega)
                (try rw [show ((0:Int)).toNat=0 from rfl] at aK)
                (try rw [show 0 * 6=0 from rfl] at aK)
                (try rw [Addr.add_zero'] at aK)
                (try rw [show ((0:Int)).toNat=0 from rfl] at aL)
                (try rw [show 0 * 6=0 from rfl] at aL)
                (try rw [Addr.add_zero'] at aL)
                (try rw [show ((0:Int)).toNat=0 from rfl] at aM)
                (try rw [show 0 * 6=0 from rfl] at aM)
                (try rw [Addr.add_zero'] at aM)
                (try rw [show ((0:Int)).toNat=0 from rfl] at aN)
                (try rw [show 0 * 6=0 from rfl] at aN)
                (try rw [Addr.add_zero'] at aN)
                (try rw [show ((0:Int)).toNat=0 from rfl] at aD)
                (try rw [show 0 * 6=0 from rfl] at aD)
                (try rw [Addr.add_zero'] at aD)
                (try rw [show ((0:Int)).toNat=0 from rfl] at aF)
                (try rw [show 0 * 6=0 from rfl] at aF)
                (try rw [Addr.add_zero'] at aF)
                replace aK:=bw_ HB aK;replace aL:=bw_ HB aL;replace aM:=bw_ HB aM;replace aN:=bw_ HB aN;replace aD:=bw_ HB aD;replace aF:=bw_ HB aF;have eO:=Xa.mk bE;have eG:=Xa.mk bG;clear bE bG;have eP:=Xa.mk bF;have eH:=Xa.mk bH;clear bF bH;replace dF:=eq_true dF;replace dG:=eq_true dG;obtain ⟨hcz43_0,hcz43_1,hcz43_2,hcz43_3,hcz43_4⟩:=bc5_ aH.out;obtain ⟨hfz43_0,hfz43_1,hfz43_2,hfz43_3,hfz43_4⟩:=bf5_ aH.out;have d9:0≤(0:Int):=(by omega);have eD:0<(((Xk aA a1).f1).length:Int):=of_decide_eq_true (by assumption);obtain ⟨fF,iF,iI,iG,iJ,iL,aV,aW,aX,aY,aR,aS,bX,bV,bY,bW⟩:=at_T69 bU.out 0 d9 eD;obtain rfl:eQ=fF:=(by injection iL);have jE:(0<((Xk aA a1).f1).length)=True:=eq_true (by omega)
                (try rw [show ((0:Int)).toNat=0 from rfl] at aV)
                (try rw [show 0 * 6=0 from rfl] at aV)
                (try rw [Addr.add_zero'] at aV)
                (try rw [show ((0:Int)).toNat=0 from rfl] at aW)
                (try rw [show 0 * 6=0 from rfl] at aW)
                (try rw [Addr.add_zero'] at aW)
                (try rw [show ((0:Int)).toNat=0 from rfl] at aX)
                (try rw [show 0 * 6=0 from rfl] at aX)
                (try rw [Addr.add_zero'] at aX)
                (try rw [show ((0:Int)).toNat=0 from rfl] at aY)
                (try rw [show 0 * 6=0 from rfl] at aY)
                (try rw [Addr.add_zero'] at aY)
                (try rw [show ((0:Int)).toNat=0 from rfl] at aR)
                (try rw [show 0 * 6=0 from rfl] at aR)
                (try rw [Addr.add_zero'] at aR)
                (try rw [show ((0:Int)).toNat=0 from rfl] at aS)
                (try rw [show 0 * 6=0 from rfl] at aS)
                (try rw [Addr.add_zero'] at aS)
                replace aV:=bw_ HB aV;replace aW:=bw_ HB aW;replace aX:=bw_ HB aX;replace aY:=bw_ HB aY;replace aR:=bw_ HB aR;replace aS:=bw_ HB aS;have fO:=Xa.mk bV;have fK:=Xa.mk bX;clear bV bX;have fP:=Xa.mk bW;have fM:=Xa.mk bY;clear bW bY;replace d9:=eq_true d9;replace eD:=eq_true eD;have dZ:=Option.some.inj (aD.symm.trans aR)
                injection dZ with dZ iO iN
                subst dZ;subst iN;clear iO;have dZ:=Option.some.inj (aF.symm.trans aS)
                injection dZ with dZ iO iN
                subst dZ;subst iN;clear iO;have eB:0≤(((Xd ((Xk aA a1).f1) 0).f1):Int):=of_decide_eq_true (by assumption);have eF:((Xd ((Xk aA a1).f1) 0).f1)<(aP.length:Int):=of_decide_eq_true (by assumption);obtain ⟨iT,iM,bZ⟩:=Kd.at_int fE.out ((Xd ((Xk aA a1).f1) 0).f1) eB eF;cases iM
                replace bZ:=bw_ HB bZ;replace eB:=eq_true eB;replace eF:=eq_true eF;go_wp2
                repeat (go_quiet (fail);try go_wp2)
                go_ret
                exact ⟨rf_,bl_ HB⟩
              ·rw [if_neg jI] at H;exact absurd H (by simp)
             ·rw [if_neg jH] at H;exact absurd H (by simp)
            ·rw [if_neg c34] at H;have jB:=beq_eq_false_iff_ne.mpr c34;have jC:=bne_iff_ne.mpr c34;obtain rfl:=Option.some.inj H;have hnb44:=aG.out;have hnc44:=aB.out;obtain ⟨hcz45_0,hcz45_1,hcz45_2,hcz45_3,hcz45_4⟩:=bc5_ aO.out;obtain ⟨hfz45_0,hfz45_1,hfz45_2,hfz45_3,hfz45_4⟩:=bf5_ aO.out;have dF:0≤(0:Int):=(by omega);have dG:0<(((Xk aA a1).f1).length:Int):=of_decide_eq_true (by assumption);obtain ⟨eQ,fC,fG,fD,fH,fJ,aK,aL,aM,aN,aD,aF,bG,bE,bH,bF⟩:=at_T69 bU.out 0 dF dG;cases fJ
             have iE:(0<((Xk aA a1).f1).length)=True:=eq_true (by omega)
             (try rw [show ((0:Int)).toNat=0 from rfl] at aK)
             (try rw [show 0 * 6=0 from rfl] at aK)
             (try rw [Addr.add_zero'] at aK)
             (try rw [show ((0:Int)).toNat=0 from rfl] at aL)
             (try rw [show 0 * 6=0 from rfl] at aL)
             (try rw [Addr.add_zero'] at aL)
             (try rw [show ((0:Int)).toNat=0 from rfl] at aM)
             (try rw [show 0 * 6=0 from rfl] at aM)
             (try rw [Addr.add_zero'] at aM)
             (try rw [show ((0:Int)).toNat=0 from rfl] at aN)
             (try rw [show 0 * 6=0 from rfl] at aN)
             (try rw [Addr.add_zero'] at aN)
             (try rw [show ((0:Int)).toNat=0 from rfl] at aD)
             (try rw [show 0 * 6=0 from rfl] at aD)
             (try rw [Addr.add_zero'] at aD)
             (try rw [show ((0:Int)).toNat=0 from rfl] at aF)
             (try rw [show 0 * 6=0 from rfl] at aF)
             (try rw [Addr.add_zero'] at aF)
             replace aK:=bw_ HB aK;replace aL:=bw_ HB aL;replace aM:=bw_ HB aM;replace aN:=bw_ HB aN;replace aD:=bw_ HB aD;replace aF:=bw_ HB aF;have eO:=Xa.mk bE;have eG:=Xa.mk bG;clear bE bG;have eP:=Xa.mk bF;have eH:=Xa.mk bH;clear bF bH;replace dF:=eq_true dF;replace dG:=eq_true dG;go_wp2
             repeat (go_quiet (fail);try go_wp2)
             go_ret
             exact ⟨rf_,bl_ HB⟩
           ·rw [if_neg jG] at H;exact absurd H (by simp)
     ·rw [if_neg c9] at H;exact absurd H (by simp)
    ·rw [if_neg c8] at H;exact absurd H (by simp)
end Go.Proofs.Ytlhogkfmdnpmkaa.GWhole
