import Derived.Test.YtlhogkfmdnpmkaaGreatCFnExactMarksOf21
set_option linter.unusedVariables false
set_option linter.unusedSimpArgs false
set_option maxRecDepth 100000
namespace Go.Proofs.YtlhogkfmdnpmkaaGreat.GMarks
open RowKit YtlhogkfmdnpmkaaGreatW.PrintWords YtlhogkfmdnpmkaaGreatW.PrintLast YtlhogkfmdnpmkaaGreatW.PrintMore
attribute [local go_sem] Ua Ud Uu Ux Zo Zp Ub Ue
mutual
def Yu.j0:Nat→Int→Bool→List (S85)→List Int→List Int→List (List Int)→List (S118)→Option (Int)
 |0,_,_,_,_,_,_,_=>none
 |k+1,x1,jL,aC,cB,bI,cK,cO=>if jL=true then (some 3) else (if 0≤x1 then (if x1<(aC.length:Int) then (if ((Xk aC x1).f2)=1 then (Yu.j1 k true aC cB bI cK cO ((Xk aC x1).f0) ((Xk aC x1).f1) ((Xk aC x1).f2) ((Xk aC x1).f3) ((Xk aC x1).f4)) else (if ((Xk aC x1).f2)=2 then (if 0≤((Xk aC x1).f4) then (if ((Xk aC x1).f4)<(bI.length:Int) then (Yu.j1 k (decide ((rd bI ((Xk aC x1).f4)) > 0)) aC cB bI cK cO ((Xk aC x1).f0) ((Xk aC x1).f1) ((Xk aC x1).f2) ((Xk aC x1).f3) ((Xk aC x1).f4)) else (none)) else (none)) else (Yu.j1 k false aC cB bI cK cO ((Xk aC x1).f0) ((Xk aC x1).f1) ((Xk aC x1).f2) ((Xk aC x1).f3) ((Xk aC x1).f4)))) else (none)) else (none))
def Yu.j1:Nat→Bool→List (S85)→List Int→List Int→List (List Int)→List (S118)→List Int→List (S87)→Int→Int→Int→Option (Int)
 |0,_,_,_,_,_,_,_,_,_,_,_=>none
 |k+1,x20,aC,cB,bI,cK,cO,x210000,bJ,gJ,x210003,x210004=>if x20=true then (some 2) else (if gJ=2 then (some 0) else (if (bJ.length:Int)=0 then (some 1) else (if 0<(bJ.length:Int) then (if ((Xe bJ 0).f0)=8 then (if 0≤((Xe bJ 0).f1) then (if ((Xe bJ 0).f1)<(bI.length:Int) then (if (rd bI ((Xe bJ 0).f1)) > 0 then (some 2) else (some 0)) else (none)) else (none)) else (some 0)) else (none))))
end
def Yu.f (k:Nat) (aA:List (S85)) (aZ:List Int) (aO:List Int) (bA:List (List Int)) (bB:List (S118)) (a1:Int):Option (Int):=if a1<0 then (Yu.j0 k a1 true aA aZ aO bA bB) else (Yu.j0 k a1 (decide (a1 ≥ (aA.length:Int))) aA aZ aO bA bB)
set_option maxHeartbeats 8000000 in
theorem Yu.calls (k:Nat) (fB:Option Addr) (bO:Nat) (aA:List (S85)) (bK:Option Addr) (bP:Nat) (aZ:List Int) (bL:Option Addr) (bQ:Nat) (aO:List Int) (bM:Option Addr) (bR:Nat) (bA:List (List Int)) (bN:Option Addr) (bS:Nat) (bB:List (S118)) (a1:Int) (r:Int) (w:World) (gY:Kd.C k85 w fB aA.length aA) (gP:aA.length≤bO) (gZ:Kd.C (Kd.int .i64) w bK aZ.length aZ) (gQ:aZ.length≤bP) (iA:Kd.C (Kd.int .i64) w bL aO.length aO) (gT:aO.length≤bQ) (iB:Kd.C (Kd.slice 3 (Kd.int .i64)) w bM bA.length bA) (gU:bA.length≤bR) (iC:Kd.C k118 w bN bB.length bB) (gV:bB.length≤bS) (h:Yu.f k aA aZ aO bA bB a1=some r) :
  Calls Tryz.prog 33 #[.agg #[.slice fB aA.length bO,.slice bK aZ.length bP,.slice bL aO.length bQ,.slice bM bA.length bR,.slice bN bB.length bS],.int .i64 a1] w fun e w'=>e=.returned (.int .i64 r)∧Below w.heap.size w w':=by
 have hu56:=Tryz.underlying56;have hu85:=Tryz.underlying85;have iO:=Xa.mk gY;have HC0_0:=Xa.mk gP;clear gY gP;have HR0_1:=Xa.mk gZ;have HC0_1:=Xa.mk gQ;clear gZ gQ;have fE:=Xa.mk iA;have HC0_2:=Xa.mk gT;clear iA gT;have HR0_3:=Xa.mk iB;have HC0_3:=Xa.mk gU;clear iB gU;have HR0_4:=Xa.mk iC;have HC0_4:=Xa.mk gV;clear iC gV;have HB:=Xa.mk (Below.refl w.heap.size w);have H:(if a1<0 then (Yu.j0 k a1 true aA aZ aO bA bB) else (Yu.j0 k a1 (decide (a1 ≥ (aA.length:Int))) aA aZ aO bA bB))=some r:=h;clear h;have jH:=Xa.mk H;clear H;go_enter Tryz.func33,Tryz.ntmps33;go_upto_region 1 with (first|((with_reducible refine Yv (N:=2) rfl ?_);(try (refine gate_guard rl1_ ?_;dsimp only));refine Zb ?hg (N:=2) ?hd (cs:=#[.slice fB aA.length bO,.slice bK aZ.length bP,.slice bL aO.length bQ,.slice bM bA.length bR,.slice bN bB.length bS]) (t:=56) ?hr ?_;(case hd|hg=>rfl);(case hr=>exact hr_);intro aQ hg w4 hbox hb;have aH:=Xa.mk (hbox);have gM:=Xa.mk ((ge_ hg (Xj (bl_ HB)):w.heap.size≤aQ));have gK:=Xa.mk ((ge_ hg (Xj (bl_ HB)):w.heap.size≤aQ));replace HB:=Xa.mk (Xi (bl_ HB) hb);clear hb hbox hg))
 repeat (go_quiet (first|((with_reducible refine Yv (N:=2) rfl ?_);(try (refine gate_guard rl1_ ?_;dsimp only));refine Zb ?hg (N:=2) ?hd (cs:=#[.slice fB aA.length bO,.slice bK aZ.length bP,.slice bL aO.length bQ,.slice bM bA.length bR,.slice bN bB.length bS]) (t:=56) ?hr ?_;(case hd|hg=>rfl);(case hr=>exact hr_);intro aQ hg w4 hbox hb;have aH:=Xa.mk (hbox);have gM:=Xa.mk ((ge_ hg (Xj (bl_ HB)):w.heap.size≤aQ));have gK:=Xa.mk ((ge_ hg (Xj (bl_ HB)):w.heap.size≤aQ));replace HB:=Xa.mk (Xi (bl_ HB) hb);clear hb hbox hg));go_upto_region 1 with (first|((with_reducible refine Yv (N:=2) rfl ?_);(try (refine gate_guard rl1_ ?_;dsimp only));refine Zb ?hg (N:=2) ?hd (cs:=#[.slice fB aA.length bO,.slice bK aZ.length bP,.slice bL aO.length bQ,.slice bM bA.length bR,.slice bN bB.length bS]) (t:=56) ?hr ?_;(case hd|hg=>rfl);(case hr=>exact hr_);intro aQ hg w4 hbox hb;have aH:=Xa.mk (hbox);have gM:=Xa.mk ((ge_ hg (Xj (bl_ HB)):w.heap.size≤aQ));have gK:=Xa.mk ((ge_ hg (Xj (bl_ HB)):w.heap.size≤aQ));replace HB:=Xa.mk (Xi (bl_ HB) hb);clear hb hbox hg)))
 (try simp only [Act.put,List.setIfInBounds_toArray,List.set_cons_zero,List.set_cons_succ])
 go_cut [14] (fun v14 wc=>∃ (kq:Nat) (eZ:Bool),v14=.bool eZ∧Xa (Yu.j0 kq a1 eZ aA aZ aO bA bB=some r)∧Xa (kq≤k)∧Xa (wc.heap[aQ]?=some (.cells #[(.slice fB aA.length bO),(.slice bK aZ.length bP),(.slice bL aO.length bQ),(.slice bM bA.length bR),(.slice bN bB.length bS)] 56 (0,0)))∧Xa (Below w.heap.size w wc))
 case first=>
  have H:=jH.out;clear jH;by_cases c5:a1<0
  ·rw [if_pos c5] at H;have fI:decide (a1<0)=true:=dt_ c5;clear c5
   (first|rw [fI]|(simp only [i64_w,i32_w];rw [fI])|skip)
   have H':=Xa.mk H;clear H;go_wp2
   repeat (go_quiet (fail);try go_wp2)
   go_meet
   case rel=>exact ⟨_,(true),rg_,H',⟨by first|omega|exact nr_ _⟩,⟨ba_ aH⟩,⟨bl_ HB⟩⟩
  ·rw [if_neg c5] at H;have fI:decide (a1<0)=false:=df_ c5;clear c5
   (first|rw [fI]|(simp only [i64_w,i32_w];rw [fI])|skip)
   have H':=Xa.mk H;clear H;obtain ⟨_,_,_,_,_⟩:=bc5_ aH.out;obtain ⟨_,_,_,_,_⟩:=bf5_ aH.out;go_wp2
   repeat (go_quiet (fail);try go_wp2)
   go_meet
   case rel=>exact ⟨_,(decide (a1 ≥ (aA.length:Int))),rg_,H',⟨by first|omega|exact nr_ _⟩,⟨ba_ aH⟩,⟨bl_ HB⟩⟩
 case rest=>
  clear jH;obtain ⟨kq,eZ,rfl,HA,HJ2,aH,HB⟩:=hcut
  cases kq with
  |zero=>exact absurd HA.out (by simp [Yu.j0])
  |succ jG=>
   have H:=HA.out;clear HA;simp only [Yu.j0] at H;by_cases c7:eZ=true
   ·subst c7
    replace H:(some 3)=some r:=ph_;obtain rfl:=sj_ H;go_wp2
    repeat (go_quiet (fail);try go_wp2)
    go_ret
    exact ⟨rf_,bl_ HB⟩
   ·replace c7:=Bool.eq_false_iff.mpr c7;subst c7
    replace H:(if 0≤a1 then (if a1<(aA.length:Int) then (if ((Xk aA a1).f2)=1 then (Yu.j1 jG true aA aZ aO bA bB ((Xk aA a1).f0) ((Xk aA a1).f1) ((Xk aA a1).f2) ((Xk aA a1).f3) ((Xk aA a1).f4)) else (if ((Xk aA a1).f2)=2 then (if 0≤((Xk aA a1).f4) then (if ((Xk aA a1).f4)<(aO.length:Int) then (Yu.j1 jG (decide ((rd aO ((Xk aA a1).f4)) > 0)) aA aZ aO bA bB ((Xk aA a1).f0) ((Xk aA a1).f1) ((Xk aA a1).f2) ((Xk aA a1).f3) ((Xk aA a1).f4)) else (none)) else (none)) else (Yu.j1 jG false aA aZ aO bA bB ((Xk aA a1).f0) ((Xk aA a1).f1) ((Xk aA a1).f2) ((Xk aA a1).f3) ((Xk aA a1).f4)))) else (none)) else (none))=some r:=fh_;by_cases c8:0≤a1
    ·rw [if_pos c8] at H;have jI:decide (0≤a1)=true:=dt_ c8;clear c8;by_cases c9:a1<(aA.length:Int)
     ·rw [if_pos c9] at H;have jJ:decide (a1<(aA.length:Int))=true:=dt_ c9;clear c9;have iG:=Xa.mk H;clear H;obtain ⟨fP,fQ,fT,fU,fV⟩:=bc5_ aH.out;obtain ⟨fZ,gB,gD,gF,gG⟩:=bf5_ aH.out;have gH:0≤(a1:Int):=od_ as_;have gI:a1<(aA.length:Int):=od_ as_;obtain ⟨bT,aT,aU,bC,bD,e208,dM,dN,dO,dP,dQ,eO,eG,eP,eH⟩:=at_T85 iO.out a1 gH gI;cases e208
      replace dM:=bw_ HB dM;replace dN:=bw_ HB dN;replace dO:=bw_ HB dO;replace dP:=bw_ HB dP;replace dQ:=bw_ HB dQ;have HR208_0:=Xa.mk eG;have HC208_0:=Xa.mk eO;clear eG eO;have bU:=Xa.mk eH;have HC208_1:=Xa.mk eP;clear eH eP;replace gH:=eq_true gH;replace gI:=eq_true gI;go_upto_region 4 with (first|((with_reducible refine Yv (N:=5) rfl ?_);(try (refine gate_guard rl1_ ?_;dsimp only));refine Zb ?hg (N:=5) ?hd (cs:=#[.slice none 0 0,.slice none 0 0,.int .i64 0,.int .i64 0,.int .i64 0]) (t:=85) ?hr ?_;(case hd|hg=>rfl);(case hr=>exact hr_);intro aJ hg jK hbox hb;have aP:=Xa.mk (hbox);have cZ:=Xa.mk ((ge_ hg (Xj (bl_ HB)):w.heap.size≤aJ));have gL:=Xa.mk ((ge_ hg (Xj (bl_ HB)):w.heap.size≤aJ));replace HB:=Xa.mk (Xi (bl_ HB) hb);have aB:=Xa.mk ((by rw [hg];exact Nat.ne_of_lt (Xq (g:=aQ) (o:=.cells #[.slice (some bT) aA.length bO,.slice bK aZ.length bP,.slice bL aO.length bQ,.slice bM bA.length bR,.slice bN bB.length bS] 56 (0,0)) (ba_ aH)):aQ≠aJ));have aG:=Xa.mk ((by rw [hg];exact Nat.ne_of_gt (Xq (g:=aQ) (o:=.cells #[.slice (some bT) aA.length bO,.slice bK aZ.length bP,.slice bL aO.length bQ,.slice bM bA.length bR,.slice bN bB.length bS] 56 (0,0)) (ba_ aH)):aJ≠aQ));replace aH:=Xa.mk (Xm (g:=aQ) (o:=.cells #[.slice (some bT) aA.length bO,.slice bK aZ.length bP,.slice bL aO.length bQ,.slice bM bA.length bR,.slice bN bB.length bS] 56 (0,0)) (ba_ aH) hb);clear hb hbox hg;have gW:=aG.out;have gX:=aB.out;obtain ⟨dC,dD,dE,dF,dG⟩:=bc5_ aP.out;obtain ⟨dH,dI,dJ,dK,dL⟩:=bf5_ aP.out))
      repeat (go_quiet (first|((with_reducible refine Yv (N:=5) rfl ?_);(try (refine gate_guard rl1_ ?_;dsimp only));refine Zb ?hg (N:=5) ?hd (cs:=#[.slice none 0 0,.slice none 0 0,.int .i64 0,.int .i64 0,.int .i64 0]) (t:=85) ?hr ?_;(case hd|hg=>rfl);(case hr=>exact hr_);intro aJ hg jK hbox hb;have aP:=Xa.mk (hbox);have cZ:=Xa.mk ((ge_ hg (Xj (bl_ HB)):w.heap.size≤aJ));have gL:=Xa.mk ((ge_ hg (Xj (bl_ HB)):w.heap.size≤aJ));replace HB:=Xa.mk (Xi (bl_ HB) hb);have aB:=Xa.mk ((by rw [hg];exact Nat.ne_of_lt (Xq (g:=aQ) (o:=.cells #[.slice (some bT) aA.length bO,.slice bK aZ.length bP,.slice bL aO.length bQ,.slice bM bA.length bR,.slice bN bB.length bS] 56 (0,0)) (ba_ aH)):aQ≠aJ));have aG:=Xa.mk ((by rw [hg];exact Nat.ne_of_gt (Xq (g:=aQ) (o:=.cells #[.slice (some bT) aA.length bO,.slice bK aZ.length bP,.slice bL aO.length bQ,.slice bM bA.length bR,.slice bN bB.length bS] 56 (0,0)) (ba_ aH)):aJ≠aQ));replace aH:=Xa.mk (Xm (g:=aQ) (o:=.cells #[.slice (some bT) aA.length bO,.slice bK aZ.length bP,.slice bL aO.length bQ,.slice bM bA.length bR,.slice bN bB.length bS] 56 (0,0)) (ba_ aH) hb);clear hb hbox hg;have gW:=aG.out;have gX:=aB.out;obtain ⟨dC,dD,dE,dF,dG⟩:=bc5_ aP.out;obtain ⟨dH,dI,dJ,dK,dL⟩:=bf5_ aP.out));go_upto_region 4 with (first|((with_reducible refine Yv (N:=5) rfl ?_);(try (refine gate_guard rl1_ ?_;dsimp only));refine Zb ?hg (N:=5) ?hd (cs:=#[.slice none 0 0,.slice none 0 0,.int .i64 0,.int .i64 0,.int .i64 0]) (t:=85) ?hr ?_;(case hd|hg=>rfl);(case hr=>exact hr_);intro aJ hg jK hbox hb;have aP:=Xa.mk (hbox);have cZ:=Xa.mk ((ge_ hg (Xj (bl_ HB)):w.heap.size≤aJ));have gL:=Xa.mk ((ge_ hg (Xj (bl_ HB)):w.heap.size≤aJ));replace HB:=Xa.mk (Xi (bl_ HB) hb);have aB:=Xa.mk ((by rw [hg];exact Nat.ne_of_lt (Xq (g:=aQ) (o:=.cells #[.slice (some bT) aA.length bO,.slice bK aZ.length bP,.slice bL aO.length bQ,.slice bM bA.length bR,.slice bN bB.length bS] 56 (0,0)) (ba_ aH)):aQ≠aJ));have aG:=Xa.mk ((by rw [hg];exact Nat.ne_of_gt (Xq (g:=aQ) (o:=.cells #[.slice (some bT) aA.length bO,.slice bK aZ.length bP,.slice bL aO.length bQ,.slice bM bA.length bR,.slice bN bB.length bS] 56 (0,0)) (ba_ aH)):aJ≠aQ));replace aH:=Xa.mk (Xm (g:=aQ) (o:=.cells #[.slice (some bT) aA.length bO,.slice bK aZ.length bP,.slice bL aO.length bQ,.slice bM bA.length bR,.slice bN bB.length bS] 56 (0,0)) (ba_ aH) hb);clear hb hbox hg;have gW:=aG.out;have gX:=aB.out;obtain ⟨dC,dD,dE,dF,dG⟩:=bc5_ aP.out;obtain ⟨dH,dI,dJ,dK,dL⟩:=bf5_ aP.out)))
      (try simp only [Act.put,List.setIfInBounds_toArray,List.set_cons_zero,List.set_cons_succ])
      go_cut [20] (fun v20 wc=>∃ (kq:Nat) (fA:Bool),v20=.bool fA∧Xa (Yu.j1 kq fA aA aZ aO bA bB ((Xk aA a1).f0) ((Xk aA a1).f1) ((Xk aA a1).f2) ((Xk aA a1).f3) ((Xk aA a1).f4)=some r)∧Xa (kq≤jG)∧Xa (wc.heap[aQ]?=some (.cells #[(.slice (some bT) aA.length bO),(.slice bK aZ.length bP),(.slice bL aO.length bQ),(.slice bM bA.length bR),(.slice bN bB.length bS)] 56 (0,0)))∧Xa (wc.heap[aJ]?=some (.cells #[(.slice aT ((Xk aA a1).f0).length aU),(.slice bC ((Xk aA a1).f1).length bD),.int .i64 ((Xk aA a1).f2),.int .i64 ((Xk aA a1).f3),.int .i64 ((Xk aA a1).f4)] 85 (0,0)))∧Xa (Below w.heap.size w wc))
      case first=>
       have H:=iG.out;clear iG;by_cases c15:((Xk aA a1).f2)=1
       ·rw [if_pos c15] at H;have dS:(((Xk aA a1).f2) == 1)=true:=eb_ c15;have iQ:(((Xk aA a1).f2) != 1)=false:=nq_ c15;clear c15
        (first|rw [dS]|(simp only [i64_w,i32_w];rw [dS])|skip)
        have H':=Xa.mk H;clear H;have hnb16:=aG.out;have hnc16:=aB.out;obtain ⟨_,_,_,_,_⟩:=bc5_ aP.out;obtain ⟨_,_,_,_,_⟩:=bf5_ aP.out;go_wp2
        repeat (go_quiet (fail);try go_wp2)
        go_meet
        case rel=>exact ⟨_,(true),rg_,H',⟨by have:=HJ2.out;first|omega|exact nr_ _⟩,⟨by (with_reducible repeat (first|refine Xx ?_ _|refine Xr ?_|refine Xl ?_ _));refine Yr ?_ aB.out _;(with_reducible repeat (first|refine Xx ?_ _|refine Xr ?_|refine Xl ?_ _));refine Yr ?_ aB.out _;(with_reducible repeat (first|refine Xx ?_ _|refine Xr ?_|refine Xl ?_ _));refine Yr ?_ aB.out _;(with_reducible repeat (first|refine Xx ?_ _|refine Xr ?_|refine Xl ?_ _));refine Yr ?_ aB.out _;(with_reducible repeat (first|refine Xx ?_ _|refine Xr ?_|refine Xl ?_ _));refine Yr ?_ aB.out _;(with_reducible repeat (first|refine Xx ?_ _|refine Xr ?_|refine Xl ?_ _));exact aH.out⟩,⟨by refine bb_ (Xn (cs:=#[.slice aT ((Xk aA a1).f0).length aU,.slice bC ((Xk aA a1).f1).length bD,.int .i64 ((Xk aA a1).f2),.int .i64 ((Xk aA a1).f3),.int .i64 0]) ?_ 4 _ rfl);refine bb_ (Xn (cs:=#[.slice aT ((Xk aA a1).f0).length aU,.slice bC ((Xk aA a1).f1).length bD,.int .i64 ((Xk aA a1).f2),.int .i64 0,.int .i64 0]) ?_ 3 _ rfl);refine bb_ (Xn (cs:=#[.slice aT ((Xk aA a1).f0).length aU,.slice bC ((Xk aA a1).f1).length bD,.int .i64 0,.int .i64 0,.int .i64 0]) ?_ 2 _ rfl);refine bb_ (Xn (cs:=#[.slice aT ((Xk aA a1).f0).length aU,.slice none 0 0,.int .i64 0,.int .i64 0,.int .i64 0]) ?_ 1 _ rfl);refine bb_ (Xn (cs:=#[.slice none 0 0,.slice none 0 0,.int .i64 0,.int .i64 0,.int .i64 0]) ?_ 0 _ rfl);(with_reducible repeat (first|refine Xx ?_ _|refine Xr ?_|refine Xl ?_ _));exact aP.out⟩,⟨bl_ HB⟩⟩
       ·rw [if_neg c15] at H;have dS:(((Xk aA a1).f2) == 1)=false:=nb_ c15;have iQ:(((Xk aA a1).f2) != 1)=true:=nn_ c15
        (first|rw [dS]|(simp only [i64_w,i32_w];rw [dS])|skip)
        by_cases c18:((Xk aA a1).f2)=2
        ·rw [if_pos c18] at H;have iR:(((Xk aA a1).f2) == 2)=true:=eb_ c18;have iT:(((Xk aA a1).f2) != 2)=false:=nq_ c18;clear c18;by_cases c19:0≤((Xk aA a1).f4)
         ·rw [if_pos c19] at H;have c19b0:decide (0≤((Xk aA a1).f4))=true:=dt_ c19;clear c19;by_cases c20:((Xk aA a1).f4)<(aO.length:Int)
          ·rw [if_pos c20] at H;have c20b0:decide (((Xk aA a1).f4)<(aO.length:Int))=true:=dt_ c20;clear c20;have H':=Xa.mk H;clear H;have hnb21:=aG.out;have hnc21:=aB.out;obtain ⟨_,_,_,_,_⟩:=bc5_ aP.out;obtain ⟨_,_,_,_,_⟩:=bf5_ aP.out;obtain ⟨_,_,_,_,_⟩:=bc5_ aH.out;obtain ⟨_,_,_,_,_⟩:=bf5_ aH.out;have iM:0≤(((Xk aA a1).f4):Int):=od_ as_;have iN:((Xk aA a1).f4)<(aO.length:Int):=od_ as_;obtain ⟨dR,e210,aI⟩:=Kd.at_int fE.out ((Xk aA a1).f4) iM iN;cases e210
           have eQ:dR.block≠aJ:=Nat.ne_of_lt (nl_ (by have:=World.block_lt_of_cell? _ _ aI;first|rwa [add_block] at this|exact this) cZ.out);have eT:dR.block≠aJ:=Nat.ne_of_lt (nl_ (by have:=World.block_lt_of_cell? _ _ aI;first|rwa [add_block] at this|exact this) cZ.out);have eU:dR.block≠aJ:=Nat.ne_of_lt (nl_ (by have:=World.block_lt_of_cell? _ _ aI;first|rwa [add_block] at this|exact this) cZ.out);have eX:dR.block≠aJ:=Nat.ne_of_lt (nl_ (by have:=World.block_lt_of_cell? _ _ aI;first|rwa [add_block] at this|exact this) cZ.out);have eY:dR.block≠aJ:=Nat.ne_of_lt (nl_ (by have:=World.block_lt_of_cell? _ _ aI;first|rwa [add_block] at this|exact this) cZ.out);replace aI:=bw_ HB aI;replace aI:=(cell_far (p:=⟨aJ,0,none⟩) (cb_ eQ) (.slice aT ((Xk aA a1).f0).length aU)).trans aI;replace aI:=(cell_far (p:=⟨aJ,1,none⟩) (cb_ eT) (.slice bC ((Xk aA a1).f1).length bD)).trans aI;replace aI:=(cell_far (p:=⟨aJ,2,none⟩) (cb_ eU) (.int .i64 ((Xk aA a1).f2))).trans aI;replace aI:=(cell_far (p:=⟨aJ,3,none⟩) (cb_ eX) (.int .i64 ((Xk aA a1).f3))).trans aI;replace aI:=(cell_far (p:=⟨aJ,4,none⟩) (cb_ eY) (.int .i64 ((Xk aA a1).f4))).trans aI
           (try have hy210_0:=fun (n_:Nat)=>(show (((((((jK.drewN n_).setCell ⟨aJ,0,none⟩ (.slice aT ((Xk aA a1).f0).length aU)).setCell ⟨aJ,1,none⟩ (.slice bC ((Xk aA a1).f1).length bD)).setCell ⟨aJ,2,none⟩ (.int .i64 ((Xk aA a1).f2))).setCell ⟨aJ,3,none⟩ (.int .i64 ((Xk aA a1).f3))).setCell ⟨aJ,4,none⟩ (.int .i64 ((Xk aA a1).f4)))).cell? _=some _ from aI))
           clear eQ eT eU eX eY;replace iM:=eq_true iM;replace iN:=eq_true iN;go_wp2
           repeat (go_quiet (fail);try go_wp2)
           go_meet
           case rel=>exact ⟨_,(decide ((rd aO ((Xk aA a1).f4)) > 0)),rg_,H',⟨by have:=HJ2.out;first|omega|exact nr_ _⟩,⟨by (with_reducible repeat (first|refine Xx ?_ _|refine Xr ?_|refine Xl ?_ _));refine Yr ?_ aB.out _;(with_reducible repeat (first|refine Xx ?_ _|refine Xr ?_|refine Xl ?_ _));refine Yr ?_ aB.out _;(with_reducible repeat (first|refine Xx ?_ _|refine Xr ?_|refine Xl ?_ _));refine Yr ?_ aB.out _;(with_reducible repeat (first|refine Xx ?_ _|refine Xr ?_|refine Xl ?_ _));refine Yr ?_ aB.out _;(with_reducible repeat (first|refine Xx ?_ _|refine Xr ?_|refine Xl ?_ _));refine Yr ?_ aB.out _;(with_reducible repeat (first|refine Xx ?_ _|refine Xr ?_|refine Xl ?_ _));exact aH.out⟩,⟨by refine bb_ (Xn (cs:=#[.slice aT ((Xk aA a1).f0).length aU,.slice bC ((Xk aA a1).f1).length bD,.int .i64 ((Xk aA a1).f2),.int .i64 ((Xk aA a1).f3),.int .i64 0]) ?_ 4 _ rfl);refine bb_ (Xn (cs:=#[.slice aT ((Xk aA a1).f0).length aU,.slice bC ((Xk aA a1).f1).length bD,.int .i64 ((Xk aA a1).f2),.int .i64 0,.int .i64 0]) ?_ 3 _ rfl);refine bb_ (Xn (cs:=#[.slice aT ((Xk aA a1).f0).length aU,.slice bC ((Xk aA a1).f1).length bD,.int .i64 0,.int .i64 0,.int .i64 0]) ?_ 2 _ rfl);refine bb_ (Xn (cs:=#[.slice aT ((Xk aA a1).f0).length aU,.slice none 0 0,.int .i64 0,.int .i64 0,.int .i64 0]) ?_ 1 _ rfl);refine bb_ (Xn (cs:=#[.slice none 0 0,.slice none 0 0,.int .i64 0,.int .i64 0,.int .i64 0]) ?_ 0 _ rfl);(with_reducible repeat (first|refine Xx ?_ _|refine Xr ?_|refine Xl ?_ _));exact aP.out⟩,⟨bl_ HB⟩⟩
          ·rw [if_neg c20] at H;exact absurd H sm_
         ·rw [if_neg c19] at H;exact absurd H sm_
        ·rw [if_neg c18] at H;have iR:(((Xk aA a1).f2) == 2)=false:=nb_ c18;have iT:(((Xk aA a1).f2) != 2)=true:=nn_ c18;have H':=Xa.mk H;clear H;have hnb24:=aG.out;have hnc24:=aB.out;obtain ⟨_,_,_,_,_⟩:=bc5_ aP.out;obtain ⟨_,_,_,_,_⟩:=bf5_ aP.out;go_wp2
         repeat (go_quiet (fail);try go_wp2)
         go_meet
         case rel=>exact ⟨_,(false),rg_,H',⟨by have:=HJ2.out;first|omega|exact nr_ _⟩,⟨by (with_reducible repeat (first|refine Xx ?_ _|refine Xr ?_|refine Xl ?_ _));refine Yr ?_ aB.out _;(with_reducible repeat (first|refine Xx ?_ _|refine Xr ?_|refine Xl ?_ _));refine Yr ?_ aB.out _;(with_reducible repeat (first|refine Xx ?_ _|refine Xr ?_|refine Xl ?_ _));refine Yr ?_ aB.out _;(with_reducible repeat (first|refine Xx ?_ _|refine Xr ?_|refine Xl ?_ _));refine Yr ?_ aB.out _;(with_reducible repeat (first|refine Xx ?_ _|refine Xr ?_|refine Xl ?_ _));refine Yr ?_ aB.out _;(with_reducible repeat (first|refine Xx ?_ _|refine Xr ?_|refine Xl ?_ _));exact aH.out⟩,⟨by refine bb_ (Xn (cs:=#[.slice aT ((Xk aA a1).f0).length aU,.slice bC ((Xk aA a1).f1).length bD,.int .i64 ((Xk aA a1).f2),.int .i64 ((Xk aA a1).f3),.int .i64 0]) ?_ 4 _ rfl);refine bb_ (Xn (cs:=#[.slice aT ((Xk aA a1).f0).length aU,.slice bC ((Xk aA a1).f1).length bD,.int .i64 ((Xk aA a1).f2),.int .i64 0,.int .i64 0]) ?_ 3 _ rfl);refine bb_ (Xn (cs:=#[.slice aT ((Xk aA a1).f0).length aU,.slice bC ((Xk aA a1).f1).length bD,.int .i64 0,.int .i64 0,.int .i64 0]) ?_ 2 _ rfl);refine bb_ (Xn (cs:=#[.slice aT ((Xk aA a1).f0).length aU,.slice none 0 0,.int .i64 0,.int .i64 0,.int .i64 0]) ?_ 1 _ rfl);refine bb_ (Xn (cs:=#[.slice none 0 0,.slice none 0 0,.int .i64 0,.int .i64 0,.int .i64 0]) ?_ 0 _ rfl);(with_reducible repeat (first|refine Xx ?_ _|refine Xr ?_|refine Xl ?_ _));exact aP.out⟩,⟨bl_ HB⟩⟩
      case rest=>
       clear iG
       try clear c7
       try clear c8
       try clear jI
       try clear c9
       try clear jJ
       try clear fP
       try clear fQ
       try clear fT
       try clear fU
       try clear fV
       try clear dC
       try clear dD
       try clear dE
       try clear dF
       try clear dG
       try clear fZ
       try clear gB
       try clear gD
       try clear gF
       try clear gG
       try clear dH
       try clear dI
       try clear dJ
       try clear dK
       try clear dL
       try clear dM
       try clear dN
       try clear dO
       try clear dP
       try clear dQ
       try clear gH
       try clear gI
       obtain ⟨kq,fA,rfl,HA,HJ9,aH,aP,HB⟩:=hcut
       cases kq with
       |zero=>exact absurd HA.out (by simp [Yu.j1])
       |succ kj9=>
        have H:=HA.out;clear HA;simp only [Yu.j1] at H;by_cases jC:fA=true
        ·subst jC
         replace H:(some 2)=some r:=ph_;obtain rfl:=sj_ H;go_wp2
         repeat (go_quiet (fail);try go_wp2)
         go_ret
         exact ⟨rf_,bl_ HB⟩
        ·replace jC:=Bool.eq_false_iff.mpr jC;subst jC
         replace H:(if ((Xk aA a1).f2)=2 then (some 0) else (if (((Xk aA a1).f1).length:Int)=0 then (some 1) else (if 0<(((Xk aA a1).f1).length:Int) then (if ((Xe ((Xk aA a1).f1) 0).f0)=8 then (if 0≤((Xe ((Xk aA a1).f1) 0).f1) then (if ((Xe ((Xk aA a1).f1) 0).f1)<(aO.length:Int) then (if (rd aO ((Xe ((Xk aA a1).f1) 0).f1)) > 0 then (some 2) else (some 0)) else (none)) else (none)) else (some 0)) else (none))))=some r:=fh_;by_cases iJ:((Xk aA a1).f2)=2
         ·rw [if_pos iJ] at H;have iU:(((Xk aA a1).f2) == 2)=true:=eb_ iJ;have iV:(((Xk aA a1).f2) != 2)=false:=nq_ iJ;clear iJ;obtain rfl:=sj_ H;have hnb28:=aG.out;have hnc28:=aB.out;obtain ⟨_,_,_,_,_⟩:=bc5_ aP.out;obtain ⟨_,_,_,_,_⟩:=bf5_ aP.out;go_wp2
          repeat (go_quiet (fail);try go_wp2)
          go_ret
          exact ⟨rf_,bl_ HB⟩
         ·rw [if_neg iJ] at H;have iU:(((Xk aA a1).f2) == 2)=false:=nb_ iJ;have iV:(((Xk aA a1).f2) != 2)=true:=nn_ iJ;by_cases gN:(((Xk aA a1).f1).length:Int)=0
          ·rw [if_pos gN] at H;have iW:((((Xk aA a1).f1).length:Int) == 0)=true:=eb_ gN;have iX:((((Xk aA a1).f1).length:Int) != 0)=false:=nq_ gN;clear gN;obtain rfl:=sj_ H;have hnb31:=aG.out;have hnc31:=aB.out;obtain ⟨_,_,_,_,_⟩:=bc5_ aP.out;obtain ⟨_,_,_,_,_⟩:=bf5_ aP.out;go_wp2
           repeat (go_quiet (fail);try go_wp2)
           go_ret
           exact ⟨rf_,bl_ HB⟩
          ·rw [if_neg gN] at H;have iW:((((Xk aA a1).f1).length:Int) == 0)=false:=nb_ gN;have iX:((((Xk aA a1).f1).length:Int) != 0)=true:=nn_ gN;have c30b2:¬ (((Xk aA a1).f1)=[]):=fun h_=>gN (by rw [h_];rfl);by_cases jD:0<(((Xk aA a1).f1).length:Int)
           ·rw [if_pos jD] at H;have c33b0:decide (0<(((Xk aA a1).f1).length:Int))=true:=dt_ jD;have c33b1:decide (0<((Xk aA a1).f1).length)=true:=dt_ om_;clear jD;by_cases c34:((Xe ((Xk aA a1).f1) 0).f0)=8
            ·rw [if_pos c34] at H;have iY:(((Xe ((Xk aA a1).f1) 0).f0) == 8)=true:=eb_ c34;have iZ:(((Xe ((Xk aA a1).f1) 0).f0) != 8)=false:=nq_ c34;clear c34;by_cases jE:0≤((Xe ((Xk aA a1).f1) 0).f1)
             ·rw [if_pos jE] at H;have c35b0:decide (0≤((Xe ((Xk aA a1).f1) 0).f1))=true:=dt_ jE;clear jE;by_cases jF:((Xe ((Xk aA a1).f1) 0).f1)<(aO.length:Int)
              ·rw [if_pos jF] at H;have c36b0:decide (((Xe ((Xk aA a1).f1) 0).f1)<(aO.length:Int))=true:=dt_ jF;clear jF;by_cases c37:(rd aO ((Xe ((Xk aA a1).f1) 0).f1)) > 0
               ·rw [if_pos c37] at H;have jA:decide (0<(rd aO ((Xe ((Xk aA a1).f1) 0).f1)))=true:=dt_ c37;clear c37;obtain rfl:=sj_ H;have hnb38:=aG.out;have hnc38:=aB.out;obtain ⟨_,_,_,_,_⟩:=bc5_ aP.out;obtain ⟨_,_,_,_,_⟩:=bf5_ aP.out;have dA:0≤(0:Int):=om_;have dB:0<(((Xk aA a1).f1).length:Int):=od_ as_;obtain ⟨eF,fC,fG,fD,fH,e211,aK,aL,aM,aN,aD,aF,bG,bE,bH,bF⟩:=at_T87 bU.out 0 dA dB;cases e211
                have iD:(0<((Xk aA a1).f1).length)=True:=eq_true om_
                (try rw [show ((0:Int)).toNat=0 from rfl] at aK)
                (try rw [show 0 * 6=0 from rfl] at aK)
                (try rw [Addr.add_zero'] at aK)
                (try rw [show ((0:Int)).toNat=0 from rfl] at aL)
                (try rw [show 0 * 6=0 from rfl] at aL)
                (try rw [Addr.add_zero'] at aL)
                (try rw [show ((0:Int)).toNat=0 from rfl] at aM)
                (try rw [show 0 * 6=0 from rfl] at aM)
                (try rw [Addr.add_zero'] at aM)
                (try rw [show ((0:Int)).toNat=0 from rfl] at aN)
                (try rw [show 0 * 6=0 from rfl] at aN)
                (try rw [Addr.add_zero'] at aN)
                (try rw [show ((0:Int)).toNat=0 from rfl] at aD)
                (try rw [show 0 * 6=0 from rfl] at aD)
                (try rw [Addr.add_zero'] at aD)
                (try rw [show ((0:Int)).toNat=0 from rfl] at aF)
                (try rw [show 0 * 6=0 from rfl] at aF)
                (try rw [Addr.add_zero'] at aF)
                replace aK:=bw_ HB aK;replace aL:=bw_ HB aL;replace aM:=bw_ HB aM;replace aN:=bw_ HB aN;replace aD:=bw_ HB aD;replace aF:=bw_ HB aF;have eB:=Xa.mk bE;have dZ:=Xa.mk bG;clear bE bG;have eD:=Xa.mk bF;have d9:=Xa.mk bH;clear bF bH;replace dA:=eq_true dA;replace dB:=eq_true dB;obtain ⟨_,_,_,_,_⟩:=bc5_ aH.out;obtain ⟨_,_,_,_,_⟩:=bf5_ aH.out;have dV:0≤(0:Int):=om_;have dX:0<(((Xk aA a1).f1).length:Int):=od_ as_;obtain ⟨fF,iE,iH,iF,iI,e212,aV,aW,aX,aY,aR,aS,bX,bV,bY,bW⟩:=at_T87 bU.out 0 dV dX;obtain rfl:eF=fF:=(by injection e212);have jB:(0<((Xk aA a1).f1).length)=True:=eq_true om_
                (try rw [show ((0:Int)).toNat=0 from rfl] at aV)
                (try rw [show 0 * 6=0 from rfl] at aV)
                (try rw [Addr.add_zero'] at aV)
                (try rw [show ((0:Int)).toNat=0 from rfl] at aW)
                (try rw [show 0 * 6=0 from rfl] at aW)
                (try rw [Addr.add_zero'] at aW)
                (try rw [show ((0:Int)).toNat=0 from rfl] at aX)
                (try rw [show 0 * 6=0 from rfl] at aX)
                (try rw [Addr.add_zero'] at aX)
                (try rw [show ((0:Int)).toNat=0 from rfl] at aY)
                (try rw [show 0 * 6=0 from rfl] at aY)
                (try rw [Addr.add_zero'] at aY)
                (try rw [show ((0:Int)).toNat=0 from rfl] at aR)
                (try rw [show 0 * 6=0 from rfl] at aR)
                (try rw [Addr.add_zero'] at aR)
                (try rw [show ((0:Int)).toNat=0 from rfl] at aS)
                (try rw [show 0 * 6=0 from rfl] at aS)
                (try rw [Addr.add_zero'] at aS)
                replace aV:=bw_ HB aV;replace aW:=bw_ HB aW;replace aX:=bw_ HB aX;replace aY:=bw_ HB aY;replace aR:=bw_ HB aR;replace aS:=bw_ HB aS;have fM:=Xa.mk bV;have fJ:=Xa.mk bX;clear bV bX;have fO:=Xa.mk bW;have fK:=Xa.mk bY;clear bW bY;replace dV:=eq_true dV;replace dX:=eq_true dX;have dU:=sj_ (aD.symm.trans aR);injection dU with dU iL iK;subst dU;subst iK;clear iL;have dU:=sj_ (aF.symm.trans aS);injection dU with dU iL iK;subst dU;subst iK;clear iL;have dW:0≤(((Xe ((Xk aA a1).f1) 0).f1):Int):=od_ as_;have dY:((Xe ((Xk aA a1).f1) 0).f1)<(aO.length:Int):=od_ as_;obtain ⟨iP,e213,bZ⟩:=Kd.at_int fE.out ((Xe ((Xk aA a1).f1) 0).f1) dW dY;cases e213
                replace bZ:=bw_ HB bZ;replace dW:=eq_true dW;replace dY:=eq_true dY;go_wp2
                repeat (go_quiet (fail);try go_wp2)
                go_ret
                exact ⟨rf_,bl_ HB⟩
               ·rw [if_neg c37] at H;have jA:decide (0<(rd aO ((Xe ((Xk aA a1).f1) 0).f1)))=false:=df_ c37;clear c37;obtain rfl:=sj_ H;have hnb41:=aG.out;have hnc41:=aB.out;obtain ⟨_,_,_,_,_⟩:=bc5_ aP.out;obtain ⟨_,_,_,_,_⟩:=bf5_ aP.out;have dA:0≤(0:Int):=om_;have dB:0<(((Xk aA a1).f1).length:Int):=od_ as_;obtain ⟨eF,fC,fG,fD,fH,e211,aK,aL,aM,aN,aD,aF,bG,bE,bH,bF⟩:=at_T87 bU.out 0 dA dB;cases e211
                have iD:(0<((Xk aA a1).f1).length)=True:=eq_true om_
                (try rw [show ((0:Int)).toNat=0 from rfl] at aK)
                (try rw [show 0 * 6=0 from rfl] at aK)
                (try rw [Addr.add_zero'] at aK)
                (try rw [show ((0:Int)).toNat=0 from rfl] at aL)
                (try rw [show 0 * 6=0 from rfl] at aL)
                (try rw [Addr.add_zero'] at aL)
                (try rw [show ((0:Int)).toNat=0 from rfl] at aM)
                (try rw [show 0 * 6=0 from rfl] at aM)
                (try rw [Addr.add_zero'] at aM)
                (try rw [show ((0:Int)).toNat=0 from rfl] at aN)
                (try rw [show 0 * 6=0 from rfl] at aN)
                (try rw [Addr.add_zero'] at aN)
                (try rw [show ((0:Int)).toNat=0 from rfl] at aD)
                (try rw [show 0 * 6=0 from rfl] at aD)
                (try rw [Addr.add_zero'] at aD)
                (try rw [show ((0:Int)).toNat=0 from rfl] at aF)
                (try rw [show 0 * 6=0 from rfl] at aF)
                (try rw [Addr.add_zero'] at aF)
                replace aK:=bw_ HB aK;replace aL:=bw_ HB aL;replace aM:=bw_ HB aM;replace aN:=bw_ HB aN;replace aD:=bw_ HB aD;replace aF:=bw_ HB aF;have eB:=Xa.mk bE;have dZ:=Xa.mk bG;clear bE bG;have eD:=Xa.mk bF;have d9:=Xa.mk bH;clear bF bH;replace dA:=eq_true dA;replace dB:=eq_true dB;obtain ⟨_,_,_,_,_⟩:=bc5_ aH.out;obtain ⟨_,_,_,_,_⟩:=bf5_ aH.out;have dV:0≤(0:Int):=om_;have dX:0<(((Xk aA a1).f1).length:Int):=od_ as_;obtain ⟨fF,iE,iH,iF,iI,e212,aV,aW,aX,aY,aR,aS,bX,bV,bY,bW⟩:=at_T87 bU.out 0 dV dX;obtain rfl:eF=fF:=(by injection e212);have jB:(0<((Xk aA a1).f1).length)=True:=eq_true om_
                (try rw [show ((0:Int)).toNat=0 from rfl] at aV)
                (try rw [show 0 * 6=0 from rfl] at aV)
                (try rw [Addr.add_zero'] at aV)
                (try rw [show ((0:Int)).toNat=0 from rfl] at aW)
                (try rw [show 0 * 6=0 from rfl] at aW)
                (try rw [Addr.add_zero'] at aW)
                (try rw [show ((0:Int)).toNat=0 from rfl] at aX)
                (try rw [show 0 * 6=0 from rfl] at aX)
                (try rw [Addr.add_zero'] at aX)
                (try rw [show ((0:Int)).toNat=0 from rfl] at aY)
                (try rw [show 0 * 6=0 from rfl] at aY)
                (try rw [Addr.add_zero'] at aY)
                (try rw [show ((0:Int)).toNat=0 from rfl] at aR)
                (try rw [show 0 * 6=0 from rfl] at aR)
                (try rw [Addr.add_zero'] at aR)
                (try rw [show ((0:Int)).toNat=0 from rfl] at aS)
                (try rw [show 0 * 6=0 from rfl] at aS)
                (try rw [Addr.add_zero'] at aS)
                replace aV:=bw_ HB aV;replace aW:=bw_ HB aW;replace aX:=bw_ HB aX;replace aY:=bw_ HB aY;replace aR:=bw_ HB aR;replace aS:=bw_ HB aS;have fM:=Xa.mk bV;have fJ:=Xa.mk bX;clear bV bX;have fO:=Xa.mk bW;have fK:=Xa.mk bY;clear bW bY;replace dV:=eq_true dV;replace dX:=eq_true dX;have dU:=sj_ (aD.symm.trans aR);injection dU with dU iL iK;subst dU;subst iK;clear iL;have dU:=sj_ (aF.symm.trans aS);injection dU with dU iL iK;subst dU;subst iK;clear iL;have dW:0≤(((Xe ((Xk aA a1).f1) 0).f1):Int):=od_ as_;have dY:((Xe ((Xk aA a1).f1) 0).f1)<(aO.length:Int):=od_ as_;obtain ⟨iP,e213,bZ⟩:=Kd.at_int fE.out ((Xe ((Xk aA a1).f1) 0).f1) dW dY;cases e213
                replace bZ:=bw_ HB bZ;replace dW:=eq_true dW;replace dY:=eq_true dY;go_wp2
                repeat (go_quiet (fail);try go_wp2)
                go_ret
                exact ⟨rf_,bl_ HB⟩
              ·rw [if_neg jF] at H;exact absurd H sm_
             ·rw [if_neg jE] at H;exact absurd H sm_
            ·rw [if_neg c34] at H;have iY:(((Xe ((Xk aA a1).f1) 0).f0) == 8)=false:=nb_ c34;have iZ:(((Xe ((Xk aA a1).f1) 0).f0) != 8)=true:=nn_ c34;obtain rfl:=sj_ H;have hnb44:=aG.out;have hnc44:=aB.out;obtain ⟨_,_,_,_,_⟩:=bc5_ aP.out;obtain ⟨_,_,_,_,_⟩:=bf5_ aP.out;have dA:0≤(0:Int):=om_;have dB:0<(((Xk aA a1).f1).length:Int):=od_ as_;obtain ⟨eF,fC,fG,fD,fH,e211,aK,aL,aM,aN,aD,aF,bG,bE,bH,bF⟩:=at_T87 bU.out 0 dA dB;cases e211
             have iD:(0<((Xk aA a1).f1).length)=True:=eq_true om_
             (try rw [show ((0:Int)).toNat=0 from rfl] at aK)
             (try rw [show 0 * 6=0 from rfl] at aK)
             (try rw [Addr.add_zero'] at aK)
             (try rw [show ((0:Int)).toNat=0 from rfl] at aL)
             (try rw [show 0 * 6=0 from rfl] at aL)
             (try rw [Addr.add_zero'] at aL)
             (try rw [show ((0:Int)).toNat=0 from rfl] at aM)
             (try rw [show 0 * 6=0 from rfl] at aM)
             (try rw [Addr.add_zero'] at aM)
             (try rw [show ((0:Int)).toNat=0 from rfl] at aN)
             (try rw [show 0 * 6=0 from rfl] at aN)
             (try rw [Addr.add_zero'] at aN)
             (try rw [show ((0:Int)).toNat=0 from rfl] at aD)
             (try rw [show 0 * 6=0 from rfl] at aD)
             (try rw [Addr.add_zero'] at aD)
             (try rw [show ((0:Int)).toNat=0 from rfl] at aF)
             (try rw [show 0 * 6=0 from rfl] at aF)
             (try rw [Addr.add_zero'] at aF)
             replace aK:=bw_ HB aK;replace aL:=bw_ HB aL;replace aM:=bw_ HB aM;replace aN:=bw_ HB aN;replace aD:=bw_ HB aD;replace aF:=bw_ HB aF;have eB:=Xa.mk bE;have dZ:=Xa.mk bG;clear bE bG;have eD:=Xa.mk bF;have d9:=Xa.mk bH;clear bF bH;replace dA:=eq_true dA;replace dB:=eq_true dB;go_wp2
             repeat (go_quiet (fail);try go_wp2)
             go_ret
             exact ⟨rf_,bl_ HB⟩
           ·rw [if_neg jD] at H;exact absurd H sm_
     ·rw [if_neg c9] at H;exact absurd H sm_
    ·rw [if_neg c8] at H;exact absurd H sm_
end Go.Proofs.YtlhogkfmdnpmkaaGreat.GMarks
