import Derived.Test.YtlhogkfmdnpmkaaCFnWholeOrder21
set_option linter.unusedVariables false
set_option linter.unusedSimpArgs false
set_option maxRecDepth 100000
namespace Go.Proofs.Ytlhogkfmdnpmkaa.GWhole
open RowKit YtlhogkfmdnpmkaaW.PrintWords YtlhogkfmdnpmkaaW.PrintLast YtlhogkfmdnpmkaaW.PrintMore
attribute [local go_sem] Uq Us max_two min_two Zz Ua Ur Ut
mutual
def Xv.j0:Nat→Int→Bool→List (S67)→List Int→List Int→List (List Int)→List (S95)→Option (Int)
 |0,_,_,_,_,_,_,_=>none
 |k+1,x1,jR,aC,cB,bI,cK,cO=>if jR=true then (some 3) else (if 0≤x1 then (if x1<(aC.length:Int) then (if ((Xl aC x1).f2)=1 then (Xv.j1 k true aC cB bI cK cO ((Xl aC x1).f0) ((Xl aC x1).f1) ((Xl aC x1).f2) ((Xl aC x1).f3) ((Xl aC x1).f4)) else (if ((Xl aC x1).f2)=2 then (if 0≤((Xl aC x1).f4) then (if ((Xl aC x1).f4)<(bI.length:Int) then (Xv.j1 k (decide ((rd bI ((Xl aC x1).f4)) > 0)) aC cB bI cK cO ((Xl aC x1).f0) ((Xl aC x1).f1) ((Xl aC x1).f2) ((Xl aC x1).f3) ((Xl aC x1).f4)) else (none)) else (none)) else (Xv.j1 k false aC cB bI cK cO ((Xl aC x1).f0) ((Xl aC x1).f1) ((Xl aC x1).f2) ((Xl aC x1).f3) ((Xl aC x1).f4)))) else (none)) else (none))
def Xv.j1:Nat→Bool→List (S67)→List Int→List Int→List (List Int)→List (S95)→List Int→List (S69)→Int→Int→Int→Option (Int)
 |0,_,_,_,_,_,_,_,_,_,_,_=>none
 |k+1,x20,aC,cB,bI,cK,cO,x143000,bJ,gK,x143003,x143004=>if x20=true then (some 2) else (if gK=2 then (some 0) else (if (bJ.length:Int)=0 then (some 1) else (if 0<(bJ.length:Int) then (if ((Xb bJ 0).f0)=8 then (if 0≤((Xb bJ 0).f1) then (if ((Xb bJ 0).f1)<(bI.length:Int) then (if (rd bI ((Xb bJ 0).f1)) > 0 then (some 2) else (some 0)) else (none)) else (none)) else (some 0)) else (none))))
end
def Xv.f (k:Nat) (aA:List (S67)) (aZ:List Int) (aO:List Int) (bA:List (List Int)) (bB:List (S95)) (a1:Int):Option (Int):=if a1<0 then (Xv.j0 k a1 true aA aZ aO bA bB) else (Xv.j0 k a1 (decide (a1 ≥ (aA.length:Int))) aA aZ aO bA bB)
theorem Xv.mono_l:∀ k,(∀ y0 y1 y2 y3 y4 y5 y6,LeO (Xv.j0 k y0 y1 y2 y3 y4 y5 y6) (Xv.j0 (k+1) y0 y1 y2 y3 y4 y5 y6))∧(∀ y0 y1 y2 y3 y4 y5 y6 y7 y8 y9 jQ,LeO (Xv.j1 k y0 y1 y2 y3 y4 y5 y6 y7 y8 y9 jQ) (Xv.j1 (k+1) y0 y1 y2 y3 y4 y5 y6 y7 y8 y9 jQ))
 |0=>⟨fun _ _ _ _ _ _ _ r h=>by simp [Xv.j0] at h,fun _ _ _ _ _ _ _ _ _ _ _ r h=>by simp [Xv.j1] at h⟩
 |k+1=>by
  obtain ⟨iP,ih1⟩:=Xv.mono_l k;refine ⟨?_,?_⟩
  ·intro y0 y1 y2 y3 y4 y5 y6;unfold Xv.j0
   repeat' first
   |(with_reducible exact iP _ _ _ _ _ _ _)
   |(with_reducible exact ih1 _ _ _ _ _ _ _ _ _ _ _)
   |(with_reducible exact LeO.refl _)
   |(with_reducible exact LeO.none _)
   |(with_reducible refine LeO.ite ?_ ?_)
   |(with_reducible refine LeO.bind ?_ (fun _=>?_))
   |exact iP _ _ _ _ _ _ _
   |exact ih1 _ _ _ _ _ _ _ _ _ _ _
   |exact LeO.none _
   |refine LeO.ite ?_ ?_
   |refine LeO.bind ?_ (fun _=>?_)
  ·intro y0 y1 y2 y3 y4 y5 y6 y7 y8 y9 jQ;unfold Xv.j1
   repeat' first
   |(with_reducible exact iP _ _ _ _ _ _ _)
   |(with_reducible exact ih1 _ _ _ _ _ _ _ _ _ _ _)
   |(with_reducible exact LeO.refl _)
   |(with_reducible exact LeO.none _)
   |(with_reducible refine LeO.ite ?_ ?_)
   |(with_reducible refine LeO.bind ?_ (fun _=>?_))
   |exact iP _ _ _ _ _ _ _
   |exact ih1 _ _ _ _ _ _ _ _ _ _ _
   |exact LeO.none _
   |refine LeO.ite ?_ ?_
   |refine LeO.bind ?_ (fun _=>?_)
theorem Xv.mono:∀ a0 a1 a2 a3 a4 a5 k,LeO (Xv.f k a0 a1 a2 a3 a4 a5) (Xv.f (k+1) a0 a1 a2 a3 a4 a5):=by
 intro a0 a1 a2 a3 a4 a5 k;obtain ⟨iP,ih1⟩:=Xv.mono_l k;unfold Xv.f
 repeat' first
   |(with_reducible exact iP _ _ _ _ _ _ _)
   |(with_reducible exact ih1 _ _ _ _ _ _ _ _ _ _ _)
   |(with_reducible exact LeO.refl _)
   |(with_reducible exact LeO.none _)
   |(with_reducible refine LeO.ite ?_ ?_)
   |(with_reducible refine LeO.bind ?_ (fun _=>?_))
   |exact iP _ _ _ _ _ _ _
   |exact ih1 _ _ _ _ _ _ _ _ _ _ _
   |exact LeO.none _
   |refine LeO.ite ?_ ?_
   |refine LeO.bind ?_ (fun _=>?_)
set_option maxHeartbeats 8000000 in
theorem Xv.calls (k:Nat) (fB:Option Addr) (bO:Nat) (aA:List (S67)) (bK:Option Addr) (bP:Nat) (aZ:List Int) (bL:Option Addr) (bQ:Nat) (aO:List Int) (bM:Option Addr) (bR:Nat) (bA:List (List Int)) (bN:Option Addr) (bS:Nat) (bB:List (S95)) (a1:Int) (r:Int) (w:World) (gZ:Kd.C k67 w fB aA.length aA) (gQ:aA.length≤bO) (iA:Kd.C (Kd.int .i64) w bK aZ.length aZ) (gT:aZ.length≤bP) (iB:Kd.C (Kd.int .i64) w bL aO.length aO) (gU:aO.length≤bQ) (iC:Kd.C (Kd.slice 3 (Kd.int .i64)) w bM bA.length bA) (gV:bA.length≤bR) (iD:Kd.C k95 w bN bB.length bB) (gW:bB.length≤bS) (h:Xv.f k aA aZ aO bA bB a1=some r) :
  Calls Try.prog 20 #[.agg #[.slice fB aA.length bO,.slice bK aZ.length bP,.slice bL aO.length bQ,.slice bM bA.length bR,.slice bN bB.length bS],.int .i64 a1] w fun e w'=>e=.returned (.int .i64 r)∧Below w.heap.size w w':=by
 have hu45:=Try.underlying45;have hu67:=Try.underlying67;have iT:=Xa.mk gZ;have HC0_0:=Xa.mk gQ;clear gZ gQ;have HR0_1:=Xa.mk iA;have HC0_1:=Xa.mk gT;clear iA gT;have fE:=Xa.mk iB;have HC0_2:=Xa.mk gU;clear iB gU;have HR0_3:=Xa.mk iC;have HC0_3:=Xa.mk gV;clear iC gV;have HR0_4:=Xa.mk iD;have HC0_4:=Xa.mk gW;clear iD gW;have HB:=Xa.mk (Below.refl w.heap.size w);have H:(if a1<0 then (Xv.j0 k a1 true aA aZ aO bA bB) else (Xv.j0 k a1 (decide (a1 ≥ (aA.length:Int))) aA aZ aO bA bB))=some r:=h;clear h;have jL:=Xa.mk H;clear H;go_enter Try.func20,Try.ntmps20;go_upto_region 1 with (first|((with_reducible refine Zc (N:=2) rfl ?_);(try (refine gate_guard rl1_ ?_;dsimp only));refine Zy ?hg (N:=2) ?hd (cs:=#[.slice fB aA.length bO,.slice bK aZ.length bP,.slice bL aO.length bQ,.slice bM bA.length bR,.slice bN bB.length bS]) (t:=45) ?hr ?_;(case hd|hg=>rfl);(case hr=>exact hr_);intro aQ hg w4 hbox hb;have aH:=Xa.mk (hbox);have gN:=Xa.mk ((ge_ hg (Xr (bl_ HB)):w.heap.size≤aQ));have gL:=Xa.mk ((ge_ hg (Xr (bl_ HB)):w.heap.size≤aQ));replace HB:=Xa.mk (Xo (bl_ HB) hb);clear hb hbox hg))
 repeat (go_quiet (first|((with_reducible refine Zc (N:=2) rfl ?_);(try (refine gate_guard rl1_ ?_;dsimp only));refine Zy ?hg (N:=2) ?hd (cs:=#[.slice fB aA.length bO,.slice bK aZ.length bP,.slice bL aO.length bQ,.slice bM bA.length bR,.slice bN bB.length bS]) (t:=45) ?hr ?_;(case hd|hg=>rfl);(case hr=>exact hr_);intro aQ hg w4 hbox hb;have aH:=Xa.mk (hbox);have gN:=Xa.mk ((ge_ hg (Xr (bl_ HB)):w.heap.size≤aQ));have gL:=Xa.mk ((ge_ hg (Xr (bl_ HB)):w.heap.size≤aQ));replace HB:=Xa.mk (Xo (bl_ HB) hb);clear hb hbox hg));go_upto_region 1 with (first|((with_reducible refine Zc (N:=2) rfl ?_);(try (refine gate_guard rl1_ ?_;dsimp only));refine Zy ?hg (N:=2) ?hd (cs:=#[.slice fB aA.length bO,.slice bK aZ.length bP,.slice bL aO.length bQ,.slice bM bA.length bR,.slice bN bB.length bS]) (t:=45) ?hr ?_;(case hd|hg=>rfl);(case hr=>exact hr_);intro aQ hg w4 hbox hb;have aH:=Xa.mk (hbox);have gN:=Xa.mk ((ge_ hg (Xr (bl_ HB)):w.heap.size≤aQ));have gL:=Xa.mk ((ge_ hg (Xr (bl_ HB)):w.heap.size≤aQ));replace HB:=Xa.mk (Xo (bl_ HB) hb);clear hb hbox hg)))
 (try simp only [Act.put,List.setIfInBounds_toArray,List.set_cons_zero,List.set_cons_succ])
 go_cut [14] (fun v14 wc=>∃ (kq:Nat) (eZ:Bool),v14=.bool eZ∧Xa (Xv.j0 kq a1 eZ aA aZ aO bA bB=some r)∧Xa (kq≤k)∧Xa (wc.heap[aQ]?=some (.cells #[(.slice fB aA.length bO),(.slice bK aZ.length bP),(.slice bL aO.length bQ),(.slice bM bA.length bR),(.slice bN bB.length bS)] 45 (0,0)))∧Xa (Below w.heap.size w wc))
 case first=>
  have H:=jL.out;clear jL;by_cases c5:a1<0
  ·rw [if_pos c5] at H;have fI:decide (a1<0)=true:=dt_ c5;clear c5
   (first|rw [fI]|(simp only [i64_w,i32_w];rw [fI])|skip)
   have H':=Xa.mk H;clear H;go_wp2
   repeat (go_quiet (fail);try go_wp2)
   go_meet
   case rel=>exact ⟨_,(true),rg_,H',⟨by first|omega|exact nr_ _⟩,⟨ba_ aH⟩,⟨bl_ HB⟩⟩
  ·rw [if_neg c5] at H;have fI:decide (a1<0)=false:=df_ c5;clear c5
   (first|rw [fI]|(simp only [i64_w,i32_w];rw [fI])|skip)
   have H':=Xa.mk H;clear H;obtain ⟨_,_,_,_,_⟩:=bc5_ aH.out;obtain ⟨_,_,_,_,_⟩:=bf5_ aH.out;go_wp2
   repeat (go_quiet (fail);try go_wp2)
   go_meet
   case rel=>exact ⟨_,(decide (a1 ≥ (aA.length:Int))),rg_,H',⟨by first|omega|exact nr_ _⟩,⟨ba_ aH⟩,⟨bl_ HB⟩⟩
 case rest=>
  clear jL;obtain ⟨kq,eZ,rfl,HA,HJ2,aH,HB⟩:=hcut
  cases kq with
  |zero=>exact absurd HA.out (by simp [Xv.j0])
  |succ jK=>
   have H:=HA.out;clear HA;simp only [Xv.j0] at H;by_cases c7:eZ=true
   ·subst c7
    replace H:(some 3)=some r:=ph_;obtain rfl:=sj_ H;go_wp2
    repeat (go_quiet (fail);try go_wp2)
    go_ret
    exact ⟨rf_,bl_ HB⟩
   ·replace c7:=Bool.eq_false_iff.mpr c7;subst c7
    replace H:(if 0≤a1 then (if a1<(aA.length:Int) then (if ((Xl aA a1).f2)=1 then (Xv.j1 jK true aA aZ aO bA bB ((Xl aA a1).f0) ((Xl aA a1).f1) ((Xl aA a1).f2) ((Xl aA a1).f3) ((Xl aA a1).f4)) else (if ((Xl aA a1).f2)=2 then (if 0≤((Xl aA a1).f4) then (if ((Xl aA a1).f4)<(aO.length:Int) then (Xv.j1 jK (decide ((rd aO ((Xl aA a1).f4)) > 0)) aA aZ aO bA bB ((Xl aA a1).f0) ((Xl aA a1).f1) ((Xl aA a1).f2) ((Xl aA a1).f3) ((Xl aA a1).f4)) else (none)) else (none)) else (Xv.j1 jK false aA aZ aO bA bB ((Xl aA a1).f0) ((Xl aA a1).f1) ((Xl aA a1).f2) ((Xl aA a1).f3) ((Xl aA a1).f4)))) else (none)) else (none))=some r:=fh_;by_cases c8:0≤a1
    ·rw [if_pos c8] at H;have jM:decide (0≤a1)=true:=dt_ c8;clear c8;by_cases c9:a1<(aA.length:Int)
     ·rw [if_pos c9] at H;have jN:decide (a1<(aA.length:Int))=true:=dt_ c9;clear c9;have iH:=Xa.mk H;clear H;obtain ⟨fQ,fT,fU,fV,fZ⟩:=bc5_ aH.out;obtain ⟨gB,gD,gF,gG,gH⟩:=bf5_ aH.out;have gI:0≤(a1:Int):=od_ as_;have gJ:a1<(aA.length:Int):=od_ as_;obtain ⟨bT,aT,aU,bC,bD,jO,dM,dN,dO,dP,dQ,eO,eG,eP,eH⟩:=at_T67 iT.out a1 gI gJ;cases jO
      replace dM:=bw_ HB dM;replace dN:=bw_ HB dN;replace dO:=bw_ HB dO;replace dP:=bw_ HB dP;replace dQ:=bw_ HB dQ;have HR141_0:=Xa.mk eG;have HC141_0:=Xa.mk eO;clear eG eO;have bU:=Xa.mk eH;have HC141_1:=Xa.mk eP;clear eH eP;replace gI:=eq_true gI;replace gJ:=eq_true gJ;go_upto_region 4 with (first|((with_reducible refine Zc (N:=5) rfl ?_);(try (refine gate_guard rl1_ ?_;dsimp only));refine Zy ?hg (N:=5) ?hd (cs:=#[.slice none 0 0,.slice none 0 0,.int .i64 0,.int .i64 0,.int .i64 0]) (t:=67) ?hr ?_;(case hd|hg=>rfl);(case hr=>exact hr_);intro aJ hg jP hbox hb;have aP:=Xa.mk (hbox);have cZ:=Xa.mk ((ge_ hg (Xr (bl_ HB)):w.heap.size≤aJ));have gM:=Xa.mk ((ge_ hg (Xr (bl_ HB)):w.heap.size≤aJ));replace HB:=Xa.mk (Xo (bl_ HB) hb);have aB:=Xa.mk ((by rw [hg];exact Nat.ne_of_lt (Yt (g:=aQ) (o:=.cells #[.slice (some bT) aA.length bO,.slice bK aZ.length bP,.slice bL aO.length bQ,.slice bM bA.length bR,.slice bN bB.length bS] 45 (0,0)) (ba_ aH)):aQ≠aJ));have aG:=Xa.mk ((by rw [hg];exact Nat.ne_of_gt (Yt (g:=aQ) (o:=.cells #[.slice (some bT) aA.length bO,.slice bK aZ.length bP,.slice bL aO.length bQ,.slice bM bA.length bR,.slice bN bB.length bS] 45 (0,0)) (ba_ aH)):aJ≠aQ));replace aH:=Xa.mk (Xu (g:=aQ) (o:=.cells #[.slice (some bT) aA.length bO,.slice bK aZ.length bP,.slice bL aO.length bQ,.slice bM bA.length bR,.slice bN bB.length bS] 45 (0,0)) (ba_ aH) hb);clear hb hbox hg;have gX:=aG.out;have gY:=aB.out;obtain ⟨dC,dD,dE,dF,dG⟩:=bc5_ aP.out;obtain ⟨dH,dI,dJ,dK,dL⟩:=bf5_ aP.out))
      repeat (go_quiet (first|((with_reducible refine Zc (N:=5) rfl ?_);(try (refine gate_guard rl1_ ?_;dsimp only));refine Zy ?hg (N:=5) ?hd (cs:=#[.slice none 0 0,.slice none 0 0,.int .i64 0,.int .i64 0,.int .i64 0]) (t:=67) ?hr ?_;(case hd|hg=>rfl);(case hr=>exact hr_);intro aJ hg jP hbox hb;have aP:=Xa.mk (hbox);have cZ:=Xa.mk ((ge_ hg (Xr (bl_ HB)):w.heap.size≤aJ));have gM:=Xa.mk ((ge_ hg (Xr (bl_ HB)):w.heap.size≤aJ));replace HB:=Xa.mk (Xo (bl_ HB) hb);have aB:=Xa.mk ((by rw [hg];exact Nat.ne_of_lt (Yt (g:=aQ) (o:=.cells #[.slice (some bT) aA.length bO,.slice bK aZ.length bP,.slice bL aO.length bQ,.slice bM bA.length bR,.slice bN bB.length bS] 45 (0,0)) (ba_ aH)):aQ≠aJ));have aG:=Xa.mk ((by rw [hg];exact Nat.ne_of_gt (Yt (g:=aQ) (o:=.cells #[.slice (some bT) aA.length bO,.slice bK aZ.length bP,.slice bL aO.length bQ,.slice bM bA.length bR,.slice bN bB.length bS] 45 (0,0)) (ba_ aH)):aJ≠aQ));replace aH:=Xa.mk (Xu (g:=aQ) (o:=.cells #[.slice (some bT) aA.length bO,.slice bK aZ.length bP,.slice bL aO.length bQ,.slice bM bA.length bR,.slice bN bB.length bS] 45 (0,0)) (ba_ aH) hb);clear hb hbox hg;have gX:=aG.out;have gY:=aB.out;obtain ⟨dC,dD,dE,dF,dG⟩:=bc5_ aP.out;obtain ⟨dH,dI,dJ,dK,dL⟩:=bf5_ aP.out));go_upto_region 4 with (first|((with_reducible refine Zc (N:=5) rfl ?_);(try (refine gate_guard rl1_ ?_;dsimp only));refine Zy ?hg (N:=5) ?hd (cs:=#[.slice none 0 0,.slice none 0 0,.int .i64 0,.int .i64 0,.int .i64 0]) (t:=67) ?hr ?_;(case hd|hg=>rfl);(case hr=>exact hr_);intro aJ hg jP hbox hb;have aP:=Xa.mk (hbox);have cZ:=Xa.mk ((ge_ hg (Xr (bl_ HB)):w.heap.size≤aJ));have gM:=Xa.mk ((ge_ hg (Xr (bl_ HB)):w.heap.size≤aJ));replace HB:=Xa.mk (Xo (bl_ HB) hb);have aB:=Xa.mk ((by rw [hg];exact Nat.ne_of_lt (Yt (g:=aQ) (o:=.cells #[.slice (some bT) aA.length bO,.slice bK aZ.length bP,.slice bL aO.length bQ,.slice bM bA.length bR,.slice bN bB.length bS] 45 (0,0)) (ba_ aH)):aQ≠aJ));have aG:=Xa.mk ((by rw [hg];exact Nat.ne_of_gt (Yt (g:=aQ) (o:=.cells #[.slice (some bT) aA.length bO,.slice bK aZ.length bP,.slice bL aO.length bQ,.slice bM bA.length bR,.slice bN bB.length bS] 45 (0,0)) (ba_ aH)):aJ≠aQ));replace aH:=Xa.mk (Xu (g:=aQ) (o:=.cells #[.slice (some bT) aA.length bO,.slice bK aZ.length bP,.slice bL aO.length bQ,.slice bM bA.length bR,.slice bN bB.length bS] 45 (0,0)) (ba_ aH) hb);clear hb hbox hg;have gX:=aG.out;have gY:=aB.out;obtain ⟨dC,dD,dE,dF,dG⟩:=bc5_ aP.out;obtain ⟨dH,dI,dJ,dK,dL⟩:=bf5_ aP.out)))
      (try simp only [Act.put,List.setIfInBounds_toArray,List.set_cons_zero,List.set_cons_succ])
      go_cut [20] (fun v20 wc=>∃ (kq:Nat) (fA:Bool),v20=.bool fA∧Xa (Xv.j1 kq fA aA aZ aO bA bB ((Xl aA a1).f0) ((Xl aA a1).f1) ((Xl aA a1).f2) ((Xl aA a1).f3) ((Xl aA a1).f4)=some r)∧Xa (kq≤jK)∧Xa (wc.heap[aQ]?=some (.cells #[(.slice (some bT) aA.length bO),(.slice bK aZ.length bP),(.slice bL aO.length bQ),(.slice bM bA.length bR),(.slice bN bB.length bS)] 45 (0,0)))∧Xa (wc.heap[aJ]?=some (.cells #[(.slice aT ((Xl aA a1).f0).length aU),(.slice bC ((Xl aA a1).f1).length bD),.int .i64 ((Xl aA a1).f2),.int .i64 ((Xl aA a1).f3),.int .i64 ((Xl aA a1).f4)] 67 (0,0)))∧Xa (Below w.heap.size w wc))
      case first=>
       have H:=iH.out;clear iH;by_cases c15:((Xl aA a1).f2)=1
       ·rw [if_pos c15] at H;have dS:(((Xl aA a1).f2) == 1)=true:=eb_ c15;have iV:(((Xl aA a1).f2) != 1)=false:=nq_ c15;clear c15
        (first|rw [dS]|(simp only [i64_w,i32_w];rw [dS])|skip)
        have H':=Xa.mk H;clear H;have hnb16:=aG.out;have hnc16:=aB.out;obtain ⟨_,_,_,_,_⟩:=bc5_ aP.out;obtain ⟨_,_,_,_,_⟩:=bf5_ aP.out;go_wp2
        repeat (go_quiet (fail);try go_wp2)
        go_meet
        case rel=>exact ⟨_,(true),rg_,H',⟨by have:=HJ2.out;first|omega|exact nr_ _⟩,⟨by (with_reducible repeat (first|refine Zq ?_ _|refine Yy ?_|refine Zb ?_ _));refine Zv ?_ aB.out _;(with_reducible repeat (first|refine Zq ?_ _|refine Yy ?_|refine Zb ?_ _));refine Zv ?_ aB.out _;(with_reducible repeat (first|refine Zq ?_ _|refine Yy ?_|refine Zb ?_ _));refine Zv ?_ aB.out _;(with_reducible repeat (first|refine Zq ?_ _|refine Yy ?_|refine Zb ?_ _));refine Zv ?_ aB.out _;(with_reducible repeat (first|refine Zq ?_ _|refine Yy ?_|refine Zb ?_ _));refine Zv ?_ aB.out _;(with_reducible repeat (first|refine Zq ?_ _|refine Yy ?_|refine Zb ?_ _));exact aH.out⟩,⟨by refine bb_ (Zx (cs:=#[.slice aT ((Xl aA a1).f0).length aU,.slice bC ((Xl aA a1).f1).length bD,.int .i64 ((Xl aA a1).f2),.int .i64 ((Xl aA a1).f3),.int .i64 0]) ?_ 4 _ rfl);refine bb_ (Zx (cs:=#[.slice aT ((Xl aA a1).f0).length aU,.slice bC ((Xl aA a1).f1).length bD,.int .i64 ((Xl aA a1).f2),.int .i64 0,.int .i64 0]) ?_ 3 _ rfl);refine bb_ (Zx (cs:=#[.slice aT ((Xl aA a1).f0).length aU,.slice bC ((Xl aA a1).f1).length bD,.int .i64 0,.int .i64 0,.int .i64 0]) ?_ 2 _ rfl);refine bb_ (Zx (cs:=#[.slice aT ((Xl aA a1).f0).length aU,.slice none 0 0,.int .i64 0,.int .i64 0,.int .i64 0]) ?_ 1 _ rfl);refine bb_ (Zx (cs:=#[.slice none 0 0,.slice none 0 0,.int .i64 0,.int .i64 0,.int .i64 0]) ?_ 0 _ rfl);(with_reducible repeat (first|refine Zq ?_ _|refine Yy ?_|refine Zb ?_ _));exact aP.out⟩,⟨bl_ HB⟩⟩
       ·rw [if_neg c15] at H;have dS:(((Xl aA a1).f2) == 1)=false:=nb_ c15;have iV:(((Xl aA a1).f2) != 1)=true:=nn_ c15
        (first|rw [dS]|(simp only [i64_w,i32_w];rw [dS])|skip)
        by_cases c18:((Xl aA a1).f2)=2
        ·rw [if_pos c18] at H;have iW:(((Xl aA a1).f2) == 2)=true:=eb_ c18;have iX:(((Xl aA a1).f2) != 2)=false:=nq_ c18;clear c18;by_cases c19:0≤((Xl aA a1).f4)
         ·rw [if_pos c19] at H;have c19b0:decide (0≤((Xl aA a1).f4))=true:=dt_ c19;clear c19;by_cases c20:((Xl aA a1).f4)<(aO.length:Int)
          ·rw [if_pos c20] at H;have c20b0:decide (((Xl aA a1).f4)<(aO.length:Int))=true:=dt_ c20;clear c20;have H':=Xa.mk H;clear H;have hnb21:=aG.out;have hnc21:=aB.out;obtain ⟨_,_,_,_,_⟩:=bc5_ aP.out;obtain ⟨_,_,_,_,_⟩:=bf5_ aP.out;obtain ⟨_,_,_,_,_⟩:=bc5_ aH.out;obtain ⟨_,_,_,_,_⟩:=bf5_ aH.out;have iQ:0≤(((Xl aA a1).f4):Int):=od_ as_;have iR:((Xl aA a1).f4)<(aO.length:Int):=od_ as_;obtain ⟨dR,e143,aI⟩:=Kd.at_int fE.out ((Xl aA a1).f4) iQ iR;cases e143
           have eQ:dR.block≠aJ:=Nat.ne_of_lt (nl_ (by have:=World.block_lt_of_cell? _ _ aI;first|rwa [add_block] at this|exact this) cZ.out);have eT:dR.block≠aJ:=Nat.ne_of_lt (nl_ (by have:=World.block_lt_of_cell? _ _ aI;first|rwa [add_block] at this|exact this) cZ.out);have eU:dR.block≠aJ:=Nat.ne_of_lt (nl_ (by have:=World.block_lt_of_cell? _ _ aI;first|rwa [add_block] at this|exact this) cZ.out);have eX:dR.block≠aJ:=Nat.ne_of_lt (nl_ (by have:=World.block_lt_of_cell? _ _ aI;first|rwa [add_block] at this|exact this) cZ.out);have eY:dR.block≠aJ:=Nat.ne_of_lt (nl_ (by have:=World.block_lt_of_cell? _ _ aI;first|rwa [add_block] at this|exact this) cZ.out);replace aI:=bw_ HB aI;replace aI:=(cell_far (p:=⟨aJ,0,none⟩) (cb_ eQ) (.slice aT ((Xl aA a1).f0).length aU)).trans aI;replace aI:=(cell_far (p:=⟨aJ,1,none⟩) (cb_ eT) (.slice bC ((Xl aA a1).f1).length bD)).trans aI;replace aI:=(cell_far (p:=⟨aJ,2,none⟩) (cb_ eU) (.int .i64 ((Xl aA a1).f2))).trans aI;replace aI:=(cell_far (p:=⟨aJ,3,none⟩) (cb_ eX) (.int .i64 ((Xl aA a1).f3))).trans aI;replace aI:=(cell_far (p:=⟨aJ,4,none⟩) (cb_ eY) (.int .i64 ((Xl aA a1).f4))).trans aI
           (try have hy143_0:=fun (n_:Nat)=>(show (((((((jP.drewN n_).setCell ⟨aJ,0,none⟩ (.slice aT ((Xl aA a1).f0).length aU)).setCell ⟨aJ,1,none⟩ (.slice bC ((Xl aA a1).f1).length bD)).setCell ⟨aJ,2,none⟩ (.int .i64 ((Xl aA a1).f2))).setCell ⟨aJ,3,none⟩ (.int .i64 ((Xl aA a1).f3))).setCell ⟨aJ,4,none⟩ (.int .i64 ((Xl aA a1).f4)))).cell? _=some _ from aI))
           clear eQ eT eU eX eY;replace iQ:=eq_true iQ;replace iR:=eq_true iR;go_wp2
           repeat (go_quiet (fail);try go_wp2)
           go_meet
           case rel=>exact ⟨_,(decide ((rd aO ((Xl aA a1).f4)) > 0)),rg_,H',⟨by have:=HJ2.out;first|omega|exact nr_ _⟩,⟨by (with_reducible repeat (first|refine Zq ?_ _|refine Yy ?_|refine Zb ?_ _));refine Zv ?_ aB.out _;(with_reducible repeat (first|refine Zq ?_ _|refine Yy ?_|refine Zb ?_ _));refine Zv ?_ aB.out _;(with_reducible repeat (first|refine Zq ?_ _|refine Yy ?_|refine Zb ?_ _));refine Zv ?_ aB.out _;(with_reducible repeat (first|refine Zq ?_ _|refine Yy ?_|refine Zb ?_ _));refine Zv ?_ aB.out _;(with_reducible repeat (first|refine Zq ?_ _|refine Yy ?_|refine Zb ?_ _));refine Zv ?_ aB.out _;(with_reducible repeat (first|refine Zq ?_ _|refine Yy ?_|refine Zb ?_ _));exact aH.out⟩,⟨by refine bb_ (Zx (cs:=#[.slice aT ((Xl aA a1).f0).length aU,.slice bC ((Xl aA a1).f1).length bD,.int .i64 ((Xl aA a1).f2),.int .i64 ((Xl aA a1).f3),.int .i64 0]) ?_ 4 _ rfl);refine bb_ (Zx (cs:=#[.slice aT ((Xl aA a1).f0).length aU,.slice bC ((Xl aA a1).f1).length bD,.int .i64 ((Xl aA a1).f2),.int .i64 0,.int .i64 0]) ?_ 3 _ rfl);refine bb_ (Zx (cs:=#[.slice aT ((Xl aA a1).f0).length aU,.slice bC ((Xl aA a1).f1).length bD,.int .i64 0,.int .i64 0,.int .i64 0]) ?_ 2 _ rfl);refine bb_ (Zx (cs:=#[.slice aT ((Xl aA a1).f0).length aU,.slice none 0 0,.int .i64 0,.int .i64 0,.int .i64 0]) ?_ 1 _ rfl);refine bb_ (Zx (cs:=#[.slice none 0 0,.slice none 0 0,.int .i64 0,.int .i64 0,.int .i64 0]) ?_ 0 _ rfl);(with_reducible repeat (first|refine Zq ?_ _|refine Yy ?_|refine Zb ?_ _));exact aP.out⟩,⟨bl_ HB⟩⟩
          ·rw [if_neg c20] at H;exact absurd H sm_
         ·rw [if_neg c19] at H;exact absurd H sm_
        ·rw [if_neg c18] at H;have iW:(((Xl aA a1).f2) == 2)=false:=nb_ c18;have iX:(((Xl aA a1).f2) != 2)=true:=nn_ c18;have H':=Xa.mk H;clear H;have hnb24:=aG.out;have hnc24:=aB.out;obtain ⟨_,_,_,_,_⟩:=bc5_ aP.out;obtain ⟨_,_,_,_,_⟩:=bf5_ aP.out;go_wp2
         repeat (go_quiet (fail);try go_wp2)
         go_meet
         case rel=>exact ⟨_,(false),rg_,H',⟨by have:=HJ2.out;first|omega|exact nr_ _⟩,⟨by (with_reducible repeat (first|refine Zq ?_ _|refine Yy ?_|refine Zb ?_ _));refine Zv ?_ aB.out _;(with_reducible repeat (first|refine Zq ?_ _|refine Yy ?_|refine Zb ?_ _));refine Zv ?_ aB.out _;(with_reducible repeat (first|refine Zq ?_ _|refine Yy ?_|refine Zb ?_ _));refine Zv ?_ aB.out _;(with_reducible repeat (first|refine Zq ?_ _|refine Yy ?_|refine Zb ?_ _));refine Zv ?_ aB.out _;(with_reducible repeat (first|refine Zq ?_ _|refine Yy ?_|refine Zb ?_ _));refine Zv ?_ aB.out _;(with_reducible repeat (first|refine Zq ?_ _|refine Yy ?_|refine Zb ?_ _));exact aH.out⟩,⟨by refine bb_ (Zx (cs:=#[.slice aT ((Xl aA a1).f0).length aU,.slice bC ((Xl aA a1).f1).length bD,.int .i64 ((Xl aA a1).f2),.int .i64 ((Xl aA a1).f3),.int .i64 0]) ?_ 4 _ rfl);refine bb_ (Zx (cs:=#[.slice aT ((Xl aA a1).f0).length aU,.slice bC ((Xl aA a1).f1).length bD,.int .i64 ((Xl aA a1).f2),.int .i64 0,.int .i64 0]) ?_ 3 _ rfl);refine bb_ (Zx (cs:=#[.slice aT ((Xl aA a1).f0).length aU,.slice bC ((Xl aA a1).f1).length bD,.int .i64 0,.int .i64 0,.int .i64 0]) ?_ 2 _ rfl);refine bb_ (Zx (cs:=#[.slice aT ((Xl aA a1).f0).length aU,.slice none 0 0,.int .i64 0,.int .i64 0,.int .i64 0]) ?_ 1 _ rfl);refine bb_ (Zx (cs:=#[.slice none 0 0,.slice none 0 0,.int .i64 0,.int .i64 0,.int .i64 0]) ?_ 0 _ rfl);(with_reducible repeat (first|refine Zq ?_ _|refine Yy ?_|refine Zb ?_ _));exact aP.out⟩,⟨bl_ HB⟩⟩
      case rest=>
       clear iH
       try clear c7
       try clear c8
       try clear jM
       try clear c9
       try clear jN
       try clear fQ
       try clear fT
       try clear fU
       try clear fV
       try clear fZ
       try clear dC
       try clear dD
       try clear dE
       try clear dF
       try clear dG
       try clear gB
       try clear gD
       try clear gF
       try clear gG
       try clear gH
       try clear dH
       try clear dI
       try clear dJ
       try clear dK
       try clear dL
       try clear dM
       try clear dN
       try clear dO
       try clear dP
       try clear dQ
       try clear gI
       try clear gJ
       obtain ⟨kq,fA,rfl,HA,HJ9,aH,aP,HB⟩:=hcut
       cases kq with
       |zero=>exact absurd HA.out (by simp [Xv.j1])
       |succ kj9=>
        have H:=HA.out;clear HA;simp only [Xv.j1] at H;by_cases jG:fA=true
        ·subst jG
         replace H:(some 2)=some r:=ph_;obtain rfl:=sj_ H;go_wp2
         repeat (go_quiet (fail);try go_wp2)
         go_ret
         exact ⟨rf_,bl_ HB⟩
        ·replace jG:=Bool.eq_false_iff.mpr jG;subst jG
         replace H:(if ((Xl aA a1).f2)=2 then (some 0) else (if (((Xl aA a1).f1).length:Int)=0 then (some 1) else (if 0<(((Xl aA a1).f1).length:Int) then (if ((Xb ((Xl aA a1).f1) 0).f0)=8 then (if 0≤((Xb ((Xl aA a1).f1) 0).f1) then (if ((Xb ((Xl aA a1).f1) 0).f1)<(aO.length:Int) then (if (rd aO ((Xb ((Xl aA a1).f1) 0).f1)) > 0 then (some 2) else (some 0)) else (none)) else (none)) else (some 0)) else (none))))=some r:=fh_;by_cases iK:((Xl aA a1).f2)=2
         ·rw [if_pos iK] at H;have iY:(((Xl aA a1).f2) == 2)=true:=eb_ iK;have iZ:(((Xl aA a1).f2) != 2)=false:=nq_ iK;clear iK;obtain rfl:=sj_ H;have hnb28:=aG.out;have hnc28:=aB.out;obtain ⟨_,_,_,_,_⟩:=bc5_ aP.out;obtain ⟨_,_,_,_,_⟩:=bf5_ aP.out;go_wp2
          repeat (go_quiet (fail);try go_wp2)
          go_ret
          exact ⟨rf_,bl_ HB⟩
         ·rw [if_neg iK] at H;have iY:(((Xl aA a1).f2) == 2)=false:=nb_ iK;have iZ:(((Xl aA a1).f2) != 2)=true:=nn_ iK;by_cases gP:(((Xl aA a1).f1).length:Int)=0
          ·rw [if_pos gP] at H;have jA:((((Xl aA a1).f1).length:Int) == 0)=true:=eb_ gP;have jB:((((Xl aA a1).f1).length:Int) != 0)=false:=nq_ gP;clear gP;obtain rfl:=sj_ H;have hnb31:=aG.out;have hnc31:=aB.out;obtain ⟨_,_,_,_,_⟩:=bc5_ aP.out;obtain ⟨_,_,_,_,_⟩:=bf5_ aP.out;go_wp2
           repeat (go_quiet (fail);try go_wp2)
           go_ret
           exact ⟨rf_,bl_ HB⟩
          ·rw [if_neg gP] at H;have jA:((((Xl aA a1).f1).length:Int) == 0)=false:=nb_ gP;have jB:((((Xl aA a1).f1).length:Int) != 0)=true:=nn_ gP;have c30b2:¬ (((Xl aA a1).f1)=[]):=fun h_=>gP (by rw [h_];rfl);by_cases jH:0<(((Xl aA a1).f1).length:Int)
           ·rw [if_pos jH] at H;have c33b0:decide (0<(((Xl aA a1).f1).length:Int))=true:=dt_ jH;have c33b1:decide (0<((Xl aA a1).f1).length)=true:=dt_ om_;clear jH;by_cases c34:((Xb ((Xl aA a1).f1) 0).f0)=8
            ·rw [if_pos c34] at H;have jC:(((Xb ((Xl aA a1).f1) 0).f0) == 8)=true:=eb_ c34;have jD:(((Xb ((Xl aA a1).f1) 0).f0) != 8)=false:=nq_ c34;clear c34;by_cases jI:0≤((Xb ((Xl aA a1).f1) 0).f1)
             ·rw [if_pos jI] at H;have c35b0:decide (0≤((Xb ((Xl aA a1).f1) 0).f1))=true:=dt_ jI;clear jI;by_cases jJ:((Xb ((Xl aA a1).f1) 0).f1)<(aO.length:Int)
              ·rw [if_pos jJ] at H;have c36b0:decide (((Xb ((Xl aA a1).f1) 0).f1)<(aO.length:Int))=true:=dt_ jJ;clear jJ;by_cases c37:(rd aO ((Xb ((Xl aA a1).f1) 0).f1)) > 0
               ·rw [if_pos c37] at H;have jE:decide (0<(rd aO ((Xb ((Xl aA a1).f1) 0).f1)))=true:=dt_ c37;clear c37;obtain rfl:=sj_ H;have hnb38:=aG.out;have hnc38:=aB.out;obtain ⟨_,_,_,_,_⟩:=bc5_ aP.out;obtain ⟨_,_,_,_,_⟩:=bf5_ aP.out;have dA:0≤(0:Int):=om_;have dB:0<(((Xl aA a1).f1).length:Int):=od_ as_;obtain ⟨eF,fC,fG,fD,fH,fJ,aK,aL,aM,aN,aD,aF,bG,bE,bH,bF⟩:=at_T69 bU.out 0 dA dB;cases fJ
                have iE:(0<((Xl aA a1).f1).length)=True:=eq_true om_
                (try rw [show ((0:Int)).toNat=0 from rfl] at aK)
                (try rw [show 0 * 6=0 from rfl] at aK)
                (try rw [Addr.add_zero'] at aK)
                (try rw [show ((0:Int)).toNat=0 from rfl] at aL)
                (try rw [show 0 * 6=0 from rfl] at aL)
                (try rw [Addr.add_zero'] at aL)
                (try rw [show ((0:Int)).toNat=0 from rfl] at aM)
                (try rw [show 0 * 6=0 from rfl] at aM)
                (try rw [Addr.add_zero'] at aM)
                (try rw [show ((0:Int)).toNat=0 from rfl] at aN)
                (try rw [show 0 * 6=0 from rfl] at aN)
                (try rw [Addr.add_zero'] at aN)
                (try rw [show ((0:Int)).toNat=0 from rfl] at aD)
                (try rw [show 0 * 6=0 from rfl] at aD)
                (try rw [Addr.add_zero'] at aD)
                (try rw [show ((0:Int)).toNat=0 from rfl] at aF)
                (try rw [show 0 * 6=0 from rfl] at aF)
                (try rw [Addr.add_zero'] at aF)
                replace aK:=bw_ HB aK;replace aL:=bw_ HB aL;replace aM:=bw_ HB aM;replace aN:=bw_ HB aN;replace aD:=bw_ HB aD;replace aF:=bw_ HB aF;have eB:=Xa.mk bE;have dZ:=Xa.mk bG;clear bE bG;have eD:=Xa.mk bF;have d9:=Xa.mk bH;clear bF bH;replace dA:=eq_true dA;replace dB:=eq_true dB;obtain ⟨_,_,_,_,_⟩:=bc5_ aH.out;obtain ⟨_,_,_,_,_⟩:=bf5_ aH.out;have dV:0≤(0:Int):=om_;have dX:0<(((Xl aA a1).f1).length:Int):=od_ as_;obtain ⟨fF,iF,iI,iG,iJ,iL,aV,aW,aX,aY,aR,aS,bX,bV,bY,bW⟩:=at_T69 bU.out 0 dV dX;obtain rfl:eF=fF:=(by injection iL);have jF:(0<((Xl aA a1).f1).length)=True:=eq_true om_
                (try rw [show ((0:Int)).toNat=0 from rfl] at aV)
                (try rw [show 0 * 6=0 from rfl] at aV)
                (try rw [Addr.add_zero'] at aV)
                (try rw [show ((0:Int)).toNat=0 from rfl] at aW)
                (try rw [show 0 * 6=0 from rfl] at aW)
                (try rw [Addr.add_zero'] at aW)
                (try rw [show ((0:Int)).toNat=0 from rfl] at aX)
                (try rw [show 0 * 6=0 from rfl] at aX)
                (try rw [Addr.add_zero'] at aX)
                (try rw [show ((0:Int)).toNat=0 from rfl] at aY)
                (try rw [show 0 * 6=0 from rfl] at aY)
                (try rw [Addr.add_zero'] at aY)
                (try rw [show ((0:Int)).toNat=0 from rfl] at aR)
                (try rw [show 0 * 6=0 from rfl] at aR)
                (try rw [Addr.add_zero'] at aR)
                (try rw [show ((0:Int)).toNat=0 from rfl] at aS)
                (try rw [show 0 * 6=0 from rfl] at aS)
                (try rw [Addr.add_zero'] at aS)
                replace aV:=bw_ HB aV;replace aW:=bw_ HB aW;replace aX:=bw_ HB aX;replace aY:=bw_ HB aY;replace aR:=bw_ HB aR;replace aS:=bw_ HB aS;have fO:=Xa.mk bV;have fK:=Xa.mk bX;clear bV bX;have fP:=Xa.mk bW;have fM:=Xa.mk bY;clear bW bY;replace dV:=eq_true dV;replace dX:=eq_true dX;have dU:=sj_ (aD.symm.trans aR);injection dU with dU iO iN;subst dU;subst iN;clear iO;have dU:=sj_ (aF.symm.trans aS);injection dU with dU iO iN;subst dU;subst iN;clear iO;have dW:0≤(((Xb ((Xl aA a1).f1) 0).f1):Int):=od_ as_;have dY:((Xb ((Xl aA a1).f1) 0).f1)<(aO.length:Int):=od_ as_;obtain ⟨iU,iM,bZ⟩:=Kd.at_int fE.out ((Xb ((Xl aA a1).f1) 0).f1) dW dY;cases iM
                replace bZ:=bw_ HB bZ;replace dW:=eq_true dW;replace dY:=eq_true dY;go_wp2
                repeat (go_quiet (fail);try go_wp2)
                go_ret
                exact ⟨rf_,bl_ HB⟩
               ·rw [if_neg c37] at H;have jE:decide (0<(rd aO ((Xb ((Xl aA a1).f1) 0).f1)))=false:=df_ c37;clear c37;obtain rfl:=sj_ H;have hnb41:=aG.out;have hnc41:=aB.out;obtain ⟨_,_,_,_,_⟩:=bc5_ aP.out;obtain ⟨_,_,_,_,_⟩:=bf5_ aP.out;have dA:0≤(0:Int):=om_;have dB:0<(((Xl aA a1).f1).length:Int):=od_ as_;obtain ⟨eF,fC,fG,fD,fH,fJ,aK,aL,aM,aN,aD,aF,bG,bE,bH,bF⟩:=at_T69 bU.out 0 dA dB;cases fJ
                have iE:(0<((Xl aA a1).f1).length)=True:=eq_true om_
                (try rw [show ((0:Int)).toNat=0 from rfl] at aK)
                (try rw [show 0 * 6=0 from rfl] at aK)
                (try rw [Addr.add_zero'] at aK)
                (try rw [show ((0:Int)).toNat=0 from rfl] at aL)
                (try rw [show 0 * 6=0 from rfl] at aL)
                (try rw [Addr.add_zero'] at aL)
                (try rw [show ((0:Int)).toNat=0 from rfl] at aM)
                (try rw [show 0 * 6=0 from rfl] at aM)
                (try rw [Addr.add_zero'] at aM)
                (try rw [show ((0:Int)).toNat=0 from rfl] at aN)
                (try rw [show 0 * 6=0 from rfl] at aN)
                (try rw [Addr.add_zero'] at aN)
                (try rw [show ((0:Int)).toNat=0 from rfl] at aD)
                (try rw [show 0 * 6=0 from rfl] at aD)
                (try rw [Addr.add_zero'] at aD)
                (try rw [show ((0:Int)).toNat=0 from rfl] at aF)
                (try rw [show 0 * 6=0 from rfl] at aF)
                (try rw [Addr.add_zero'] at aF)
                replace aK:=bw_ HB aK;replace aL:=bw_ HB aL;replace aM:=bw_ HB aM;replace aN:=bw_ HB aN;replace aD:=bw_ HB aD;replace aF:=bw_ HB aF;have eB:=Xa.mk bE;have dZ:=Xa.mk bG;clear bE bG;have eD:=Xa.mk bF;have d9:=Xa.mk bH;clear bF bH;replace dA:=eq_true dA;replace dB:=eq_true dB;obtain ⟨_,_,_,_,_⟩:=bc5_ aH.out;obtain ⟨_,_,_,_,_⟩:=bf5_ aH.out;have dV:0≤(0:Int):=om_;have dX:0<(((Xl aA a1).f1).length:Int):=od_ as_;obtain ⟨fF,iF,iI,iG,iJ,iL,aV,aW,aX,aY,aR,aS,bX,bV,bY,bW⟩:=at_T69 bU.out 0 dV dX;obtain rfl:eF=fF:=(by injection iL);have jF:(0<((Xl aA a1).f1).length)=True:=eq_true om_
                (try rw [show ((0:Int)).toNat=0 from rfl] at aV)
                (try rw [show 0 * 6=0 from rfl] at aV)
                (try rw [Addr.add_zero'] at aV)
                (try rw [show ((0:Int)).toNat=0 from rfl] at aW)
                (try rw [show 0 * 6=0 from rfl] at aW)
                (try rw [Addr.add_zero'] at aW)
                (try rw [show ((0:Int)).toNat=0 from rfl] at aX)
                (try rw [show 0 * 6=0 from rfl] at aX)
                (try rw [Addr.add_zero'] at aX)
                (try rw [show ((0:Int)).toNat=0 from rfl] at aY)
                (try rw [show 0 * 6=0 from rfl] at aY)
                (try rw [Addr.add_zero'] at aY)
                (try rw [show ((0:Int)).toNat=0 from rfl] at aR)
                (try rw [show 0 * 6=0 from rfl] at aR)
                (try rw [Addr.add_zero'] at aR)
                (try rw [show ((0:Int)).toNat=0 from rfl] at aS)
                (try rw [show 0 * 6=0 from rfl] at aS)
                (try rw [Addr.add_zero'] at aS)
                replace aV:=bw_ HB aV;replace aW:=bw_ HB aW;replace aX:=bw_ HB aX;replace aY:=bw_ HB aY;replace aR:=bw_ HB aR;replace aS:=bw_ HB aS;have fO:=Xa.mk bV;have fK:=Xa.mk bX;clear bV bX;have fP:=Xa.mk bW;have fM:=Xa.mk bY;clear bW bY;replace dV:=eq_true dV;replace dX:=eq_true dX;have dU:=sj_ (aD.symm.trans aR);injection dU with dU iO iN;subst dU;subst iN;clear iO;have dU:=sj_ (aF.symm.trans aS);injection dU with dU iO iN;subst dU;subst iN;clear iO;have dW:0≤(((Xb ((Xl aA a1).f1) 0).f1):Int):=od_ as_;have dY:((Xb ((Xl aA a1).f1) 0).f1)<(aO.length:Int):=od_ as_;obtain ⟨iU,iM,bZ⟩:=Kd.at_int fE.out ((Xb ((Xl aA a1).f1) 0).f1) dW dY;cases iM
                replace bZ:=bw_ HB bZ;replace dW:=eq_true dW;replace dY:=eq_true dY;go_wp2
                repeat (go_quiet (fail);try go_wp2)
                go_ret
                exact ⟨rf_,bl_ HB⟩
              ·rw [if_neg jJ] at H;exact absurd H sm_
             ·rw [if_neg jI] at H;exact absurd H sm_
            ·rw [if_neg c34] at H;have jC:(((Xb ((Xl aA a1).f1) 0).f0) == 8)=false:=nb_ c34;have jD:(((Xb ((Xl aA a1).f1) 0).f0) != 8)=true:=nn_ c34;obtain rfl:=sj_ H;have hnb44:=aG.out;have hnc44:=aB.out;obtain ⟨_,_,_,_,_⟩:=bc5_ aP.out;obtain ⟨_,_,_,_,_⟩:=bf5_ aP.out;have dA:0≤(0:Int):=om_;have dB:0<(((Xl aA a1).f1).length:Int):=od_ as_;obtain ⟨eF,fC,fG,fD,fH,fJ,aK,aL,aM,aN,aD,aF,bG,bE,bH,bF⟩:=at_T69 bU.out 0 dA dB;cases fJ
             have iE:(0<((Xl aA a1).f1).length)=True:=eq_true om_
             (try rw [show ((0:Int)).toNat=0 from rfl] at aK)
             (try rw [show 0 * 6=0 from rfl] at aK)
             (try rw [Addr.add_zero'] at aK)
             (try rw [show ((0:Int)).toNat=0 from rfl] at aL)
             (try rw [show 0 * 6=0 from rfl] at aL)
             (try rw [Addr.add_zero'] at aL)
             (try rw [show ((0:Int)).toNat=0 from rfl] at aM)
             (try rw [show 0 * 6=0 from rfl] at aM)
             (try rw [Addr.add_zero'] at aM)
             (try rw [show ((0:Int)).toNat=0 from rfl] at aN)
             (try rw [show 0 * 6=0 from rfl] at aN)
             (try rw [Addr.add_zero'] at aN)
             (try rw [show ((0:Int)).toNat=0 from rfl] at aD)
             (try rw [show 0 * 6=0 from rfl] at aD)
             (try rw [Addr.add_zero'] at aD)
             (try rw [show ((0:Int)).toNat=0 from rfl] at aF)
             (try rw [show 0 * 6=0 from rfl] at aF)
             (try rw [Addr.add_zero'] at aF)
             replace aK:=bw_ HB aK;replace aL:=bw_ HB aL;replace aM:=bw_ HB aM;replace aN:=bw_ HB aN;replace aD:=bw_ HB aD;replace aF:=bw_ HB aF;have eB:=Xa.mk bE;have dZ:=Xa.mk bG;clear bE bG;have eD:=Xa.mk bF;have d9:=Xa.mk bH;clear bF bH;replace dA:=eq_true dA;replace dB:=eq_true dB;go_wp2
             repeat (go_quiet (fail);try go_wp2)
             go_ret
             exact ⟨rf_,bl_ HB⟩
           ·rw [if_neg jH] at H;exact absurd H sm_
     ·rw [if_neg c9] at H;exact absurd H sm_
    ·rw [if_neg c8] at H;exact absurd H sm_
end Go.Proofs.Ytlhogkfmdnpmkaa.GWhole
