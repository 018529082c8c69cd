import Derived.Test.YtdkcjecllbdljaaCFnSlim21
import Derived.Test.YtdkcjecllbdljaaCFnSlim57
namespace Go.Proofs.Ytdkcjecllbdljaa.GSlim
open Go.RowKit Go.Proofs.YtdkcjecllbdljaaW.PrintWords Go.Proofs.YtdkcjecllbdljaaW.PrintLast Go.Proofs.YtdkcjecllbdljaaW.PrintMore
attribute [local go_sem] Zv Zx Un Uo Zm Zn Zw Zy
set_option linter.unusedVariables false
set_option linter.unusedSimpArgs false
def Uw.l0:Nat→List (S31)→Int→Int→Int→Option (Int × Bool)
 |0,_,_,_,_=>none
 |k+1,x0,x1,x8,x9=>if x9<x8 then (if 0≤x1 then (if x1<(x0.length:Int) then (if ((Xb x0 x1).f0)=7 then (Uw.l0 k x0 ((Xb x0 x1).f3) x8 (wrap64 (x9+1))) else (some (x1,true))) else (none)) else (none)) else (some (0,false))
def Uw.f (k:Nat) (l0:List (S31)) (a1:Int):Option (Int × Bool):=Uw.l0 k l0 a1 (wrap64 ((l0.length:Int)+1)) 0
set_option maxHeartbeats 8000000 in
set_option maxRecDepth 100000 in
theorem Uw.calls (k:Nat) (A0:Option Addr) (c0:Nat) (l0:List (S31)) (a1:Int) (r1:Int) (r2:Bool) (w:World) (hr0:Kd.C k31 w A0 l0.length l0) (hc0:l0.length≤c0) (h:Uw.f k l0 a1=some (r1,r2)) :
  Calls Try.prog 62 #[.slice A0 l0.length c0,.int .i64 a1] w fun e w'=>e=.returned (.tuple #[.int .i64 r1,.bool r2])∧Yn w w':=by
 have HR0:=Xa.mk hr0;have HC0:=Xa.mk hc0;clear hr0 hc0;have H:(Uw.l0 k l0 a1 (wrap64 ((l0.length:Int)+1)) 0)=some (r1,r2):=h;clear h;have H':=Xa.mk H;clear H
 go_enter Try.func62,Try.ntmps62
 go_wp2
 go_loopg [1,9] k (fun kq v1 v9 w'=>∃ (x1_1:Int) (x9_1:Int),v1=.int .i64 x1_1∧v9=.int .i64 x9_1∧Xa (Uw.l0 kq l0 x1_1 (wrap64 ((l0.length:Int)+1)) x9_1=some (r1,r2))∧Xa (kq≤k)∧Yn w w')
 case atStart=>exact ⟨(a1),(0),(by first|rfl|(simp;done)|(simp [*];done)),(by first|rfl|(simp;done)|(simp [*];done)),H',⟨Nat.le_refl _⟩,by repeat (first|exact Yn.refl _|apply Yn.step)⟩
 case round=>
  clear H'
  try clear p2
  obtain ⟨x1_1,x9_1,rfl,rfl,HA,HK1,⟨m1,rfl⟩⟩:=hrel
  cases gk with
  |zero=>exact absurd HA.out (by simp [Uw.l0])
  |succ k1=>
   have H:=HA.out;clear HA;simp only [Uw.l0] at H;by_cases c3:x9_1<(wrap64 ((l0.length:Int)+1))
   ·rw [if_pos c3] at H;have c3b0:decide (x9_1<(wrap64 ((l0.length:Int)+1)))=true:=decide_eq_true c3;clear c3;by_cases c4:0≤x1_1
    ·rw [if_pos c4] at H;have c4b0:decide (0≤x1_1)=true:=decide_eq_true c4;clear c4;by_cases c5:x1_1<(l0.length:Int)
     ·rw [if_pos c5] at H;have c5b0:decide (x1_1<(l0.length:Int))=true:=decide_eq_true c5;clear c5;by_cases c6:((Xb l0 x1_1).f0)=7
      ·rw [if_pos c6] at H;have c6b0:(((Xb l0 x1_1).f0) == 7)=true:=beq_iff_eq.mpr c6;have c6b1:(((Xb l0 x1_1).f0) != 7)=false:=bne_eq_false_iff_eq.mpr c6;clear c6;have H':=Xa.mk H;clear H;have p627:0≤(x1_1:Int):=of_decide_eq_true (by first|(with_reducible assumption)|assumption);have q627:x1_1<(l0.length:Int):=of_decide_eq_true (by first|(with_reducible assumption)|assumption);obtain ⟨ad627,e627,hx627_0,hx627_1,hx627_2,hx627_3⟩:=Zt HR0.out x1_1 p627 q627;cases e627
       replace p627:=eq_true p627;replace q627:=eq_true q627;have p628:0≤(x1_1:Int):=of_decide_eq_true (by first|(with_reducible assumption)|assumption);have q628:x1_1<(l0.length:Int):=of_decide_eq_true (by first|(with_reducible assumption)|assumption);obtain ⟨ad628,e628,hx628_0,hx628_1,hx628_2,hx628_3⟩:=Zt HR0.out x1_1 p628 q628;obtain rfl:ad627=ad628:=(by injection e628);replace p628:=eq_true p628;replace q628:=eq_true q628;go_wp2
       go_roundg k1
       case measure=>have:=HK1.out;omega
       case rel=>exact ⟨((Xb l0 x1_1).f3),(wrap64 (x9_1+1)),(by first|rfl|(simp;done)|(simp [*];done)),(by first|rfl|(simp;done)|(simp [*];done)),H',⟨by have:=HK1.out;omega⟩,by repeat (first|exact Yn.refl _|apply Yn.step)⟩
      ·rw [if_neg c6] at H;have c6b0:(((Xb l0 x1_1).f0) == 7)=false:=beq_eq_false_iff_ne.mpr c6;have c6b1:(((Xb l0 x1_1).f0) != 7)=true:=bne_iff_ne.mpr c6;simp only [Option.some.injEq,Prod.mk.injEq] at H;obtain ⟨rfl,rfl⟩:=H;have p627:0≤(x1_1:Int):=of_decide_eq_true (by first|(with_reducible assumption)|assumption);have q627:x1_1<(l0.length:Int):=of_decide_eq_true (by first|(with_reducible assumption)|assumption);obtain ⟨ad627,e627,hx627_0,hx627_1,hx627_2,hx627_3⟩:=Zt HR0.out x1_1 p627 q627;cases e627
       replace p627:=eq_true p627;replace q627:=eq_true q627;go_wp2
       go_ret2
       exact ⟨by first|rfl|(simp;done)|(simp [*];done),by repeat (first|exact Yn.refl _|apply Yn.step)⟩
     ·rw [if_neg c5] at H;exact absurd H (by simp)
    ·rw [if_neg c4] at H;exact absurd H (by simp)
   ·rw [if_neg c3] at H;have c3b0:decide (x9_1<(wrap64 ((l0.length:Int)+1)))=false:=decide_eq_false c3;clear c3;simp only [Option.some.injEq,Prod.mk.injEq] at H;obtain ⟨rfl,rfl⟩:=H;go_wp2
    go_ret2
    exact ⟨by first|rfl|(simp;done)|(simp [*];done),by repeat (first|exact Yn.refl _|apply Yn.step)⟩
mutual
def Yi.l0:Nat→List (S31)→List (S31)→List (S31)→Int→Int→Option ((List (S31)))
 |0,_,_,_,_,_=>none
 |k+1,x0,x3,x10,x11,x12=>if x12<x11 then (if 0≤x12 then (if x12<(x10.length:Int) then (if ((Xb x10 x12).f0)=7 then (Yi.j1 k x0 x3 x12 x10 x11 x12 false ((Xb x10 x12).f0) ((Xb x10 x12).f1) ((Xb x10 x12).f2) ((Xb x10 x12).f3)) else (Yi.j1 k x0 x3 x12 x10 x11 x12 (((Xb x10 x12).f0) != 6) ((Xb x10 x12).f0) ((Xb x10 x12).f1) ((Xb x10 x12).f2) ((Xb x10 x12).f3))) else (none)) else (none)) else (some x3)
def Yi.j1:Nat→List (S31)→List (S31)→Int→List (S31)→Int→Int→Bool→Int→Int→Int→Int→Option ((List (S31)))
 |0,_,_,_,_,_,_,_,_,_,_,_=>none
 |k+1,x0,x3,x4,x10,x11,x12,x24,x634000,x634001,x634002,x634003=>if x24=true then (Yi.l0 k x0 x3 x10 x11 (wrap64 (x12+1))) else ((Uw.f k x0 x634003).bind fun bt634=>(if bt634.2=true then (if 0≤x4 then (if x4<(x3.length:Int) then (Yi.l0 k x0 (x3.set (x4:Int).toNat (⟨(Xb x3 x4).f0,(Xb x3 x4).f1,(Xb x3 x4).f2,bt634.1⟩:S31)) x10 x11 (wrap64 (x12+1))) else (none)) else (none)) else (Yi.l0 k x0 x3 x10 x11 (wrap64 (x12+1)))))
end
def Yi.f (k:Nat) (l0:List (S31)):Option ((List (S31))):=(impl_Ins_28.f l0).bind fun t629=>(Yi.l0 k l0 t629 l0 (l0.length:Int) 0)
set_option maxHeartbeats 8000000 in
set_option maxRecDepth 100000 in
theorem Yi.calls (k:Nat) (A0:Option Addr) (c0:Nat) (l0:List (S31)) (r:List (S31)) (w:World) (hr0:Kd.C k31 w A0 l0.length l0) (hc0:l0.length≤c0) (h:Yi.f k l0=some r) :
  Calls Try.prog 49 #[.slice A0 l0.length c0] w fun e w'=>∃ v0_:Value,e=.returned (v0_)∧Kd.R k31 31 w' w.heap.size (fun _=>True) v0_ r∧Below w.heap.size w w':=by
 have hu31:=Try.underlying31;have HR0:=Xa.mk hr0;have HC0:=Xa.mk hc0;clear hr0 hc0;have HB:=Xa.mk (Below.refl w.heap.size w);have H:((impl_Ins_28.f l0).bind fun t629=>(Yi.l0 k l0 t629 l0 (l0.length:Int) 0))=some r:=h;clear h;replace H:=Option.bind_eq_some_iff.mp H;obtain ⟨t629,A20,H⟩:=H;replace H:(Yi.l0 k l0 t629 l0 (l0.length:Int) 0)=some r:=H;have A2:=Xa.mk A20;clear A20;have H':=Xa.mk H;clear H
 go_enter Try.func49,Try.ntmps49
 go_wp2_with (first|((with_reducible refine Xf (f:=28) rfl ?_);refine Yf (some 9) rfl rfl Try.func28 (by kernel_rfl) rfl #[.slice A0 l0.length c0] rfl ga_ ?_;(with_reducible refine (impl_Ins_28.calls _ _ l0 t629 _ ?side1 ?side2 A2.out).mono ?_);(case side1=>repeat (first|exact HR0.out|(with_reducible refine Kd.Xq ?_ _)|(with_reducible refine Kd.Xr ?_ _)|(with_reducible refine Kd.Yc ?_)));(case side2=>exact HC0.out);rintro e w3 ⟨v630,rfl,ho0,hb⟩;refine ⟨_,rfl,?_⟩;have n0_:=Xa.mk (Kd.Yg ho0 (Xc (bl_ HB)));have n1_:=Xa.mk (Xd (bl_ HB) hb);clear HB;have HO631:=n0_;have HB:=n1_;clear n0_ n1_;(try clear hb);(try clear hb2);(try clear hk);(try clear hi);(try clear ho0)))
 go_loopg [12] k (fun kq v12 w'=>∃ (x3_1:List (S31)) (x12_1:Int),v12=.int .i64 x12_1∧Xa (Yi.l0 kq l0 x3_1 l0 (l0.length:Int) x12_1=some r)∧Xa (kq≤k)∧Xa (Kd.R k31 31 w' w.heap.size (fun _=>True) v630 x3_1)∧Xa (Below w.heap.size w w'))
 case atStart=>exact ⟨(t629),(0),(by first|rfl|(simp;done)|(simp [*];done)),H',⟨Nat.le_refl _⟩,⟨Kd.ra_ (HO631.out)⟩,⟨bl_ HB⟩⟩
 case round=>
  clear H'
  try clear c2
  try clear p2
  obtain ⟨x3_1,x12_1,rfl,HA,HK1,HO_3,HB⟩:=hrel
  cases gk with
  |zero=>exact absurd HA.out (by simp [Yi.l0])
  |succ k1=>
   have H:=HA.out;clear HA;simp only [Yi.l0] at H;by_cases c4:x12_1<(l0.length:Int)
   ·rw [if_pos c4] at H;have c4b0:decide (x12_1<(l0.length:Int))=true:=decide_eq_true c4;clear c4;by_cases c5:0≤x12_1
    ·rw [if_pos c5] at H;have c5b0:decide (0≤x12_1)=true:=decide_eq_true c5;clear c5;by_cases c6:x12_1<(l0.length:Int)
     ·rw [if_pos c6] at H;have c6b0:decide (x12_1<(l0.length:Int))=true:=decide_eq_true c6;clear c6;have HC7:=Xa.mk H;clear H;have p632:0≤(x12_1:Int):=of_decide_eq_true (by first|(with_reducible assumption)|assumption);have q632:x12_1<(l0.length:Int):=of_decide_eq_true (by first|(with_reducible assumption)|assumption);obtain ⟨ad632,e632,hx632_0,hx632_1,hx632_2,hx632_3⟩:=Zt HR0.out x12_1 p632 q632;cases e632
      replace hx632_0:=(HB.out.cell (World.block_lt_of_cell? w _ hx632_0)).trans hx632_0;replace hx632_1:=(HB.out.cell (World.block_lt_of_cell? w _ hx632_1)).trans hx632_1;replace hx632_2:=(HB.out.cell (World.block_lt_of_cell? w _ hx632_2)).trans hx632_2;replace hx632_3:=(HB.out.cell (World.block_lt_of_cell? w _ hx632_3)).trans hx632_3;replace p632:=eq_true p632;replace q632:=eq_true q632
      go_upto_region 5 with (first|((with_reducible refine Xx (N:=5) rfl ?_);refine Yw ?hg (N:=5) ?hd (cs:=#[.int .i64 0,.int .i64 0,.int .i64 0,.int .i64 0]) (t:=31) ?hr ?_;(case hd=>rfl);(case hg=>rfl);(case hr=>first|(go_simp;done)|(go_simp;rfl));intro gb633 hg w8 hbox hb;have n0_:=Xa.mk (Kd.Zl (Kd.R_elderB (Kd.ra_ (HO_3.out)) gb633 (Nat.le_of_eq hg.symm)) hb);have n1_:=Xa.mk (Xd (bl_ HB) hb);have n2_:=Xa.mk (hbox);have n3_:=Xa.mk ((by rw [hg];exact (Xc (bl_ HB)):w.heap.size≤gb633));have n4_:=Xa.mk ((by rw [hg];exact (Xc (bl_ HB)):w.heap.size≤gb633));clear HO_3;clear HB;have HO_3:=n0_;have HB:=n1_;have BK633:=n2_;have GW633:=n3_;have GE633:=n4_;clear n0_ n1_ n2_ n3_ n4_;clear hb hbox hg;obtain ⟨hcz9_0,hcz9_1,hcz9_2,hcz9_3⟩:=Uu BK633.out;obtain ⟨hfz9_0,hfz9_1,hfz9_2,hfz9_3⟩:=Uy BK633.out))
      (try simp only [Act.put,List.setIfInBounds_toArray,List.set_cons_zero,List.set_cons_succ])
      go_cut [24] (fun v24 wc=>∃ (kq:Nat) (x24_6:Bool),v24=.bool x24_6∧Xa (Yi.j1 kq l0 x3_1 x12_1 l0 (l0.length:Int) x12_1 x24_6 ((Xb l0 x12_1).f0) ((Xb l0 x12_1).f1) ((Xb l0 x12_1).f2) ((Xb l0 x12_1).f3)=some r)∧Xa (kq≤k1)∧Xa (Kd.R k31 31 wc w.heap.size (fun k_=>k_≠gb633) v630 x3_1)∧Xa (wc.heap[gb633]?=some (.cells #[.int .i64 ((Xb l0 x12_1).f0),.int .i64 ((Xb l0 x12_1).f1),.int .i64 ((Xb l0 x12_1).f2),.int .i64 ((Xb l0 x12_1).f3)] 31 (0,0)))∧Xa (Below w.heap.size w wc))
      case first=>
       have H:=HC7.out;clear HC7;by_cases c10:((Xb l0 x12_1).f0)=7
       ·rw [if_pos c10] at H;have c10b0:(((Xb l0 x12_1).f0) == 7)=true:=beq_iff_eq.mpr c10;have c10b1:(((Xb l0 x12_1).f0) != 7)=false:=bne_eq_false_iff_eq.mpr c10;clear c10
        (first|rw [c10b0]|(simp only [Xy,Xz];rw [c10b0])|skip)
        have H':=Xa.mk H;clear H;obtain ⟨hcz11_0,hcz11_1,hcz11_2,hcz11_3⟩:=Uu BK633.out;obtain ⟨hfz11_0,hfz11_1,hfz11_2,hfz11_3⟩:=Uy BK633.out;go_wp2
        go_meet
        case rel=>exact ⟨_,(false),(by first|rfl|(simp;done)|(simp [*];done)),H',⟨by have:=HK1.out;first|omega|exact Nat.le_refl _⟩,⟨Kd.ra_ (Kd.Xn (Kd.Um (p:=⟨gb633,3,none⟩) (Kd.Um (p:=⟨gb633,2,none⟩) (Kd.Um (p:=⟨gb633,1,none⟩) (Kd.Um (p:=⟨gb633,0,none⟩) (Kd.Xn HO_3.out (fun k_ hk=>(⟨hk,hk.2⟩:_∧k_≠gb633))) (fun _ hk=>hk.2) (.int .i64 ((Xb l0 x12_1).f0))) (fun _ hk=>hk.2) (.int .i64 ((Xb l0 x12_1).f1))) (fun _ hk=>hk.2) (.int .i64 ((Xb l0 x12_1).f2))) (fun _ hk=>hk.2) (.int .i64 ((Xb l0 x12_1).f3))) (fun _ hk=>hk.1.2))⟩,⟨by (with_reducible repeat (first|refine Xj ?_ _|refine Xo ?_|refine Xi ?_ _));refine Ye (cs:=#[.int .i64 ((Xb l0 x12_1).f0),.int .i64 ((Xb l0 x12_1).f1),.int .i64 ((Xb l0 x12_1).f2),.int .i64 0]) ?_ 3 _ rfl;(with_reducible repeat (first|refine Xj ?_ _|refine Xo ?_|refine Xi ?_ _));refine Ye (cs:=#[.int .i64 ((Xb l0 x12_1).f0),.int .i64 ((Xb l0 x12_1).f1),.int .i64 0,.int .i64 0]) ?_ 2 _ rfl;(with_reducible repeat (first|refine Xj ?_ _|refine Xo ?_|refine Xi ?_ _));refine Ye (cs:=#[.int .i64 ((Xb l0 x12_1).f0),.int .i64 0,.int .i64 0,.int .i64 0]) ?_ 1 _ rfl;(with_reducible repeat (first|refine Xj ?_ _|refine Xo ?_|refine Xi ?_ _));refine Ye (cs:=#[.int .i64 0,.int .i64 0,.int .i64 0,.int .i64 0]) ?_ 0 _ rfl;(with_reducible repeat (first|refine Xj ?_ _|refine Xo ?_|refine Xi ?_ _));exact BK633.out⟩,⟨bl_ HB⟩⟩
       ·rw [if_neg c10] at H;have c10b0:(((Xb l0 x12_1).f0) == 7)=false:=beq_eq_false_iff_ne.mpr c10;have c10b1:(((Xb l0 x12_1).f0) != 7)=true:=bne_iff_ne.mpr c10
        (first|rw [c10b0]|(simp only [Xy,Xz];rw [c10b0])|skip)
        have H':=Xa.mk H;clear H;obtain ⟨hcz12_0,hcz12_1,hcz12_2,hcz12_3⟩:=Uu BK633.out;obtain ⟨hfz12_0,hfz12_1,hfz12_2,hfz12_3⟩:=Uy BK633.out;go_wp2
        go_meet
        case rel=>exact ⟨_,((((Xb l0 x12_1).f0) != 6)),(by first|rfl|(simp;done)|(simp [*];done)),H',⟨by have:=HK1.out;first|omega|exact Nat.le_refl _⟩,⟨Kd.ra_ (Kd.Xn (Kd.Um (p:=⟨gb633,3,none⟩) (Kd.Um (p:=⟨gb633,2,none⟩) (Kd.Um (p:=⟨gb633,1,none⟩) (Kd.Um (p:=⟨gb633,0,none⟩) (Kd.Xn HO_3.out (fun k_ hk=>(⟨hk,hk.2⟩:_∧k_≠gb633))) (fun _ hk=>hk.2) (.int .i64 ((Xb l0 x12_1).f0))) (fun _ hk=>hk.2) (.int .i64 ((Xb l0 x12_1).f1))) (fun _ hk=>hk.2) (.int .i64 ((Xb l0 x12_1).f2))) (fun _ hk=>hk.2) (.int .i64 ((Xb l0 x12_1).f3))) (fun _ hk=>hk.1.2))⟩,⟨by (with_reducible repeat (first|refine Xj ?_ _|refine Xo ?_|refine Xi ?_ _));refine Ye (cs:=#[.int .i64 ((Xb l0 x12_1).f0),.int .i64 ((Xb l0 x12_1).f1),.int .i64 ((Xb l0 x12_1).f2),.int .i64 0]) ?_ 3 _ rfl;(with_reducible repeat (first|refine Xj ?_ _|refine Xo ?_|refine Xi ?_ _));refine Ye (cs:=#[.int .i64 ((Xb l0 x12_1).f0),.int .i64 ((Xb l0 x12_1).f1),.int .i64 0,.int .i64 0]) ?_ 2 _ rfl;(with_reducible repeat (first|refine Xj ?_ _|refine Xo ?_|refine Xi ?_ _));refine Ye (cs:=#[.int .i64 ((Xb l0 x12_1).f0),.int .i64 0,.int .i64 0,.int .i64 0]) ?_ 1 _ rfl;(with_reducible repeat (first|refine Xj ?_ _|refine Xo ?_|refine Xi ?_ _));refine Ye (cs:=#[.int .i64 0,.int .i64 0,.int .i64 0,.int .i64 0]) ?_ 0 _ rfl;(with_reducible repeat (first|refine Xj ?_ _|refine Xo ?_|refine Xi ?_ _));exact BK633.out⟩,⟨bl_ HB⟩⟩
      case rest=>
       clear HC7
       try clear c1
       try clear c2
       try clear p2
       try clear c4
       try clear c4b0
       try clear c5
       try clear c5b0
       try clear c6
       try clear c6b0
       try clear p6
       try clear q6
       try clear hx6
       try clear c10
       try clear c10b0
       try clear c10b1
       try clear hcz11_0
       try clear hcz11_1
       try clear hcz11_2
       try clear hcz11_3
       try clear hcz12_0
       try clear hcz12_1
       try clear hcz12_2
       try clear hcz12_3
       try clear hcz9_0
       try clear hcz9_1
       try clear hcz9_2
       try clear hcz9_3
       try clear hfz11_0
       try clear hfz11_1
       try clear hfz11_2
       try clear hfz11_3
       try clear hfz12_0
       try clear hfz12_1
       try clear hfz12_2
       try clear hfz12_3
       try clear hfz9_0
       try clear hfz9_1
       try clear hfz9_2
       try clear hfz9_3
       try clear hx632_0
       try clear hx632_1
       try clear hx632_2
       try clear hx632_3
       try clear p2
       try clear p632
       try clear q632
       obtain ⟨kq,x24_6,rfl,HA,HJ6,HO_3,BK633,HB⟩:=hcut
       cases kq with
       |zero=>exact absurd HA.out (by simp [Yi.j1])
       |succ kj6=>
        have H:=HA.out;clear HA;simp only [Yi.j1] at H;by_cases c13:x24_6=true
        ·subst c13
         have H1:(Yi.l0 kj6 l0 x3_1 l0 (l0.length:Int) (wrap64 (x12_1+1)))=some r:=by rw [if_pos rfl] at H;exact H
         clear H;have H:=H1;clear H1;have H':=Xa.mk H;clear H;go_wp2
         go_roundg kj6
         case measure=>have:=HK1.out;have:=HJ6.out;omega
         case rel=>exact ⟨(x3_1),(wrap64 (x12_1+1)),(by first|rfl|(simp;done)|(simp [*];done)),H',⟨by have:=HK1.out;have:=HJ6.out;omega⟩,⟨Kd.ra_ (Kd.Xn HO_3.out (fun _ hk=>trivial))⟩,⟨bl_ HB⟩⟩
        ·replace c13:=Bool.eq_false_iff.mpr c13;subst c13
         have H1:((Uw.f kj6 l0 ((Xb l0 x12_1).f3)).bind fun bt634=>(if bt634.2=true then (if 0≤x12_1 then (if x12_1<(x3_1.length:Int) then (Yi.l0 kj6 l0 (x3_1.set (x12_1:Int).toNat (⟨(Xb x3_1 x12_1).f0,(Xb x3_1 x12_1).f1,(Xb x3_1 x12_1).f2,bt634.1⟩:S31)) l0 (l0.length:Int) (wrap64 (x12_1+1))) else (none)) else (none)) else (Yi.l0 kj6 l0 x3_1 l0 (l0.length:Int) (wrap64 (x12_1+1)))))=some r:=by rw [if_neg (show ¬ (false=true) by decide)] at H;exact H
         clear H;have H:=H1;clear H1;replace H:=Option.bind_eq_some_iff.mp H;obtain ⟨⟨t634,t635⟩,A140,H⟩:=H;replace H:(if t635=true then (if 0≤x12_1 then (if x12_1<(x3_1.length:Int) then (Yi.l0 kj6 l0 (x3_1.set (x12_1:Int).toNat (⟨(Xb x3_1 x12_1).f0,(Xb x3_1 x12_1).f1,(Xb x3_1 x12_1).f2,t634⟩:S31)) l0 (l0.length:Int) (wrap64 (x12_1+1))) else (none)) else (none)) else (Yi.l0 kj6 l0 x3_1 l0 (l0.length:Int) (wrap64 (x12_1+1))))=some r:=H;have A14:=Xa.mk A140;clear A140;by_cases c15:t635=true
         ·subst c15
          have H1:(if 0≤x12_1 then (if x12_1<(x3_1.length:Int) then (Yi.l0 kj6 l0 (x3_1.set (x12_1:Int).toNat (⟨(Xb x3_1 x12_1).f0,(Xb x3_1 x12_1).f1,(Xb x3_1 x12_1).f2,t634⟩:S31)) l0 (l0.length:Int) (wrap64 (x12_1+1))) else (none)) else (none))=some r:=by rw [if_pos rfl] at H;exact H
          clear H;have H:=H1;clear H1;by_cases c16:0≤x12_1
          ·rw [if_pos c16] at H;have c16b0:decide (0≤x12_1)=true:=decide_eq_true c16;clear c16;by_cases c17:x12_1<(x3_1.length:Int)
           ·rw [if_pos c17] at H;have c17b0:decide (x12_1<(x3_1.length:Int))=true:=decide_eq_true c17;clear c17;obtain ⟨y636,hy636⟩:∃ y_:List (S31),y_=(x3_1.set (x12_1:Int).toNat (⟨(Xb x3_1 x12_1).f0,(Xb x3_1 x12_1).f1,(Xb x3_1 x12_1).f2,t634⟩:S31)):=⟨_,rfl⟩
            replace H:(Yi.l0 kj6 l0 y636 l0 (l0.length:Int) (wrap64 (x12_1+1)))=some r:=by subst hy636;first|with_reducible exact H|(have z:=(Option.bind_some _ _).symm.trans H;with_reducible exact z)|exact H
            have Ny636:=Xa.mk hy636;clear hy636;have H':=Xa.mk H;clear H;obtain ⟨hcz19_0,hcz19_1,hcz19_2,hcz19_3⟩:=Uu BK633.out;obtain ⟨hfz19_0,hfz19_1,hfz19_2,hfz19_3⟩:=Uy BK633.out;go_wp2_with (first|((with_reducible refine Xf (f:=62) rfl ?_);refine Yf (some 29) rfl rfl Try.func62 (by kernel_rfl) rfl #[.slice (some ad632) l0.length c0,.int .i64 ((Xb l0 x12_1).f3)] rfl ga_ ?_;(with_reducible refine (Uw.calls kj6 _ _ l0 ((Xb l0 x12_1).f3) t634 true _ ?side1 ?side2 A14.out).mono ?_);(case side1=>repeat (first|exact (Kd.Zi HR0.out HB.out)|(with_reducible refine Kd.Xq ?_ _)|(with_reducible refine Kd.Xr ?_ _)|(with_reducible refine Kd.Yc ?_)));(case side2=>exact HC0.out);rintro e w' ⟨rfl,⟨nd,rfl⟩⟩;refine ⟨_,rfl,?_⟩;(try (rw [drewN_self wc];generalize hq_:World.drewN wc _=wc;have n0_:Xa (Kd.R k31 31 wc w.heap.size (fun k_=>k_≠gb633) v630 x3_1):=⟨by rw [← hq_];exact (Kd.ra_ (HO_3.out))⟩;have n1_:Xa (wc.heap[gb633]?=some (.cells #[.int .i64 ((Xb l0 x12_1).f0),.int .i64 ((Xb l0 x12_1).f1),.int .i64 ((Xb l0 x12_1).f2),.int .i64 ((Xb l0 x12_1).f3)] 31 (0,0))):=⟨by rw [← hq_];exact (ba_ BK633)⟩;have n2_:Xa (Below w.heap.size w wc):=⟨by rw [← hq_];exact (bl_ HB)⟩;obtain ⟨hbz_gb633_0,hbz_gb633_1,hbz_gb633_2,hbz_gb633_3⟩:=Uu n1_.out;clear HO_3 BK633 HB hq_;have HO_3:=n0_;have BK633:=n1_;have HB:=n2_;clear n0_ n1_ n2_));have p18:0≤(x12_1:Int):=of_decide_eq_true (by first|(with_reducible assumption)|assumption);have q18:(x12_1:Int)<((x3_1.length:Int):Int):=of_decide_eq_true (by first|(with_reducible assumption)|assumption);obtain ⟨go18,co18,eo18,gb18,gl18,cl18,HG18⟩:=Kd.R_form HO_3.out (by omega);(first|cases eo18|(injection eo18 with ea_ en_ ec_;(first|subst ea_|(injection ea_ with ea_;subst ea_));subst ec_;clear en_));have GB18:=Xa.mk gb18;have GG18:=Xa.mk HG18;clear gb18 gl18 HG18;obtain ⟨ce18,hcl18,hM18,hcc18,hfr18⟩:=Kd.R_elem HO_3.out z31 (x12_1:Int) p18 q18;obtain rfl:=k31_openM hM18;have hx18_0:wc.cell? ⟨go18,(x12_1:Int).toNat * 4,none⟩=some (.int .i64 ((Xb x3_1 x12_1).f0)):=hcc18 0 _ rfl;have hx18_1:wc.cell? ⟨go18,(x12_1:Int).toNat * 4+1,none⟩=some (.int .i64 ((Xb x3_1 x12_1).f1)):=hcc18 1 _ rfl;have hx18_2:wc.cell? ⟨go18,(x12_1:Int).toNat * 4+2,none⟩=some (.int .i64 ((Xb x3_1 x12_1).f2)):=hcc18 2 _ rfl;have hx18_3:wc.cell? ⟨go18,(x12_1:Int).toNat * 4+3,none⟩=some (.int .i64 ((Xb x3_1 x12_1).f3)):=hcc18 3 _ rfl;have hf18_0:wc.frozen? ⟨go18,(x12_1:Int).toNat * 4,none⟩=false:=hfr18 0;have hf18_1:wc.frozen? ⟨go18,(x12_1:Int).toNat * 4+1,none⟩=false:=hfr18 1;have hf18_2:wc.frozen? ⟨go18,(x12_1:Int).toNat * 4+2,none⟩=false:=hfr18 2;have hf18_3:wc.frozen? ⟨go18,(x12_1:Int).toNat * 4+3,none⟩=false:=hfr18 3;clear hcl18 hcc18 hfr18 hM18;replace p18:=eq_true p18;replace q18:=eq_true q18;have HX20:=Xa.mk (show Kd.R k31 31 wc w.heap.size (fun k_=>k_≠gb633) (.slice (some ⟨go18,0,none⟩) x3_1.length co18) x3_1 from (Kd.ra_ (HO_3.out)));obtain ⟨ce20,hcl20,hM20,hcc20,hfr20⟩:=Kd.R_elem HX20.out z31 (x12_1:Int) (of_decide_eq_true (by first|(with_reducible assumption)|assumption)) (by have h_:(x12_1:Int)<((x3_1.length:Int):Int):=of_decide_eq_true (by first|(with_reducible assumption)|assumption);first|exact h_|(have e_:=(Kd.R_reads' HO_3.out).1;omega)|simpa using h_);obtain rfl:=k31_openM hM20;have HP20:=Kd.R_seg HX20.out (x12_1:Int) (of_decide_eq_true (by first|(with_reducible assumption)|assumption)) (by have h_:(x12_1:Int)<((x3_1.length:Int):Int):=of_decide_eq_true (by first|(with_reducible assumption)|assumption);first|exact h_|(have e_:=(Kd.R_reads' HO_3.out).1;omega)|simpa using h_) (seg:=[.int .i64 t634]) (j:=3) hcl20 hcc20 (show 4≤4 from by decide) (x':=(⟨(Xb x3_1 x12_1).f0,(Xb x3_1 x12_1).f1,(Xb x3_1 x12_1).f2,t634⟩:S31)) (Us _ _ _ (⟨(Xb x3_1 x12_1).f0,(Xb x3_1 x12_1).f1,(Xb x3_1 x12_1).f2,t634⟩:S31) ) (fun _ hk=>hk);have hx20_3:=hcc20 3 _ rfl;(try simp only [show (k31).sz=4 from rfl,Nat.mul_one,Nat.add_zero] at hx20_3);have hf20_3:=hfr20 3;(try simp only [show (k31).sz=4 from rfl,Nat.mul_one,Nat.add_zero] at hf20_3);clear hcl20 hcc20 hfr20 hM20)|((with_reducible refine gate_store (t:=3) (p:=37) rfl ?_);refine Wh (t:=3) (p:=37) (v:=?vo_w21) (w1:=(wc.setCell ⟨go18,(x12_1:Int).toNat * 4+3,none⟩ (.int .i64 t634))) ?hg ?ho ?hn ?hr ?_;(case ho=>rfl);(case hg=>rfl);(case hn=>rfl);(case hr=>first|(go_simp;done)|(go_simp;rfl));intro w21 hw;have hg:wc.grownBy w21 (some go18):=(by rw [hw];exact HP20.2);have hp_:Kd.R k31 31 w21 w.heap.size (fun k_=>k_≠gb633) (.slice (some ⟨go18,0,none⟩) x3_1.length co18) y636:=(by rw [hw,Ny636.out];exact HP20.1);clear HP20;have n0_:=Xa.mk (hp_);have n1_:=Xa.mk (Vm (g:=gb633) (o:=.cells #[.int .i64 ((Xb l0 x12_1).f0),.int .i64 ((Xb l0 x12_1).f1),.int .i64 ((Xb l0 x12_1).f2),.int .i64 ((Xb l0 x12_1).f3)] 31 (0,0)) (ba_ BK633) hg (Kd.R_away HO_3.out (fun _ hk=>hk)));have n2_:=Xa.mk ((by rw [hw];exact below_set (HB.out) GB18.out:Below w.heap.size w w21));clear HO_3;clear BK633;clear HB;have HO_3:=n0_;have BK633:=n1_;have HB:=n2_;clear n0_ n1_ n2_;clear hg hw hp_))
            go_roundg kj6
            case measure=>have:=HK1.out;have:=HJ6.out;omega
            case rel=>exact ⟨(y636),(wrap64 (x12_1+1)),(by first|rfl|(simp;done)|(simp [*];done)),H',⟨by have:=HK1.out;have:=HJ6.out;omega⟩,⟨Kd.ra_ (Kd.Xn HO_3.out (fun _ hk=>trivial))⟩,⟨bl_ HB⟩⟩
           ·rw [if_neg c17] at H;exact absurd H (by simp)
          ·rw [if_neg c16] at H;exact absurd H (by simp)
         ·replace c15:=Bool.eq_false_iff.mpr c15;subst c15
          have H1:(Yi.l0 kj6 l0 x3_1 l0 (l0.length:Int) (wrap64 (x12_1+1)))=some r:=by rw [if_neg (show ¬ (false=true) by decide)] at H;exact H
          clear H;have H:=H1;clear H1;have H':=Xa.mk H;clear H;obtain ⟨hcz22_0,hcz22_1,hcz22_2,hcz22_3⟩:=Uu BK633.out;obtain ⟨hfz22_0,hfz22_1,hfz22_2,hfz22_3⟩:=Uy BK633.out;go_wp2_with (first|((with_reducible refine Xf (f:=62) rfl ?_);refine Yf (some 29) rfl rfl Try.func62 (by kernel_rfl) rfl #[.slice (some ad632) l0.length c0,.int .i64 ((Xb l0 x12_1).f3)] rfl ga_ ?_;(with_reducible refine (Uw.calls kj6 _ _ l0 ((Xb l0 x12_1).f3) t634 false _ ?side1 ?side2 A14.out).mono ?_);(case side1=>repeat (first|exact (Kd.Zi HR0.out HB.out)|(with_reducible refine Kd.Xq ?_ _)|(with_reducible refine Kd.Xr ?_ _)|(with_reducible refine Kd.Yc ?_)));(case side2=>exact HC0.out);rintro e w' ⟨rfl,⟨nd,rfl⟩⟩;refine ⟨_,rfl,?_⟩))
          go_roundg kj6
          case measure=>have:=HK1.out;have:=HJ6.out;omega
          case rel=>exact ⟨(x3_1),(wrap64 (x12_1+1)),(by first|rfl|(simp;done)|(simp [*];done)),H',⟨by have:=HK1.out;have:=HJ6.out;omega⟩,⟨Kd.ra_ (Kd.Xn HO_3.out (fun _ hk=>trivial))⟩,⟨bl_ HB⟩⟩
     ·rw [if_neg c6] at H;exact absurd H (by simp)
    ·rw [if_neg c5] at H;exact absurd H (by simp)
   ·rw [if_neg c4] at H;have c4b0:decide (x12_1<(l0.length:Int))=false:=decide_eq_false c4;clear c4;obtain rfl:=Option.some.inj H;go_wp2
    go_ret
    exact ⟨_,rf_,Kd.ra_ (HO_3.out),bl_ HB⟩
end Go.Proofs.Ytdkcjecllbdljaa.GSlim
