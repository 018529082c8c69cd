import Derived.Test.YtjmlpgpkmhjdiaaCFnExactSlim21
import Derived.Test.YtjmlpgpkmhjdiaaCFnExactSlim24
import Derived.Test.YtjmlpgpkmhjdiaaCFnExactSlim26
namespace Go.Proofs.Ytjmlpgpkmhjdiaa.GSlim
open Go.RowKit Go.Proofs.YtjmlpgpkmhjdiaaW.PrintWords Go.Proofs.YtjmlpgpkmhjdiaaW.PrintLast Go.Proofs.YtjmlpgpkmhjdiaaW.PrintMore
attribute [local go_sem] Zj Zl Zy Zz Yu Yv Zk Zm
set_option linter.unusedVariables false
set_option linter.unusedSimpArgs false
mutual
def Xo.j0:Nat→List (S47)→Int→Bool→Option (Bool)
 |0,_,_,_=>none
 |k+1,x0,x3,x23=>if x23=true then (some false) else (Xo.l0 k x0 x3 0)
def Xo.l0:Nat→List (S47)→Int→Int→Option (Bool)
 |0,_,_,_=>none
 |k+1,x0,x3,x4=>if x4<x3 then (if 0≤x4 then (if x4<(x0.length:Int) then ((Xf.f k ((Xb x0 x4).f0) ((Xb x0 x4).f1) ((Xb x0 x4).f2) ((Xb x0 x4).f3) x3).bind fun t153=>(if t153=true then (if ((Xb x0 x4).f0)=13 then (if x4<(wrap64 (x3 - 1)) then (some false) else (Xo.l0 k x0 x3 (wrap64 (x4+1)))) else (Xo.l0 k x0 x3 (wrap64 (x4+1)))) else (some false))) else (none)) else (none)) else ((Xh.f k x0).bind fun bt155=>(some bt155.2))
end
def Xo.f (k:Nat) (l0:List (S47)):Option (Bool):=if (l0.length:Int)<1 then (Xo.j0 k l0 (l0.length:Int) true) else (if (l0.length:Int) > 60 then (Xo.j0 k l0 (l0.length:Int) true) else (if 0≤(wrap64 ((l0.length:Int) - 1)) then (if (wrap64 ((l0.length:Int) - 1))<(l0.length:Int) then (Xo.j0 k l0 (l0.length:Int) (((Xb l0 (wrap64 ((l0.length:Int) - 1))).f0) != 13)) else (none)) else (none)))
set_option maxHeartbeats 8000000 in
set_option maxRecDepth 100000 in
theorem Xo.calls (k:Nat) (A0:Option Addr) (c0:Nat) (l0:List (S47)) (r:Bool) (w:World) (hr0:Kd.C k47 w A0 l0.length l0) (hc0:l0.length≤c0) (h:Xo.f k l0=some r) :
  Calls Try.prog 37 #[.slice A0 l0.length c0] w fun e w'=>e=.returned (.bool r)∧Below w.heap.size w w':=by
 have hu47:=Try.underlying47;have HR0:=Xa.mk hr0;have HC0:=Xa.mk hc0;clear hr0 hc0;have HB:=Xa.mk (Below.refl w.heap.size w);have H:(if (l0.length:Int)<1 then (Xo.j0 k l0 (l0.length:Int) true) else (if (l0.length:Int) > 60 then (Xo.j0 k l0 (l0.length:Int) true) else (if 0≤(wrap64 ((l0.length:Int) - 1)) then (if (wrap64 ((l0.length:Int) - 1))<(l0.length:Int) then (Xo.j0 k l0 (l0.length:Int) (((Xb l0 (wrap64 ((l0.length:Int) - 1))).f0) != 13)) else (none)) else (none))))=some r:=h;clear h;have HC2:=Xa.mk H;clear H
 go_enter Try.func37,Try.ntmps37
 go_upto_region 2 with (fail)
 go_cut [23] (fun v23 wc=>∃ (kq:Nat) (x23_1:Bool),v23=.bool x23_1∧Xa (Xo.j0 kq l0 (l0.length:Int) x23_1=some r)∧Xa (kq≤k)∧Xa (Below w.heap.size w wc))
 case first=>
  have H:=HC2.out;clear HC2;by_cases c3:(l0.length:Int)<1
  ·rw [if_pos c3] at H;have c3b0:decide ((l0.length:Int)<1)=true:=decide_eq_true c3;have c3b1:decide (l0.length<1)=true:=decide_eq_true (by omega);clear c3
   (first|rw [c3b0]|(simp only [Xz,Yb];rw [c3b0])|skip)
   have H':=Xa.mk H;clear H;go_wp2
   go_meet
   case rel=>exact ⟨_,(true),(by first|rfl|(simp;done)|(simp [*];done)),H',⟨by first|omega|exact Nat.le_refl _⟩,⟨bl_ HB⟩⟩
  ·rw [if_neg c3] at H;have c3b0:decide ((l0.length:Int)<1)=false:=decide_eq_false c3;have c3b1:decide (l0.length<1)=false:=decide_eq_false (by omega);clear c3
   (first|rw [c3b0]|(simp only [Xz,Yb];rw [c3b0])|skip)
   by_cases c4:(l0.length:Int) > 60
   ·rw [if_pos c4] at H;have c4b0:decide (60<(l0.length:Int))=true:=decide_eq_true c4;have c4b1:decide (60<l0.length)=true:=decide_eq_true (by omega);clear c4;have H':=Xa.mk H;clear H;go_wp2
    go_meet
    case rel=>exact ⟨_,(true),(by first|rfl|(simp;done)|(simp [*];done)),H',⟨by first|omega|exact Nat.le_refl _⟩,⟨bl_ HB⟩⟩
   ·rw [if_neg c4] at H;have c4b0:decide (60<(l0.length:Int))=false:=decide_eq_false c4;have c4b1:decide (60<l0.length)=false:=decide_eq_false (by omega);clear c4;obtain ⟨ji5,hji5⟩:∃ j_:Int,(wrap64 ((l0.length:Int) - 1))=j_:=⟨_,rfl⟩
    replace H:(if 0≤(ji5) then (if (ji5)<(l0.length:Int) then (Xo.j0 k l0 (l0.length:Int) (((Xb l0 (ji5)).f0) != 13)) else (none)) else (none))=some r:=by first|(rw [hji5] at H;exact H)|(simp only [hji5] at H ⊢;exact H)
    have hji5w:(IntKind.i64.wrap ((l0.length:Int) - 1))=ji5:=(Xz _).trans hji5;by_cases c6:0≤(ji5)
    ·rw [if_pos c6] at H;have c6b0:decide (0≤(ji5))=true:=decide_eq_true c6;clear c6;by_cases c7:(ji5)<(l0.length:Int)
     ·rw [if_pos c7] at H;have c7b0:decide ((ji5)<(l0.length:Int))=true:=decide_eq_true c7;clear c7;have H':=Xa.mk H;clear H;have p151:0≤((ji5):Int):=of_decide_eq_true (by first|(with_reducible assumption)|assumption);have q151:(ji5)<(l0.length:Int):=of_decide_eq_true (by first|(with_reducible assumption)|assumption);obtain ⟨ad151,e151,hx151_0,hx151_1,hx151_2,hx151_3⟩:=Yk HR0.out (ji5) p151 q151;cases e151
      replace hx151_0:=(HB.out.cell (World.block_lt_of_cell? w _ hx151_0)).trans hx151_0;replace hx151_1:=(HB.out.cell (World.block_lt_of_cell? w _ hx151_1)).trans hx151_1;replace hx151_2:=(HB.out.cell (World.block_lt_of_cell? w _ hx151_2)).trans hx151_2;replace hx151_3:=(HB.out.cell (World.block_lt_of_cell? w _ hx151_3)).trans hx151_3;replace p151:=eq_true p151;replace q151:=eq_true q151;go_wp2
      go_meet
      case rel=>exact ⟨_,((((Xb l0 (ji5)).f0) != 13)),(by first|rfl|(simp;done)|(simp only [← hji5] <;> (first|rfl|simp))|(simp [*];done)),H',⟨by first|omega|exact Nat.le_refl _⟩,⟨bl_ HB⟩⟩
     ·rw [if_neg c7] at H;exact absurd H (by simp)
    ·rw [if_neg c6] at H;exact absurd H (by simp)
 case rest=>
  clear HC2
  try clear p1
  try clear q1
  try clear hx1
  try clear p2
  try clear c3
  try clear c3b0
  try clear c3b1
  try clear c4
  try clear c4b0
  try clear c4b1
  try clear c6
  try clear c6b0
  try clear p6
  try clear c7
  try clear c7b0
  try clear hx151_0
  try clear hx151_1
  try clear hx151_2
  try clear hx151_3
  try clear p151
  try clear q151
  obtain ⟨kq,x23_1,rfl,HA,HJ1,HB⟩:=hcut
  cases kq with
  |zero=>exact absurd HA.out (by simp [Xo.j0])
  |succ kj1=>
   have H:=HA.out;clear HA;simp only [Xo.j0] at H;by_cases c8:x23_1=true
   ·subst c8
    have H1:(some false)=some r:=by rw [if_pos rfl] at H;exact H
    clear H;have H:=H1;clear H1;obtain rfl:=Option.some.inj H;go_wp2
    go_ret
    exact ⟨rf_,bl_ HB⟩
   ·replace c8:=Bool.eq_false_iff.mpr c8;subst c8
    have H1:(Xo.l0 kj1 l0 (l0.length:Int) 0)=some r:=by rw [if_neg (show ¬ (false=true) by decide)] at H;exact H
    clear H;have H:=H1;clear H1;have H':=Xa.mk H;clear H;go_wp2
    go_loopg [4] kj1 (fun kq v4 w'=>∃ (x4_2:Int),v4=.int .i64 x4_2∧Xa (Xo.l0 kq l0 (l0.length:Int) x4_2=some r)∧Xa (kq≤kj1)∧Xa (Below w.heap.size w w'))
    case atStart=>exact ⟨(0),(by first|rfl|(simp;done)|(simp [*];done)),H',⟨Nat.le_refl _⟩,⟨bl_ HB⟩⟩
    case round=>
     clear H'
     try clear p1
     try clear q1
     try clear hx1
     try clear p2
     try clear c3
     try clear c3b0
     try clear c3b1
     try clear c4
     try clear c4b0
     try clear c4b1
     try clear c6
     try clear c6b0
     try clear p6
     try clear c7
     try clear c7b0
     try clear c8
     try clear hx151_0
     try clear hx151_1
     try clear hx151_2
     try clear hx151_3
     try clear p1
     try clear p151
     try clear p2
     try clear p6
     try clear q1
     try clear q151
     obtain ⟨x4_2,rfl,HA,HK2,HB⟩:=hrel
     cases gk with
     |zero=>exact absurd HA.out (by simp [Xo.l0])
     |succ k2=>
      have H:=HA.out;clear HA;simp only [Xo.l0] at H;by_cases c9:x4_2<(l0.length:Int)
      ·rw [if_pos c9] at H;have c9b0:decide (x4_2<(l0.length:Int))=true:=decide_eq_true c9;clear c9;by_cases c10:0≤x4_2
       ·rw [if_pos c10] at H;have c10b0:decide (0≤x4_2)=true:=decide_eq_true c10;clear c10;by_cases c11:x4_2<(l0.length:Int)
        ·rw [if_pos c11] at H;have c11b0:decide (x4_2<(l0.length:Int))=true:=decide_eq_true c11;clear c11;replace H:=Option.bind_eq_some_iff.mp H;obtain ⟨t153,A120,H⟩:=H;replace H:(if t153=true then (if ((Xb l0 x4_2).f0)=13 then (if x4_2<(wrap64 ((l0.length:Int) - 1)) then (some false) else (Xo.l0 k2 l0 (l0.length:Int) (wrap64 (x4_2+1)))) else (Xo.l0 k2 l0 (l0.length:Int) (wrap64 (x4_2+1)))) else (some false))=some r:=H;have A12:=Xa.mk A120;clear A120;by_cases c13:t153=true
         ·subst c13
          have H1:(if ((Xb l0 x4_2).f0)=13 then (if x4_2<(wrap64 ((l0.length:Int) - 1)) then (some false) else (Xo.l0 k2 l0 (l0.length:Int) (wrap64 (x4_2+1)))) else (Xo.l0 k2 l0 (l0.length:Int) (wrap64 (x4_2+1))))=some r:=by rw [if_pos rfl] at H;exact H
          clear H;have H:=H1;clear H1;by_cases c14:((Xb l0 x4_2).f0)=13
          ·rw [if_pos c14] at H;have c14b0:(((Xb l0 x4_2).f0) == 13)=true:=beq_iff_eq.mpr c14;have c14b1:(((Xb l0 x4_2).f0) != 13)=false:=bne_eq_false_iff_eq.mpr c14;clear c14;by_cases c15:x4_2<(wrap64 ((l0.length:Int) - 1))
           ·rw [if_pos c15] at H;have c15b0:decide (x4_2<(wrap64 ((l0.length:Int) - 1)))=true:=decide_eq_true c15;clear c15;obtain rfl:=Option.some.inj H;have p152:0≤(x4_2:Int):=of_decide_eq_true (by first|(with_reducible assumption)|assumption);have q152:x4_2<(l0.length:Int):=of_decide_eq_true (by first|(with_reducible assumption)|assumption);obtain ⟨ad152,e152,hx152_0,hx152_1,hx152_2,hx152_3⟩:=Yk HR0.out x4_2 p152 q152;cases e152
            replace hx152_0:=(HB.out.cell (World.block_lt_of_cell? w _ hx152_0)).trans hx152_0;replace hx152_1:=(HB.out.cell (World.block_lt_of_cell? w _ hx152_1)).trans hx152_1;replace hx152_2:=(HB.out.cell (World.block_lt_of_cell? w _ hx152_2)).trans hx152_2;replace hx152_3:=(HB.out.cell (World.block_lt_of_cell? w _ hx152_3)).trans hx152_3;replace p152:=eq_true p152;replace q152:=eq_true q152;go_wp2_with (first|((with_reducible refine Xe (f:=62) rfl ?_);refine Xv (some 34) rfl rfl Try.func62 (by kernel_rfl) rfl #[.agg #[.int .i64 ((Xb l0 x4_2).f0),.int .i64 ((Xb l0 x4_2).f1),.int .i64 ((Xb l0 x4_2).f2),.int .i64 ((Xb l0 x4_2).f3)],.int .i64 (l0.length:Int)] rfl ga_ ?_;(with_reducible refine (Xf.calls k2 ((Xb l0 x4_2).f0) ((Xb l0 x4_2).f1) ((Xb l0 x4_2).f2) ((Xb l0 x4_2).f3) (l0.length:Int) true _ A12.out).mono ?_);rintro e w16 ⟨rfl,hb⟩;refine ⟨_,rfl,?_⟩;have n0_:=Xa.mk (Xd (bl_ HB) hb);clear HB;have HB:=n0_;clear n0_;(try clear hb);(try clear hb2);(try clear hk);(try clear hi);have p154:0≤(x4_2:Int):=of_decide_eq_true (by first|(with_reducible assumption)|assumption);have q154:x4_2<(l0.length:Int):=of_decide_eq_true (by first|(with_reducible assumption)|assumption);obtain ⟨ad154,e154,hx154_0,hx154_1,hx154_2,hx154_3⟩:=Yk HR0.out x4_2 p154 q154;obtain rfl:ad152=ad154:=(by injection e154);replace hx154_0:=(HB.out.cell (World.block_lt_of_cell? w _ hx154_0)).trans hx154_0;replace hx154_1:=(HB.out.cell (World.block_lt_of_cell? w _ hx154_1)).trans hx154_1;replace hx154_2:=(HB.out.cell (World.block_lt_of_cell? w _ hx154_2)).trans hx154_2;replace hx154_3:=(HB.out.cell (World.block_lt_of_cell? w _ hx154_3)).trans hx154_3;replace p154:=eq_true p154;replace q154:=eq_true q154))
            go_ret
            exact ⟨rf_,bl_ HB⟩
           ·rw [if_neg c15] at H;have c15b0:decide (x4_2<(wrap64 ((l0.length:Int) - 1)))=false:=decide_eq_false c15;clear c15;have H':=Xa.mk H;clear H;have p152:0≤(x4_2:Int):=of_decide_eq_true (by first|(with_reducible assumption)|assumption);have q152:x4_2<(l0.length:Int):=of_decide_eq_true (by first|(with_reducible assumption)|assumption);obtain ⟨ad152,e152,hx152_0,hx152_1,hx152_2,hx152_3⟩:=Yk HR0.out x4_2 p152 q152;cases e152
            replace hx152_0:=(HB.out.cell (World.block_lt_of_cell? w _ hx152_0)).trans hx152_0;replace hx152_1:=(HB.out.cell (World.block_lt_of_cell? w _ hx152_1)).trans hx152_1;replace hx152_2:=(HB.out.cell (World.block_lt_of_cell? w _ hx152_2)).trans hx152_2;replace hx152_3:=(HB.out.cell (World.block_lt_of_cell? w _ hx152_3)).trans hx152_3;replace p152:=eq_true p152;replace q152:=eq_true q152;go_wp2_with (first|((with_reducible refine Xe (f:=62) rfl ?_);refine Xv (some 34) rfl rfl Try.func62 (by kernel_rfl) rfl #[.agg #[.int .i64 ((Xb l0 x4_2).f0),.int .i64 ((Xb l0 x4_2).f1),.int .i64 ((Xb l0 x4_2).f2),.int .i64 ((Xb l0 x4_2).f3)],.int .i64 (l0.length:Int)] rfl ga_ ?_;(with_reducible refine (Xf.calls k2 ((Xb l0 x4_2).f0) ((Xb l0 x4_2).f1) ((Xb l0 x4_2).f2) ((Xb l0 x4_2).f3) (l0.length:Int) true _ A12.out).mono ?_);rintro e w17 ⟨rfl,hb⟩;refine ⟨_,rfl,?_⟩;have n0_:=Xa.mk (Xd (bl_ HB) hb);clear HB;have HB:=n0_;clear n0_;(try clear hb);(try clear hb2);(try clear hk);(try clear hi);have p154:0≤(x4_2:Int):=of_decide_eq_true (by first|(with_reducible assumption)|assumption);have q154:x4_2<(l0.length:Int):=of_decide_eq_true (by first|(with_reducible assumption)|assumption);obtain ⟨ad154,e154,hx154_0,hx154_1,hx154_2,hx154_3⟩:=Yk HR0.out x4_2 p154 q154;obtain rfl:ad152=ad154:=(by injection e154);replace hx154_0:=(HB.out.cell (World.block_lt_of_cell? w _ hx154_0)).trans hx154_0;replace hx154_1:=(HB.out.cell (World.block_lt_of_cell? w _ hx154_1)).trans hx154_1;replace hx154_2:=(HB.out.cell (World.block_lt_of_cell? w _ hx154_2)).trans hx154_2;replace hx154_3:=(HB.out.cell (World.block_lt_of_cell? w _ hx154_3)).trans hx154_3;replace p154:=eq_true p154;replace q154:=eq_true q154))
            go_roundg k2
            case measure=>have:=HJ1.out;have:=HK2.out;omega
            case rel=>exact ⟨(wrap64 (x4_2+1)),(by first|rfl|(simp;done)|(simp [*];done)),H',⟨by have:=HJ1.out;have:=HK2.out;omega⟩,⟨bl_ HB⟩⟩
          ·rw [if_neg c14] at H;have c14b0:(((Xb l0 x4_2).f0) == 13)=false:=beq_eq_false_iff_ne.mpr c14;have c14b1:(((Xb l0 x4_2).f0) != 13)=true:=bne_iff_ne.mpr c14;have H':=Xa.mk H;clear H;have p152:0≤(x4_2:Int):=of_decide_eq_true (by first|(with_reducible assumption)|assumption);have q152:x4_2<(l0.length:Int):=of_decide_eq_true (by first|(with_reducible assumption)|assumption);obtain ⟨ad152,e152,hx152_0,hx152_1,hx152_2,hx152_3⟩:=Yk HR0.out x4_2 p152 q152;cases e152
           replace hx152_0:=(HB.out.cell (World.block_lt_of_cell? w _ hx152_0)).trans hx152_0;replace hx152_1:=(HB.out.cell (World.block_lt_of_cell? w _ hx152_1)).trans hx152_1;replace hx152_2:=(HB.out.cell (World.block_lt_of_cell? w _ hx152_2)).trans hx152_2;replace hx152_3:=(HB.out.cell (World.block_lt_of_cell? w _ hx152_3)).trans hx152_3;replace p152:=eq_true p152;replace q152:=eq_true q152;go_wp2_with (first|((with_reducible refine Xe (f:=62) rfl ?_);refine Xv (some 34) rfl rfl Try.func62 (by kernel_rfl) rfl #[.agg #[.int .i64 ((Xb l0 x4_2).f0),.int .i64 ((Xb l0 x4_2).f1),.int .i64 ((Xb l0 x4_2).f2),.int .i64 ((Xb l0 x4_2).f3)],.int .i64 (l0.length:Int)] rfl ga_ ?_;(with_reducible refine (Xf.calls k2 ((Xb l0 x4_2).f0) ((Xb l0 x4_2).f1) ((Xb l0 x4_2).f2) ((Xb l0 x4_2).f3) (l0.length:Int) true _ A12.out).mono ?_);rintro e w18 ⟨rfl,hb⟩;refine ⟨_,rfl,?_⟩;have n0_:=Xa.mk (Xd (bl_ HB) hb);clear HB;have HB:=n0_;clear n0_;(try clear hb);(try clear hb2);(try clear hk);(try clear hi);have p154:0≤(x4_2:Int):=of_decide_eq_true (by first|(with_reducible assumption)|assumption);have q154:x4_2<(l0.length:Int):=of_decide_eq_true (by first|(with_reducible assumption)|assumption);obtain ⟨ad154,e154,hx154_0,hx154_1,hx154_2,hx154_3⟩:=Yk HR0.out x4_2 p154 q154;obtain rfl:ad152=ad154:=(by injection e154);replace hx154_0:=(HB.out.cell (World.block_lt_of_cell? w _ hx154_0)).trans hx154_0;replace hx154_1:=(HB.out.cell (World.block_lt_of_cell? w _ hx154_1)).trans hx154_1;replace hx154_2:=(HB.out.cell (World.block_lt_of_cell? w _ hx154_2)).trans hx154_2;replace hx154_3:=(HB.out.cell (World.block_lt_of_cell? w _ hx154_3)).trans hx154_3;replace p154:=eq_true p154;replace q154:=eq_true q154))
           go_roundg k2
           case measure=>have:=HJ1.out;have:=HK2.out;omega
           case rel=>exact ⟨(wrap64 (x4_2+1)),(by first|rfl|(simp;done)|(simp [*];done)),H',⟨by have:=HJ1.out;have:=HK2.out;omega⟩,⟨bl_ HB⟩⟩
         ·replace c13:=Bool.eq_false_iff.mpr c13;subst c13
          have H1:(some false)=some r:=by rw [if_neg (show ¬ (false=true) by decide)] at H;exact H
          clear H;have H:=H1;clear H1;obtain rfl:=Option.some.inj H;have p152:0≤(x4_2:Int):=of_decide_eq_true (by first|(with_reducible assumption)|assumption);have q152:x4_2<(l0.length:Int):=of_decide_eq_true (by first|(with_reducible assumption)|assumption);obtain ⟨ad152,e152,hx152_0,hx152_1,hx152_2,hx152_3⟩:=Yk HR0.out x4_2 p152 q152;cases e152
          replace hx152_0:=(HB.out.cell (World.block_lt_of_cell? w _ hx152_0)).trans hx152_0;replace hx152_1:=(HB.out.cell (World.block_lt_of_cell? w _ hx152_1)).trans hx152_1;replace hx152_2:=(HB.out.cell (World.block_lt_of_cell? w _ hx152_2)).trans hx152_2;replace hx152_3:=(HB.out.cell (World.block_lt_of_cell? w _ hx152_3)).trans hx152_3;replace p152:=eq_true p152;replace q152:=eq_true q152;go_wp2_with (first|((with_reducible refine Xe (f:=62) rfl ?_);refine Xv (some 34) rfl rfl Try.func62 (by kernel_rfl) rfl #[.agg #[.int .i64 ((Xb l0 x4_2).f0),.int .i64 ((Xb l0 x4_2).f1),.int .i64 ((Xb l0 x4_2).f2),.int .i64 ((Xb l0 x4_2).f3)],.int .i64 (l0.length:Int)] rfl ga_ ?_;(with_reducible refine (Xf.calls k2 ((Xb l0 x4_2).f0) ((Xb l0 x4_2).f1) ((Xb l0 x4_2).f2) ((Xb l0 x4_2).f3) (l0.length:Int) false _ A12.out).mono ?_);rintro e w19 ⟨rfl,hb⟩;refine ⟨_,rfl,?_⟩;have n0_:=Xa.mk (Xd (bl_ HB) hb);clear HB;have HB:=n0_;clear n0_;(try clear hb);(try clear hb2);(try clear hk);(try clear hi)))
          go_ret
          exact ⟨rf_,bl_ HB⟩
        ·rw [if_neg c11] at H;exact absurd H (by simp)
       ·rw [if_neg c10] at H;exact absurd H (by simp)
      ·rw [if_neg c9] at H;have c9b0:decide (x4_2<(l0.length:Int))=false:=decide_eq_false c9;clear c9;replace H:=Option.bind_eq_some_iff.mp H;obtain ⟨⟨t155,t156⟩,A200,H⟩:=H;replace H:(some t156)=some r:=H;have A20:=Xa.mk A200;clear A200;obtain rfl:=Option.some.inj H;go_wp2_with (first|((with_reducible refine Xe (f:=63) rfl ?_);refine Xv (some 52) rfl rfl Try.func63 (by kernel_rfl) rfl #[.slice A0 l0.length c0] rfl ga_ ?_;(with_reducible refine (Xh.calls k2 _ _ l0 t155 t156 _ ?side1 ?side2 A20.out).mono ?_);(case side1=>repeat (first|exact (Kd.Zv HR0.out HB.out)|(with_reducible refine Kd.Xr ?_ _)|(with_reducible refine Kd.Xt ?_ _)|(with_reducible refine Kd.Yc ?_)));(case side2=>exact HC0.out);rintro e w21 ⟨v157,rfl,ho0,hb⟩;refine ⟨_,rfl,?_⟩;have n0_:=Xa.mk (Kd.Yl ho0 (Xc (bl_ HB)));have n1_:=Xa.mk (Xd (bl_ HB) hb);clear HB;have HO158:=n0_;have HB:=n1_;clear n0_ n1_;(try clear hb);(try clear hb2);(try clear hk);(try clear hi);(try clear ho0)))
       go_ret
       exact ⟨rf_,bl_ HB⟩
def Zf.l0:Nat→List (S47)→List Int→List Bool→Int→Option (List Bool)
 |0,_,_,_,_=>none
 |k+1,x0,x3,x5,x6=>if x6<(x0.length:Int) then (if 0≤x6 then (if x6<(x3.length:Int) then (if x5.length<140737488355328 then (Zf.l0 k x0 x3 (x5 ++ [decide ((rd x3 x6) ≥ 0)]) (wrap64 (x6+1))) else (none)) else (none)) else (none)) else (some x5)
def Zf.f (k:Nat) (l0:List (S47)):Option (List Bool):=(Xh.f k l0).bind fun bt159=>(Zf.l0 k l0 bt159.1 (([]:List Bool)) 0)
set_option maxHeartbeats 8000000 in
set_option maxRecDepth 100000 in
theorem Zf.calls (k:Nat) (A0:Option Addr) (c0:Nat) (l0:List (S47)) (r:List Bool) (w:World) (hr0:Kd.C k47 w A0 l0.length l0) (hc0:l0.length≤c0) (h:Zf.f k l0=some r) :
  Calls Try.prog 54 #[.slice A0 l0.length c0] w fun e w'=>∃ v0_:Value,e=.returned (v0_)∧Kd.R Kd.bool 4 w' w.heap.size (fun _=>True) v0_ r∧Below w.heap.size w w':=by
 have HR0:=Xa.mk hr0;have HC0:=Xa.mk hc0;clear hr0 hc0;have HB:=Xa.mk (Below.refl w.heap.size w);have H:((Xh.f k l0).bind fun bt159=>(Zf.l0 k l0 bt159.1 (([]:List Bool)) 0))=some r:=h;clear h;replace H:=Option.bind_eq_some_iff.mp H;obtain ⟨⟨t159,t160⟩,A20,H⟩:=H;replace H:(Zf.l0 k l0 t159 (([]:List Bool)) 0)=some r:=H;have A2:=Xa.mk A20;clear A20;obtain ⟨y163,hy163⟩:∃ y_:List Bool,y_=(([]:List Bool)):=⟨_,rfl⟩
 replace H:(Zf.l0 k l0 t159 y163 0)=some r:=by subst hy163;first|with_reducible exact H|(have z:=(Option.bind_some _ _).symm.trans H;with_reducible exact z)|exact H
 have Ny163:=Xa.mk hy163;clear hy163;have H':=Xa.mk H;clear H
 go_enter Try.func54,Try.ntmps54
 go_wp2_with (first|((with_reducible refine Xe (f:=63) rfl ?_);refine Xv (some 9) rfl rfl Try.func63 (by kernel_rfl) rfl #[.slice A0 l0.length c0] rfl ga_ ?_;(with_reducible refine (Xh.calls k _ _ l0 t159 t160 _ ?side1 ?side2 A2.out).mono ?_);(case side1=>repeat (first|exact HR0.out|(with_reducible refine Kd.Xr ?_ _)|(with_reducible refine Kd.Xt ?_ _)|(with_reducible refine Kd.Yc ?_)));(case side2=>exact HC0.out);rintro e w3 ⟨v161,rfl,ho0,hb⟩;refine ⟨_,rfl,?_⟩;have n0_:=Xa.mk (Kd.Yl ho0 (Xc (bl_ HB)));have n1_:=Xa.mk (Xd (bl_ HB) hb);clear HB;have HO162:=n0_;have HB:=n1_;clear n0_ n1_;(try clear hb);(try clear hb2);(try clear hk);(try clear hi);(try clear ho0))|((with_reducible refine Xp (N:=12) rfl ?_);refine Kd.R_lit Kd.bool _ 4 ?hg (N:=12) ?hd (xs:=([]:List Bool)) (inner:=[]) (ok:=fun _=>True) (okp:=fun _=>True) ?hr ?hp (fun _ hk=>hk) trivial (Below.refl _ _) (Nat.le_refl _) (by simp) ?_;(case hd=>rfl);(case hg=>rfl);(case hr=>first|(go_simp;done)|(go_simp;rfl));(case hp=>exact (Zb.none _ _));intro v164 w4 ho5 hb hg_ hnew_;clear hg_ hnew_;(first|rw [← Ny163.out] at ho5|(simp only [Int.reduceToNat] at ho5;rw [← Ny163.out] at ho5));have n0_:=Xa.mk (Kd.Yj (Kd.ra_ (HO162.out)) hb);have n1_:=Xa.mk (Kd.Yl ho5 (Xc (bl_ HB)));have n2_:=Xa.mk (Xd (bl_ HB) hb);clear HO162;clear HB;have HO162:=n0_;have HO165:=n1_;have HB:=n2_;clear n0_ n1_ n2_;clear hb ho5))
 go_loopg [5,6] k (fun kq v5 v6 w'=>∃ (x5_1:List Bool) (x6_1:Int),v6=.int .i64 x6_1∧Xa (Zf.l0 kq l0 t159 x5_1 x6_1=some r)∧Xa (kq≤k)∧Xa (Kd.R (Kd.int .i64) 3 w' w.heap.size (fun _=>True) v161 t159)∧Xa (Kd.R Kd.bool 4 w' w.heap.size (fun _=>True) v5 x5_1)∧Xa (Below w.heap.size w w'))
 case atStart=>exact ⟨(y163),(0),(by first|rfl|(simp;done)|(simp [*];done)),H',⟨Nat.le_refl _⟩,⟨Kd.ra_ (HO162.out)⟩,⟨Kd.ra_ (HO165.out)⟩,⟨bl_ HB⟩⟩
 case round=>
  clear H'
  try clear p2
  try clear c5
  obtain ⟨x5_1,x6_1,rfl,HA,HK1,HO_3,HO_5,HB⟩:=hrel
  cases gk with
  |zero=>exact absurd HA.out (by simp [Zf.l0])
  |succ k1=>
   have H:=HA.out;clear HA;simp only [Zf.l0] at H;by_cases c6:x6_1<(l0.length:Int)
   ·rw [if_pos c6] at H;have c6b0:decide (x6_1<(l0.length:Int))=true:=decide_eq_true c6;clear c6;by_cases c7:0≤x6_1
    ·rw [if_pos c7] at H;have c7b0:decide (0≤x6_1)=true:=decide_eq_true c7;clear c7;by_cases c8:x6_1<(t159.length:Int)
     ·rw [if_pos c8] at H;have c8b0:decide (x6_1<(t159.length:Int))=true:=decide_eq_true c8;clear c8;by_cases c9:x5_1.length<140737488355328
      ·rw [if_pos c9] at H;have LMc9:=Xa.mk c9;clear c9;obtain ⟨y167,hy167⟩:∃ y_:List Bool,y_=(x5_1 ++ [decide ((rd t159 x6_1) ≥ 0)]):=⟨_,rfl⟩
       replace H:(Zf.l0 k1 l0 t159 y167 (wrap64 (x6_1+1)))=some r:=by subst hy167;first|with_reducible exact H|(have z:=(Option.bind_some _ _).symm.trans H;with_reducible exact z)|exact H
       have Ny167:=Xa.mk hy167;clear hy167;have H':=Xa.mk H;clear H;obtain ⟨Ao10,co10,eo10⟩:=Kd.Yo HO_3.out;subst eo10;have p166:0≤(x6_1:Int):=of_decide_eq_true (by first|(with_reducible assumption)|assumption);have q166:x6_1<(t159.length:Int):=of_decide_eq_true (by first|(with_reducible assumption)|assumption);obtain ⟨ad166,e166,hx166_0⟩:=Kd.Ub (Kd.R_reads' HO_3.out).2.2 x6_1 p166 q166;cases e166
       replace p166:=eq_true p166;replace q166:=eq_true q166;go_wp2_with (first|((with_reducible refine Zn (b:=.append) (xs:=#[.tmp 19,.tmp 25]) rfl ?_);at_builtin;refine Kd.R_append Kd.bool (w0:=w) w.heap.size rfl (.tmp 19) (.tmp 25) 34 4 (.bool false) 1 rfl Try.underlying34 info4 rfl (by decide) (by omega) u5 x5_1 (decide ((rd t159 x6_1) ≥ 0)) [.bool (decide ((rd t159 x6_1) ≥ 0))] (fun _=>True) (fun _=>False) rfl rfl ?aP (fun _ hk=>hk.elim) ?aF ?aO ?aB ?aS ?aL ?_;(case aP=>exact rfl);(case aB=>exact (bl_ HB));(case aF=>exact (fun _ _=>trivial));(case aO=>exact (Kd.ra_ (HO_5.out)));(case aS=>exact (Xc (bl_ HB)));(case aL=>have:=LMc9.out;omega);intro v168 w11 ho hb hg hat;rw [← Ny167.out] at ho;have n0_:=Xa.mk (Kd.R_over' (Kd.ra_ (HO_3.out)) (Kd.R_typed (Kd.ra_ (HO_5.out))) (by decide) hg);have n1_:=Xa.mk (hb);have n2_:=Xa.mk (ho);clear HO_3;clear HB;clear HO_5;have HO_3:=n0_;have HB:=n1_;have HO169:=n2_;clear n0_ n1_ n2_;clear ho hb hg hat))
       go_roundg k1
       case measure=>have:=HK1.out;omega
       case rel=>exact ⟨(y167),(wrap64 (x6_1+1)),(by first|rfl|(simp;done)|(simp [*];done)),H',⟨by have:=HK1.out;omega⟩,⟨Kd.ra_ (HO_3.out)⟩,⟨Kd.ra_ (HO169.out)⟩,⟨bl_ HB⟩⟩
      ·rw [if_neg c9] at H;exact absurd H (by simp)
     ·rw [if_neg c8] at H;exact absurd H (by simp)
    ·rw [if_neg c7] at H;exact absurd H (by simp)
   ·rw [if_neg c6] at H;have c6b0:decide (x6_1<(l0.length:Int))=false:=decide_eq_false c6;clear c6;obtain rfl:=Option.some.inj H;go_wp2
    go_ret
    exact ⟨_,rf_,Kd.ra_ (HO_5.out),bl_ HB⟩
def laws_toIns.f (a0_0:Int) (a0_1:Int) (a0_2:Int) (a0_3:Int):Option (Int × Int × Int × Int):=some (a0_0,a0_1,a0_2,a0_3)
set_option maxHeartbeats 8000000 in
set_option maxRecDepth 100000 in
theorem laws_toIns.calls (a0_0:Int) (a0_1:Int) (a0_2:Int) (a0_3:Int) (r1:Int) (r2:Int) (r3:Int) (r4:Int) (w:World) (h:laws_toIns.f a0_0 a0_1 a0_2 a0_3=some (r1,r2,r3,r4)) :
  Calls Try.prog 55 #[.agg #[.int .i64 a0_0,.int .i64 a0_1,.int .i64 a0_2,.int .i64 a0_3]] w fun e w'=>e=.returned (.agg #[.int .i64 r1,.int .i64 r2,.int .i64 r3,.int .i64 r4])∧Below w.heap.size w w':=by
 have hu59:=Try.underlying59;have hu47:=Try.underlying47;have HB:=Xa.mk (Below.refl w.heap.size w);have H:(some (a0_0,a0_1,a0_2,a0_3))=some (r1,r2,r3,r4):=h;clear h;simp only [Option.some.injEq,Prod.mk.injEq] at H;obtain ⟨rfl,rfl,rfl,rfl⟩:=H
 go_enter Try.func55,Try.ntmps55
 go_wp2_with (first|((with_reducible refine Xp (N:=1) rfl ?_);refine Xx ?hg (N:=1) ?hd (cs:=#[.int .i64 a0_0,.int .i64 a0_1,.int .i64 a0_2,.int .i64 a0_3]) (t:=59) ?hr ?_;(case hd=>rfl);(case hg=>rfl);(case hr=>first|(go_simp;done)|(go_simp;rfl));intro gb177 hg w2 hbox hb;have n0_:=Xa.mk (Xd (bl_ HB) hb);have n1_:=Xa.mk (hbox);have n2_:=Xa.mk ((by rw [hg];exact (Xc (bl_ HB)):w.heap.size≤gb177));have n3_:=Xa.mk ((by rw [hg];exact (Xc (bl_ HB)):w.heap.size≤gb177));clear HB;have HB:=n0_;have BK177:=n1_;have GW177:=n2_;have GE177:=n3_;clear n0_ n1_ n2_ n3_;clear hb hbox hg)|((with_reducible refine Xp (N:=2) rfl ?_);refine Xx ?hg (N:=2) ?hd (cs:=#[.int .i64 0,.int .i64 0,.int .i64 0,.int .i64 0]) (t:=47) ?hr ?_;(case hd=>rfl);(case hg=>rfl);(case hr=>first|(go_simp;done)|(go_simp;rfl));intro gb178 hg w3 hbox hb;have n0_:=Xa.mk (Ul (g:=gb177) (o:=.cells #[.int .i64 a0_0,.int .i64 a0_1,.int .i64 a0_2,.int .i64 a0_3] 59 (0,0)) (ba_ BK177) hb);have n1_:=Xa.mk (Xd (bl_ HB) hb);have n2_:=Xa.mk (hbox);have n3_:=Xa.mk ((by rw [hg];exact (Xc (bl_ HB)):w.heap.size≤gb178));have n4_:=Xa.mk ((by rw [hg];exact (Xc (bl_ HB)):w.heap.size≤gb178));have n5_:=Xa.mk ((by rw [hg];exact Nat.ne_of_lt (blk_lt (g:=gb177) (o:=.cells #[.int .i64 a0_0,.int .i64 a0_1,.int .i64 a0_2,.int .i64 a0_3] 59 (0,0)) (ba_ BK177)):gb177≠gb178));have n6_:=Xa.mk ((by rw [hg];exact Nat.ne_of_gt (blk_lt (g:=gb177) (o:=.cells #[.int .i64 a0_0,.int .i64 a0_1,.int .i64 a0_2,.int .i64 a0_3] 59 (0,0)) (ba_ BK177)):gb178≠gb177));clear BK177;clear HB;have BK177:=n0_;have HB:=n1_;have BK178:=n2_;have GW178:=n3_;have GE178:=n4_;have NB177_178:=n5_;have NB178_177:=n6_;clear n0_ n1_ n2_ n3_ n4_ n5_ n6_;clear hb hbox hg)|((with_reducible refine Xp (N:=3) rfl ?_);refine Xx ?hg (N:=3) ?hd (cs:=#[.int .i64 0,.int .i64 0,.int .i64 0,.int .i64 0]) (t:=47) ?hr ?_;(case hd=>rfl);(case hg=>rfl);(case hr=>first|(go_simp;done)|(go_simp;rfl));intro gb179 hg w4 hbox hb;have n0_:=Xa.mk (Ul (g:=gb177) (o:=.cells #[.int .i64 a0_0,.int .i64 a0_1,.int .i64 a0_2,.int .i64 a0_3] 59 (0,0)) (ba_ BK177) hb);have n1_:=Xa.mk (Ul (g:=gb178) (o:=.cells #[.int .i64 0,.int .i64 0,.int .i64 0,.int .i64 0] 47 (0,0)) (ba_ BK178) hb);have n2_:=Xa.mk (Xd (bl_ HB) hb);have n3_:=Xa.mk (hbox);have n4_:=Xa.mk ((by rw [hg];exact (Xc (bl_ HB)):w.heap.size≤gb179));have n5_:=Xa.mk ((by rw [hg];exact (Xc (bl_ HB)):w.heap.size≤gb179));have n6_:=Xa.mk ((by rw [hg];exact Nat.ne_of_lt (blk_lt (g:=gb177) (o:=.cells #[.int .i64 a0_0,.int .i64 a0_1,.int .i64 a0_2,.int .i64 a0_3] 59 (0,0)) (ba_ BK177)):gb177≠gb179));have n7_:=Xa.mk ((by rw [hg];exact Nat.ne_of_gt (blk_lt (g:=gb177) (o:=.cells #[.int .i64 a0_0,.int .i64 a0_1,.int .i64 a0_2,.int .i64 a0_3] 59 (0,0)) (ba_ BK177)):gb179≠gb177));have n8_:=Xa.mk ((by rw [hg];exact Nat.ne_of_lt (blk_lt (g:=gb178) (o:=.cells #[.int .i64 0,.int .i64 0,.int .i64 0,.int .i64 0] 47 (0,0)) (ba_ BK178)):gb178≠gb179));have n9_:=Xa.mk ((by rw [hg];exact Nat.ne_of_gt (blk_lt (g:=gb178) (o:=.cells #[.int .i64 0,.int .i64 0,.int .i64 0,.int .i64 0] 47 (0,0)) (ba_ BK178)):gb179≠gb178));clear BK177;clear BK178;clear HB;have BK177:=n0_;have BK178:=n1_;have HB:=n2_;have BK179:=n3_;have GW179:=n4_;have GE179:=n5_;have NB177_179:=n6_;have NB179_177:=n7_;have NB178_179:=n8_;have NB179_178:=n9_;clear n0_ n1_ n2_ n3_ n4_ n5_ n6_ n7_ n8_ n9_;clear hb hbox hg;have hnb5:=NB177_178.out;have hnc5:=NB178_177.out;have hnb6:=NB177_179.out;have hnc6:=NB179_177.out;obtain ⟨hcz7_0,hcz7_1,hcz7_2,hcz7_3⟩:=Zp BK177.out;obtain ⟨hfz7_0,hfz7_1,hfz7_2,hfz7_3⟩:=Zq BK177.out;have hnb8:=NB179_178.out;have hnc8:=NB178_179.out;obtain ⟨hcz9_0,hcz9_1,hcz9_2,hcz9_3⟩:=Zp BK179.out;obtain ⟨hfz9_0,hfz9_1,hfz9_2,hfz9_3⟩:=Zq BK179.out;obtain ⟨hcz10_0,hcz10_1,hcz10_2,hcz10_3⟩:=Zp BK178.out;obtain ⟨hfz10_0,hfz10_1,hfz10_2,hfz10_3⟩:=Zq BK178.out))
 refine bodyPost_ret (results_cell_row rfl _ _ gb178 47 #[.int .i64 a0_0,.int .i64 a0_1,.int .i64 a0_2,.int .i64 a0_3] (0,0) _ rfl (by (with_reducible repeat (first|refine Yi ?_ _|refine Ym ?_|refine Yh ?_ _));refine Zx (cs:=#[.int .i64 a0_0,.int .i64 a0_1,.int .i64 a0_2,.int .i64 0]) ?_ 3 _ rfl;(with_reducible repeat (first|refine Yi ?_ _|refine Ym ?_|refine Yh ?_ _));refine Zx (cs:=#[.int .i64 a0_0,.int .i64 a0_1,.int .i64 0,.int .i64 0]) ?_ 2 _ rfl;(with_reducible repeat (first|refine Yi ?_ _|refine Ym ?_|refine Yh ?_ _));refine Zx (cs:=#[.int .i64 a0_0,.int .i64 0,.int .i64 0,.int .i64 0]) ?_ 1 _ rfl;(with_reducible repeat (first|refine Yi ?_ _|refine Ym ?_|refine Yh ?_ _));refine Zx (cs:=#[.int .i64 0,.int .i64 0,.int .i64 0,.int .i64 0]) ?_ 0 _ rfl;(with_reducible repeat (first|refine Yi ?_ _|refine Ym ?_|refine Yh ?_ _));refine blk_far ?_ NB178_179.out _;(with_reducible repeat (first|refine Yi ?_ _|refine Ym ?_|refine Yh ?_ _));refine blk_far ?_ NB178_179.out _;(with_reducible repeat (first|refine Yi ?_ _|refine Ym ?_|refine Yh ?_ _));refine blk_far ?_ NB178_179.out _;(with_reducible repeat (first|refine Yi ?_ _|refine Ym ?_|refine Yh ?_ _));refine blk_far ?_ NB178_179.out _;(with_reducible repeat (first|refine Yi ?_ _|refine Ym ?_|refine Yh ?_ _));exact BK178.out) Try.underlying47 rfl (by kernel_rfl)) rfl ?_
 exact ⟨rf_,bl_ HB⟩
def Xq.l0:Nat→List (S59)→List (S47)→Int→Option ((List (S47)))
 |0,_,_,_=>none
 |k+1,x0,x3,x4=>if x4<(x0.length:Int) then (if 0≤x4 then ((laws_toIns.f ((rd_T59 x0 x4).f0) ((rd_T59 x0 x4).f1) ((rd_T59 x0 x4).f2) ((rd_T59 x0 x4).f3)).bind fun bt184=>(if x4<(x3.length:Int) then (Xq.l0 k x0 (x3.set (x4:Int).toNat (⟨bt184.1,bt184.2.1,bt184.2.2.1,bt184.2.2.2⟩:S47)) (wrap64 (x4+1))) else (none))) else (none)) else (some x3)
def Xq.f (k:Nat) (l0:List (S59)):Option ((List (S47))):=if 0≤(l0.length:Int) then (if ((l0.length:Int):Int).toNat≤8796093022208 then (Xq.l0 k l0 (List.replicate ((l0.length:Int):Int).toNat z47) 0) else (none)) else (none)
set_option maxHeartbeats 8000000 in
set_option maxRecDepth 100000 in
theorem Xq.calls (k:Nat) (A0:Option Addr) (c0:Nat) (l0:List (S59)) (r:List (S47)) (w:World) (hr0:Kd.C k59 w A0 l0.length l0) (hc0:l0.length≤c0) (h:Xq.f k l0=some r) :
  Calls Try.prog 23 #[.slice A0 l0.length c0] w fun e w'=>∃ v0_:Value,e=.returned (v0_)∧Kd.R k47 47 w' w.heap.size (fun _=>True) v0_ r∧Below w.heap.size w w':=by
 have hu59:=Try.underlying59;have hu47:=Try.underlying47;have HR0:=Xa.mk hr0;have HC0:=Xa.mk hc0;clear hr0 hc0;have HB:=Xa.mk (Below.refl w.heap.size w);have H:(if 0≤(l0.length:Int) then (if ((l0.length:Int):Int).toNat≤8796093022208 then (Xq.l0 k l0 (List.replicate ((l0.length:Int):Int).toNat z47) 0) else (none)) else (none))=some r:=h;clear h;by_cases c2:0≤(l0.length:Int)
 ·rw [if_pos c2] at H;have c2b0:=eq_true c2;have c2b1:decide (0≤(l0.length:Int))=true:=decide_eq_true c2;clear c2;by_cases c3:((l0.length:Int):Int).toNat≤8796093022208
  ·rw [if_pos c3] at H;have c3b0:=eq_true c3;have c3b1:decide (((l0.length:Int):Int).toNat≤8796093022208)=true:=decide_eq_true c3;clear c3;obtain ⟨y180,hy180⟩:∃ y_:List (S47),y_=(List.replicate ((l0.length:Int):Int).toNat z47):=⟨_,rfl⟩
   replace H:(Xq.l0 k l0 y180 0)=some r:=by subst hy180;first|with_reducible exact H|(have z:=(Option.bind_some _ _).symm.trans H;with_reducible exact z)|exact H
   have Ny180:=Xa.mk hy180;clear hy180;have H':=Xa.mk H;clear H
   go_enter Try.func23,Try.ntmps23
   go_wp2_with (first|((with_reducible refine Xp (N:=7) rfl ?_);refine Kd.R_make k47 _ 47 rfl (N:=7) rfl 36 _ _ rfl (l0.length:Int) rfl rfl Try.underlying36 (.agg #[(.int .i64 0),(.int .i64 0),(.int .i64 0),(.int .i64 0)]) 32 info47 rfl (by decide) (by omega) z47 (ok:=fun _=>True) (okp:=fun _=>True) (k47_mkM _ _ _ z47 ) (fun _ hk=>hk) trivial (of_decide_eq_true (by first|(with_reducible assumption)|assumption)) (Nat.le_trans (Nat.mul_le_mul_right _ (of_decide_eq_true (by first|(with_reducible assumption)|assumption):(l0.length:Int).toNat≤8796093022208)) (by omega)) (Below.refl _ _) (Nat.le_refl _) ?_;intro v181 w4 ho5 hb hg_ hnew_;clear hg_ hnew_;(first|rw [← Ny180.out] at ho5|(simp only [Int.reduceToNat] at ho5;rw [← Ny180.out] at ho5));have n0_:=Xa.mk (Kd.Yl ho5 (Xc (bl_ HB)));have n1_:=Xa.mk (Xd (bl_ HB) hb);clear HB;have HO182:=n0_;have HB:=n1_;clear n0_ n1_;clear hb ho5))
   go_loopg [4] k (fun kq v4 w'=>∃ (x3_1:List (S47)) (x4_1:Int),v4=.int .i64 x4_1∧Xa (Xq.l0 kq l0 x3_1 x4_1=some r)∧Xa (kq≤k)∧Xa (Kd.R k47 47 w' w.heap.size (fun _=>True) v181 x3_1)∧Xa (Below w.heap.size w w'))
   case atStart=>exact ⟨(y180),(0),(by first|rfl|(simp;done)|(simp [*];done)),H',⟨Nat.le_refl _⟩,⟨Kd.ra_ (HO182.out)⟩,⟨bl_ HB⟩⟩
   case round=>
    clear H'
    try clear c2
    try clear c2b0
    try clear c2b1
    try clear p2
    try clear c3
    try clear c3b0
    try clear c3b1
    obtain ⟨x3_1,x4_1,rfl,HA,HK1,HO_3,HB⟩:=hrel
    cases gk with
    |zero=>exact absurd HA.out (by simp [Xq.l0])
    |succ k1=>
     have H:=HA.out;clear HA;simp only [Xq.l0] at H;by_cases c6:x4_1<(l0.length:Int)
     ·rw [if_pos c6] at H;have c6b0:decide (x4_1<(l0.length:Int))=true:=decide_eq_true c6;clear c6;by_cases c7:0≤x4_1
      ·rw [if_pos c7] at H;have c7b0:decide (0≤x4_1)=true:=decide_eq_true c7;clear c7;replace H:=Option.bind_eq_some_iff.mp H;obtain ⟨⟨t184,t185,t186,t187⟩,A80,H⟩:=H;replace H:(if x4_1<(x3_1.length:Int) then (Xq.l0 k1 l0 (x3_1.set (x4_1:Int).toNat (⟨t184,t185,t186,t187⟩:S47)) (wrap64 (x4_1+1))) else (none))=some r:=H;have A8:=Xa.mk A80;clear A80;by_cases c9:x4_1<(x3_1.length:Int)
       ·rw [if_pos c9] at H;have c9b0:decide (x4_1<(x3_1.length:Int))=true:=decide_eq_true c9;clear c9;obtain ⟨y188,hy188⟩:∃ y_:List (S47),y_=(x3_1.set (x4_1:Int).toNat (⟨t184,t185,t186,t187⟩:S47)):=⟨_,rfl⟩
        replace H:(Xq.l0 k1 l0 y188 (wrap64 (x4_1+1)))=some r:=by subst hy188;first|with_reducible exact H|(have z:=(Option.bind_some _ _).symm.trans H;with_reducible exact z)|exact H
        have Ny188:=Xa.mk hy188;clear hy188;have H':=Xa.mk H;clear H;have p183:0≤(x4_1:Int):=of_decide_eq_true (by first|(with_reducible assumption)|assumption);have q183:x4_1<(l0.length:Int):=of_decide_eq_true (by first|(with_reducible assumption)|assumption);obtain ⟨ad183,e183,hx183_0,hx183_1,hx183_2,hx183_3⟩:=at_T59 HR0.out x4_1 p183 q183;cases e183
        replace hx183_0:=(HB.out.cell (World.block_lt_of_cell? w _ hx183_0)).trans hx183_0;replace hx183_1:=(HB.out.cell (World.block_lt_of_cell? w _ hx183_1)).trans hx183_1;replace hx183_2:=(HB.out.cell (World.block_lt_of_cell? w _ hx183_2)).trans hx183_2;replace hx183_3:=(HB.out.cell (World.block_lt_of_cell? w _ hx183_3)).trans hx183_3;replace p183:=eq_true p183;replace q183:=eq_true q183;go_wp2_with (first|((with_reducible refine Xe (f:=55) rfl ?_);refine Xv (some 20) rfl rfl Try.func55 (by kernel_rfl) rfl #[.agg #[.int .i64 ((rd_T59 l0 x4_1).f0),.int .i64 ((rd_T59 l0 x4_1).f1),.int .i64 ((rd_T59 l0 x4_1).f2),.int .i64 ((rd_T59 l0 x4_1).f3)]] rfl ga_ ?_;(with_reducible refine (laws_toIns.calls ((rd_T59 l0 x4_1).f0) ((rd_T59 l0 x4_1).f1) ((rd_T59 l0 x4_1).f2) ((rd_T59 l0 x4_1).f3) t184 t185 t186 t187 _ A8.out).mono ?_);rintro e w11 ⟨rfl,hb⟩;refine ⟨_,rfl,?_⟩;have n0_:=Xa.mk (Kd.Yj (Kd.ra_ (HO_3.out)) hb);have n1_:=Xa.mk (Xd (bl_ HB) hb);clear HO_3;clear HB;have HO_3:=n0_;have HB:=n1_;clear n0_ n1_;(try clear hb);(try clear hb2);(try clear hk);(try clear hi);have p10:0≤(x4_1:Int):=of_decide_eq_true (by first|(with_reducible assumption)|assumption);have q10:(x4_1:Int)<((x3_1.length:Int):Int):=of_decide_eq_true (by first|(with_reducible assumption)|assumption);obtain ⟨go10,co10,eo10,gb10,gl10,cl10,HG10⟩:=Kd.R_form HO_3.out (by omega);(first|cases eo10|(injection eo10 with ea_ en_ ec_;(first|subst ea_|(injection ea_ with ea_;subst ea_));subst ec_;clear en_));have GB10:=Xa.mk gb10;have GG10:=Xa.mk HG10;clear gb10 gl10 HG10;obtain ⟨ce10,hcl10,hM10,hcc10,hfr10⟩:=Kd.R_elem HO_3.out z47 (x4_1:Int) p10 q10;obtain rfl:=k47_openM hM10;have hx10_0:w11.cell? ⟨go10,(x4_1:Int).toNat * 4,none⟩=some (.int .i64 ((Xb x3_1 x4_1).f0)):=hcc10 0 _ rfl;have hx10_1:w11.cell? ⟨go10,(x4_1:Int).toNat * 4+1,none⟩=some (.int .i64 ((Xb x3_1 x4_1).f1)):=hcc10 1 _ rfl;have hx10_2:w11.cell? ⟨go10,(x4_1:Int).toNat * 4+2,none⟩=some (.int .i64 ((Xb x3_1 x4_1).f2)):=hcc10 2 _ rfl;have hx10_3:w11.cell? ⟨go10,(x4_1:Int).toNat * 4+3,none⟩=some (.int .i64 ((Xb x3_1 x4_1).f3)):=hcc10 3 _ rfl;have hf10_0:w11.frozen? ⟨go10,(x4_1:Int).toNat * 4,none⟩=false:=hfr10 0;have hf10_1:w11.frozen? ⟨go10,(x4_1:Int).toNat * 4+1,none⟩=false:=hfr10 1;have hf10_2:w11.frozen? ⟨go10,(x4_1:Int).toNat * 4+2,none⟩=false:=hfr10 2;have hf10_3:w11.frozen? ⟨go10,(x4_1:Int).toNat * 4+3,none⟩=false:=hfr10 3;clear hcl10 hcc10 hfr10 hM10;replace p10:=eq_true p10;replace q10:=eq_true q10;have HX12:=Xa.mk (show Kd.R k47 47 w11 w.heap.size (fun _=>True) (.slice (some ⟨go10,0,none⟩) x3_1.length co10) x3_1 from (Kd.ra_ (HO_3.out)));obtain ⟨ce12,hcl12,hM12,hcc12,hfr12⟩:=Kd.R_elem HX12.out z47 (x4_1:Int) (of_decide_eq_true (by first|(with_reducible assumption)|assumption)) (by have h_:(x4_1:Int)<((x3_1.length:Int):Int):=of_decide_eq_true (by first|(with_reducible assumption)|assumption);first|exact h_|(have e_:=(Kd.R_reads' HO_3.out).1;omega)|simpa using h_);obtain rfl:=k47_openM hM12;have HP12:=Kd.R_seg HX12.out (x4_1:Int) (of_decide_eq_true (by first|(with_reducible assumption)|assumption)) (by have h_:(x4_1:Int)<((x3_1.length:Int):Int):=of_decide_eq_true (by first|(with_reducible assumption)|assumption);first|exact h_|(have e_:=(Kd.R_reads' HO_3.out).1;omega)|simpa using h_) (seg:=[.int .i64 t184,.int .i64 t185,.int .i64 t186,.int .i64 t187]) (j:=0) hcl12 hcc12 (show 4≤4 from by decide) (x':=(⟨t184,t185,t186,t187⟩:S47)) (k47_mkM _ _ _ (⟨t184,t185,t186,t187⟩:S47) ) (fun _ hk=>hk);have hx12_0:=hcc12 0 _ rfl;(try simp only [show (k47).sz=4 from rfl,Nat.mul_one,Nat.add_zero] at hx12_0);have hf12_0:=hfr12 0;(try simp only [show (k47).sz=4 from rfl,Nat.mul_one,Nat.add_zero] at hf12_0);have hx12_1:=hcc12 1 _ rfl;(try simp only [show (k47).sz=4 from rfl,Nat.mul_one,Nat.add_zero] at hx12_1);have hf12_1:=hfr12 1;(try simp only [show (k47).sz=4 from rfl,Nat.mul_one,Nat.add_zero] at hf12_1);have hx12_2:=hcc12 2 _ rfl;(try simp only [show (k47).sz=4 from rfl,Nat.mul_one,Nat.add_zero] at hx12_2);have hf12_2:=hfr12 2;(try simp only [show (k47).sz=4 from rfl,Nat.mul_one,Nat.add_zero] at hf12_2);have hx12_3:=hcc12 3 _ rfl;(try simp only [show (k47).sz=4 from rfl,Nat.mul_one,Nat.add_zero] at hx12_3);have hf12_3:=hfr12 3;(try simp only [show (k47).sz=4 from rfl,Nat.mul_one,Nat.add_zero] at hf12_3);clear hcl12 hcc12 hfr12 hM12)|((with_reducible refine Uk (t:=47) (p:=21) rfl ?_);refine Uf (t:=47) (p:=21) (v:=?vo_w13) (w1:=((((w11.setCell ⟨go10,(x4_1:Int).toNat * 4,none⟩ (.int .i64 t184)).setCell ⟨go10,(x4_1:Int).toNat * 4+1,none⟩ (.int .i64 t185)).setCell ⟨go10,(x4_1:Int).toNat * 4+2,none⟩ (.int .i64 t186)).setCell ⟨go10,(x4_1:Int).toNat * 4+3,none⟩ (.int .i64 t187))) ?hg ?ho ?hn ?hr ?_;(case ho=>rfl);(case hg=>rfl);(case hn=>rfl);(case hr=>first|(go_simp;done)|(go_simp;rfl));intro w13 hw;have hg:w11.grownBy w13 (some go10):=(by rw [hw];exact HP12.2);have hp_:Kd.R k47 47 w13 w.heap.size (fun _=>True) (.slice (some ⟨go10,0,none⟩) x3_1.length co10) y188:=(by rw [hw,Ny188.out];exact HP12.1);clear HP12;have n0_:=Xa.mk (hp_);have n1_:=Xa.mk ((by rw [hw];exact Ug (Ug (Ug (Ug (HB.out) GB10.out) GB10.out) GB10.out) GB10.out:Below w.heap.size w w13));clear HO_3;clear HB;have HO_3:=n0_;have HB:=n1_;clear n0_ n1_;clear hg hw hp_))
        go_roundg k1
        case measure=>have:=HK1.out;omega
        case rel=>exact ⟨(y188),(wrap64 (x4_1+1)),(by first|rfl|(simp;done)|(simp [*];done)),H',⟨by have:=HK1.out;omega⟩,⟨Kd.ra_ (HO_3.out)⟩,⟨bl_ HB⟩⟩
       ·rw [if_neg c9] at H;exact absurd H (by simp)
      ·rw [if_neg c7] at H;exact absurd H (by simp)
     ·rw [if_neg c6] at H;have c6b0:decide (x4_1<(l0.length:Int))=false:=decide_eq_false c6;clear c6;obtain rfl:=Option.some.inj H;go_wp2
      go_ret
      exact ⟨_,rf_,Kd.ra_ (HO_3.out),bl_ HB⟩
  ·rw [if_neg c3] at H;exact absurd H (by simp)
 ·rw [if_neg c2] at H;exact absurd H (by simp)
end Go.Proofs.Ytjmlpgpkmhjdiaa.GSlim
