import Derived.Test.YtjmlpgpkmhjdiaaCFnSlimJumps21
import Derived.Test.YtjmlpgpkmhjdiaaCFnSlimJumps24
import Derived.Test.YtjmlpgpkmhjdiaaCFnSlimJumps26
namespace Go.Proofs.Ytjmlpgpkmhjdiaa.GSlim
open Go.RowKit Go.Proofs.YtjmlpgpkmhjdiaaW.PrintWords Go.Proofs.YtjmlpgpkmhjdiaaW.PrintLast Go.Proofs.YtjmlpgpkmhjdiaaW.PrintMore
attribute [local go_sem] Zn Zp Ua Ub Zh Zi Zo Zq
set_option linter.unusedVariables false
set_option linter.unusedSimpArgs false
mutual
def Yf.j0:Nat→List (S47)→Int→Bool→Option (Bool)
 |0,_,_,_=>none
 |k+1,x0,x3,x23=>if x23=true then (some false) else (Yf.l0 k x0 x3 0)
def Yf.l0:Nat→List (S47)→Int→Int→Option (Bool)
 |0,_,_,_=>none
 |k+1,x0,x3,x4=>if x4<x3 then (if 0≤x4 then (if x4<(x0.length:Int) then ((Xh.f k ((Xb x0 x4).f0) ((Xb x0 x4).f1) ((Xb x0 x4).f2) ((Xb x0 x4).f3) x3).bind fun t153=>(if t153=true then (if ((Xb x0 x4).f0)=13 then (if x4<(wrap64 (x3 - 1)) then (some false) else (Yf.l0 k x0 x3 (wrap64 (x4+1)))) else (Yf.l0 k x0 x3 (wrap64 (x4+1)))) else (some false))) else (none)) else (none)) else ((Xt.f k x0).bind fun bt155=>(some bt155.2))
end
def Yf.f (k:Nat) (l0:List (S47)):Option (Bool):=if (l0.length:Int)<1 then (Yf.j0 k l0 (l0.length:Int) true) else (if (l0.length:Int) > 60 then (Yf.j0 k l0 (l0.length:Int) true) else (if 0≤(wrap64 ((l0.length:Int) - 1)) then (if (wrap64 ((l0.length:Int) - 1))<(l0.length:Int) then (Yf.j0 k l0 (l0.length:Int) (((Xb l0 (wrap64 ((l0.length:Int) - 1))).f0) != 13)) else (none)) else (none)))
set_option maxHeartbeats 8000000 in
set_option maxRecDepth 100000 in
theorem Yf.calls (k:Nat) (A0:Option Addr) (c0:Nat) (l0:List (S47)) (r:Bool) (w:World) (hr0:Kd.C k47 w A0 l0.length l0) (hc0:l0.length≤c0) (h:Yf.f k l0=some r) :
  Calls Try.prog 37 #[.slice A0 l0.length c0] w fun e w'=>e=.returned (.bool r)∧Below w.heap.size w w':=by
 have hu47:=Try.underlying47;have HR0:=Xa.mk hr0;have HC0:=Xa.mk hc0;clear hr0 hc0;have HB:=Xa.mk (Below.refl w.heap.size w);have H:(if (l0.length:Int)<1 then (Yf.j0 k l0 (l0.length:Int) true) else (if (l0.length:Int) > 60 then (Yf.j0 k l0 (l0.length:Int) true) else (if 0≤(wrap64 ((l0.length:Int) - 1)) then (if (wrap64 ((l0.length:Int) - 1))<(l0.length:Int) then (Yf.j0 k l0 (l0.length:Int) (((Xb l0 (wrap64 ((l0.length:Int) - 1))).f0) != 13)) else (none)) else (none))))=some r:=h;clear h;have HC2:=Xa.mk H;clear H
 go_enter Try.func37,Try.ntmps37
 go_upto_region 2 with (fail)
 go_cut [23] (fun v23 wc=>∃ (kq:Nat) (x23_1:Bool),v23=.bool x23_1∧Xa (Yf.j0 kq l0 (l0.length:Int) x23_1=some r)∧Xa (kq≤k)∧Xa (Below w.heap.size w wc))
 case first=>
  have H:=HC2.out;clear HC2;by_cases c3:(l0.length:Int)<1
  ·rw [if_pos c3] at H;have c3b0:decide ((l0.length:Int)<1)=true:=decide_eq_true c3;have c3b1:decide (l0.length<1)=true:=decide_eq_true (by omega);clear c3
   (first|rw [c3b0]|(simp only [Xz,Ya];rw [c3b0])|skip)
   have H':=Xa.mk H;clear H;go_wp2
   go_meet
   case rel=>exact ⟨_,(true),(by first|rfl|(simp;done)|(simp [*];done)),H',⟨by first|omega|exact Nat.le_refl _⟩,⟨bl_ HB⟩⟩
  ·rw [if_neg c3] at H;have c3b0:decide ((l0.length:Int)<1)=false:=decide_eq_false c3;have c3b1:decide (l0.length<1)=false:=decide_eq_false (by omega);clear c3
   (first|rw [c3b0]|(simp only [Xz,Ya];rw [c3b0])|skip)
   by_cases c4:(l0.length:Int) > 60
   ·rw [if_pos c4] at H;have c4b0:decide (60<(l0.length:Int))=true:=decide_eq_true c4;have c4b1:decide (60<l0.length)=true:=decide_eq_true (by omega);clear c4;have H':=Xa.mk H;clear H;go_wp2
    go_meet
    case rel=>exact ⟨_,(true),(by first|rfl|(simp;done)|(simp [*];done)),H',⟨by first|omega|exact Nat.le_refl _⟩,⟨bl_ HB⟩⟩
   ·rw [if_neg c4] at H;have c4b0:decide (60<(l0.length:Int))=false:=decide_eq_false c4;have c4b1:decide (60<l0.length)=false:=decide_eq_false (by omega);clear c4;obtain ⟨ji5,hji5⟩:∃ j_:Int,(wrap64 ((l0.length:Int) - 1))=j_:=⟨_,rfl⟩
    replace H:(if 0≤(ji5) then (if (ji5)<(l0.length:Int) then (Yf.j0 k l0 (l0.length:Int) (((Xb l0 (ji5)).f0) != 13)) else (none)) else (none))=some r:=by first|(rw [hji5] at H;exact H)|(simp only [hji5] at H ⊢;exact H)
    have hji5w:(IntKind.i64.wrap ((l0.length:Int) - 1))=ji5:=(Xz _).trans hji5;by_cases c6:0≤(ji5)
    ·rw [if_pos c6] at H;have c6b0:decide (0≤(ji5))=true:=decide_eq_true c6;clear c6;by_cases c7:(ji5)<(l0.length:Int)
     ·rw [if_pos c7] at H;have c7b0:decide ((ji5)<(l0.length:Int))=true:=decide_eq_true c7;clear c7;have H':=Xa.mk H;clear H;have p151:0≤((ji5):Int):=of_decide_eq_true (by first|(with_reducible assumption)|assumption);have q151:(ji5)<(l0.length:Int):=of_decide_eq_true (by first|(with_reducible assumption)|assumption);obtain ⟨ad151,e151,hx151_0,hx151_1,hx151_2,hx151_3⟩:=Yt HR0.out (ji5) p151 q151;cases e151
      replace hx151_0:=(HB.out.cell (World.block_lt_of_cell? w _ hx151_0)).trans hx151_0;replace hx151_1:=(HB.out.cell (World.block_lt_of_cell? w _ hx151_1)).trans hx151_1;replace hx151_2:=(HB.out.cell (World.block_lt_of_cell? w _ hx151_2)).trans hx151_2;replace hx151_3:=(HB.out.cell (World.block_lt_of_cell? w _ hx151_3)).trans hx151_3;replace p151:=eq_true p151;replace q151:=eq_true q151;go_wp2
      go_meet
      case rel=>exact ⟨_,((((Xb l0 (ji5)).f0) != 13)),(by first|rfl|(simp;done)|(simp only [← hji5] <;> (first|rfl|simp))|(simp [*];done)),H',⟨by first|omega|exact Nat.le_refl _⟩,⟨bl_ HB⟩⟩
     ·rw [if_neg c7] at H;exact absurd H (by simp)
    ·rw [if_neg c6] at H;exact absurd H (by simp)
 case rest=>
  clear HC2
  try clear p1
  try clear q1
  try clear hx1
  try clear p2
  try clear c3
  try clear c3b0
  try clear c3b1
  try clear c4
  try clear c4b0
  try clear c4b1
  try clear c6
  try clear c6b0
  try clear p6
  try clear c7
  try clear c7b0
  try clear hx151_0
  try clear hx151_1
  try clear hx151_2
  try clear hx151_3
  try clear p151
  try clear q151
  obtain ⟨kq,x23_1,rfl,HA,HJ1,HB⟩:=hcut
  cases kq with
  |zero=>exact absurd HA.out (by simp [Yf.j0])
  |succ kj1=>
   have H:=HA.out;clear HA;simp only [Yf.j0] at H;by_cases c8:x23_1=true
   ·subst c8
    have H1:(some false)=some r:=by rw [if_pos rfl] at H;exact H
    clear H;have H:=H1;clear H1;obtain rfl:=Option.some.inj H;go_wp2
    go_ret
    exact ⟨rf_,bl_ HB⟩
   ·replace c8:=Bool.eq_false_iff.mpr c8;subst c8
    have H1:(Yf.l0 kj1 l0 (l0.length:Int) 0)=some r:=by rw [if_neg (show ¬ (false=true) by decide)] at H;exact H
    clear H;have H:=H1;clear H1;have H':=Xa.mk H;clear H;go_wp2
    go_loopg [4] kj1 (fun kq v4 w'=>∃ (x4_2:Int),v4=.int .i64 x4_2∧Xa (Yf.l0 kq l0 (l0.length:Int) x4_2=some r)∧Xa (kq≤kj1)∧Xa (Below w.heap.size w w'))
    case atStart=>exact ⟨(0),(by first|rfl|(simp;done)|(simp [*];done)),H',⟨Nat.le_refl _⟩,⟨bl_ HB⟩⟩
    case round=>
     clear H'
     try clear p1
     try clear q1
     try clear hx1
     try clear p2
     try clear c3
     try clear c3b0
     try clear c3b1
     try clear c4
     try clear c4b0
     try clear c4b1
     try clear c6
     try clear c6b0
     try clear p6
     try clear c7
     try clear c7b0
     try clear c8
     try clear hx151_0
     try clear hx151_1
     try clear hx151_2
     try clear hx151_3
     try clear p1
     try clear p151
     try clear p2
     try clear p6
     try clear q1
     try clear q151
     obtain ⟨x4_2,rfl,HA,HK2,HB⟩:=hrel
     cases gk with
     |zero=>exact absurd HA.out (by simp [Yf.l0])
     |succ k2=>
      have H:=HA.out;clear HA;simp only [Yf.l0] at H;by_cases c9:x4_2<(l0.length:Int)
      ·rw [if_pos c9] at H;have c9b0:decide (x4_2<(l0.length:Int))=true:=decide_eq_true c9;clear c9;by_cases c10:0≤x4_2
       ·rw [if_pos c10] at H;have c10b0:decide (0≤x4_2)=true:=decide_eq_true c10;clear c10;by_cases c11:x4_2<(l0.length:Int)
        ·rw [if_pos c11] at H;have c11b0:decide (x4_2<(l0.length:Int))=true:=decide_eq_true c11;clear c11;replace H:=Option.bind_eq_some_iff.mp H;obtain ⟨t153,A120,H⟩:=H;replace H:(if t153=true then (if ((Xb l0 x4_2).f0)=13 then (if x4_2<(wrap64 ((l0.length:Int) - 1)) then (some false) else (Yf.l0 k2 l0 (l0.length:Int) (wrap64 (x4_2+1)))) else (Yf.l0 k2 l0 (l0.length:Int) (wrap64 (x4_2+1)))) else (some false))=some r:=H;have A12:=Xa.mk A120;clear A120;by_cases c13:t153=true
         ·subst c13
          have H1:(if ((Xb l0 x4_2).f0)=13 then (if x4_2<(wrap64 ((l0.length:Int) - 1)) then (some false) else (Yf.l0 k2 l0 (l0.length:Int) (wrap64 (x4_2+1)))) else (Yf.l0 k2 l0 (l0.length:Int) (wrap64 (x4_2+1))))=some r:=by rw [if_pos rfl] at H;exact H
          clear H;have H:=H1;clear H1;by_cases c14:((Xb l0 x4_2).f0)=13
          ·rw [if_pos c14] at H;have c14b0:(((Xb l0 x4_2).f0) == 13)=true:=beq_iff_eq.mpr c14;have c14b1:(((Xb l0 x4_2).f0) != 13)=false:=bne_eq_false_iff_eq.mpr c14;clear c14;by_cases c15:x4_2<(wrap64 ((l0.length:Int) - 1))
           ·rw [if_pos c15] at H;have c15b0:decide (x4_2<(wrap64 ((l0.length:Int) - 1)))=true:=decide_eq_true c15;clear c15;obtain rfl:=Option.some.inj H;have p152:0≤(x4_2:Int):=of_decide_eq_true (by first|(with_reducible assumption)|assumption);have q152:x4_2<(l0.length:Int):=of_decide_eq_true (by first|(with_reducible assumption)|assumption);obtain ⟨ad152,e152,hx152_0,hx152_1,hx152_2,hx152_3⟩:=Yt HR0.out x4_2 p152 q152;cases e152
            replace hx152_0:=(HB.out.cell (World.block_lt_of_cell? w _ hx152_0)).trans hx152_0;replace hx152_1:=(HB.out.cell (World.block_lt_of_cell? w _ hx152_1)).trans hx152_1;replace hx152_2:=(HB.out.cell (World.block_lt_of_cell? w _ hx152_2)).trans hx152_2;replace hx152_3:=(HB.out.cell (World.block_lt_of_cell? w _ hx152_3)).trans hx152_3;replace p152:=eq_true p152;replace q152:=eq_true q152;go_wp2_with (first|((with_reducible refine Xo (f:=62) rfl ?_);refine Yz (some 34) rfl rfl Try.func62 (by kernel_rfl) rfl #[.agg #[.int .i64 ((Xb l0 x4_2).f0),.int .i64 ((Xb l0 x4_2).f1),.int .i64 ((Xb l0 x4_2).f2),.int .i64 ((Xb l0 x4_2).f3)],.int .i64 (l0.length:Int)] rfl ga_ ?_;(with_reducible refine (Xh.calls k2 ((Xb l0 x4_2).f0) ((Xb l0 x4_2).f1) ((Xb l0 x4_2).f2) ((Xb l0 x4_2).f3) (l0.length:Int) true _ A12.out).mono ?_);rintro e w16 ⟨rfl,hb⟩;refine ⟨_,rfl,?_⟩;have n0_:=Xa.mk (Xc (bl_ HB) hb);clear HB;have HB:=n0_;clear n0_;(try clear hb);(try clear hb2);(try clear hk);(try clear hi);have p154:0≤(x4_2:Int):=of_decide_eq_true (by first|(with_reducible assumption)|assumption);have q154:x4_2<(l0.length:Int):=of_decide_eq_true (by first|(with_reducible assumption)|assumption);obtain ⟨ad154,e154,hx154_0,hx154_1,hx154_2,hx154_3⟩:=Yt HR0.out x4_2 p154 q154;obtain rfl:ad152=ad154:=(by injection e154);replace hx154_0:=(HB.out.cell (World.block_lt_of_cell? w _ hx154_0)).trans hx154_0;replace hx154_1:=(HB.out.cell (World.block_lt_of_cell? w _ hx154_1)).trans hx154_1;replace hx154_2:=(HB.out.cell (World.block_lt_of_cell? w _ hx154_2)).trans hx154_2;replace hx154_3:=(HB.out.cell (World.block_lt_of_cell? w _ hx154_3)).trans hx154_3;replace p154:=eq_true p154;replace q154:=eq_true q154))
            go_ret
            exact ⟨rf_,bl_ HB⟩
           ·rw [if_neg c15] at H;have c15b0:decide (x4_2<(wrap64 ((l0.length:Int) - 1)))=false:=decide_eq_false c15;clear c15;have H':=Xa.mk H;clear H;have p152:0≤(x4_2:Int):=of_decide_eq_true (by first|(with_reducible assumption)|assumption);have q152:x4_2<(l0.length:Int):=of_decide_eq_true (by first|(with_reducible assumption)|assumption);obtain ⟨ad152,e152,hx152_0,hx152_1,hx152_2,hx152_3⟩:=Yt HR0.out x4_2 p152 q152;cases e152
            replace hx152_0:=(HB.out.cell (World.block_lt_of_cell? w _ hx152_0)).trans hx152_0;replace hx152_1:=(HB.out.cell (World.block_lt_of_cell? w _ hx152_1)).trans hx152_1;replace hx152_2:=(HB.out.cell (World.block_lt_of_cell? w _ hx152_2)).trans hx152_2;replace hx152_3:=(HB.out.cell (World.block_lt_of_cell? w _ hx152_3)).trans hx152_3;replace p152:=eq_true p152;replace q152:=eq_true q152;go_wp2_with (first|((with_reducible refine Xo (f:=62) rfl ?_);refine Yz (some 34) rfl rfl Try.func62 (by kernel_rfl) rfl #[.agg #[.int .i64 ((Xb l0 x4_2).f0),.int .i64 ((Xb l0 x4_2).f1),.int .i64 ((Xb l0 x4_2).f2),.int .i64 ((Xb l0 x4_2).f3)],.int .i64 (l0.length:Int)] rfl ga_ ?_;(with_reducible refine (Xh.calls k2 ((Xb l0 x4_2).f0) ((Xb l0 x4_2).f1) ((Xb l0 x4_2).f2) ((Xb l0 x4_2).f3) (l0.length:Int) true _ A12.out).mono ?_);rintro e w17 ⟨rfl,hb⟩;refine ⟨_,rfl,?_⟩;have n0_:=Xa.mk (Xc (bl_ HB) hb);clear HB;have HB:=n0_;clear n0_;(try clear hb);(try clear hb2);(try clear hk);(try clear hi);have p154:0≤(x4_2:Int):=of_decide_eq_true (by first|(with_reducible assumption)|assumption);have q154:x4_2<(l0.length:Int):=of_decide_eq_true (by first|(with_reducible assumption)|assumption);obtain ⟨ad154,e154,hx154_0,hx154_1,hx154_2,hx154_3⟩:=Yt HR0.out x4_2 p154 q154;obtain rfl:ad152=ad154:=(by injection e154);replace hx154_0:=(HB.out.cell (World.block_lt_of_cell? w _ hx154_0)).trans hx154_0;replace hx154_1:=(HB.out.cell (World.block_lt_of_cell? w _ hx154_1)).trans hx154_1;replace hx154_2:=(HB.out.cell (World.block_lt_of_cell? w _ hx154_2)).trans hx154_2;replace hx154_3:=(HB.out.cell (World.block_lt_of_cell? w _ hx154_3)).trans hx154_3;replace p154:=eq_true p154;replace q154:=eq_true q154))
            go_roundg k2
            case measure=>have:=HJ1.out;have:=HK2.out;omega
            case rel=>exact ⟨(wrap64 (x4_2+1)),(by first|rfl|(simp;done)|(simp [*];done)),H',⟨by have:=HJ1.out;have:=HK2.out;omega⟩,⟨bl_ HB⟩⟩
          ·rw [if_neg c14] at H;have c14b0:(((Xb l0 x4_2).f0) == 13)=false:=beq_eq_false_iff_ne.mpr c14;have c14b1:(((Xb l0 x4_2).f0) != 13)=true:=bne_iff_ne.mpr c14;have H':=Xa.mk H;clear H;have p152:0≤(x4_2:Int):=of_decide_eq_true (by first|(with_reducible assumption)|assumption);have q152:x4_2<(l0.length:Int):=of_decide_eq_true (by first|(with_reducible assumption)|assumption);obtain ⟨ad152,e152,hx152_0,hx152_1,hx152_2,hx152_3⟩:=Yt HR0.out x4_2 p152 q152;cases e152
           replace hx152_0:=(HB.out.cell (World.block_lt_of_cell? w _ hx152_0)).trans hx152_0;replace hx152_1:=(HB.out.cell (World.block_lt_of_cell? w _ hx152_1)).trans hx152_1;replace hx152_2:=(HB.out.cell (World.block_lt_of_cell? w _ hx152_2)).trans hx152_2;replace hx152_3:=(HB.out.cell (World.block_lt_of_cell? w _ hx152_3)).trans hx152_3;replace p152:=eq_true p152;replace q152:=eq_true q152;go_wp2_with (first|((with_reducible refine Xo (f:=62) rfl ?_);refine Yz (some 34) rfl rfl Try.func62 (by kernel_rfl) rfl #[.agg #[.int .i64 ((Xb l0 x4_2).f0),.int .i64 ((Xb l0 x4_2).f1),.int .i64 ((Xb l0 x4_2).f2),.int .i64 ((Xb l0 x4_2).f3)],.int .i64 (l0.length:Int)] rfl ga_ ?_;(with_reducible refine (Xh.calls k2 ((Xb l0 x4_2).f0) ((Xb l0 x4_2).f1) ((Xb l0 x4_2).f2) ((Xb l0 x4_2).f3) (l0.length:Int) true _ A12.out).mono ?_);rintro e w18 ⟨rfl,hb⟩;refine ⟨_,rfl,?_⟩;have n0_:=Xa.mk (Xc (bl_ HB) hb);clear HB;have HB:=n0_;clear n0_;(try clear hb);(try clear hb2);(try clear hk);(try clear hi);have p154:0≤(x4_2:Int):=of_decide_eq_true (by first|(with_reducible assumption)|assumption);have q154:x4_2<(l0.length:Int):=of_decide_eq_true (by first|(with_reducible assumption)|assumption);obtain ⟨ad154,e154,hx154_0,hx154_1,hx154_2,hx154_3⟩:=Yt HR0.out x4_2 p154 q154;obtain rfl:ad152=ad154:=(by injection e154);replace hx154_0:=(HB.out.cell (World.block_lt_of_cell? w _ hx154_0)).trans hx154_0;replace hx154_1:=(HB.out.cell (World.block_lt_of_cell? w _ hx154_1)).trans hx154_1;replace hx154_2:=(HB.out.cell (World.block_lt_of_cell? w _ hx154_2)).trans hx154_2;replace hx154_3:=(HB.out.cell (World.block_lt_of_cell? w _ hx154_3)).trans hx154_3;replace p154:=eq_true p154;replace q154:=eq_true q154))
           go_roundg k2
           case measure=>have:=HJ1.out;have:=HK2.out;omega
           case rel=>exact ⟨(wrap64 (x4_2+1)),(by first|rfl|(simp;done)|(simp [*];done)),H',⟨by have:=HJ1.out;have:=HK2.out;omega⟩,⟨bl_ HB⟩⟩
         ·replace c13:=Bool.eq_false_iff.mpr c13;subst c13
          have H1:(some false)=some r:=by rw [if_neg (show ¬ (false=true) by decide)] at H;exact H
          clear H;have H:=H1;clear H1;obtain rfl:=Option.some.inj H;have p152:0≤(x4_2:Int):=of_decide_eq_true (by first|(with_reducible assumption)|assumption);have q152:x4_2<(l0.length:Int):=of_decide_eq_true (by first|(with_reducible assumption)|assumption);obtain ⟨ad152,e152,hx152_0,hx152_1,hx152_2,hx152_3⟩:=Yt HR0.out x4_2 p152 q152;cases e152
          replace hx152_0:=(HB.out.cell (World.block_lt_of_cell? w _ hx152_0)).trans hx152_0;replace hx152_1:=(HB.out.cell (World.block_lt_of_cell? w _ hx152_1)).trans hx152_1;replace hx152_2:=(HB.out.cell (World.block_lt_of_cell? w _ hx152_2)).trans hx152_2;replace hx152_3:=(HB.out.cell (World.block_lt_of_cell? w _ hx152_3)).trans hx152_3;replace p152:=eq_true p152;replace q152:=eq_true q152;go_wp2_with (first|((with_reducible refine Xo (f:=62) rfl ?_);refine Yz (some 34) rfl rfl Try.func62 (by kernel_rfl) rfl #[.agg #[.int .i64 ((Xb l0 x4_2).f0),.int .i64 ((Xb l0 x4_2).f1),.int .i64 ((Xb l0 x4_2).f2),.int .i64 ((Xb l0 x4_2).f3)],.int .i64 (l0.length:Int)] rfl ga_ ?_;(with_reducible refine (Xh.calls k2 ((Xb l0 x4_2).f0) ((Xb l0 x4_2).f1) ((Xb l0 x4_2).f2) ((Xb l0 x4_2).f3) (l0.length:Int) false _ A12.out).mono ?_);rintro e w19 ⟨rfl,hb⟩;refine ⟨_,rfl,?_⟩;have n0_:=Xa.mk (Xc (bl_ HB) hb);clear HB;have HB:=n0_;clear n0_;(try clear hb);(try clear hb2);(try clear hk);(try clear hi)))
          go_ret
          exact ⟨rf_,bl_ HB⟩
        ·rw [if_neg c11] at H;exact absurd H (by simp)
       ·rw [if_neg c10] at H;exact absurd H (by simp)
      ·rw [if_neg c9] at H;have c9b0:decide (x4_2<(l0.length:Int))=false:=decide_eq_false c9;clear c9;replace H:=Option.bind_eq_some_iff.mp H;obtain ⟨⟨t155,t156⟩,A200,H⟩:=H;replace H:(some t156)=some r:=H;have A20:=Xa.mk A200;clear A200;obtain rfl:=Option.some.inj H;go_wp2_with (first|((with_reducible refine Xo (f:=63) rfl ?_);refine Yz (some 52) rfl rfl Try.func63 (by kernel_rfl) rfl #[.slice A0 l0.length c0] rfl ga_ ?_;(with_reducible refine (Xt.calls k2 _ _ l0 t155 t156 _ ?side1 ?side2 A20.out).mono ?_);(case side1=>repeat (first|exact (Kd.Zt HR0.out HB.out)|(with_reducible refine Kd.Xm ?_ _)|(with_reducible refine Kd.Xn ?_ _)|(with_reducible refine Kd.Xv ?_)));(case side2=>exact HC0.out);rintro e w21 ⟨v157,rfl,ho0,hb⟩;refine ⟨_,rfl,?_⟩;have n0_:=Xa.mk (Kd.Ye ho0 (Xd (bl_ HB)));have n1_:=Xa.mk (Xc (bl_ HB) hb);clear HB;have HO158:=n0_;have HB:=n1_;clear n0_ n1_;(try clear hb);(try clear hb2);(try clear hk);(try clear hi);(try clear ho0)))
       go_ret
       exact ⟨rf_,bl_ HB⟩
end Go.Proofs.Ytjmlpgpkmhjdiaa.GSlim
