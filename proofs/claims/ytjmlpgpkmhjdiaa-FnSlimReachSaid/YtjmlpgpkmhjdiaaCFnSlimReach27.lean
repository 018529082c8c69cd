import Derived.Test.YtjmlpgpkmhjdiaaCFnSlimReach21
import Derived.Test.YtjmlpgpkmhjdiaaCFnSlimReach24
import Derived.Test.YtjmlpgpkmhjdiaaCFnSlimReach26
namespace Go.Proofs.Ytjmlpgpkmhjdiaa.GSlim
open Go.RowKit Go.Proofs.YtjmlpgpkmhjdiaaW.PrintWords Go.Proofs.YtjmlpgpkmhjdiaaW.PrintLast Go.Proofs.YtjmlpgpkmhjdiaaW.PrintMore
attribute [local go_sem] Zh Zf Zt Zq Zc Zb Zi Zg
set_option linter.unusedVariables false
set_option linter.unusedSimpArgs false
mutual
def Ye.j0:Nat→List (S47)→Int→Bool→Option (Bool)
 |0,_,_,_=>none
 |k+1,x0,x3,x23=>if x23=true then (some false) else (Ye.l0 k x0 x3 0)
def Ye.l0:Nat→List (S47)→Int→Int→Option (Bool)
 |0,_,_,_=>none
 |k+1,x0,x3,x4=>if x4<x3 then (if 0≤x4 then (if x4<(x0.length:Int) then ((Xi.f k ((Xb x0 x4).f0) ((Xb x0 x4).f1) ((Xb x0 x4).f2) ((Xb x0 x4).f3) x3).bind fun t153=>(if t153=true then (if ((Xb x0 x4).f0)=13 then (if x4<(wrap64 (x3 - 1)) then (some false) else (Ye.l0 k x0 x3 (wrap64 (x4+1)))) else (Ye.l0 k x0 x3 (wrap64 (x4+1)))) else (some false))) else (none)) else (none)) else ((Xo.f k x0).bind fun bt155=>(some bt155.2))
end
def Ye.f (k:Nat) (l0:List (S47)):Option (Bool):=if (l0.length:Int)<1 then (Ye.j0 k l0 (l0.length:Int) true) else (if (l0.length:Int) > 60 then (Ye.j0 k l0 (l0.length:Int) true) else (if 0≤(wrap64 ((l0.length:Int) - 1)) then (if (wrap64 ((l0.length:Int) - 1))<(l0.length:Int) then (Ye.j0 k l0 (l0.length:Int) (((Xb l0 (wrap64 ((l0.length:Int) - 1))).f0) != 13)) else (none)) else (none)))
set_option maxHeartbeats 8000000 in
set_option maxRecDepth 100000 in
theorem Ye.calls (k:Nat) (A0:Option Addr) (c0:Nat) (l0:List (S47)) (r:Bool) (w:World) (hr0:Kd.C k47 w A0 l0.length l0) (hc0:l0.length≤c0) (h:Ye.f k l0=some r) :
  Calls Try.prog 37 #[.slice A0 l0.length c0] w fun e w'=>e=.returned (.bool r)∧Below w.heap.size w w':=by
 have hu47:=Try.underlying47;have HR0:=Xa.mk hr0;have HC0:=Xa.mk hc0;clear hr0 hc0;have HB:=Xa.mk (Below.refl w.heap.size w);have H:(if (l0.length:Int)<1 then (Ye.j0 k l0 (l0.length:Int) true) else (if (l0.length:Int) > 60 then (Ye.j0 k l0 (l0.length:Int) true) else (if 0≤(wrap64 ((l0.length:Int) - 1)) then (if (wrap64 ((l0.length:Int) - 1))<(l0.length:Int) then (Ye.j0 k l0 (l0.length:Int) (((Xb l0 (wrap64 ((l0.length:Int) - 1))).f0) != 13)) else (none)) else (none))))=some r:=h;clear h;have HC2:=Xa.mk H;clear H
 go_enter Try.func37,Try.ntmps37
 go_upto_region 2 with (fail)
 go_cut [23] (fun v23 wc=>∃ (kq:Nat) (x23_1:Bool),v23=.bool x23_1∧Xa (Ye.j0 kq l0 (l0.length:Int) x23_1=some r)∧Xa (kq≤k)∧Xa (Below w.heap.size w wc))
 case first=>
  have H:=HC2.out;clear HC2;by_cases c3:(l0.length:Int)<1
  ·rw [if_pos c3] at H;have c3b0:decide ((l0.length:Int)<1)=true:=decide_eq_true c3;have c3b1:decide (l0.length<1)=true:=decide_eq_true (by omega);clear c3
   (first|rw [c3b0]|(simp only [Xw,Xy];rw [c3b0])|skip)
   have H':=Xa.mk H;clear H;go_wp2
   go_meet
   case rel=>exact ⟨_,(true),(by first|rfl|(simp;done)|(simp [*];done)),H',⟨by first|omega|exact Nat.le_refl _⟩,⟨bl_ HB⟩⟩
  ·rw [if_neg c3] at H;have c3b0:decide ((l0.length:Int)<1)=false:=decide_eq_false c3;have c3b1:decide (l0.length<1)=false:=decide_eq_false (by omega);clear c3
   (first|rw [c3b0]|(simp only [Xw,Xy];rw [c3b0])|skip)
   by_cases c4:(l0.length:Int) > 60
   ·rw [if_pos c4] at H;have c4b0:decide (60<(l0.length:Int))=true:=decide_eq_true c4;have c4b1:decide (60<l0.length)=true:=decide_eq_true (by omega);clear c4;have H':=Xa.mk H;clear H;go_wp2
    go_meet
    case rel=>exact ⟨_,(true),(by first|rfl|(simp;done)|(simp [*];done)),H',⟨by first|omega|exact Nat.le_refl _⟩,⟨bl_ HB⟩⟩
   ·rw [if_neg c4] at H;have c4b0:decide (60<(l0.length:Int))=false:=decide_eq_false c4;have c4b1:decide (60<l0.length)=false:=decide_eq_false (by omega);clear c4;obtain ⟨ji5,hji5⟩:∃ j_:Int,(wrap64 ((l0.length:Int) - 1))=j_:=⟨_,rfl⟩
    replace H:(if 0≤(ji5) then (if (ji5)<(l0.length:Int) then (Ye.j0 k l0 (l0.length:Int) (((Xb l0 (ji5)).f0) != 13)) else (none)) else (none))=some r:=by first|(rw [hji5] at H;exact H)|(simp only [hji5] at H ⊢;exact H)
    have hji5w:(IntKind.i64.wrap ((l0.length:Int) - 1))=ji5:=(Xw _).trans hji5;by_cases c6:0≤(ji5)
    ·rw [if_pos c6] at H;have c6b0:decide (0≤(ji5))=true:=decide_eq_true c6;clear c6;by_cases c7:(ji5)<(l0.length:Int)
     ·rw [if_pos c7] at H;have c7b0:decide ((ji5)<(l0.length:Int))=true:=decide_eq_true c7;clear c7;have H':=Xa.mk H;clear H;have p151:0≤((ji5):Int):=of_decide_eq_true (by first|(with_reducible assumption)|assumption);have q151:(ji5)<(l0.length:Int):=of_decide_eq_true (by first|(with_reducible assumption)|assumption);obtain ⟨ad151,e151,hx151_0,hx151_1,hx151_2,hx151_3⟩:=Uo HR0.out (ji5) p151 q151;cases e151
      replace hx151_0:=(HB.out.cell (World.block_lt_of_cell? w _ hx151_0)).trans hx151_0;replace hx151_1:=(HB.out.cell (World.block_lt_of_cell? w _ hx151_1)).trans hx151_1;replace hx151_2:=(HB.out.cell (World.block_lt_of_cell? w _ hx151_2)).trans hx151_2;replace hx151_3:=(HB.out.cell (World.block_lt_of_cell? w _ hx151_3)).trans hx151_3;replace p151:=eq_true p151;replace q151:=eq_true q151;go_wp2
      go_meet
      case rel=>exact ⟨_,((((Xb l0 (ji5)).f0) != 13)),(by first|rfl|(simp;done)|(simp only [← hji5] <;> (first|rfl|simp))|(simp [*];done)),H',⟨by first|omega|exact Nat.le_refl _⟩,⟨bl_ HB⟩⟩
     ·rw [if_neg c7] at H;exact absurd H (by simp)
    ·rw [if_neg c6] at H;exact absurd H (by simp)
 case rest=>
  clear HC2
  try clear p1
  try clear q1
  try clear hx1
  try clear p2
  try clear c3
  try clear c3b0
  try clear c3b1
  try clear c4
  try clear c4b0
  try clear c4b1
  try clear c6
  try clear c6b0
  try clear p6
  try clear c7
  try clear c7b0
  try clear hx151_0
  try clear hx151_1
  try clear hx151_2
  try clear hx151_3
  try clear p151
  try clear q151
  obtain ⟨kq,x23_1,rfl,HA,HJ1,HB⟩:=hcut
  cases kq with
  |zero=>exact absurd HA.out (by simp [Ye.j0])
  |succ kj1=>
   have H:=HA.out;clear HA;simp only [Ye.j0] at H;by_cases c8:x23_1=true
   ·subst c8
    have H1:(some false)=some r:=by rw [if_pos rfl] at H;exact H
    clear H;have H:=H1;clear H1;obtain rfl:=Option.some.inj H;go_wp2
    go_ret
    exact ⟨rf_,bl_ HB⟩
   ·replace c8:=Bool.eq_false_iff.mpr c8;subst c8
    have H1:(Ye.l0 kj1 l0 (l0.length:Int) 0)=some r:=by rw [if_neg (show ¬ (false=true) by decide)] at H;exact H
    clear H;have H:=H1;clear H1;have H':=Xa.mk H;clear H;go_wp2
    go_loopg [4] kj1 (fun kq v4 w'=>∃ (x4_2:Int),v4=.int .i64 x4_2∧Xa (Ye.l0 kq l0 (l0.length:Int) x4_2=some r)∧Xa (kq≤kj1)∧Xa (Below w.heap.size w w'))
    case atStart=>exact ⟨(0),(by first|rfl|(simp;done)|(simp [*];done)),H',⟨Nat.le_refl _⟩,⟨bl_ HB⟩⟩
    case round=>
     clear H'
     try clear p1
     try clear q1
     try clear hx1
     try clear p2
     try clear c3
     try clear c3b0
     try clear c3b1
     try clear c4
     try clear c4b0
     try clear c4b1
     try clear c6
     try clear c6b0
     try clear p6
     try clear c7
     try clear c7b0
     try clear c8
     try clear hx151_0
     try clear hx151_1
     try clear hx151_2
     try clear hx151_3
     try clear p1
     try clear p151
     try clear p2
     try clear p6
     try clear q1
     try clear q151
     obtain ⟨x4_2,rfl,HA,HK2,HB⟩:=hrel
     cases gk with
     |zero=>exact absurd HA.out (by simp [Ye.l0])
     |succ k2=>
      have H:=HA.out;clear HA;simp only [Ye.l0] at H;by_cases c9:x4_2<(l0.length:Int)
      ·rw [if_pos c9] at H;have c9b0:decide (x4_2<(l0.length:Int))=true:=decide_eq_true c9;clear c9;by_cases c10:0≤x4_2
       ·rw [if_pos c10] at H;have c10b0:decide (0≤x4_2)=true:=decide_eq_true c10;clear c10;by_cases c11:x4_2<(l0.length:Int)
        ·rw [if_pos c11] at H;have c11b0:decide (x4_2<(l0.length:Int))=true:=decide_eq_true c11;clear c11;replace H:=Option.bind_eq_some_iff.mp H;obtain ⟨t153,A120,H⟩:=H;replace H:(if t153=true then (if ((Xb l0 x4_2).f0)=13 then (if x4_2<(wrap64 ((l0.length:Int) - 1)) then (some false) else (Ye.l0 k2 l0 (l0.length:Int) (wrap64 (x4_2+1)))) else (Ye.l0 k2 l0 (l0.length:Int) (wrap64 (x4_2+1)))) else (some false))=some r:=H;have A12:=Xa.mk A120;clear A120;by_cases c13:t153=true
         ·subst c13
          have H1:(if ((Xb l0 x4_2).f0)=13 then (if x4_2<(wrap64 ((l0.length:Int) - 1)) then (some false) else (Ye.l0 k2 l0 (l0.length:Int) (wrap64 (x4_2+1)))) else (Ye.l0 k2 l0 (l0.length:Int) (wrap64 (x4_2+1))))=some r:=by rw [if_pos rfl] at H;exact H
          clear H;have H:=H1;clear H1;by_cases c14:((Xb l0 x4_2).f0)=13
          ·rw [if_pos c14] at H;have c14b0:(((Xb l0 x4_2).f0) == 13)=true:=beq_iff_eq.mpr c14;have c14b1:(((Xb l0 x4_2).f0) != 13)=false:=bne_eq_false_iff_eq.mpr c14;clear c14;by_cases c15:x4_2<(wrap64 ((l0.length:Int) - 1))
           ·rw [if_pos c15] at H;have c15b0:decide (x4_2<(wrap64 ((l0.length:Int) - 1)))=true:=decide_eq_true c15;clear c15;obtain rfl:=Option.some.inj H;have p152:0≤(x4_2:Int):=of_decide_eq_true (by first|(with_reducible assumption)|assumption);have q152:x4_2<(l0.length:Int):=of_decide_eq_true (by first|(with_reducible assumption)|assumption);obtain ⟨ad152,e152,hx152_0,hx152_1,hx152_2,hx152_3⟩:=Uo HR0.out x4_2 p152 q152;cases e152
            replace hx152_0:=(HB.out.cell (World.block_lt_of_cell? w _ hx152_0)).trans hx152_0;replace hx152_1:=(HB.out.cell (World.block_lt_of_cell? w _ hx152_1)).trans hx152_1;replace hx152_2:=(HB.out.cell (World.block_lt_of_cell? w _ hx152_2)).trans hx152_2;replace hx152_3:=(HB.out.cell (World.block_lt_of_cell? w _ hx152_3)).trans hx152_3;replace p152:=eq_true p152;replace q152:=eq_true q152;go_wp2_with (first|((with_reducible refine Xl (f:=62) rfl ?_);refine Ym (some 34) rfl rfl Try.func62 (by kernel_rfl) rfl #[.agg #[.int .i64 ((Xb l0 x4_2).f0),.int .i64 ((Xb l0 x4_2).f1),.int .i64 ((Xb l0 x4_2).f2),.int .i64 ((Xb l0 x4_2).f3)],.int .i64 (l0.length:Int)] rfl ga_ ?_;(with_reducible refine (Xi.calls k2 ((Xb l0 x4_2).f0) ((Xb l0 x4_2).f1) ((Xb l0 x4_2).f2) ((Xb l0 x4_2).f3) (l0.length:Int) true _ A12.out).mono ?_);rintro e w16 ⟨rfl,hb⟩;refine ⟨_,rfl,?_⟩;have n0_:=Xa.mk (Xe (bl_ HB) hb);clear HB;have HB:=n0_;clear n0_;(try clear hb);(try clear hb2);(try clear hk);(try clear hi);have p154:0≤(x4_2:Int):=of_decide_eq_true (by first|(with_reducible assumption)|assumption);have q154:x4_2<(l0.length:Int):=of_decide_eq_true (by first|(with_reducible assumption)|assumption);obtain ⟨ad154,e154,hx154_0,hx154_1,hx154_2,hx154_3⟩:=Uo HR0.out x4_2 p154 q154;obtain rfl:ad152=ad154:=(by injection e154);replace hx154_0:=(HB.out.cell (World.block_lt_of_cell? w _ hx154_0)).trans hx154_0;replace hx154_1:=(HB.out.cell (World.block_lt_of_cell? w _ hx154_1)).trans hx154_1;replace hx154_2:=(HB.out.cell (World.block_lt_of_cell? w _ hx154_2)).trans hx154_2;replace hx154_3:=(HB.out.cell (World.block_lt_of_cell? w _ hx154_3)).trans hx154_3;replace p154:=eq_true p154;replace q154:=eq_true q154))
            go_ret
            exact ⟨rf_,bl_ HB⟩
           ·rw [if_neg c15] at H;have c15b0:decide (x4_2<(wrap64 ((l0.length:Int) - 1)))=false:=decide_eq_false c15;clear c15;have H':=Xa.mk H;clear H;have p152:0≤(x4_2:Int):=of_decide_eq_true (by first|(with_reducible assumption)|assumption);have q152:x4_2<(l0.length:Int):=of_decide_eq_true (by first|(with_reducible assumption)|assumption);obtain ⟨ad152,e152,hx152_0,hx152_1,hx152_2,hx152_3⟩:=Uo HR0.out x4_2 p152 q152;cases e152
            replace hx152_0:=(HB.out.cell (World.block_lt_of_cell? w _ hx152_0)).trans hx152_0;replace hx152_1:=(HB.out.cell (World.block_lt_of_cell? w _ hx152_1)).trans hx152_1;replace hx152_2:=(HB.out.cell (World.block_lt_of_cell? w _ hx152_2)).trans hx152_2;replace hx152_3:=(HB.out.cell (World.block_lt_of_cell? w _ hx152_3)).trans hx152_3;replace p152:=eq_true p152;replace q152:=eq_true q152;go_wp2_with (first|((with_reducible refine Xl (f:=62) rfl ?_);refine Ym (some 34) rfl rfl Try.func62 (by kernel_rfl) rfl #[.agg #[.int .i64 ((Xb l0 x4_2).f0),.int .i64 ((Xb l0 x4_2).f1),.int .i64 ((Xb l0 x4_2).f2),.int .i64 ((Xb l0 x4_2).f3)],.int .i64 (l0.length:Int)] rfl ga_ ?_;(with_reducible refine (Xi.calls k2 ((Xb l0 x4_2).f0) ((Xb l0 x4_2).f1) ((Xb l0 x4_2).f2) ((Xb l0 x4_2).f3) (l0.length:Int) true _ A12.out).mono ?_);rintro e w17 ⟨rfl,hb⟩;refine ⟨_,rfl,?_⟩;have n0_:=Xa.mk (Xe (bl_ HB) hb);clear HB;have HB:=n0_;clear n0_;(try clear hb);(try clear hb2);(try clear hk);(try clear hi);have p154:0≤(x4_2:Int):=of_decide_eq_true (by first|(with_reducible assumption)|assumption);have q154:x4_2<(l0.length:Int):=of_decide_eq_true (by first|(with_reducible assumption)|assumption);obtain ⟨ad154,e154,hx154_0,hx154_1,hx154_2,hx154_3⟩:=Uo HR0.out x4_2 p154 q154;obtain rfl:ad152=ad154:=(by injection e154);replace hx154_0:=(HB.out.cell (World.block_lt_of_cell? w _ hx154_0)).trans hx154_0;replace hx154_1:=(HB.out.cell (World.block_lt_of_cell? w _ hx154_1)).trans hx154_1;replace hx154_2:=(HB.out.cell (World.block_lt_of_cell? w _ hx154_2)).trans hx154_2;replace hx154_3:=(HB.out.cell (World.block_lt_of_cell? w _ hx154_3)).trans hx154_3;replace p154:=eq_true p154;replace q154:=eq_true q154))
            go_roundg k2
            case measure=>have:=HJ1.out;have:=HK2.out;omega
            case rel=>exact ⟨(wrap64 (x4_2+1)),(by first|rfl|(simp;done)|(simp [*];done)),H',⟨by have:=HJ1.out;have:=HK2.out;omega⟩,⟨bl_ HB⟩⟩
          ·rw [if_neg c14] at H;have c14b0:(((Xb l0 x4_2).f0) == 13)=false:=beq_eq_false_iff_ne.mpr c14;have c14b1:(((Xb l0 x4_2).f0) != 13)=true:=bne_iff_ne.mpr c14;have H':=Xa.mk H;clear H;have p152:0≤(x4_2:Int):=of_decide_eq_true (by first|(with_reducible assumption)|assumption);have q152:x4_2<(l0.length:Int):=of_decide_eq_true (by first|(with_reducible assumption)|assumption);obtain ⟨ad152,e152,hx152_0,hx152_1,hx152_2,hx152_3⟩:=Uo HR0.out x4_2 p152 q152;cases e152
           replace hx152_0:=(HB.out.cell (World.block_lt_of_cell? w _ hx152_0)).trans hx152_0;replace hx152_1:=(HB.out.cell (World.block_lt_of_cell? w _ hx152_1)).trans hx152_1;replace hx152_2:=(HB.out.cell (World.block_lt_of_cell? w _ hx152_2)).trans hx152_2;replace hx152_3:=(HB.out.cell (World.block_lt_of_cell? w _ hx152_3)).trans hx152_3;replace p152:=eq_true p152;replace q152:=eq_true q152;go_wp2_with (first|((with_reducible refine Xl (f:=62) rfl ?_);refine Ym (some 34) rfl rfl Try.func62 (by kernel_rfl) rfl #[.agg #[.int .i64 ((Xb l0 x4_2).f0),.int .i64 ((Xb l0 x4_2).f1),.int .i64 ((Xb l0 x4_2).f2),.int .i64 ((Xb l0 x4_2).f3)],.int .i64 (l0.length:Int)] rfl ga_ ?_;(with_reducible refine (Xi.calls k2 ((Xb l0 x4_2).f0) ((Xb l0 x4_2).f1) ((Xb l0 x4_2).f2) ((Xb l0 x4_2).f3) (l0.length:Int) true _ A12.out).mono ?_);rintro e w18 ⟨rfl,hb⟩;refine ⟨_,rfl,?_⟩;have n0_:=Xa.mk (Xe (bl_ HB) hb);clear HB;have HB:=n0_;clear n0_;(try clear hb);(try clear hb2);(try clear hk);(try clear hi);have p154:0≤(x4_2:Int):=of_decide_eq_true (by first|(with_reducible assumption)|assumption);have q154:x4_2<(l0.length:Int):=of_decide_eq_true (by first|(with_reducible assumption)|assumption);obtain ⟨ad154,e154,hx154_0,hx154_1,hx154_2,hx154_3⟩:=Uo HR0.out x4_2 p154 q154;obtain rfl:ad152=ad154:=(by injection e154);replace hx154_0:=(HB.out.cell (World.block_lt_of_cell? w _ hx154_0)).trans hx154_0;replace hx154_1:=(HB.out.cell (World.block_lt_of_cell? w _ hx154_1)).trans hx154_1;replace hx154_2:=(HB.out.cell (World.block_lt_of_cell? w _ hx154_2)).trans hx154_2;replace hx154_3:=(HB.out.cell (World.block_lt_of_cell? w _ hx154_3)).trans hx154_3;replace p154:=eq_true p154;replace q154:=eq_true q154))
           go_roundg k2
           case measure=>have:=HJ1.out;have:=HK2.out;omega
           case rel=>exact ⟨(wrap64 (x4_2+1)),(by first|rfl|(simp;done)|(simp [*];done)),H',⟨by have:=HJ1.out;have:=HK2.out;omega⟩,⟨bl_ HB⟩⟩
         ·replace c13:=Bool.eq_false_iff.mpr c13;subst c13
          have H1:(some false)=some r:=by rw [if_neg (show ¬ (false=true) by decide)] at H;exact H
          clear H;have H:=H1;clear H1;obtain rfl:=Option.some.inj H;have p152:0≤(x4_2:Int):=of_decide_eq_true (by first|(with_reducible assumption)|assumption);have q152:x4_2<(l0.length:Int):=of_decide_eq_true (by first|(with_reducible assumption)|assumption);obtain ⟨ad152,e152,hx152_0,hx152_1,hx152_2,hx152_3⟩:=Uo HR0.out x4_2 p152 q152;cases e152
          replace hx152_0:=(HB.out.cell (World.block_lt_of_cell? w _ hx152_0)).trans hx152_0;replace hx152_1:=(HB.out.cell (World.block_lt_of_cell? w _ hx152_1)).trans hx152_1;replace hx152_2:=(HB.out.cell (World.block_lt_of_cell? w _ hx152_2)).trans hx152_2;replace hx152_3:=(HB.out.cell (World.block_lt_of_cell? w _ hx152_3)).trans hx152_3;replace p152:=eq_true p152;replace q152:=eq_true q152;go_wp2_with (first|((with_reducible refine Xl (f:=62) rfl ?_);refine Ym (some 34) rfl rfl Try.func62 (by kernel_rfl) rfl #[.agg #[.int .i64 ((Xb l0 x4_2).f0),.int .i64 ((Xb l0 x4_2).f1),.int .i64 ((Xb l0 x4_2).f2),.int .i64 ((Xb l0 x4_2).f3)],.int .i64 (l0.length:Int)] rfl ga_ ?_;(with_reducible refine (Xi.calls k2 ((Xb l0 x4_2).f0) ((Xb l0 x4_2).f1) ((Xb l0 x4_2).f2) ((Xb l0 x4_2).f3) (l0.length:Int) false _ A12.out).mono ?_);rintro e w19 ⟨rfl,hb⟩;refine ⟨_,rfl,?_⟩;have n0_:=Xa.mk (Xe (bl_ HB) hb);clear HB;have HB:=n0_;clear n0_;(try clear hb);(try clear hb2);(try clear hk);(try clear hi)))
          go_ret
          exact ⟨rf_,bl_ HB⟩
        ·rw [if_neg c11] at H;exact absurd H (by simp)
       ·rw [if_neg c10] at H;exact absurd H (by simp)
      ·rw [if_neg c9] at H;have c9b0:decide (x4_2<(l0.length:Int))=false:=decide_eq_false c9;clear c9;replace H:=Option.bind_eq_some_iff.mp H;obtain ⟨⟨t155,t156⟩,A200,H⟩:=H;replace H:(some t156)=some r:=H;have A20:=Xa.mk A200;clear A200;obtain rfl:=Option.some.inj H;go_wp2_with (first|((with_reducible refine Xl (f:=63) rfl ?_);refine Ym (some 52) rfl rfl Try.func63 (by kernel_rfl) rfl #[.slice A0 l0.length c0] rfl ga_ ?_;(with_reducible refine (Xo.calls k2 _ _ l0 t155 t156 _ ?side1 ?side2 A20.out).mono ?_);(case side1=>repeat (first|exact (Kd.Zp HR0.out HB.out)|(with_reducible refine Kd.Yb ?_ _)|(with_reducible refine Kd.Yc ?_ _)|(with_reducible refine Kd.Yk ?_)));(case side2=>exact HC0.out);rintro e w21 ⟨v157,rfl,ho0,hb⟩;refine ⟨_,rfl,?_⟩;have n0_:=Xa.mk (Kd.Yj ho0 (Xd (bl_ HB)));have n1_:=Xa.mk (Xe (bl_ HB) hb);clear HB;have HO158:=n0_;have HB:=n1_;clear n0_ n1_;(try clear hb);(try clear hb2);(try clear hk);(try clear hi);(try clear ho0)))
       go_ret
       exact ⟨rf_,bl_ HB⟩
def Zo.l0:Nat→List (S47)→List Int→List Bool→Int→Option (List Bool)
 |0,_,_,_,_=>none
 |k+1,x0,x3,x5,x6=>if x6<(x0.length:Int) then (if 0≤x6 then (if x6<(x3.length:Int) then (if x5.length<140737488355328 then (Zo.l0 k x0 x3 (x5 ++ [decide ((rd x3 x6) ≥ 0)]) (wrap64 (x6+1))) else (none)) else (none)) else (none)) else (some x5)
def Zo.f (k:Nat) (l0:List (S47)):Option (List Bool):=(Xo.f k l0).bind fun bt159=>(Zo.l0 k l0 bt159.1 (([]:List Bool)) 0)
set_option maxHeartbeats 8000000 in
set_option maxRecDepth 100000 in
theorem Zo.calls (k:Nat) (A0:Option Addr) (c0:Nat) (l0:List (S47)) (r:List Bool) (w:World) (hr0:Kd.C k47 w A0 l0.length l0) (hc0:l0.length≤c0) (h:Zo.f k l0=some r) :
  Calls Try.prog 54 #[.slice A0 l0.length c0] w fun e w'=>∃ v0_:Value,e=.returned (v0_)∧Kd.R Kd.bool 4 w' w.heap.size (fun _=>True) v0_ r∧Below w.heap.size w w':=by
 have HR0:=Xa.mk hr0;have HC0:=Xa.mk hc0;clear hr0 hc0;have HB:=Xa.mk (Below.refl w.heap.size w);have H:((Xo.f k l0).bind fun bt159=>(Zo.l0 k l0 bt159.1 (([]:List Bool)) 0))=some r:=h;clear h;replace H:=Option.bind_eq_some_iff.mp H;obtain ⟨⟨t159,t160⟩,A20,H⟩:=H;replace H:(Zo.l0 k l0 t159 (([]:List Bool)) 0)=some r:=H;have A2:=Xa.mk A20;clear A20;obtain ⟨y163,hy163⟩:∃ y_:List Bool,y_=(([]:List Bool)):=⟨_,rfl⟩
 replace H:(Zo.l0 k l0 t159 y163 0)=some r:=by subst hy163;first|with_reducible exact H|(have z:=(Option.bind_some _ _).symm.trans H;with_reducible exact z)|exact H
 have Ny163:=Xa.mk hy163;clear hy163;have H':=Xa.mk H;clear H
 go_enter Try.func54,Try.ntmps54
 go_wp2_with (first|((with_reducible refine Xl (f:=63) rfl ?_);refine Ym (some 9) rfl rfl Try.func63 (by kernel_rfl) rfl #[.slice A0 l0.length c0] rfl ga_ ?_;(with_reducible refine (Xo.calls k _ _ l0 t159 t160 _ ?side1 ?side2 A2.out).mono ?_);(case side1=>repeat (first|exact HR0.out|(with_reducible refine Kd.Yb ?_ _)|(with_reducible refine Kd.Yc ?_ _)|(with_reducible refine Kd.Yk ?_)));(case side2=>exact HC0.out);rintro e w3 ⟨v161,rfl,ho0,hb⟩;refine ⟨_,rfl,?_⟩;have n0_:=Xa.mk (Kd.Yj ho0 (Xd (bl_ HB)));have n1_:=Xa.mk (Xe (bl_ HB) hb);clear HB;have HO162:=n0_;have HB:=n1_;clear n0_ n1_;(try clear hb);(try clear hb2);(try clear hk);(try clear hi);(try clear ho0))|((with_reducible refine Xz (N:=12) rfl ?_);refine Kd.R_lit Kd.bool _ 4 ?hg (N:=12) ?hd (xs:=([]:List Bool)) (inner:=[]) (ok:=fun _=>True) (okp:=fun _=>True) ?hr ?hp (fun _ hk=>hk) trivial (Below.refl _ _) (Nat.le_refl _) (by simp) ?_;(case hd=>rfl);(case hg=>rfl);(case hr=>first|(go_simp;done)|(go_simp;rfl));(case hp=>exact (Yi.none _ _));intro v164 w4 ho5 hb hg_ hnew_;clear hg_ hnew_;(first|rw [← Ny163.out] at ho5|(simp only [Int.reduceToNat] at ho5;rw [← Ny163.out] at ho5));have n0_:=Xa.mk (Kd.Un (Kd.ra_ (HO162.out)) hb);have n1_:=Xa.mk (Kd.Yj ho5 (Xd (bl_ HB)));have n2_:=Xa.mk (Xe (bl_ HB) hb);clear HO162;clear HB;have HO162:=n0_;have HO165:=n1_;have HB:=n2_;clear n0_ n1_ n2_;clear hb ho5))
 go_loopg [5,6] k (fun kq v5 v6 w'=>∃ (x5_1:List Bool) (x6_1:Int),v6=.int .i64 x6_1∧Xa (Zo.l0 kq l0 t159 x5_1 x6_1=some r)∧Xa (kq≤k)∧Xa (Kd.R (Kd.int .i64) 3 w' w.heap.size (fun _=>True) v161 t159)∧Xa (Kd.R Kd.bool 4 w' w.heap.size (fun _=>True) v5 x5_1)∧Xa (Below w.heap.size w w'))
 case atStart=>exact ⟨(y163),(0),(by first|rfl|(simp;done)|(simp [*];done)),H',⟨Nat.le_refl _⟩,⟨Kd.ra_ (HO162.out)⟩,⟨Kd.ra_ (HO165.out)⟩,⟨bl_ HB⟩⟩
 case round=>
  clear H'
  try clear p2
  try clear c5
  obtain ⟨x5_1,x6_1,rfl,HA,HK1,HO_3,HO_5,HB⟩:=hrel
  cases gk with
  |zero=>exact absurd HA.out (by simp [Zo.l0])
  |succ k1=>
   have H:=HA.out;clear HA;simp only [Zo.l0] at H;by_cases c6:x6_1<(l0.length:Int)
   ·rw [if_pos c6] at H;have c6b0:decide (x6_1<(l0.length:Int))=true:=decide_eq_true c6;clear c6;by_cases c7:0≤x6_1
    ·rw [if_pos c7] at H;have c7b0:decide (0≤x6_1)=true:=decide_eq_true c7;clear c7;by_cases c8:x6_1<(t159.length:Int)
     ·rw [if_pos c8] at H;have c8b0:decide (x6_1<(t159.length:Int))=true:=decide_eq_true c8;clear c8;by_cases c9:x5_1.length<140737488355328
      ·rw [if_pos c9] at H;have LMc9:=Xa.mk c9;clear c9;obtain ⟨y167,hy167⟩:∃ y_:List Bool,y_=(x5_1 ++ [decide ((rd t159 x6_1) ≥ 0)]):=⟨_,rfl⟩
       replace H:(Zo.l0 k1 l0 t159 y167 (wrap64 (x6_1+1)))=some r:=by subst hy167;first|with_reducible exact H|(have z:=(Option.bind_some _ _).symm.trans H;with_reducible exact z)|exact H
       have Ny167:=Xa.mk hy167;clear hy167;have H':=Xa.mk H;clear H;obtain ⟨Ao10,co10,eo10⟩:=Kd.Zd HO_3.out;subst eo10;have p166:0≤(x6_1:Int):=of_decide_eq_true (by first|(with_reducible assumption)|assumption);have q166:x6_1<(t159.length:Int):=of_decide_eq_true (by first|(with_reducible assumption)|assumption);obtain ⟨ad166,e166,hx166_0⟩:=Kd.Zz (Kd.R_reads' HO_3.out).2.2 x6_1 p166 q166;cases e166
       replace p166:=eq_true p166;replace q166:=eq_true q166;go_wp2_with (first|((with_reducible refine Ze (b:=.append) (xs:=#[.tmp 19,.tmp 25]) rfl ?_);at_builtin;refine Kd.R_append Kd.bool (w0:=w) w.heap.size rfl (.tmp 19) (.tmp 25) 34 4 (.bool false) 1 rfl Try.underlying34 info4 rfl (by decide) (by omega) u5 x5_1 (decide ((rd t159 x6_1) ≥ 0)) [.bool (decide ((rd t159 x6_1) ≥ 0))] (fun _=>True) (fun _=>False) rfl rfl ?aP (fun _ hk=>hk.elim) ?aF ?aO ?aB ?aS ?aL ?_;(case aP=>exact rfl);(case aB=>exact (bl_ HB));(case aF=>exact (fun _ _=>trivial));(case aO=>exact (Kd.ra_ (HO_5.out)));(case aS=>exact (Xd (bl_ HB)));(case aL=>have:=LMc9.out;omega);intro v168 w11 ho hb hg hat;rw [← Ny167.out] at ho;have n0_:=Xa.mk (Kd.R_over' (Kd.ra_ (HO_3.out)) (Kd.R_typed (Kd.ra_ (HO_5.out))) (by decide) hg);have n1_:=Xa.mk (hb);have n2_:=Xa.mk (ho);clear HO_3;clear HB;clear HO_5;have HO_3:=n0_;have HB:=n1_;have HO169:=n2_;clear n0_ n1_ n2_;clear ho hb hg hat))
       go_roundg k1
       case measure=>have:=HK1.out;omega
       case rel=>exact ⟨(y167),(wrap64 (x6_1+1)),(by first|rfl|(simp;done)|(simp [*];done)),H',⟨by have:=HK1.out;omega⟩,⟨Kd.ra_ (HO_3.out)⟩,⟨Kd.ra_ (HO169.out)⟩,⟨bl_ HB⟩⟩
      ·rw [if_neg c9] at H;exact absurd H (by simp)
     ·rw [if_neg c8] at H;exact absurd H (by simp)
    ·rw [if_neg c7] at H;exact absurd H (by simp)
   ·rw [if_neg c6] at H;have c6b0:decide (x6_1<(l0.length:Int))=false:=decide_eq_false c6;clear c6;obtain rfl:=Option.some.inj H;go_wp2
    go_ret
    exact ⟨_,rf_,Kd.ra_ (HO_5.out),bl_ HB⟩
def Ug.f (k:Nat) (l0:List (S47)):Option (List Bool):=(Ye.f k l0).bind fun t170=>(if t170=true then ((Zo.f k l0).bind fun t171=>(some t171)) else (some (([]:List Bool))))
set_option maxHeartbeats 8000000 in
set_option maxRecDepth 100000 in
theorem Ug.calls (k:Nat) (A0:Option Addr) (c0:Nat) (l0:List (S47)) (r:List Bool) (w:World) (hr0:Kd.C k47 w A0 l0.length l0) (hc0:l0.length≤c0) (h:Ug.f k l0=some r) :
  Calls Try.prog 22 #[.slice A0 l0.length c0] w fun e w'=>∃ v0_:Value,e=.returned (v0_)∧Kd.R Kd.bool 4 w' w.heap.size (fun _=>True) v0_ r∧Below w.heap.size w w':=by
 have HR0:=Xa.mk hr0;have HC0:=Xa.mk hc0;clear hr0 hc0;have HB:=Xa.mk (Below.refl w.heap.size w);have H:((Ye.f k l0).bind fun t170=>(if t170=true then ((Zo.f k l0).bind fun t171=>(some t171)) else (some (([]:List Bool)))))=some r:=h;clear h;replace H:=Option.bind_eq_some_iff.mp H;obtain ⟨t170,A20,H⟩:=H;replace H:(if t170=true then ((Zo.f k l0).bind fun t171=>(some t171)) else (some (([]:List Bool))))=some r:=H;have A2:=Xa.mk A20;clear A20;by_cases c3:t170=true
 ·subst c3
  have H1:((Zo.f k l0).bind fun t171=>(some t171))=some r:=by rw [if_pos rfl] at H;exact H
  clear H;have H:=H1;clear H1;replace H:=Option.bind_eq_some_iff.mp H;obtain ⟨t171,A40,H⟩:=H;replace H:(some t171)=some r:=H;have A4:=Xa.mk A40;clear A40;obtain rfl:=Option.some.inj H
  go_enter Try.func22,Try.ntmps22
  go_wp2_with (first|((with_reducible refine Xl (f:=37) rfl ?_);refine Ym (some 4) rfl rfl Try.func37 (by kernel_rfl) rfl #[.slice A0 l0.length c0] rfl ga_ ?_;(with_reducible refine (Ye.calls k _ _ l0 true _ ?side1 ?side2 A2.out).mono ?_);(case side1=>repeat (first|exact HR0.out|(with_reducible refine Kd.Yb ?_ _)|(with_reducible refine Kd.Yc ?_ _)|(with_reducible refine Kd.Yk ?_)));(case side2=>exact HC0.out);rintro e w5 ⟨rfl,hb⟩;refine ⟨_,rfl,?_⟩;have n0_:=Xa.mk (Xe (bl_ HB) hb);clear HB;have HB:=n0_;clear n0_;(try clear hb);(try clear hb2);(try clear hk);(try clear hi))|((with_reducible refine Xl (f:=54) rfl ?_);refine Ym (some 8) rfl rfl Try.func54 (by kernel_rfl) rfl #[.slice A0 l0.length c0] rfl ga_ ?_;(with_reducible refine (Zo.calls k _ _ l0 t171 _ ?side1 ?side2 A4.out).mono ?_);(case side1=>repeat (first|exact (Kd.Zp HR0.out HB.out)|(with_reducible refine Kd.Yb ?_ _)|(with_reducible refine Kd.Yc ?_ _)|(with_reducible refine Kd.Yk ?_)));(case side2=>exact HC0.out);rintro e w6 ⟨v172,rfl,ho0,hb⟩;refine ⟨_,rfl,?_⟩;have n0_:=Xa.mk (Kd.Yj ho0 (Xd (bl_ HB)));have n1_:=Xa.mk (Xe (bl_ HB) hb);clear HB;have HO173:=n0_;have HB:=n1_;clear n0_ n1_;(try clear hb);(try clear hb2);(try clear hk);(try clear hi);(try clear ho0)))
  go_ret
  exact ⟨_,rf_,Kd.ra_ (HO173.out),bl_ HB⟩
 ·replace c3:=Bool.eq_false_iff.mpr c3;subst c3
  have H1:(some (([]:List Bool)))=some r:=by rw [if_neg (show ¬ (false=true) by decide)] at H;exact H
  clear H;have H:=H1;clear H1;obtain ⟨y174,hy174⟩:∃ y_:List Bool,y_=(([]:List Bool)):=⟨_,rfl⟩
  replace H:(some y174)=some r:=by subst hy174;first|with_reducible exact H|(have z:=(Option.bind_some _ _).symm.trans H;with_reducible exact z)|exact H
  have Ny174:=Xa.mk hy174;clear hy174;obtain rfl:=Option.some.inj H
  go_enter Try.func22,Try.ntmps22
  go_wp2_with (first|((with_reducible refine Xl (f:=37) rfl ?_);refine Ym (some 4) rfl rfl Try.func37 (by kernel_rfl) rfl #[.slice A0 l0.length c0] rfl ga_ ?_;(with_reducible refine (Ye.calls k _ _ l0 false _ ?side1 ?side2 A2.out).mono ?_);(case side1=>repeat (first|exact HR0.out|(with_reducible refine Kd.Yb ?_ _)|(with_reducible refine Kd.Yc ?_ _)|(with_reducible refine Kd.Yk ?_)));(case side2=>exact HC0.out);rintro e w7 ⟨rfl,hb⟩;refine ⟨_,rfl,?_⟩;have n0_:=Xa.mk (Xe (bl_ HB) hb);clear HB;have HB:=n0_;clear n0_;(try clear hb);(try clear hb2);(try clear hk);(try clear hi))|((with_reducible refine Xz (N:=6) rfl ?_);refine Kd.R_lit Kd.bool _ 4 ?hg (N:=6) ?hd (xs:=([]:List Bool)) (inner:=[]) (ok:=fun _=>True) (okp:=fun _=>True) ?hr ?hp (fun _ hk=>hk) trivial (Below.refl _ _) (Nat.le_refl _) (by simp) ?_;(case hd=>rfl);(case hg=>rfl);(case hr=>first|(go_simp;done)|(go_simp;rfl));(case hp=>exact (Yi.none _ _));intro v175 w8 ho9 hb hg_ hnew_;clear hg_ hnew_;(first|rw [← Ny174.out] at ho9|(simp only [Int.reduceToNat] at ho9;rw [← Ny174.out] at ho9));have n0_:=Xa.mk (Kd.Yj ho9 (Xd (bl_ HB)));have n1_:=Xa.mk (Xe (bl_ HB) hb);clear HB;have HO176:=n0_;have HB:=n1_;clear n0_ n1_;clear hb ho9))
  go_ret
  exact ⟨_,rf_,Kd.ra_ (HO176.out),bl_ HB⟩
end Go.Proofs.Ytjmlpgpkmhjdiaa.GSlim
