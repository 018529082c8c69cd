import Derived.Test.YtdkcjecllbdljaaCFnSlim21
import Derived.Test.YtdkcjecllbdljaaCFnSlim48
import Derived.Test.YtdkcjecllbdljaaCFnSlim50
namespace Go.Proofs.Ytdkcjecllbdljaa.GSlim
open Go.RowKit Go.Proofs.YtdkcjecllbdljaaW.PrintWords Go.Proofs.YtdkcjecllbdljaaW.PrintLast Go.Proofs.YtdkcjecllbdljaaW.PrintMore
attribute [local go_sem] Zv Zx Un Uo Zm Zn Zw Zy
set_option linter.unusedVariables false
set_option linter.unusedSimpArgs false
mutual
def Yb.j0:Nat→List (S31)→Int→Bool→Option (Bool)
 |0,_,_,_=>none
 |k+1,x0,x3,x23=>if x23=true then (some false) else (Yb.l0 k x0 x3 0)
def Yb.l0:Nat→List (S31)→Int→Int→Option (Bool)
 |0,_,_,_=>none
 |k+1,x0,x3,x4=>if x4<x3 then (if 0≤x4 then (if x4<(x0.length:Int) then ((Xk.f k ((Xb x0 x4).f0) ((Xb x0 x4).f1) ((Xb x0 x4).f2) ((Xb x0 x4).f3) x3).bind fun t549=>(if t549=true then (if ((Xb x0 x4).f0)=13 then (if x4<(wrap64 (x3 - 1)) then (some false) else (Yb.l0 k x0 x3 (wrap64 (x4+1)))) else (Yb.l0 k x0 x3 (wrap64 (x4+1)))) else (some false))) else (none)) else (none)) else ((Xp.f k x0).bind fun bt551=>(some bt551.2))
end
def Yb.f (k:Nat) (l0:List (S31)):Option (Bool):=if (l0.length:Int)<1 then (Yb.j0 k l0 (l0.length:Int) true) else (if (l0.length:Int) > 60 then (Yb.j0 k l0 (l0.length:Int) true) else (if 0≤(wrap64 ((l0.length:Int) - 1)) then (if (wrap64 ((l0.length:Int) - 1))<(l0.length:Int) then (Yb.j0 k l0 (l0.length:Int) (((Xb l0 (wrap64 ((l0.length:Int) - 1))).f0) != 13)) else (none)) else (none)))
set_option maxHeartbeats 8000000 in
set_option maxRecDepth 100000 in
theorem Yb.calls (k:Nat) (A0:Option Addr) (c0:Nat) (l0:List (S31)) (r:Bool) (w:World) (hr0:Kd.C k31 w A0 l0.length l0) (hc0:l0.length≤c0) (h:Yb.f k l0=some r) :
  Calls Try.prog 10 #[.slice A0 l0.length c0] w fun e w'=>e=.returned (.bool r)∧Below w.heap.size w w':=by
 have hu31:=Try.underlying31;have HR0:=Xa.mk hr0;have HC0:=Xa.mk hc0;clear hr0 hc0;have HB:=Xa.mk (Below.refl w.heap.size w);have H:(if (l0.length:Int)<1 then (Yb.j0 k l0 (l0.length:Int) true) else (if (l0.length:Int) > 60 then (Yb.j0 k l0 (l0.length:Int) true) else (if 0≤(wrap64 ((l0.length:Int) - 1)) then (if (wrap64 ((l0.length:Int) - 1))<(l0.length:Int) then (Yb.j0 k l0 (l0.length:Int) (((Xb l0 (wrap64 ((l0.length:Int) - 1))).f0) != 13)) else (none)) else (none))))=some r:=h;clear h;have HC2:=Xa.mk H;clear H
 go_enter Try.func10,Try.ntmps10
 go_upto_region 2 with (fail)
 go_cut [23] (fun v23 wc=>∃ (kq:Nat) (x23_1:Bool),v23=.bool x23_1∧Xa (Yb.j0 kq l0 (l0.length:Int) x23_1=some r)∧Xa (kq≤k)∧Xa (Below w.heap.size w wc))
 case first=>
  have H:=HC2.out;clear HC2;by_cases c3:(l0.length:Int)<1
  ·rw [if_pos c3] at H;have c3b0:decide ((l0.length:Int)<1)=true:=decide_eq_true c3;have c3b1:decide (l0.length<1)=true:=decide_eq_true (by omega);clear c3
   (first|rw [c3b0]|(simp only [Xy,Xz];rw [c3b0])|skip)
   have H':=Xa.mk H;clear H;go_wp2
   go_meet
   case rel=>exact ⟨_,(true),(by first|rfl|(simp;done)|(simp [*];done)),H',⟨by first|omega|exact Nat.le_refl _⟩,⟨bl_ HB⟩⟩
  ·rw [if_neg c3] at H;have c3b0:decide ((l0.length:Int)<1)=false:=decide_eq_false c3;have c3b1:decide (l0.length<1)=false:=decide_eq_false (by omega);clear c3
   (first|rw [c3b0]|(simp only [Xy,Xz];rw [c3b0])|skip)
   by_cases c4:(l0.length:Int) > 60
   ·rw [if_pos c4] at H;have c4b0:decide (60<(l0.length:Int))=true:=decide_eq_true c4;have c4b1:decide (60<l0.length)=true:=decide_eq_true (by omega);clear c4;have H':=Xa.mk H;clear H;go_wp2
    go_meet
    case rel=>exact ⟨_,(true),(by first|rfl|(simp;done)|(simp [*];done)),H',⟨by first|omega|exact Nat.le_refl _⟩,⟨bl_ HB⟩⟩
   ·rw [if_neg c4] at H;have c4b0:decide (60<(l0.length:Int))=false:=decide_eq_false c4;have c4b1:decide (60<l0.length)=false:=decide_eq_false (by omega);clear c4;obtain ⟨ji5,hji5⟩:∃ j_:Int,(wrap64 ((l0.length:Int) - 1))=j_:=⟨_,rfl⟩
    replace H:(if 0≤(ji5) then (if (ji5)<(l0.length:Int) then (Yb.j0 k l0 (l0.length:Int) (((Xb l0 (ji5)).f0) != 13)) else (none)) else (none))=some r:=by first|(rw [hji5] at H;exact H)|(simp only [hji5] at H ⊢;exact H)
    have hji5w:(IntKind.i64.wrap ((l0.length:Int) - 1))=ji5:=(Xy _).trans hji5;by_cases c6:0≤(ji5)
    ·rw [if_pos c6] at H;have c6b0:decide (0≤(ji5))=true:=decide_eq_true c6;clear c6;by_cases c7:(ji5)<(l0.length:Int)
     ·rw [if_pos c7] at H;have c7b0:decide ((ji5)<(l0.length:Int))=true:=decide_eq_true c7;clear c7;have H':=Xa.mk H;clear H;have p547:0≤((ji5):Int):=of_decide_eq_true (by first|(with_reducible assumption)|assumption);have q547:(ji5)<(l0.length:Int):=of_decide_eq_true (by first|(with_reducible assumption)|assumption);obtain ⟨ad547,e547,hx547_0,hx547_1,hx547_2,hx547_3⟩:=Zt HR0.out (ji5) p547 q547;cases e547
      replace hx547_0:=(HB.out.cell (World.block_lt_of_cell? w _ hx547_0)).trans hx547_0;replace hx547_1:=(HB.out.cell (World.block_lt_of_cell? w _ hx547_1)).trans hx547_1;replace hx547_2:=(HB.out.cell (World.block_lt_of_cell? w _ hx547_2)).trans hx547_2;replace hx547_3:=(HB.out.cell (World.block_lt_of_cell? w _ hx547_3)).trans hx547_3;replace p547:=eq_true p547;replace q547:=eq_true q547;go_wp2
      go_meet
      case rel=>exact ⟨_,((((Xb l0 (ji5)).f0) != 13)),(by first|rfl|(simp;done)|(simp only [← hji5] <;> (first|rfl|simp))|(simp [*];done)),H',⟨by first|omega|exact Nat.le_refl _⟩,⟨bl_ HB⟩⟩
     ·rw [if_neg c7] at H;exact absurd H (by simp)
    ·rw [if_neg c6] at H;exact absurd H (by simp)
 case rest=>
  clear HC2
  try clear c1
  try clear p2
  try clear c3
  try clear c3b0
  try clear c3b1
  try clear c4
  try clear c4b0
  try clear c4b1
  try clear p5
  try clear q5
  try clear hx5
  try clear c6
  try clear c6b0
  try clear p6
  try clear c7
  try clear c7b0
  try clear hx547_0
  try clear hx547_1
  try clear hx547_2
  try clear hx547_3
  try clear p547
  try clear q547
  obtain ⟨kq,x23_1,rfl,HA,HJ1,HB⟩:=hcut
  cases kq with
  |zero=>exact absurd HA.out (by simp [Yb.j0])
  |succ kj1=>
   have H:=HA.out;clear HA;simp only [Yb.j0] at H;by_cases c8:x23_1=true
   ·subst c8
    have H1:(some false)=some r:=by rw [if_pos rfl] at H;exact H
    clear H;have H:=H1;clear H1;obtain rfl:=Option.some.inj H;go_wp2
    go_ret
    exact ⟨rf_,bl_ HB⟩
   ·replace c8:=Bool.eq_false_iff.mpr c8;subst c8
    have H1:(Yb.l0 kj1 l0 (l0.length:Int) 0)=some r:=by rw [if_neg (show ¬ (false=true) by decide)] at H;exact H
    clear H;have H:=H1;clear H1;have H':=Xa.mk H;clear H;go_wp2
    go_loopg [4] kj1 (fun kq v4 w'=>∃ (x4_2:Int),v4=.int .i64 x4_2∧Xa (Yb.l0 kq l0 (l0.length:Int) x4_2=some r)∧Xa (kq≤kj1)∧Xa (Below w.heap.size w w'))
    case atStart=>exact ⟨(0),(by first|rfl|(simp;done)|(simp [*];done)),H',⟨Nat.le_refl _⟩,⟨bl_ HB⟩⟩
    case round=>
     clear H'
     try clear c1
     try clear p2
     try clear c3
     try clear c3b0
     try clear c3b1
     try clear c4
     try clear c4b0
     try clear c4b1
     try clear p5
     try clear q5
     try clear hx5
     try clear c6
     try clear c6b0
     try clear p6
     try clear c7
     try clear c7b0
     try clear c8
     try clear hx547_0
     try clear hx547_1
     try clear hx547_2
     try clear hx547_3
     try clear p2
     try clear p5
     try clear p547
     try clear p6
     try clear q5
     try clear q547
     obtain ⟨x4_2,rfl,HA,HK2,HB⟩:=hrel
     cases gk with
     |zero=>exact absurd HA.out (by simp [Yb.l0])
     |succ k2=>
      have H:=HA.out;clear HA;simp only [Yb.l0] at H;by_cases c9:x4_2<(l0.length:Int)
      ·rw [if_pos c9] at H;have c9b0:decide (x4_2<(l0.length:Int))=true:=decide_eq_true c9;clear c9;by_cases c10:0≤x4_2
       ·rw [if_pos c10] at H;have c10b0:decide (0≤x4_2)=true:=decide_eq_true c10;clear c10;by_cases c11:x4_2<(l0.length:Int)
        ·rw [if_pos c11] at H;have c11b0:decide (x4_2<(l0.length:Int))=true:=decide_eq_true c11;clear c11;replace H:=Option.bind_eq_some_iff.mp H;obtain ⟨t549,A120,H⟩:=H;replace H:(if t549=true then (if ((Xb l0 x4_2).f0)=13 then (if x4_2<(wrap64 ((l0.length:Int) - 1)) then (some false) else (Yb.l0 k2 l0 (l0.length:Int) (wrap64 (x4_2+1)))) else (Yb.l0 k2 l0 (l0.length:Int) (wrap64 (x4_2+1)))) else (some false))=some r:=H;have A12:=Xa.mk A120;clear A120;by_cases c13:t549=true
         ·subst c13
          have H1:(if ((Xb l0 x4_2).f0)=13 then (if x4_2<(wrap64 ((l0.length:Int) - 1)) then (some false) else (Yb.l0 k2 l0 (l0.length:Int) (wrap64 (x4_2+1)))) else (Yb.l0 k2 l0 (l0.length:Int) (wrap64 (x4_2+1))))=some r:=by rw [if_pos rfl] at H;exact H
          clear H;have H:=H1;clear H1;by_cases c14:((Xb l0 x4_2).f0)=13
          ·rw [if_pos c14] at H;have c14b0:(((Xb l0 x4_2).f0) == 13)=true:=beq_iff_eq.mpr c14;have c14b1:(((Xb l0 x4_2).f0) != 13)=false:=bne_eq_false_iff_eq.mpr c14;clear c14;by_cases c15:x4_2<(wrap64 ((l0.length:Int) - 1))
           ·rw [if_pos c15] at H;have c15b0:decide (x4_2<(wrap64 ((l0.length:Int) - 1)))=true:=decide_eq_true c15;clear c15;obtain rfl:=Option.some.inj H;have p548:0≤(x4_2:Int):=of_decide_eq_true (by first|(with_reducible assumption)|assumption);have q548:x4_2<(l0.length:Int):=of_decide_eq_true (by first|(with_reducible assumption)|assumption);obtain ⟨ad548,e548,hx548_0,hx548_1,hx548_2,hx548_3⟩:=Zt HR0.out x4_2 p548 q548;cases e548
            replace hx548_0:=(HB.out.cell (World.block_lt_of_cell? w _ hx548_0)).trans hx548_0;replace hx548_1:=(HB.out.cell (World.block_lt_of_cell? w _ hx548_1)).trans hx548_1;replace hx548_2:=(HB.out.cell (World.block_lt_of_cell? w _ hx548_2)).trans hx548_2;replace hx548_3:=(HB.out.cell (World.block_lt_of_cell? w _ hx548_3)).trans hx548_3;replace p548:=eq_true p548;replace q548:=eq_true q548;go_wp2_with (first|((with_reducible refine Xf (f:=23) rfl ?_);refine Yf (some 34) rfl rfl Try.func23 (by kernel_rfl) rfl #[.agg #[.int .i64 ((Xb l0 x4_2).f0),.int .i64 ((Xb l0 x4_2).f1),.int .i64 ((Xb l0 x4_2).f2),.int .i64 ((Xb l0 x4_2).f3)],.int .i64 (l0.length:Int)] rfl ga_ ?_;(with_reducible refine (Xk.calls k2 ((Xb l0 x4_2).f0) ((Xb l0 x4_2).f1) ((Xb l0 x4_2).f2) ((Xb l0 x4_2).f3) (l0.length:Int) true _ A12.out).mono ?_);rintro e w16 ⟨rfl,hb⟩;refine ⟨_,rfl,?_⟩;have n0_:=Xa.mk (Xd (bl_ HB) hb);clear HB;have HB:=n0_;clear n0_;(try clear hb);(try clear hb2);(try clear hk);(try clear hi);have p550:0≤(x4_2:Int):=of_decide_eq_true (by first|(with_reducible assumption)|assumption);have q550:x4_2<(l0.length:Int):=of_decide_eq_true (by first|(with_reducible assumption)|assumption);obtain ⟨ad550,e550,hx550_0,hx550_1,hx550_2,hx550_3⟩:=Zt HR0.out x4_2 p550 q550;obtain rfl:ad548=ad550:=(by injection e550);replace hx550_0:=(HB.out.cell (World.block_lt_of_cell? w _ hx550_0)).trans hx550_0;replace hx550_1:=(HB.out.cell (World.block_lt_of_cell? w _ hx550_1)).trans hx550_1;replace hx550_2:=(HB.out.cell (World.block_lt_of_cell? w _ hx550_2)).trans hx550_2;replace hx550_3:=(HB.out.cell (World.block_lt_of_cell? w _ hx550_3)).trans hx550_3;replace p550:=eq_true p550;replace q550:=eq_true q550))
            go_ret
            exact ⟨rf_,bl_ HB⟩
           ·rw [if_neg c15] at H;have c15b0:decide (x4_2<(wrap64 ((l0.length:Int) - 1)))=false:=decide_eq_false c15;clear c15;have H':=Xa.mk H;clear H;have p548:0≤(x4_2:Int):=of_decide_eq_true (by first|(with_reducible assumption)|assumption);have q548:x4_2<(l0.length:Int):=of_decide_eq_true (by first|(with_reducible assumption)|assumption);obtain ⟨ad548,e548,hx548_0,hx548_1,hx548_2,hx548_3⟩:=Zt HR0.out x4_2 p548 q548;cases e548
            replace hx548_0:=(HB.out.cell (World.block_lt_of_cell? w _ hx548_0)).trans hx548_0;replace hx548_1:=(HB.out.cell (World.block_lt_of_cell? w _ hx548_1)).trans hx548_1;replace hx548_2:=(HB.out.cell (World.block_lt_of_cell? w _ hx548_2)).trans hx548_2;replace hx548_3:=(HB.out.cell (World.block_lt_of_cell? w _ hx548_3)).trans hx548_3;replace p548:=eq_true p548;replace q548:=eq_true q548;go_wp2_with (first|((with_reducible refine Xf (f:=23) rfl ?_);refine Yf (some 34) rfl rfl Try.func23 (by kernel_rfl) rfl #[.agg #[.int .i64 ((Xb l0 x4_2).f0),.int .i64 ((Xb l0 x4_2).f1),.int .i64 ((Xb l0 x4_2).f2),.int .i64 ((Xb l0 x4_2).f3)],.int .i64 (l0.length:Int)] rfl ga_ ?_;(with_reducible refine (Xk.calls k2 ((Xb l0 x4_2).f0) ((Xb l0 x4_2).f1) ((Xb l0 x4_2).f2) ((Xb l0 x4_2).f3) (l0.length:Int) true _ A12.out).mono ?_);rintro e w17 ⟨rfl,hb⟩;refine ⟨_,rfl,?_⟩;have n0_:=Xa.mk (Xd (bl_ HB) hb);clear HB;have HB:=n0_;clear n0_;(try clear hb);(try clear hb2);(try clear hk);(try clear hi);have p550:0≤(x4_2:Int):=of_decide_eq_true (by first|(with_reducible assumption)|assumption);have q550:x4_2<(l0.length:Int):=of_decide_eq_true (by first|(with_reducible assumption)|assumption);obtain ⟨ad550,e550,hx550_0,hx550_1,hx550_2,hx550_3⟩:=Zt HR0.out x4_2 p550 q550;obtain rfl:ad548=ad550:=(by injection e550);replace hx550_0:=(HB.out.cell (World.block_lt_of_cell? w _ hx550_0)).trans hx550_0;replace hx550_1:=(HB.out.cell (World.block_lt_of_cell? w _ hx550_1)).trans hx550_1;replace hx550_2:=(HB.out.cell (World.block_lt_of_cell? w _ hx550_2)).trans hx550_2;replace hx550_3:=(HB.out.cell (World.block_lt_of_cell? w _ hx550_3)).trans hx550_3;replace p550:=eq_true p550;replace q550:=eq_true q550))
            go_roundg k2
            case measure=>have:=HJ1.out;have:=HK2.out;omega
            case rel=>exact ⟨(wrap64 (x4_2+1)),(by first|rfl|(simp;done)|(simp [*];done)),H',⟨by have:=HJ1.out;have:=HK2.out;omega⟩,⟨bl_ HB⟩⟩
          ·rw [if_neg c14] at H;have c14b0:(((Xb l0 x4_2).f0) == 13)=false:=beq_eq_false_iff_ne.mpr c14;have c14b1:(((Xb l0 x4_2).f0) != 13)=true:=bne_iff_ne.mpr c14;have H':=Xa.mk H;clear H;have p548:0≤(x4_2:Int):=of_decide_eq_true (by first|(with_reducible assumption)|assumption);have q548:x4_2<(l0.length:Int):=of_decide_eq_true (by first|(with_reducible assumption)|assumption);obtain ⟨ad548,e548,hx548_0,hx548_1,hx548_2,hx548_3⟩:=Zt HR0.out x4_2 p548 q548;cases e548
           replace hx548_0:=(HB.out.cell (World.block_lt_of_cell? w _ hx548_0)).trans hx548_0;replace hx548_1:=(HB.out.cell (World.block_lt_of_cell? w _ hx548_1)).trans hx548_1;replace hx548_2:=(HB.out.cell (World.block_lt_of_cell? w _ hx548_2)).trans hx548_2;replace hx548_3:=(HB.out.cell (World.block_lt_of_cell? w _ hx548_3)).trans hx548_3;replace p548:=eq_true p548;replace q548:=eq_true q548;go_wp2_with (first|((with_reducible refine Xf (f:=23) rfl ?_);refine Yf (some 34) rfl rfl Try.func23 (by kernel_rfl) rfl #[.agg #[.int .i64 ((Xb l0 x4_2).f0),.int .i64 ((Xb l0 x4_2).f1),.int .i64 ((Xb l0 x4_2).f2),.int .i64 ((Xb l0 x4_2).f3)],.int .i64 (l0.length:Int)] rfl ga_ ?_;(with_reducible refine (Xk.calls k2 ((Xb l0 x4_2).f0) ((Xb l0 x4_2).f1) ((Xb l0 x4_2).f2) ((Xb l0 x4_2).f3) (l0.length:Int) true _ A12.out).mono ?_);rintro e w18 ⟨rfl,hb⟩;refine ⟨_,rfl,?_⟩;have n0_:=Xa.mk (Xd (bl_ HB) hb);clear HB;have HB:=n0_;clear n0_;(try clear hb);(try clear hb2);(try clear hk);(try clear hi);have p550:0≤(x4_2:Int):=of_decide_eq_true (by first|(with_reducible assumption)|assumption);have q550:x4_2<(l0.length:Int):=of_decide_eq_true (by first|(with_reducible assumption)|assumption);obtain ⟨ad550,e550,hx550_0,hx550_1,hx550_2,hx550_3⟩:=Zt HR0.out x4_2 p550 q550;obtain rfl:ad548=ad550:=(by injection e550);replace hx550_0:=(HB.out.cell (World.block_lt_of_cell? w _ hx550_0)).trans hx550_0;replace hx550_1:=(HB.out.cell (World.block_lt_of_cell? w _ hx550_1)).trans hx550_1;replace hx550_2:=(HB.out.cell (World.block_lt_of_cell? w _ hx550_2)).trans hx550_2;replace hx550_3:=(HB.out.cell (World.block_lt_of_cell? w _ hx550_3)).trans hx550_3;replace p550:=eq_true p550;replace q550:=eq_true q550))
           go_roundg k2
           case measure=>have:=HJ1.out;have:=HK2.out;omega
           case rel=>exact ⟨(wrap64 (x4_2+1)),(by first|rfl|(simp;done)|(simp [*];done)),H',⟨by have:=HJ1.out;have:=HK2.out;omega⟩,⟨bl_ HB⟩⟩
         ·replace c13:=Bool.eq_false_iff.mpr c13;subst c13
          have H1:(some false)=some r:=by rw [if_neg (show ¬ (false=true) by decide)] at H;exact H
          clear H;have H:=H1;clear H1;obtain rfl:=Option.some.inj H;have p548:0≤(x4_2:Int):=of_decide_eq_true (by first|(with_reducible assumption)|assumption);have q548:x4_2<(l0.length:Int):=of_decide_eq_true (by first|(with_reducible assumption)|assumption);obtain ⟨ad548,e548,hx548_0,hx548_1,hx548_2,hx548_3⟩:=Zt HR0.out x4_2 p548 q548;cases e548
          replace hx548_0:=(HB.out.cell (World.block_lt_of_cell? w _ hx548_0)).trans hx548_0;replace hx548_1:=(HB.out.cell (World.block_lt_of_cell? w _ hx548_1)).trans hx548_1;replace hx548_2:=(HB.out.cell (World.block_lt_of_cell? w _ hx548_2)).trans hx548_2;replace hx548_3:=(HB.out.cell (World.block_lt_of_cell? w _ hx548_3)).trans hx548_3;replace p548:=eq_true p548;replace q548:=eq_true q548;go_wp2_with (first|((with_reducible refine Xf (f:=23) rfl ?_);refine Yf (some 34) rfl rfl Try.func23 (by kernel_rfl) rfl #[.agg #[.int .i64 ((Xb l0 x4_2).f0),.int .i64 ((Xb l0 x4_2).f1),.int .i64 ((Xb l0 x4_2).f2),.int .i64 ((Xb l0 x4_2).f3)],.int .i64 (l0.length:Int)] rfl ga_ ?_;(with_reducible refine (Xk.calls k2 ((Xb l0 x4_2).f0) ((Xb l0 x4_2).f1) ((Xb l0 x4_2).f2) ((Xb l0 x4_2).f3) (l0.length:Int) false _ A12.out).mono ?_);rintro e w19 ⟨rfl,hb⟩;refine ⟨_,rfl,?_⟩;have n0_:=Xa.mk (Xd (bl_ HB) hb);clear HB;have HB:=n0_;clear n0_;(try clear hb);(try clear hb2);(try clear hk);(try clear hi)))
          go_ret
          exact ⟨rf_,bl_ HB⟩
        ·rw [if_neg c11] at H;exact absurd H (by simp)
       ·rw [if_neg c10] at H;exact absurd H (by simp)
      ·rw [if_neg c9] at H;have c9b0:decide (x4_2<(l0.length:Int))=false:=decide_eq_false c9;clear c9;replace H:=Option.bind_eq_some_iff.mp H;obtain ⟨⟨t551,t552⟩,A200,H⟩:=H;replace H:(some t552)=some r:=H;have A20:=Xa.mk A200;clear A200;obtain rfl:=Option.some.inj H;go_wp2_with (first|((with_reducible refine Xf (f:=24) rfl ?_);refine Yf (some 52) rfl rfl Try.func24 (by kernel_rfl) rfl #[.slice A0 l0.length c0] rfl ga_ ?_;(with_reducible refine (Xp.calls k2 _ _ l0 t551 t552 _ ?side1 ?side2 A20.out).mono ?_);(case side1=>repeat (first|exact (Kd.Zi HR0.out HB.out)|(with_reducible refine Kd.Xq ?_ _)|(with_reducible refine Kd.Xr ?_ _)|(with_reducible refine Kd.Yc ?_)));(case side2=>exact HC0.out);rintro e w21 ⟨v553,rfl,ho0,hb⟩;refine ⟨_,rfl,?_⟩;have n0_:=Xa.mk (Kd.Yg ho0 (Xc (bl_ HB)));have n1_:=Xa.mk (Xd (bl_ HB) hb);clear HB;have HO554:=n0_;have HB:=n1_;clear n0_ n1_;(try clear hb);(try clear hb2);(try clear hk);(try clear hi);(try clear ho0)))
       go_ret
       exact ⟨rf_,bl_ HB⟩
def Uh.l0:Nat→List (S31)→List Int→List Bool→Int→Option (List Bool)
 |0,_,_,_,_=>none
 |k+1,x0,x3,x5,x6=>if x6<(x0.length:Int) then (if 0≤x6 then (if x6<(x3.length:Int) then (if x5.length<140737488355328 then (Uh.l0 k x0 x3 (x5 ++ [decide ((rd x3 x6) ≥ 0)]) (wrap64 (x6+1))) else (none)) else (none)) else (none)) else (some x5)
def Uh.f (k:Nat) (l0:List (S31)):Option (List Bool):=(Xp.f k l0).bind fun bt555=>(Uh.l0 k l0 bt555.1 (([]:List Bool)) 0)
set_option maxHeartbeats 8000000 in
set_option maxRecDepth 100000 in
theorem Uh.calls (k:Nat) (A0:Option Addr) (c0:Nat) (l0:List (S31)) (r:List Bool) (w:World) (hr0:Kd.C k31 w A0 l0.length l0) (hc0:l0.length≤c0) (h:Uh.f k l0=some r) :
  Calls Try.prog 21 #[.slice A0 l0.length c0] w fun e w'=>∃ v0_:Value,e=.returned (v0_)∧Kd.R Kd.bool 4 w' w.heap.size (fun _=>True) v0_ r∧Below w.heap.size w w':=by
 have HR0:=Xa.mk hr0;have HC0:=Xa.mk hc0;clear hr0 hc0;have HB:=Xa.mk (Below.refl w.heap.size w);have H:((Xp.f k l0).bind fun bt555=>(Uh.l0 k l0 bt555.1 (([]:List Bool)) 0))=some r:=h;clear h;replace H:=Option.bind_eq_some_iff.mp H;obtain ⟨⟨t555,t556⟩,A20,H⟩:=H;replace H:(Uh.l0 k l0 t555 (([]:List Bool)) 0)=some r:=H;have A2:=Xa.mk A20;clear A20;obtain ⟨y559,hy559⟩:∃ y_:List Bool,y_=(([]:List Bool)):=⟨_,rfl⟩
 replace H:(Uh.l0 k l0 t555 y559 0)=some r:=by subst hy559;first|with_reducible exact H|(have z:=(Option.bind_some _ _).symm.trans H;with_reducible exact z)|exact H
 have Ny559:=Xa.mk hy559;clear hy559;have H':=Xa.mk H;clear H
 go_enter Try.func21,Try.ntmps21
 go_wp2_with (first|((with_reducible refine Xf (f:=24) rfl ?_);refine Yf (some 9) rfl rfl Try.func24 (by kernel_rfl) rfl #[.slice A0 l0.length c0] rfl ga_ ?_;(with_reducible refine (Xp.calls k _ _ l0 t555 t556 _ ?side1 ?side2 A2.out).mono ?_);(case side1=>repeat (first|exact HR0.out|(with_reducible refine Kd.Xq ?_ _)|(with_reducible refine Kd.Xr ?_ _)|(with_reducible refine Kd.Yc ?_)));(case side2=>exact HC0.out);rintro e w3 ⟨v557,rfl,ho0,hb⟩;refine ⟨_,rfl,?_⟩;have n0_:=Xa.mk (Kd.Yg ho0 (Xc (bl_ HB)));have n1_:=Xa.mk (Xd (bl_ HB) hb);clear HB;have HO558:=n0_;have HB:=n1_;clear n0_ n1_;(try clear hb);(try clear hb2);(try clear hk);(try clear hi);(try clear ho0))|((with_reducible refine Xx (N:=12) rfl ?_);refine Kd.Vq Kd.bool _ 4 ?hg (N:=12) ?hd (xs:=([]:List Bool)) (inner:=[]) (ok:=fun _=>True) (okp:=fun _=>True) ?hr ?hp (fun _ hk=>hk) trivial (Below.refl _ _) (Nat.le_refl _) (by simp) ?_;(case hd=>rfl);(case hg=>rfl);(case hr=>first|(go_simp;done)|(go_simp;rfl));(case hp=>exact (Yl.none _ _));intro v560 w4 ho5 hb hg_ hnew_;clear hg_ hnew_;(first|rw [← Ny559.out] at ho5|(simp only [Int.reduceToNat] at ho5;rw [← Ny559.out] at ho5));have n0_:=Xa.mk (Kd.Zl (Kd.ra_ (HO558.out)) hb);have n1_:=Xa.mk (Kd.Yg ho5 (Xc (bl_ HB)));have n2_:=Xa.mk (Xd (bl_ HB) hb);clear HO558;clear HB;have HO558:=n0_;have HO561:=n1_;have HB:=n2_;clear n0_ n1_ n2_;clear hb ho5))
 go_loopg [5,6] k (fun kq v5 v6 w'=>∃ (x5_1:List Bool) (x6_1:Int),v6=.int .i64 x6_1∧Xa (Uh.l0 kq l0 t555 x5_1 x6_1=some r)∧Xa (kq≤k)∧Xa (Kd.R (Kd.int .i64) 3 w' w.heap.size (fun _=>True) v557 t555)∧Xa (Kd.R Kd.bool 4 w' w.heap.size (fun _=>True) v5 x5_1)∧Xa (Below w.heap.size w w'))
 case atStart=>exact ⟨(y559),(0),(by first|rfl|(simp;done)|(simp [*];done)),H',⟨Nat.le_refl _⟩,⟨Kd.ra_ (HO558.out)⟩,⟨Kd.ra_ (HO561.out)⟩,⟨bl_ HB⟩⟩
 case round=>
  clear H'
  try clear c2
  try clear p2
  obtain ⟨x5_1,x6_1,rfl,HA,HK1,HO_3,HO_5,HB⟩:=hrel
  cases gk with
  |zero=>exact absurd HA.out (by simp [Uh.l0])
  |succ k1=>
   have H:=HA.out;clear HA;simp only [Uh.l0] at H;by_cases c6:x6_1<(l0.length:Int)
   ·rw [if_pos c6] at H;have c6b0:decide (x6_1<(l0.length:Int))=true:=decide_eq_true c6;clear c6;by_cases c7:0≤x6_1
    ·rw [if_pos c7] at H;have c7b0:decide (0≤x6_1)=true:=decide_eq_true c7;clear c7;by_cases c8:x6_1<(t555.length:Int)
     ·rw [if_pos c8] at H;have c8b0:decide (x6_1<(t555.length:Int))=true:=decide_eq_true c8;clear c8;by_cases c9:x5_1.length<140737488355328
      ·rw [if_pos c9] at H;have LMc9:=Xa.mk c9;clear c9;obtain ⟨y563,hy563⟩:∃ y_:List Bool,y_=(x5_1 ++ [decide ((rd t555 x6_1) ≥ 0)]):=⟨_,rfl⟩
       replace H:(Uh.l0 k1 l0 t555 y563 (wrap64 (x6_1+1)))=some r:=by subst hy563;first|with_reducible exact H|(have z:=(Option.bind_some _ _).symm.trans H;with_reducible exact z)|exact H
       have Ny563:=Xa.mk hy563;clear hy563;have H':=Xa.mk H;clear H;obtain ⟨Ao10,co10,eo10⟩:=Kd.Yr HO_3.out;subst eo10;have p562:0≤(x6_1:Int):=of_decide_eq_true (by first|(with_reducible assumption)|assumption);have q562:x6_1<(t555.length:Int):=of_decide_eq_true (by first|(with_reducible assumption)|assumption);obtain ⟨ad562,e562,hx562_0⟩:=Kd.Uv (Kd.R_reads' HO_3.out).2.2 x6_1 p562 q562;cases e562
       replace p562:=eq_true p562;replace q562:=eq_true q562;go_wp2_with (first|((with_reducible refine Yp (b:=.append) (xs:=#[.tmp 19,.tmp 25]) rfl ?_);at_builtin;refine Kd.Vo Kd.bool (w0:=w) w.heap.size rfl (.tmp 19) (.tmp 25) 28 4 (.bool false) 1 rfl Try.underlying28 info4 rfl (by decide) (by omega) u5 x5_1 (decide ((rd t555 x6_1) ≥ 0)) [.bool (decide ((rd t555 x6_1) ≥ 0))] (fun _=>True) (fun _=>False) rfl rfl ?aP (fun _ hk=>hk.elim) ?aF ?aO ?aB ?aS ?aL ?_;(case aP=>exact rfl);(case aB=>exact (bl_ HB));(case aF=>exact (fun _ _=>trivial));(case aO=>exact (Kd.ra_ (HO_5.out)));(case aS=>exact (Xc (bl_ HB)));(case aL=>have:=LMc9.out;omega);intro v564 w11 ho hb hg hat;rw [← Ny563.out] at ho;have n0_:=Xa.mk (Kd.R_over' (Kd.ra_ (HO_3.out)) (Kd.R_typed (Kd.ra_ (HO_5.out))) (by decide) hg);have n1_:=Xa.mk (hb);have n2_:=Xa.mk (ho);clear HO_3;clear HB;clear HO_5;have HO_3:=n0_;have HB:=n1_;have HO565:=n2_;clear n0_ n1_ n2_;clear ho hb hg hat))
       go_roundg k1
       case measure=>have:=HK1.out;omega
       case rel=>exact ⟨(y563),(wrap64 (x6_1+1)),(by first|rfl|(simp;done)|(simp [*];done)),H',⟨by have:=HK1.out;omega⟩,⟨Kd.ra_ (HO_3.out)⟩,⟨Kd.ra_ (HO565.out)⟩,⟨bl_ HB⟩⟩
      ·rw [if_neg c9] at H;exact absurd H (by simp)
     ·rw [if_neg c8] at H;exact absurd H (by simp)
    ·rw [if_neg c7] at H;exact absurd H (by simp)
   ·rw [if_neg c6] at H;have c6b0:decide (x6_1<(l0.length:Int))=false:=decide_eq_false c6;clear c6;obtain rfl:=Option.some.inj H;go_wp2
    go_ret
    exact ⟨_,rf_,Kd.ra_ (HO_5.out),bl_ HB⟩
def Ui.l0:Nat→List (S31)→List Bool→Int→Int→Option (Bool)
 |0,_,_,_,_=>none
 |k+1,x0,x1,x2,x7=>if x7<(wrap64 ((x0.length:Int) - 1)) then (if 0≤x7 then (if x7<(x1.length:Int) then (if rdOf false x1 x7=true then (if 0≤x2 then (if x2<(x0.length:Int) then (some (((Xb x0 x2).f3) == x7)) else (none)) else (none)) else (Ui.l0 k x0 x1 x2 (wrap64 (x7+1)))) else (none)) else (none)) else (if 0≤x2 then (if x2<(x0.length:Int) then (some (((Xb x0 x2).f3) == x7)) else (none)) else (none))
def Ui.f (k:Nat) (l0:List (S31)) (l1:List Bool) (a2:Int):Option (Bool):=Ui.l0 k l0 l1 a2 (wrap64 (a2+1))
set_option maxHeartbeats 8000000 in
set_option maxRecDepth 100000 in
theorem Ui.calls (k:Nat) (A0:Option Addr) (c0:Nat) (l0:List (S31)) (A1:Option Addr) (c1:Nat) (l1:List Bool) (a2:Int) (r:Bool) (w:World) (hr0:Kd.C k31 w A0 l0.length l0) (hc0:l0.length≤c0) (hr1:Kd.C Kd.bool w A1 l1.length l1) (hc1:l1.length≤c1) (h:Ui.f k l0 l1 a2=some r) :
  Calls Try.prog 37 #[.slice A0 l0.length c0,.slice A1 l1.length c1,.int .i64 a2] w fun e w'=>e=.returned (.bool r)∧Yn w w':=by
 have HR0:=Xa.mk hr0;have HC0:=Xa.mk hc0;clear hr0 hc0;have HR1:=Xa.mk hr1;have HC1:=Xa.mk hc1;clear hr1 hc1;have H:(Ui.l0 k l0 l1 a2 (wrap64 (a2+1)))=some r:=h;clear h;have H':=Xa.mk H;clear H
 go_enter Try.func37,Try.ntmps37
 go_wp2
 go_loopg [7] k (fun kq v7 w'=>∃ (x7_1:Int),v7=.int .i64 x7_1∧Xa (Ui.l0 kq l0 l1 a2 x7_1=some r)∧Xa (kq≤k)∧Yn w w')
 case atStart=>exact ⟨(wrap64 (a2+1)),(by first|rfl|(simp;done)|(simp [*];done)),H',⟨Nat.le_refl _⟩,by repeat (first|exact Yn.refl _|apply Yn.step)⟩
 case round=>
  clear H'
  try clear c1
  try clear p2
  try clear c3
  obtain ⟨x7_1,rfl,HA,HK1,⟨m1,rfl⟩⟩:=hrel
  cases gk with
  |zero=>exact absurd HA.out (by simp [Ui.l0])
  |succ k1=>
   have H:=HA.out;clear HA;simp only [Ui.l0] at H;by_cases c4:x7_1<(wrap64 ((l0.length:Int) - 1))
   ·rw [if_pos c4] at H;have c4b0:decide (x7_1<(wrap64 ((l0.length:Int) - 1)))=true:=decide_eq_true c4;clear c4;by_cases c5:0≤x7_1
    ·rw [if_pos c5] at H;have c5b0:decide (0≤x7_1)=true:=decide_eq_true c5;clear c5;by_cases c6:x7_1<(l1.length:Int)
     ·rw [if_pos c6] at H;have c6b0:decide (x7_1<(l1.length:Int))=true:=decide_eq_true c6;clear c6;obtain ⟨bq7,hbq7⟩:∃ b_:Bool,b_=(rdOf false l1 x7_1):=⟨_,rfl⟩
      replace H:(if bq7=true then (if 0≤a2 then (if a2<(l0.length:Int) then (some (((Xb l0 a2).f3) == x7_1)) else (none)) else (none)) else (Ui.l0 k1 l0 l1 a2 (wrap64 (x7_1+1))))=some r:=by rw [← hbq7] at H;exact H
      have Nbq7:=Xa.mk hbq7;clear hbq7;by_cases c8:bq7=true
      ·subst c8
       have H1:(if 0≤a2 then (if a2<(l0.length:Int) then (some (((Xb l0 a2).f3) == x7_1)) else (none)) else (none))=some r:=by rw [if_pos rfl] at H;exact H
       clear H;have H:=H1;clear H1;by_cases c9:0≤a2
       ·rw [if_pos c9] at H;have c9b0:decide (0≤a2)=true:=decide_eq_true c9;clear c9;by_cases c10:a2<(l0.length:Int)
        ·rw [if_pos c10] at H;have c10b0:decide (a2<(l0.length:Int))=true:=decide_eq_true c10;clear c10;obtain rfl:=Option.some.inj H;have p566:0≤(x7_1:Int):=of_decide_eq_true (by first|(with_reducible assumption)|assumption);have q566:x7_1<(l1.length:Int):=of_decide_eq_true (by first|(with_reducible assumption)|assumption);obtain ⟨ad566,e566,hx566_0⟩:=Kd.at_bool HR1.out x7_1 p566 q566
         (try rw [← Nbq7.out] at hx566_0)
         cases e566
         replace p566:=eq_true p566;replace q566:=eq_true q566;have p567:0≤(a2:Int):=of_decide_eq_true (by first|(with_reducible assumption)|assumption);have q567:a2<(l0.length:Int):=of_decide_eq_true (by first|(with_reducible assumption)|assumption);obtain ⟨ad567,e567,hx567_0,hx567_1,hx567_2,hx567_3⟩:=Zt HR0.out a2 p567 q567;cases e567
         replace p567:=eq_true p567;replace q567:=eq_true q567;go_wp2
         go_ret
         exact ⟨by first|rfl|(simp;done)|(simp [*];done),by repeat (first|exact Yn.refl _|apply Yn.step)⟩
        ·rw [if_neg c10] at H;exact absurd H (by simp)
       ·rw [if_neg c9] at H;exact absurd H (by simp)
      ·replace c8:=Bool.eq_false_iff.mpr c8;subst c8
       have H1:(Ui.l0 k1 l0 l1 a2 (wrap64 (x7_1+1)))=some r:=by rw [if_neg (show ¬ (false=true) by decide)] at H;exact H
       clear H;have H:=H1;clear H1;have H':=Xa.mk H;clear H;have p566:0≤(x7_1:Int):=of_decide_eq_true (by first|(with_reducible assumption)|assumption);have q566:x7_1<(l1.length:Int):=of_decide_eq_true (by first|(with_reducible assumption)|assumption);obtain ⟨ad566,e566,hx566_0⟩:=Kd.at_bool HR1.out x7_1 p566 q566
       (try rw [← Nbq7.out] at hx566_0)
       cases e566
       replace p566:=eq_true p566;replace q566:=eq_true q566;go_wp2
       go_roundg k1
       case measure=>have:=HK1.out;omega
       case rel=>exact ⟨(wrap64 (x7_1+1)),(by first|rfl|(simp;done)|(simp [*];done)),H',⟨by have:=HK1.out;omega⟩,by repeat (first|exact Yn.refl _|apply Yn.step)⟩
     ·rw [if_neg c6] at H;exact absurd H (by simp)
    ·rw [if_neg c5] at H;exact absurd H (by simp)
   ·rw [if_neg c4] at H;have c4b0:decide (x7_1<(wrap64 ((l0.length:Int) - 1)))=false:=decide_eq_false c4;clear c4;by_cases c11:0≤a2
    ·rw [if_pos c11] at H;have c11b0:decide (0≤a2)=true:=decide_eq_true c11;clear c11;by_cases c12:a2<(l0.length:Int)
     ·rw [if_pos c12] at H;have c12b0:decide (a2<(l0.length:Int))=true:=decide_eq_true c12;clear c12;obtain rfl:=Option.some.inj H;have p568:0≤(a2:Int):=of_decide_eq_true (by first|(with_reducible assumption)|assumption);have q568:a2<(l0.length:Int):=of_decide_eq_true (by first|(with_reducible assumption)|assumption);obtain ⟨ad568,e568,hx568_0,hx568_1,hx568_2,hx568_3⟩:=Zt HR0.out a2 p568 q568;cases e568
      replace p568:=eq_true p568;replace q568:=eq_true q568;go_wp2
      go_ret
      exact ⟨by first|rfl|(simp;done)|(simp [*];done),by repeat (first|exact Yn.refl _|apply Yn.step)⟩
     ·rw [if_neg c12] at H;exact absurd H (by simp)
    ·rw [if_neg c11] at H;exact absurd H (by simp)
end Go.Proofs.Ytdkcjecllbdljaa.GSlim
