import Derived.Test.YtdkcjecllbdljaaCFnSlim21
import Derived.Test.YtdkcjecllbdljaaCFnSlim41
import Derived.Test.YtdkcjecllbdljaaCFnSlim39
import Derived.Test.YtdkcjecllbdljaaCFnSlim46
namespace Go.Proofs.Ytdkcjecllbdljaa.GSlim
open Go.RowKit Go.Proofs.YtdkcjecllbdljaaW.PrintWords Go.Proofs.YtdkcjecllbdljaaW.PrintLast Go.Proofs.YtdkcjecllbdljaaW.PrintMore
attribute [local go_sem] Zv Zx Un Uo Zm Zn Zw Zy
set_option linter.unusedVariables false
set_option linter.unusedSimpArgs false
attribute [local go_sem high] eqA31
def Zr.l0:Nat→List (S31)→List (S31)→Int→Int→Option (Bool)
 |0,_,_,_,_=>none
 |k+1,x0,x1,x12,x13=>if x13<x12 then (if 0≤x13 then (if x13<(x0.length:Int) then (if x13<(x1.length:Int) then (if (!(((Xb x0 x13).f0) == ((Xb x1 x13).f0))||(!(((Xb x0 x13).f1) == ((Xb x1 x13).f1))||(!(((Xb x0 x13).f2) == ((Xb x1 x13).f2))||(!(((Xb x0 x13).f3) == ((Xb x1 x13).f3))))))=true then (some false) else (Zr.l0 k x0 x1 x12 (wrap64 (x13+1)))) else (none)) else (none)) else (none)) else (some true)
def Zr.f (k:Nat) (l0:List (S31)) (l1:List (S31)):Option (Bool):=if (l0.length:Int)=(l1.length:Int) then (Zr.l0 k l0 l1 (l0.length:Int) 0) else (some false)
set_option maxHeartbeats 8000000 in
set_option maxRecDepth 100000 in
theorem Zr.calls (k:Nat) (A0:Option Addr) (c0:Nat) (l0:List (S31)) (A1:Option Addr) (c1:Nat) (l1:List (S31)) (r:Bool) (w:World) (hr0:Kd.C k31 w A0 l0.length l0) (hc0:l0.length≤c0) (hr1:Kd.C k31 w A1 l1.length l1) (hc1:l1.length≤c1) (h:Zr.f k l0 l1=some r) :
  Calls Try.prog 20 #[.slice A0 l0.length c0,.slice A1 l1.length c1] w fun e w'=>e=.returned (.bool r)∧Yn w w':=by
 have hu31:=Try.underlying31;have HR0:=Xa.mk hr0;have HC0:=Xa.mk hc0;clear hr0 hc0;have HR1:=Xa.mk hr1;have HC1:=Xa.mk hc1;clear hr1 hc1;have H:(if (l0.length:Int)=(l1.length:Int) then (Zr.l0 k l0 l1 (l0.length:Int) 0) else (some false))=some r:=h;clear h;by_cases c3:(l0.length:Int)=(l1.length:Int)
 ·rw [if_pos c3] at H;have c3b0:((l0.length:Int) == (l1.length:Int))=true:=beq_iff_eq.mpr c3;have c3b1:((l0.length:Int) != (l1.length:Int))=false:=bne_eq_false_iff_eq.mpr c3
  have c3b2:(l0.length == l1.length)=true:=by first|simpa using c3|(simp at c3 ⊢;omega)
  clear c3;have H':=Xa.mk H;clear H
  go_enter Try.func20,Try.ntmps20
  go_wp2
  repeat (go_quiet (fail);try go_wp2)
  go_loopg [13] k (fun kq v13 w'=>∃ (x13_1:Int),v13=.int .i64 x13_1∧Xa (Zr.l0 kq l0 l1 (l0.length:Int) x13_1=some r)∧Xa (kq≤k)∧Yn w w')
  case atStart=>exact ⟨(0),(by first|rfl|(simp;done)|(simp [*];done)),H',⟨Nat.le_refl _⟩,by repeat (first|exact Yn.refl _|apply Yn.step)⟩
  case round=>
   clear H'
   try clear c1
   try clear c2
   try clear p2
   try clear c3
   try clear c3b0
   try clear c3b1
   try clear c3b2
   obtain ⟨x13_1,rfl,HA,HK1,⟨m1,rfl⟩⟩:=hrel
   cases gk with
   |zero=>exact absurd HA.out (by simp [Zr.l0])
   |succ k1=>
    have H:=HA.out;clear HA;simp only [Zr.l0] at H;by_cases c4:x13_1<(l0.length:Int)
    ·rw [if_pos c4] at H;have c4b0:decide (x13_1<(l0.length:Int))=true:=decide_eq_true c4;clear c4;by_cases c5:0≤x13_1
     ·rw [if_pos c5] at H;have c5b0:decide (0≤x13_1)=true:=decide_eq_true c5;clear c5;by_cases c6:x13_1<(l0.length:Int)
      ·rw [if_pos c6] at H;have c6b0:decide (x13_1<(l0.length:Int))=true:=decide_eq_true c6;clear c6;by_cases c7:x13_1<(l1.length:Int)
       ·rw [if_pos c7] at H;have c7b0:decide (x13_1<(l1.length:Int))=true:=decide_eq_true c7;clear c7;by_cases c8:(!(((Xb l0 x13_1).f0) == ((Xb l1 x13_1).f0))||(!(((Xb l0 x13_1).f1) == ((Xb l1 x13_1).f1))||(!(((Xb l0 x13_1).f2) == ((Xb l1 x13_1).f2))||(!(((Xb l0 x13_1).f3) == ((Xb l1 x13_1).f3))))))=true
        ·rw [if_pos c8] at H;have c8b0:(!(((Xb l0 x13_1).f0) == ((Xb l1 x13_1).f0))||(!(((Xb l0 x13_1).f1) == ((Xb l1 x13_1).f1))||(!(((Xb l0 x13_1).f2) == ((Xb l1 x13_1).f2))||(!(((Xb l0 x13_1).f3) == ((Xb l1 x13_1).f3))))))=true:=c8;clear c8;obtain rfl:=Option.some.inj H;have p496:0≤(x13_1:Int):=of_decide_eq_true (by first|(with_reducible assumption)|assumption);have q496:x13_1<(l0.length:Int):=of_decide_eq_true (by first|(with_reducible assumption)|assumption);obtain ⟨ad496,e496,hx496_0,hx496_1,hx496_2,hx496_3⟩:=Zt HR0.out x13_1 p496 q496;cases e496
         replace p496:=eq_true p496;replace q496:=eq_true q496;have p497:0≤(x13_1:Int):=of_decide_eq_true (by first|(with_reducible assumption)|assumption);have q497:x13_1<(l1.length:Int):=of_decide_eq_true (by first|(with_reducible assumption)|assumption);obtain ⟨ad497,e497,hx497_0,hx497_1,hx497_2,hx497_3⟩:=Zt HR1.out x13_1 p497 q497;cases e497
         replace p497:=eq_true p497;replace q497:=eq_true q497;go_wp2
         repeat (go_quiet (fail);try go_wp2)
         go_ret
         exact ⟨by first|rfl|(simp;done)|(simp [*];done),by repeat (first|exact Yn.refl _|apply Yn.step)⟩
        ·rw [if_neg c8] at H
         have c8b0:(!(((Xb l0 x13_1).f0) == ((Xb l1 x13_1).f0))||(!(((Xb l0 x13_1).f1) == ((Xb l1 x13_1).f1))||(!(((Xb l0 x13_1).f2) == ((Xb l1 x13_1).f2))||(!(((Xb l0 x13_1).f3) == ((Xb l1 x13_1).f3))))))=false:=by simpa using c8
         clear c8;have H':=Xa.mk H;clear H;have p496:0≤(x13_1:Int):=of_decide_eq_true (by first|(with_reducible assumption)|assumption);have q496:x13_1<(l0.length:Int):=of_decide_eq_true (by first|(with_reducible assumption)|assumption);obtain ⟨ad496,e496,hx496_0,hx496_1,hx496_2,hx496_3⟩:=Zt HR0.out x13_1 p496 q496;cases e496
         replace p496:=eq_true p496;replace q496:=eq_true q496;have p497:0≤(x13_1:Int):=of_decide_eq_true (by first|(with_reducible assumption)|assumption);have q497:x13_1<(l1.length:Int):=of_decide_eq_true (by first|(with_reducible assumption)|assumption);obtain ⟨ad497,e497,hx497_0,hx497_1,hx497_2,hx497_3⟩:=Zt HR1.out x13_1 p497 q497;cases e497
         replace p497:=eq_true p497;replace q497:=eq_true q497;go_wp2
         repeat (go_quiet (fail);try go_wp2)
         go_roundg k1
         case measure=>have:=HK1.out;omega
         case rel=>exact ⟨(wrap64 (x13_1+1)),(by first|rfl|(simp;done)|(simp [*];done)),H',⟨by have:=HK1.out;omega⟩,by repeat (first|exact Yn.refl _|apply Yn.step)⟩
       ·rw [if_neg c7] at H;exact absurd H (by simp)
      ·rw [if_neg c6] at H;exact absurd H (by simp)
     ·rw [if_neg c5] at H;exact absurd H (by simp)
    ·rw [if_neg c4] at H;have c4b0:decide (x13_1<(l0.length:Int))=false:=decide_eq_false c4;clear c4;obtain rfl:=Option.some.inj H;go_wp2
     repeat (go_quiet (fail);try go_wp2)
     go_ret
     exact ⟨by first|rfl|(simp;done)|(simp [*];done),by repeat (first|exact Yn.refl _|apply Yn.step)⟩
 ·rw [if_neg c3] at H;have c3b0:((l0.length:Int) == (l1.length:Int))=false:=beq_eq_false_iff_ne.mpr c3;have c3b1:((l0.length:Int) != (l1.length:Int))=true:=bne_iff_ne.mpr c3
  have c3b2:(l0.length == l1.length)=false:=by first|simpa using c3|(simp at c3 ⊢;omega)
  obtain rfl:=Option.some.inj H
  go_enter Try.func20,Try.ntmps20
  go_wp2
  repeat (go_quiet (fail);try go_wp2)
  go_ret
  exact ⟨by first|rfl|(simp;done)|(simp [*];done),by repeat (first|exact Yn.refl _|apply Yn.step)⟩
def Uc.f (k:Nat) (l0:List (S31)) (l1:List (S31)):Option (Bool):=(Zr.f k l0 l1).bind fun t498=>(some t498)
set_option maxHeartbeats 8000000 in
set_option maxRecDepth 100000 in
theorem Uc.calls (k:Nat) (A0:Option Addr) (c0:Nat) (l0:List (S31)) (A1:Option Addr) (c1:Nat) (l1:List (S31)) (r:Bool) (w:World) (hr0:Kd.C k31 w A0 l0.length l0) (hc0:l0.length≤c0) (hr1:Kd.C k31 w A1 l1.length l1) (hc1:l1.length≤c1) (h:Uc.f k l0 l1=some r) :
  Calls Try.prog 8 #[.slice A0 l0.length c0,.slice A1 l1.length c1] w fun e w'=>e=.returned (.bool r)∧Yn w w':=by
 have HR0:=Xa.mk hr0;have HC0:=Xa.mk hc0;clear hr0 hc0;have HR1:=Xa.mk hr1;have HC1:=Xa.mk hc1;clear hr1 hc1;have H:((Zr.f k l0 l1).bind fun t498=>(some t498))=some r:=h;clear h;replace H:=Option.bind_eq_some_iff.mp H;obtain ⟨t498,A30,H⟩:=H;replace H:(some t498)=some r:=H;have A3:=Xa.mk A30;clear A30;obtain rfl:=Option.some.inj H
 go_enter Try.func8,Try.ntmps8
 go_wp2_with (first|((with_reducible refine Xf (f:=20) rfl ?_);refine Yf (some 7) rfl rfl Try.func20 (by kernel_rfl) rfl #[.slice A0 l0.length c0,.slice A1 l1.length c1] rfl ga_ ?_;(with_reducible refine (Zr.calls k _ _ l0 _ _ l1 t498 _ ?side1 ?side2 ?side3 ?side4 A3.out).mono ?_);(case side1=>repeat (first|exact HR0.out|(with_reducible refine Kd.Xq ?_ _)|(with_reducible refine Kd.Xr ?_ _)|(with_reducible refine Kd.Yc ?_)));(case side2=>exact HC0.out);(case side3=>repeat (first|exact HR1.out|(with_reducible refine Kd.Xq ?_ _)|(with_reducible refine Kd.Xr ?_ _)|(with_reducible refine Kd.Yc ?_)));(case side4=>exact HC1.out);rintro e w' ⟨rfl,⟨nd,rfl⟩⟩;refine ⟨_,rfl,?_⟩))
 go_ret
 exact ⟨by first|rfl|(simp;done)|(simp [*];done),by repeat (first|exact Yn.refl _|apply Yn.step)⟩
end Go.Proofs.Ytdkcjecllbdljaa.GSlim
