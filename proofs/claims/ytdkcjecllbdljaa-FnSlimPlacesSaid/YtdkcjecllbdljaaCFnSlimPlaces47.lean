import Derived.Test.YtdkcjecllbdljaaCFnSlimPlaces21
import Derived.Test.YtdkcjecllbdljaaCFnSlimPlaces33
import Derived.Test.YtdkcjecllbdljaaCFnSlimPlaces40
import Derived.Test.YtdkcjecllbdljaaCFnSlimPlaces46
namespace Go.Proofs.Ytdkcjecllbdljaa.GSlim
open Go.RowKit Go.Proofs.YtdkcjecllbdljaaW.PrintWords Go.Proofs.YtdkcjecllbdljaaW.PrintLast Go.Proofs.YtdkcjecllbdljaaW.PrintMore
attribute [local go_sem] Zq Zt Uh Ui Zi Zj Zr Zu
set_option linter.unusedVariables false
set_option linter.unusedSimpArgs false
attribute [local go_sem high] eqA31
def Vw.f (k:Nat) (l0:List (S31)):Option ((List (S31))):=(Yp.f k l0).bind fun t492=>(if t492=true then ((Vn.f k l0).bind fun t493=>(some t493)) else (some ([]:List (S31))))
set_option maxHeartbeats 8000000 in
set_option maxRecDepth 100000 in
theorem Vw.calls (k:Nat) (A0:Option Addr) (c0:Nat) (l0:List (S31)) (r:List (S31)) (w:World) (hr0:Kd.C k31 w A0 l0.length l0) (hc0:l0.length≤c0) (h:Vw.f k l0=some r) :
  Calls Try.prog 7 #[.slice A0 l0.length c0] w fun e w'=>∃ v0_:Value,e=.returned (v0_)∧Kd.R k31 31 w' w.heap.size (fun _=>True) v0_ r∧Below w.heap.size w w':=by
 have HR0:=Xa.mk hr0;have HC0:=Xa.mk hc0;clear hr0 hc0;have HB:=Xa.mk (Below.refl w.heap.size w);have H:((Yp.f k l0).bind fun t492=>(if t492=true then ((Vn.f k l0).bind fun t493=>(some t493)) else (some ([]:List (S31)))))=some r:=h;clear h;replace H:=Option.bind_eq_some_iff.mp H;obtain ⟨t492,A20,H⟩:=H;replace H:(if t492=true then ((Vn.f k l0).bind fun t493=>(some t493)) else (some ([]:List (S31))))=some r:=H;have A2:=Xa.mk A20;clear A20;by_cases c3:t492=true
 ·subst c3
  have H1:((Vn.f k l0).bind fun t493=>(some t493))=some r:=by rw [if_pos rfl] at H;exact H
  clear H;have H:=H1;clear H1;replace H:=Option.bind_eq_some_iff.mp H;obtain ⟨t493,A40,H⟩:=H;replace H:(some t493)=some r:=H;have A4:=Xa.mk A40;clear A40;obtain rfl:=Option.some.inj H
  go_enter Try.func7,Try.ntmps7
  go_wp2_with (first|((with_reducible refine Xi (f:=12) rfl ?_);refine Yl (some 4) rfl rfl Try.func12 (by kernel_rfl) rfl #[.slice A0 l0.length c0] rfl ga_ ?_;(with_reducible refine (Yp.calls k _ _ l0 true _ ?side1 ?side2 A2.out).mono ?_);(case side1=>repeat (first|exact HR0.out|(with_reducible refine Kd.Xx ?_ _)|(with_reducible refine Kd.Xy ?_ _)|(with_reducible refine Kd.Yf ?_)));(case side2=>exact HC0.out);rintro e w5 ⟨rfl,hb⟩;refine ⟨_,rfl,?_⟩;have n0_:=Xa.mk (Xd (bl_ HB) hb);clear HB;have HB:=n0_;clear n0_;(try clear hb);(try clear hb2);(try clear hk);(try clear hi))|((with_reducible refine Xi (f:=19) rfl ?_);refine Yl (some 7) rfl rfl Try.func19 (by kernel_rfl) rfl #[.slice A0 l0.length c0] rfl ga_ ?_;(with_reducible refine (Vn.calls k _ _ l0 t493 _ ?side1 ?side2 A4.out).mono ?_);(case side1=>repeat (first|exact (Kd.Zh HR0.out HB.out)|(with_reducible refine Kd.Xx ?_ _)|(with_reducible refine Kd.Xy ?_ _)|(with_reducible refine Kd.Yf ?_)));(case side2=>exact HC0.out);rintro e w6 ⟨v494,rfl,ho0,hb⟩;refine ⟨_,rfl,?_⟩;have n0_:=Xa.mk (Kd.Yi ho0 (Xc (bl_ HB)));have n1_:=Xa.mk (Xd (bl_ HB) hb);clear HB;have HO495:=n0_;have HB:=n1_;clear n0_ n1_;(try clear hb);(try clear hb2);(try clear hk);(try clear hi);(try clear ho0)))
  go_ret
  exact ⟨_,rf_,Kd.ra_ (HO495.out),bl_ HB⟩
 ·replace c3:=Bool.eq_false_iff.mpr c3;subst c3
  have H1:(some ([]:List (S31)))=some r:=by rw [if_neg (show ¬ (false=true) by decide)] at H;exact H
  clear H;have H:=H1;clear H1;obtain rfl:=Option.some.inj H
  go_enter Try.func7,Try.ntmps7
  go_wp2_with (first|((with_reducible refine Xi (f:=12) rfl ?_);refine Yl (some 4) rfl rfl Try.func12 (by kernel_rfl) rfl #[.slice A0 l0.length c0] rfl ga_ ?_;(with_reducible refine (Yp.calls k _ _ l0 false _ ?side1 ?side2 A2.out).mono ?_);(case side1=>repeat (first|exact HR0.out|(with_reducible refine Kd.Xx ?_ _)|(with_reducible refine Kd.Xy ?_ _)|(with_reducible refine Kd.Yf ?_)));(case side2=>exact HC0.out);rintro e w7 ⟨rfl,hb⟩;refine ⟨_,rfl,?_⟩;have n0_:=Xa.mk (Xd (bl_ HB) hb);clear HB;have HB:=n0_;clear n0_;(try clear hb);(try clear hb2);(try clear hk);(try clear hi)))
  go_ret
  exact ⟨_,rf_,by first|exact Kd.R_nil _ _ _ _ _|exact Kd.N_nil _ _ _ _ _|exact Kd.V_nil _ _ _ _ _|exact Kd.Q_nil _ _ _ _ _|exact Kd.S_nil _ _ _ _ _,bl_ HB⟩
def Zw.l0:Nat→List (S31)→List (S31)→Int→Int→Option (Bool)
 |0,_,_,_,_=>none
 |k+1,x0,x1,x12,x13=>if x13<x12 then (if 0≤x13 then (if x13<(x0.length:Int) then (if x13<(x1.length:Int) then (if (!(((Xb x0 x13).f0) == ((Xb x1 x13).f0))||(!(((Xb x0 x13).f1) == ((Xb x1 x13).f1))||(!(((Xb x0 x13).f2) == ((Xb x1 x13).f2))||(!(((Xb x0 x13).f3) == ((Xb x1 x13).f3))))))=true then (some false) else (Zw.l0 k x0 x1 x12 (wrap64 (x13+1)))) else (none)) else (none)) else (none)) else (some true)
def Zw.f (k:Nat) (l0:List (S31)) (l1:List (S31)):Option (Bool):=if (l0.length:Int)=(l1.length:Int) then (Zw.l0 k l0 l1 (l0.length:Int) 0) else (some false)
set_option maxHeartbeats 8000000 in
set_option maxRecDepth 100000 in
theorem Zw.calls (k:Nat) (A0:Option Addr) (c0:Nat) (l0:List (S31)) (A1:Option Addr) (c1:Nat) (l1:List (S31)) (r:Bool) (w:World) (hr0:Kd.C k31 w A0 l0.length l0) (hc0:l0.length≤c0) (hr1:Kd.C k31 w A1 l1.length l1) (hc1:l1.length≤c1) (h:Zw.f k l0 l1=some r) :
  Calls Try.prog 20 #[.slice A0 l0.length c0,.slice A1 l1.length c1] w fun e w'=>e=.returned (.bool r)∧Za w w':=by
 have hu31:=Try.underlying31;have HR0:=Xa.mk hr0;have HC0:=Xa.mk hc0;clear hr0 hc0;have HR1:=Xa.mk hr1;have HC1:=Xa.mk hc1;clear hr1 hc1;have H:(if (l0.length:Int)=(l1.length:Int) then (Zw.l0 k l0 l1 (l0.length:Int) 0) else (some false))=some r:=h;clear h;by_cases c3:(l0.length:Int)=(l1.length:Int)
 ·rw [if_pos c3] at H;have c3b0:((l0.length:Int) == (l1.length:Int))=true:=beq_iff_eq.mpr c3;have c3b1:((l0.length:Int) != (l1.length:Int))=false:=bne_eq_false_iff_eq.mpr c3
  have c3b2:(l0.length == l1.length)=true:=by first|simpa using c3|(simp at c3 ⊢;omega)
  clear c3;have H':=Xa.mk H;clear H
  go_enter Try.func20,Try.ntmps20
  go_wp2
  repeat (go_quiet (fail);try go_wp2)
  go_loopg [13] k (fun kq v13 w'=>∃ (x13_1:Int),v13=.int .i64 x13_1∧Xa (Zw.l0 kq l0 l1 (l0.length:Int) x13_1=some r)∧Xa (kq≤k)∧Za w w')
  case atStart=>exact ⟨(0),(by first|rfl|(simp;done)|(simp [*];done)),H',⟨Nat.le_refl _⟩,by repeat (first|exact Za.refl _|apply Za.step)⟩
  case round=>
   clear H'
   try clear c1
   try clear c2
   try clear p2
   try clear c3
   try clear c3b0
   try clear c3b1
   try clear c3b2
   obtain ⟨x13_1,rfl,HA,HK1,⟨m1,rfl⟩⟩:=hrel
   cases gk with
   |zero=>exact absurd HA.out (by simp [Zw.l0])
   |succ k1=>
    have H:=HA.out;clear HA;simp only [Zw.l0] at H;by_cases c4:x13_1<(l0.length:Int)
    ·rw [if_pos c4] at H;have c4b0:decide (x13_1<(l0.length:Int))=true:=decide_eq_true c4;clear c4;by_cases c5:0≤x13_1
     ·rw [if_pos c5] at H;have c5b0:decide (0≤x13_1)=true:=decide_eq_true c5;clear c5;by_cases c6:x13_1<(l0.length:Int)
      ·rw [if_pos c6] at H;have c6b0:decide (x13_1<(l0.length:Int))=true:=decide_eq_true c6;clear c6;by_cases c7:x13_1<(l1.length:Int)
       ·rw [if_pos c7] at H;have c7b0:decide (x13_1<(l1.length:Int))=true:=decide_eq_true c7;clear c7;by_cases c8:(!(((Xb l0 x13_1).f0) == ((Xb l1 x13_1).f0))||(!(((Xb l0 x13_1).f1) == ((Xb l1 x13_1).f1))||(!(((Xb l0 x13_1).f2) == ((Xb l1 x13_1).f2))||(!(((Xb l0 x13_1).f3) == ((Xb l1 x13_1).f3))))))=true
        ·rw [if_pos c8] at H;have c8b0:(!(((Xb l0 x13_1).f0) == ((Xb l1 x13_1).f0))||(!(((Xb l0 x13_1).f1) == ((Xb l1 x13_1).f1))||(!(((Xb l0 x13_1).f2) == ((Xb l1 x13_1).f2))||(!(((Xb l0 x13_1).f3) == ((Xb l1 x13_1).f3))))))=true:=c8;clear c8;obtain rfl:=Option.some.inj H;have p496:0≤(x13_1:Int):=of_decide_eq_true (by first|(with_reducible assumption)|assumption);have q496:x13_1<(l0.length:Int):=of_decide_eq_true (by first|(with_reducible assumption)|assumption);obtain ⟨ad496,e496,hx496_0,hx496_1,hx496_2,hx496_3⟩:=Uj HR0.out x13_1 p496 q496;cases e496
         replace p496:=eq_true p496;replace q496:=eq_true q496;have p497:0≤(x13_1:Int):=of_decide_eq_true (by first|(with_reducible assumption)|assumption);have q497:x13_1<(l1.length:Int):=of_decide_eq_true (by first|(with_reducible assumption)|assumption);obtain ⟨ad497,e497,hx497_0,hx497_1,hx497_2,hx497_3⟩:=Uj HR1.out x13_1 p497 q497;cases e497
         replace p497:=eq_true p497;replace q497:=eq_true q497;go_wp2
         repeat (go_quiet (fail);try go_wp2)
         go_ret
         exact ⟨by first|rfl|(simp;done)|(simp [*];done),by repeat (first|exact Za.refl _|apply Za.step)⟩
        ·rw [if_neg c8] at H
         have c8b0:(!(((Xb l0 x13_1).f0) == ((Xb l1 x13_1).f0))||(!(((Xb l0 x13_1).f1) == ((Xb l1 x13_1).f1))||(!(((Xb l0 x13_1).f2) == ((Xb l1 x13_1).f2))||(!(((Xb l0 x13_1).f3) == ((Xb l1 x13_1).f3))))))=false:=by simpa using c8
         clear c8;have H':=Xa.mk H;clear H;have p496:0≤(x13_1:Int):=of_decide_eq_true (by first|(with_reducible assumption)|assumption);have q496:x13_1<(l0.length:Int):=of_decide_eq_true (by first|(with_reducible assumption)|assumption);obtain ⟨ad496,e496,hx496_0,hx496_1,hx496_2,hx496_3⟩:=Uj HR0.out x13_1 p496 q496;cases e496
         replace p496:=eq_true p496;replace q496:=eq_true q496;have p497:0≤(x13_1:Int):=of_decide_eq_true (by first|(with_reducible assumption)|assumption);have q497:x13_1<(l1.length:Int):=of_decide_eq_true (by first|(with_reducible assumption)|assumption);obtain ⟨ad497,e497,hx497_0,hx497_1,hx497_2,hx497_3⟩:=Uj HR1.out x13_1 p497 q497;cases e497
         replace p497:=eq_true p497;replace q497:=eq_true q497;go_wp2
         repeat (go_quiet (fail);try go_wp2)
         go_roundg k1
         case measure=>have:=HK1.out;omega
         case rel=>exact ⟨(wrap64 (x13_1+1)),(by first|rfl|(simp;done)|(simp [*];done)),H',⟨by have:=HK1.out;omega⟩,by repeat (first|exact Za.refl _|apply Za.step)⟩
       ·rw [if_neg c7] at H;exact absurd H (by simp)
      ·rw [if_neg c6] at H;exact absurd H (by simp)
     ·rw [if_neg c5] at H;exact absurd H (by simp)
    ·rw [if_neg c4] at H;have c4b0:decide (x13_1<(l0.length:Int))=false:=decide_eq_false c4;clear c4;obtain rfl:=Option.some.inj H;go_wp2
     repeat (go_quiet (fail);try go_wp2)
     go_ret
     exact ⟨by first|rfl|(simp;done)|(simp [*];done),by repeat (first|exact Za.refl _|apply Za.step)⟩
 ·rw [if_neg c3] at H;have c3b0:((l0.length:Int) == (l1.length:Int))=false:=beq_eq_false_iff_ne.mpr c3;have c3b1:((l0.length:Int) != (l1.length:Int))=true:=bne_iff_ne.mpr c3
  have c3b2:(l0.length == l1.length)=false:=by first|simpa using c3|(simp at c3 ⊢;omega)
  obtain rfl:=Option.some.inj H
  go_enter Try.func20,Try.ntmps20
  go_wp2
  repeat (go_quiet (fail);try go_wp2)
  go_ret
  exact ⟨by first|rfl|(simp;done)|(simp [*];done),by repeat (first|exact Za.refl _|apply Za.step)⟩
def Uz.f (k:Nat) (l0:List (S31)) (l1:List (S31)):Option (Bool):=(Zw.f k l0 l1).bind fun t498=>(some t498)
set_option maxHeartbeats 8000000 in
set_option maxRecDepth 100000 in
theorem Uz.calls (k:Nat) (A0:Option Addr) (c0:Nat) (l0:List (S31)) (A1:Option Addr) (c1:Nat) (l1:List (S31)) (r:Bool) (w:World) (hr0:Kd.C k31 w A0 l0.length l0) (hc0:l0.length≤c0) (hr1:Kd.C k31 w A1 l1.length l1) (hc1:l1.length≤c1) (h:Uz.f k l0 l1=some r) :
  Calls Try.prog 8 #[.slice A0 l0.length c0,.slice A1 l1.length c1] w fun e w'=>e=.returned (.bool r)∧Za w w':=by
 have HR0:=Xa.mk hr0;have HC0:=Xa.mk hc0;clear hr0 hc0;have HR1:=Xa.mk hr1;have HC1:=Xa.mk hc1;clear hr1 hc1;have H:((Zw.f k l0 l1).bind fun t498=>(some t498))=some r:=h;clear h;replace H:=Option.bind_eq_some_iff.mp H;obtain ⟨t498,A30,H⟩:=H;replace H:(some t498)=some r:=H;have A3:=Xa.mk A30;clear A30;obtain rfl:=Option.some.inj H
 go_enter Try.func8,Try.ntmps8
 go_wp2_with (first|((with_reducible refine Xi (f:=20) rfl ?_);refine Yl (some 7) rfl rfl Try.func20 (by kernel_rfl) rfl #[.slice A0 l0.length c0,.slice A1 l1.length c1] rfl ga_ ?_;(with_reducible refine (Zw.calls k _ _ l0 _ _ l1 t498 _ ?side1 ?side2 ?side3 ?side4 A3.out).mono ?_);(case side1=>repeat (first|exact HR0.out|(with_reducible refine Kd.Xx ?_ _)|(with_reducible refine Kd.Xy ?_ _)|(with_reducible refine Kd.Yf ?_)));(case side2=>exact HC0.out);(case side3=>repeat (first|exact HR1.out|(with_reducible refine Kd.Xx ?_ _)|(with_reducible refine Kd.Xy ?_ _)|(with_reducible refine Kd.Yf ?_)));(case side4=>exact HC1.out);rintro e w' ⟨rfl,⟨nd,rfl⟩⟩;refine ⟨_,rfl,?_⟩))
 go_ret
 exact ⟨by first|rfl|(simp;done)|(simp [*];done),by repeat (first|exact Za.refl _|apply Za.step)⟩
end Go.Proofs.Ytdkcjecllbdljaa.GSlim
