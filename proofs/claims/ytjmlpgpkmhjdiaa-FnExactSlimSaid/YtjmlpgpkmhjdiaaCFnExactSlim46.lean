import Derived.Test.YtjmlpgpkmhjdiaaCFnExactSlim21
namespace Go.Proofs.Ytjmlpgpkmhjdiaa.GSlim
open Go.RowKit Go.Proofs.YtjmlpgpkmhjdiaaW.PrintWords Go.Proofs.YtjmlpgpkmhjdiaaW.PrintLast Go.Proofs.YtjmlpgpkmhjdiaaW.PrintMore
attribute [local go_sem] Zj Zl Zy Zz Yu Yv Zk Zm
set_option linter.unusedVariables false
set_option linter.unusedSimpArgs false
def Zg.l0:Nat→List (S47)→List Bool→Int→Int→Option (Bool)
 |0,_,_,_,_=>none
 |k+1,x0,x1,x2,x7=>if x7<(wrap64 ((x0.length:Int) - 1)) then (if 0≤x7 then (if x7<(x1.length:Int) then (if rdOf false x1 x7=true then (if 0≤x2 then (if x2<(x0.length:Int) then (some (((Xb x0 x2).f3) == x7)) else (none)) else (none)) else (Zg.l0 k x0 x1 x2 (wrap64 (x7+1)))) else (none)) else (none)) else (if 0≤x2 then (if x2<(x0.length:Int) then (some (((Xb x0 x2).f3) == x7)) else (none)) else (none))
def Zg.f (k:Nat) (l0:List (S47)) (l1:List Bool) (a2:Int):Option (Bool):=Zg.l0 k l0 l1 a2 (wrap64 (a2+1))
set_option maxHeartbeats 8000000 in
set_option maxRecDepth 100000 in
theorem Zg.calls (k:Nat) (A0:Option Addr) (c0:Nat) (l0:List (S47)) (A1:Option Addr) (c1:Nat) (l1:List Bool) (a2:Int) (r:Bool) (w:World) (hr0:Kd.C k47 w A0 l0.length l0) (hc0:l0.length≤c0) (hr1:Kd.C Kd.bool w A1 l1.length l1) (hc1:l1.length≤c1) (h:Zg.f k l0 l1 a2=some r) :
  Calls Try.prog 77 #[.slice A0 l0.length c0,.slice A1 l1.length c1,.int .i64 a2] w fun e w'=>e=.returned (.bool r)∧Xm w w':=by
 have HR0:=Xa.mk hr0;have HC0:=Xa.mk hc0;clear hr0 hc0;have HR1:=Xa.mk hr1;have HC1:=Xa.mk hc1;clear hr1 hc1;have H:(Zg.l0 k l0 l1 a2 (wrap64 (a2+1)))=some r:=h;clear h;have H':=Xa.mk H;clear H
 go_enter Try.func77,Try.ntmps77
 go_wp2
 go_loopg [7] k (fun kq v7 w'=>∃ (x7_1:Int),v7=.int .i64 x7_1∧Xa (Zg.l0 kq l0 l1 a2 x7_1=some r)∧Xa (kq≤k)∧Xm w w')
 case atStart=>exact ⟨(wrap64 (a2+1)),(by first|rfl|(simp;done)|(simp [*];done)),H',⟨Nat.le_refl _⟩,by repeat (first|exact Xm.refl _|apply Xm.step)⟩
 case round=>
  clear H'
  try clear c1
  try clear p2
  obtain ⟨x7_1,rfl,HA,HK1,⟨m1,rfl⟩⟩:=hrel
  cases gk with
  |zero=>exact absurd HA.out (by simp [Zg.l0])
  |succ k1=>
   have H:=HA.out;clear HA;simp only [Zg.l0] at H;by_cases c4:x7_1<(wrap64 ((l0.length:Int) - 1))
   ·rw [if_pos c4] at H;have c4b0:decide (x7_1<(wrap64 ((l0.length:Int) - 1)))=true:=decide_eq_true c4;clear c4;by_cases c5:0≤x7_1
    ·rw [if_pos c5] at H;have c5b0:decide (0≤x7_1)=true:=decide_eq_true c5;clear c5;by_cases c6:x7_1<(l1.length:Int)
     ·rw [if_pos c6] at H;have c6b0:decide (x7_1<(l1.length:Int))=true:=decide_eq_true c6;clear c6;obtain ⟨bq7,hbq7⟩:∃ b_:Bool,b_=(rdOf false l1 x7_1):=⟨_,rfl⟩
      replace H:(if bq7=true then (if 0≤a2 then (if a2<(l0.length:Int) then (some (((Xb l0 a2).f3) == x7_1)) else (none)) else (none)) else (Zg.l0 k1 l0 l1 a2 (wrap64 (x7_1+1))))=some r:=by rw [← hbq7] at H;exact H
      have Nbq7:=Xa.mk hbq7;clear hbq7;by_cases c8:bq7=true
      ·subst c8
       have H1:(if 0≤a2 then (if a2<(l0.length:Int) then (some (((Xb l0 a2).f3) == x7_1)) else (none)) else (none))=some r:=by rw [if_pos rfl] at H;exact H
       clear H;have H:=H1;clear H1;by_cases c9:0≤a2
       ·rw [if_pos c9] at H;have c9b0:decide (0≤a2)=true:=decide_eq_true c9;clear c9;by_cases c10:a2<(l0.length:Int)
        ·rw [if_pos c10] at H;have c10b0:decide (a2<(l0.length:Int))=true:=decide_eq_true c10;clear c10;obtain rfl:=Option.some.inj H;have p353:0≤(x7_1:Int):=of_decide_eq_true (by first|(with_reducible assumption)|assumption);have q353:x7_1<(l1.length:Int):=of_decide_eq_true (by first|(with_reducible assumption)|assumption);obtain ⟨ad353,e353,hx353_0⟩:=Kd.at_bool HR1.out x7_1 p353 q353
         (try rw [← Nbq7.out] at hx353_0)
         cases e353
         replace p353:=eq_true p353;replace q353:=eq_true q353;have p354:0≤(a2:Int):=of_decide_eq_true (by first|(with_reducible assumption)|assumption);have q354:a2<(l0.length:Int):=of_decide_eq_true (by first|(with_reducible assumption)|assumption);obtain ⟨ad354,e354,hx354_0,hx354_1,hx354_2,hx354_3⟩:=Yk HR0.out a2 p354 q354;cases e354
         replace p354:=eq_true p354;replace q354:=eq_true q354;go_wp2
         go_ret
         exact ⟨by first|rfl|(simp;done)|(simp [*];done),by repeat (first|exact Xm.refl _|apply Xm.step)⟩
        ·rw [if_neg c10] at H;exact absurd H (by simp)
       ·rw [if_neg c9] at H;exact absurd H (by simp)
      ·replace c8:=Bool.eq_false_iff.mpr c8;subst c8
       have H1:(Zg.l0 k1 l0 l1 a2 (wrap64 (x7_1+1)))=some r:=by rw [if_neg (show ¬ (false=true) by decide)] at H;exact H
       clear H;have H:=H1;clear H1;have H':=Xa.mk H;clear H;have p353:0≤(x7_1:Int):=of_decide_eq_true (by first|(with_reducible assumption)|assumption);have q353:x7_1<(l1.length:Int):=of_decide_eq_true (by first|(with_reducible assumption)|assumption);obtain ⟨ad353,e353,hx353_0⟩:=Kd.at_bool HR1.out x7_1 p353 q353
       (try rw [← Nbq7.out] at hx353_0)
       cases e353
       replace p353:=eq_true p353;replace q353:=eq_true q353;go_wp2
       go_roundg k1
       case measure=>have:=HK1.out;omega
       case rel=>exact ⟨(wrap64 (x7_1+1)),(by first|rfl|(simp;done)|(simp [*];done)),H',⟨by have:=HK1.out;omega⟩,by repeat (first|exact Xm.refl _|apply Xm.step)⟩
     ·rw [if_neg c6] at H;exact absurd H (by simp)
    ·rw [if_neg c5] at H;exact absurd H (by simp)
   ·rw [if_neg c4] at H;have c4b0:decide (x7_1<(wrap64 ((l0.length:Int) - 1)))=false:=decide_eq_false c4;clear c4;by_cases c11:0≤a2
    ·rw [if_pos c11] at H;have c11b0:decide (0≤a2)=true:=decide_eq_true c11;clear c11;by_cases c12:a2<(l0.length:Int)
     ·rw [if_pos c12] at H;have c12b0:decide (a2<(l0.length:Int))=true:=decide_eq_true c12;clear c12;obtain rfl:=Option.some.inj H;have p355:0≤(a2:Int):=of_decide_eq_true (by first|(with_reducible assumption)|assumption);have q355:a2<(l0.length:Int):=of_decide_eq_true (by first|(with_reducible assumption)|assumption);obtain ⟨ad355,e355,hx355_0,hx355_1,hx355_2,hx355_3⟩:=Yk HR0.out a2 p355 q355;cases e355
      replace p355:=eq_true p355;replace q355:=eq_true q355;go_wp2
      go_ret
      exact ⟨by first|rfl|(simp;done)|(simp [*];done),by repeat (first|exact Xm.refl _|apply Xm.step)⟩
     ·rw [if_neg c12] at H;exact absurd H (by simp)
    ·rw [if_neg c11] at H;exact absurd H (by simp)
def spec_l9Keeps.f (k:Nat) (l0:List (S47)) (l1:List Bool) (a2:Int):Option (Bool):=if a2=(wrap64 ((l0.length:Int) - 1)) then (some true) else (if 0≤a2 then (if a2<(l1.length:Int) then (if rdOf false l1 a2=true then (if a2<(l0.length:Int) then (if ((Xb l0 a2).f0)=7 then ((Zg.f k l0 l1 a2).bind fun t358=>(some (!t358))) else (some true)) else (none)) else (some false)) else (none)) else (none))
set_option maxHeartbeats 8000000 in
set_option maxRecDepth 100000 in
theorem spec_l9Keeps.calls (k:Nat) (A0:Option Addr) (c0:Nat) (l0:List (S47)) (A1:Option Addr) (c1:Nat) (l1:List Bool) (a2:Int) (r:Bool) (w:World) (hr0:Kd.C k47 w A0 l0.length l0) (hc0:l0.length≤c0) (hr1:Kd.C Kd.bool w A1 l1.length l1) (hc1:l1.length≤c1) (h:spec_l9Keeps.f k l0 l1 a2=some r) :
  Calls Try.prog 60 #[.slice A0 l0.length c0,.slice A1 l1.length c1,.int .i64 a2] w fun e w'=>e=.returned (.bool r)∧Xm w w':=by
 have HR0:=Xa.mk hr0;have HC0:=Xa.mk hc0;clear hr0 hc0;have HR1:=Xa.mk hr1;have HC1:=Xa.mk hc1;clear hr1 hc1;have H:(if a2=(wrap64 ((l0.length:Int) - 1)) then (some true) else (if 0≤a2 then (if a2<(l1.length:Int) then (if rdOf false l1 a2=true then (if a2<(l0.length:Int) then (if ((Xb l0 a2).f0)=7 then ((Zg.f k l0 l1 a2).bind fun t358=>(some (!t358))) else (some true)) else (none)) else (some false)) else (none)) else (none)))=some r:=h;clear h;by_cases c4:a2=(wrap64 ((l0.length:Int) - 1))
 ·rw [if_pos c4] at H;have c4b0:(a2 == (wrap64 ((l0.length:Int) - 1)))=true:=beq_iff_eq.mpr c4;have c4b1:(a2 != (wrap64 ((l0.length:Int) - 1)))=false:=bne_eq_false_iff_eq.mpr c4;clear c4;obtain rfl:=Option.some.inj H
  go_enter Try.func60,Try.ntmps60
  go_wp2
  go_ret
  exact ⟨by first|rfl|(simp;done)|(simp [*];done),by repeat (first|exact Xm.refl _|apply Xm.step)⟩
 ·rw [if_neg c4] at H;have c4b0:(a2 == (wrap64 ((l0.length:Int) - 1)))=false:=beq_eq_false_iff_ne.mpr c4;have c4b1:(a2 != (wrap64 ((l0.length:Int) - 1)))=true:=bne_iff_ne.mpr c4;by_cases c5:0≤a2
  ·rw [if_pos c5] at H;have c5b0:decide (0≤a2)=true:=decide_eq_true c5;clear c5;by_cases c6:a2<(l1.length:Int)
   ·rw [if_pos c6] at H;have c6b0:decide (a2<(l1.length:Int))=true:=decide_eq_true c6;clear c6;obtain ⟨bq7,hbq7⟩:∃ b_:Bool,b_=(rdOf false l1 a2):=⟨_,rfl⟩
    replace H:(if bq7=true then (if a2<(l0.length:Int) then (if ((Xb l0 a2).f0)=7 then ((Zg.f k l0 l1 a2).bind fun t358=>(some (!t358))) else (some true)) else (none)) else (some false))=some r:=by rw [← hbq7] at H;exact H
    have Nbq7:=Xa.mk hbq7;clear hbq7;by_cases c8:bq7=true
    ·subst c8
     have H1:(if a2<(l0.length:Int) then (if ((Xb l0 a2).f0)=7 then ((Zg.f k l0 l1 a2).bind fun t358=>(some (!t358))) else (some true)) else (none))=some r:=by rw [if_pos rfl] at H;exact H
     clear H;have H:=H1;clear H1;by_cases c9:a2<(l0.length:Int)
     ·rw [if_pos c9] at H;have c9b0:decide (a2<(l0.length:Int))=true:=decide_eq_true c9;clear c9;by_cases c10:((Xb l0 a2).f0)=7
      ·rw [if_pos c10] at H;have c10b0:(((Xb l0 a2).f0) == 7)=true:=beq_iff_eq.mpr c10;have c10b1:(((Xb l0 a2).f0) != 7)=false:=bne_eq_false_iff_eq.mpr c10;clear c10;replace H:=Option.bind_eq_some_iff.mp H;obtain ⟨t358,A110,H⟩:=H;replace H:(some (!t358))=some r:=H;have A11:=Xa.mk A110;clear A110;obtain rfl:=Option.some.inj H;have p356:0≤(a2:Int):=of_decide_eq_true (by first|(with_reducible assumption)|assumption);have q356:a2<(l1.length:Int):=of_decide_eq_true (by first|(with_reducible assumption)|assumption);obtain ⟨ad356,e356,hx356_0⟩:=Kd.at_bool HR1.out a2 p356 q356
       (try rw [← Nbq7.out] at hx356_0)
       cases e356
       replace p356:=eq_true p356;replace q356:=eq_true q356;have p357:0≤(a2:Int):=of_decide_eq_true (by first|(with_reducible assumption)|assumption);have q357:a2<(l0.length:Int):=of_decide_eq_true (by first|(with_reducible assumption)|assumption);obtain ⟨ad357,e357,hx357_0,hx357_1,hx357_2,hx357_3⟩:=Yk HR0.out a2 p357 q357;cases e357
       replace p357:=eq_true p357;replace q357:=eq_true q357
       go_enter Try.func60,Try.ntmps60
       go_wp2_with (first|(go_at_call 77;(with_reducible refine (Zg.calls k _ _ l0 _ _ l1 a2 t358 _ ?side1 ?side2 ?side3 ?side4 A11.out).mono ?_);(case side1=>repeat (first|exact HR0.out|(with_reducible refine Kd.Xr ?_ _)|(with_reducible refine Kd.Xt ?_ _)|(with_reducible refine Kd.Yc ?_)));(case side2=>exact HC0.out);(case side3=>repeat (first|exact HR1.out|(with_reducible refine Kd.Xr ?_ _)|(with_reducible refine Kd.Xt ?_ _)|(with_reducible refine Kd.Yc ?_)));(case side4=>exact HC1.out);rintro e w' ⟨rfl,⟨nd,rfl⟩⟩))
       go_ret
       exact ⟨by first|rfl|(simp;done)|(simp [*];done),by repeat (first|exact Xm.refl _|apply Xm.step)⟩
      ·rw [if_neg c10] at H;have c10b0:(((Xb l0 a2).f0) == 7)=false:=beq_eq_false_iff_ne.mpr c10;have c10b1:(((Xb l0 a2).f0) != 7)=true:=bne_iff_ne.mpr c10;obtain rfl:=Option.some.inj H;have p356:0≤(a2:Int):=of_decide_eq_true (by first|(with_reducible assumption)|assumption);have q356:a2<(l1.length:Int):=of_decide_eq_true (by first|(with_reducible assumption)|assumption);obtain ⟨ad356,e356,hx356_0⟩:=Kd.at_bool HR1.out a2 p356 q356
       (try rw [← Nbq7.out] at hx356_0)
       cases e356
       replace p356:=eq_true p356;replace q356:=eq_true q356;have p357:0≤(a2:Int):=of_decide_eq_true (by first|(with_reducible assumption)|assumption);have q357:a2<(l0.length:Int):=of_decide_eq_true (by first|(with_reducible assumption)|assumption);obtain ⟨ad357,e357,hx357_0,hx357_1,hx357_2,hx357_3⟩:=Yk HR0.out a2 p357 q357;cases e357
       replace p357:=eq_true p357;replace q357:=eq_true q357
       go_enter Try.func60,Try.ntmps60
       go_wp2
       go_ret
       exact ⟨by first|rfl|(simp;done)|(simp [*];done),by repeat (first|exact Xm.refl _|apply Xm.step)⟩
     ·rw [if_neg c9] at H;exact absurd H (by simp)
    ·replace c8:=Bool.eq_false_iff.mpr c8;subst c8
     have H1:(some false)=some r:=by rw [if_neg (show ¬ (false=true) by decide)] at H;exact H
     clear H;have H:=H1;clear H1;obtain rfl:=Option.some.inj H;have p356:0≤(a2:Int):=of_decide_eq_true (by first|(with_reducible assumption)|assumption);have q356:a2<(l1.length:Int):=of_decide_eq_true (by first|(with_reducible assumption)|assumption);obtain ⟨ad356,e356,hx356_0⟩:=Kd.at_bool HR1.out a2 p356 q356
     (try rw [← Nbq7.out] at hx356_0)
     cases e356
     replace p356:=eq_true p356;replace q356:=eq_true q356
     go_enter Try.func60,Try.ntmps60
     go_wp2
     go_ret
     exact ⟨by first|rfl|(simp;done)|(simp [*];done),by repeat (first|exact Xm.refl _|apply Xm.step)⟩
   ·rw [if_neg c6] at H;exact absurd H (by simp)
  ·rw [if_neg c5] at H;exact absurd H (by simp)
end Go.Proofs.Ytjmlpgpkmhjdiaa.GSlim
