import Derived.Test.YtdkcjecllbdljaaCFnSlim21
import Derived.Test.YtdkcjecllbdljaaCFnSlim51
namespace Go.Proofs.Ytdkcjecllbdljaa.GSlim
open Go.RowKit Go.Proofs.YtdkcjecllbdljaaW.PrintWords Go.Proofs.YtdkcjecllbdljaaW.PrintLast Go.Proofs.YtdkcjecllbdljaaW.PrintMore
attribute [local go_sem] Zv Zx Un Uo Zm Zn Zw Zy
set_option linter.unusedVariables false
set_option linter.unusedSimpArgs false
def spec_l9Keeps.f (k:Nat) (l0:List (S31)) (l1:List Bool) (a2:Int):Option (Bool):=if a2=(wrap64 ((l0.length:Int) - 1)) then (some true) else (if 0≤a2 then (if a2<(l1.length:Int) then (if rdOf false l1 a2=true then (if a2<(l0.length:Int) then (if ((Xb l0 a2).f0)=7 then ((Ui.f k l0 l1 a2).bind fun t571=>(some (!t571))) else (some true)) else (none)) else (some false)) else (none)) else (none))
set_option maxHeartbeats 8000000 in
set_option maxRecDepth 100000 in
theorem spec_l9Keeps.calls (k:Nat) (A0:Option Addr) (c0:Nat) (l0:List (S31)) (A1:Option Addr) (c1:Nat) (l1:List Bool) (a2:Int) (r:Bool) (w:World) (hr0:Kd.C k31 w A0 l0.length l0) (hc0:l0.length≤c0) (hr1:Kd.C Kd.bool w A1 l1.length l1) (hc1:l1.length≤c1) (h:spec_l9Keeps.f k l0 l1 a2=some r) :
  Calls Try.prog 22 #[.slice A0 l0.length c0,.slice A1 l1.length c1,.int .i64 a2] w fun e w'=>e=.returned (.bool r)∧Yn w w':=by
 have HR0:=Xa.mk hr0;have HC0:=Xa.mk hc0;clear hr0 hc0;have HR1:=Xa.mk hr1;have HC1:=Xa.mk hc1;clear hr1 hc1;have H:(if a2=(wrap64 ((l0.length:Int) - 1)) then (some true) else (if 0≤a2 then (if a2<(l1.length:Int) then (if rdOf false l1 a2=true then (if a2<(l0.length:Int) then (if ((Xb l0 a2).f0)=7 then ((Ui.f k l0 l1 a2).bind fun t571=>(some (!t571))) else (some true)) else (none)) else (some false)) else (none)) else (none)))=some r:=h;clear h;by_cases c4:a2=(wrap64 ((l0.length:Int) - 1))
 ·rw [if_pos c4] at H;have c4b0:(a2 == (wrap64 ((l0.length:Int) - 1)))=true:=beq_iff_eq.mpr c4;have c4b1:(a2 != (wrap64 ((l0.length:Int) - 1)))=false:=bne_eq_false_iff_eq.mpr c4;clear c4;obtain rfl:=Option.some.inj H
  go_enter Try.func22,Try.ntmps22
  go_wp2
  go_ret
  exact ⟨by first|rfl|(simp;done)|(simp [*];done),by repeat (first|exact Yn.refl _|apply Yn.step)⟩
 ·rw [if_neg c4] at H;have c4b0:(a2 == (wrap64 ((l0.length:Int) - 1)))=false:=beq_eq_false_iff_ne.mpr c4;have c4b1:(a2 != (wrap64 ((l0.length:Int) - 1)))=true:=bne_iff_ne.mpr c4;by_cases c5:0≤a2
  ·rw [if_pos c5] at H;have c5b0:decide (0≤a2)=true:=decide_eq_true c5;clear c5;by_cases c6:a2<(l1.length:Int)
   ·rw [if_pos c6] at H;have c6b0:decide (a2<(l1.length:Int))=true:=decide_eq_true c6;clear c6;obtain ⟨bq7,hbq7⟩:∃ b_:Bool,b_=(rdOf false l1 a2):=⟨_,rfl⟩
    replace H:(if bq7=true then (if a2<(l0.length:Int) then (if ((Xb l0 a2).f0)=7 then ((Ui.f k l0 l1 a2).bind fun t571=>(some (!t571))) else (some true)) else (none)) else (some false))=some r:=by rw [← hbq7] at H;exact H
    have Nbq7:=Xa.mk hbq7;clear hbq7;by_cases c8:bq7=true
    ·subst c8
     have H1:(if a2<(l0.length:Int) then (if ((Xb l0 a2).f0)=7 then ((Ui.f k l0 l1 a2).bind fun t571=>(some (!t571))) else (some true)) else (none))=some r:=by rw [if_pos rfl] at H;exact H
     clear H;have H:=H1;clear H1;by_cases c9:a2<(l0.length:Int)
     ·rw [if_pos c9] at H;have c9b0:decide (a2<(l0.length:Int))=true:=decide_eq_true c9;clear c9;by_cases c10:((Xb l0 a2).f0)=7
      ·rw [if_pos c10] at H;have c10b0:(((Xb l0 a2).f0) == 7)=true:=beq_iff_eq.mpr c10;have c10b1:(((Xb l0 a2).f0) != 7)=false:=bne_eq_false_iff_eq.mpr c10;clear c10;replace H:=Option.bind_eq_some_iff.mp H;obtain ⟨t571,A110,H⟩:=H;replace H:(some (!t571))=some r:=H;have A11:=Xa.mk A110;clear A110;obtain rfl:=Option.some.inj H;have p569:0≤(a2:Int):=of_decide_eq_true (by first|(with_reducible assumption)|assumption);have q569:a2<(l1.length:Int):=of_decide_eq_true (by first|(with_reducible assumption)|assumption);obtain ⟨ad569,e569,hx569_0⟩:=Kd.at_bool HR1.out a2 p569 q569
       (try rw [← Nbq7.out] at hx569_0)
       cases e569
       replace p569:=eq_true p569;replace q569:=eq_true q569;have p570:0≤(a2:Int):=of_decide_eq_true (by first|(with_reducible assumption)|assumption);have q570:a2<(l0.length:Int):=of_decide_eq_true (by first|(with_reducible assumption)|assumption);obtain ⟨ad570,e570,hx570_0,hx570_1,hx570_2,hx570_3⟩:=Zt HR0.out a2 p570 q570;cases e570
       replace p570:=eq_true p570;replace q570:=eq_true q570
       go_enter Try.func22,Try.ntmps22
       go_wp2_with (first|(go_at_call 37;(with_reducible refine (Ui.calls k _ _ l0 _ _ l1 a2 t571 _ ?side1 ?side2 ?side3 ?side4 A11.out).mono ?_);(case side1=>repeat (first|exact HR0.out|(with_reducible refine Kd.Xq ?_ _)|(with_reducible refine Kd.Xr ?_ _)|(with_reducible refine Kd.Yc ?_)));(case side2=>exact HC0.out);(case side3=>repeat (first|exact HR1.out|(with_reducible refine Kd.Xq ?_ _)|(with_reducible refine Kd.Xr ?_ _)|(with_reducible refine Kd.Yc ?_)));(case side4=>exact HC1.out);rintro e w' ⟨rfl,⟨nd,rfl⟩⟩))
       go_ret
       exact ⟨by first|rfl|(simp;done)|(simp [*];done),by repeat (first|exact Yn.refl _|apply Yn.step)⟩
      ·rw [if_neg c10] at H;have c10b0:(((Xb l0 a2).f0) == 7)=false:=beq_eq_false_iff_ne.mpr c10;have c10b1:(((Xb l0 a2).f0) != 7)=true:=bne_iff_ne.mpr c10;obtain rfl:=Option.some.inj H;have p569:0≤(a2:Int):=of_decide_eq_true (by first|(with_reducible assumption)|assumption);have q569:a2<(l1.length:Int):=of_decide_eq_true (by first|(with_reducible assumption)|assumption);obtain ⟨ad569,e569,hx569_0⟩:=Kd.at_bool HR1.out a2 p569 q569
       (try rw [← Nbq7.out] at hx569_0)
       cases e569
       replace p569:=eq_true p569;replace q569:=eq_true q569;have p570:0≤(a2:Int):=of_decide_eq_true (by first|(with_reducible assumption)|assumption);have q570:a2<(l0.length:Int):=of_decide_eq_true (by first|(with_reducible assumption)|assumption);obtain ⟨ad570,e570,hx570_0,hx570_1,hx570_2,hx570_3⟩:=Zt HR0.out a2 p570 q570;cases e570
       replace p570:=eq_true p570;replace q570:=eq_true q570
       go_enter Try.func22,Try.ntmps22
       go_wp2
       go_ret
       exact ⟨by first|rfl|(simp;done)|(simp [*];done),by repeat (first|exact Yn.refl _|apply Yn.step)⟩
     ·rw [if_neg c9] at H;exact absurd H (by simp)
    ·replace c8:=Bool.eq_false_iff.mpr c8;subst c8
     have H1:(some false)=some r:=by rw [if_neg (show ¬ (false=true) by decide)] at H;exact H
     clear H;have H:=H1;clear H1;obtain rfl:=Option.some.inj H;have p569:0≤(a2:Int):=of_decide_eq_true (by first|(with_reducible assumption)|assumption);have q569:a2<(l1.length:Int):=of_decide_eq_true (by first|(with_reducible assumption)|assumption);obtain ⟨ad569,e569,hx569_0⟩:=Kd.at_bool HR1.out a2 p569 q569
     (try rw [← Nbq7.out] at hx569_0)
     cases e569
     replace p569:=eq_true p569;replace q569:=eq_true q569
     go_enter Try.func22,Try.ntmps22
     go_wp2
     go_ret
     exact ⟨by first|rfl|(simp;done)|(simp [*];done),by repeat (first|exact Yn.refl _|apply Yn.step)⟩
   ·rw [if_neg c6] at H;exact absurd H (by simp)
  ·rw [if_neg c5] at H;exact absurd H (by simp)
end Go.Proofs.Ytdkcjecllbdljaa.GSlim
