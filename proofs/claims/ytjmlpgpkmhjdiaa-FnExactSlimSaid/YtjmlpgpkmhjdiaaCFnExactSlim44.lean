import Derived.Test.YtjmlpgpkmhjdiaaCFnExactSlim21
import Derived.Test.YtjmlpgpkmhjdiaaCFnExactSlim22
import Derived.Test.YtjmlpgpkmhjdiaaCFnExactSlim27
import Derived.Test.YtjmlpgpkmhjdiaaCFnExactSlim39
import Derived.Test.YtjmlpgpkmhjdiaaCFnExactSlim40
import Derived.Test.YtjmlpgpkmhjdiaaCFnExactSlim41
import Derived.Test.YtjmlpgpkmhjdiaaCFnExactSlim43
namespace Go.Proofs.Ytjmlpgpkmhjdiaa.GSlim
open Go.RowKit Go.Proofs.YtjmlpgpkmhjdiaaW.PrintWords Go.Proofs.YtjmlpgpkmhjdiaaW.PrintLast Go.Proofs.YtjmlpgpkmhjdiaaW.PrintMore
attribute [local go_sem] Zj Zl Zy Zz Yu Yv Zk Zm
set_option linter.unusedVariables false
set_option linter.unusedSimpArgs false
def Xy.l0:Nat→List (S47)→Int→Int→Option (Int)
 |0,_,_,_=>none
 |k+1,x0,x1,x5=>if x5<(x0.length:Int) then (if 0≤x5 then (if ((Xb x0 x5).f0)=x1 then (if ((Xb x0 x5).f1)=(wrap64 (x1+1)) then (if ((Xb x0 x5).f2)=(wrap64 ((wrap64 (x1+1))+1)) then (if ((Xb x0 x5).f3)=(wrap64 ((wrap64 ((wrap64 (x1+1))+1))+1)) then (Xy.l0 k x0 (wrap64 ((wrap64 ((wrap64 ((wrap64 (x1+1))+1))+1))+1)) (wrap64 (x5+1))) else (some (-1))) else (some (-1))) else (some (-1))) else (some (-1))) else (none)) else (some x1)
def Xy.f (k:Nat) (l0:List (S47)) (a1:Int):Option (Int):=Xy.l0 k l0 a1 0
set_option maxHeartbeats 8000000 in
set_option maxRecDepth 100000 in
theorem Xy.calls (k:Nat) (A0:Option Addr) (c0:Nat) (l0:List (S47)) (a1:Int) (r:Int) (w:World) (hr0:Kd.C k47 w A0 l0.length l0) (hc0:l0.length≤c0) (h:Xy.f k l0 a1=some r) :
  Calls Try.prog 32 #[.slice A0 l0.length c0,.int .i64 a1] w fun e w'=>e=.returned (.int .i64 r)∧Xm w w':=by
 have HR0:=Xa.mk hr0;have HC0:=Xa.mk hc0;clear hr0 hc0;have H:(Xy.l0 k l0 a1 0)=some r:=h;clear h;have H':=Xa.mk H;clear H
 go_enter Try.func32,Try.ntmps32
 go_wp2
 go_loopg [1,5] k (fun kq v1 v5 w'=>∃ (x1_1:Int) (x5_1:Int),v1=.int .i64 x1_1∧v5=.int .i64 x5_1∧Xa (Xy.l0 kq l0 x1_1 x5_1=some r)∧Xa (kq≤k)∧Xm w w')
 case atStart=>exact ⟨(a1),(0),(by first|rfl|(simp;done)|(simp [*];done)),(by first|rfl|(simp;done)|(simp [*];done)),H',⟨Nat.le_refl _⟩,by repeat (first|exact Xm.refl _|apply Xm.step)⟩
 case round=>
  clear H'
  try clear p2
  obtain ⟨x1_1,x5_1,rfl,rfl,HA,HK1,⟨m1,rfl⟩⟩:=hrel
  cases gk with
  |zero=>exact absurd HA.out (by simp [Xy.l0])
  |succ k1=>
   have H:=HA.out;clear HA;simp only [Xy.l0] at H;by_cases c3:x5_1<(l0.length:Int)
   ·rw [if_pos c3] at H;have c3b0:decide (x5_1<(l0.length:Int))=true:=decide_eq_true c3;clear c3;by_cases c4:0≤x5_1
    ·rw [if_pos c4] at H;have c4b0:decide (0≤x5_1)=true:=decide_eq_true c4;clear c4;by_cases c5:((Xb l0 x5_1).f0)=x1_1
     ·rw [if_pos c5] at H;have c5b0:(((Xb l0 x5_1).f0) == x1_1)=true:=beq_iff_eq.mpr c5;have c5b1:(((Xb l0 x5_1).f0) != x1_1)=false:=bne_eq_false_iff_eq.mpr c5;clear c5;by_cases c6:((Xb l0 x5_1).f1)=(wrap64 (x1_1+1))
      ·rw [if_pos c6] at H;have c6b0:(((Xb l0 x5_1).f1) == (wrap64 (x1_1+1)))=true:=beq_iff_eq.mpr c6;have c6b1:(((Xb l0 x5_1).f1) != (wrap64 (x1_1+1)))=false:=bne_eq_false_iff_eq.mpr c6;clear c6;by_cases c7:((Xb l0 x5_1).f2)=(wrap64 ((wrap64 (x1_1+1))+1))
       ·rw [if_pos c7] at H;have c7b0:(((Xb l0 x5_1).f2) == (wrap64 ((wrap64 (x1_1+1))+1)))=true:=beq_iff_eq.mpr c7;have c7b1:(((Xb l0 x5_1).f2) != (wrap64 ((wrap64 (x1_1+1))+1)))=false:=bne_eq_false_iff_eq.mpr c7;clear c7;by_cases c8:((Xb l0 x5_1).f3)=(wrap64 ((wrap64 ((wrap64 (x1_1+1))+1))+1))
        ·rw [if_pos c8] at H;have c8b0:(((Xb l0 x5_1).f3) == (wrap64 ((wrap64 ((wrap64 (x1_1+1))+1))+1)))=true:=beq_iff_eq.mpr c8;have c8b1:(((Xb l0 x5_1).f3) != (wrap64 ((wrap64 ((wrap64 (x1_1+1))+1))+1)))=false:=bne_eq_false_iff_eq.mpr c8;clear c8;have H':=Xa.mk H;clear H;have p317:0≤(x5_1:Int):=of_decide_eq_true (by first|(with_reducible assumption)|assumption);have q317:x5_1<(l0.length:Int):=of_decide_eq_true (by first|(with_reducible assumption)|assumption);obtain ⟨ad317,e317,hx317_0,hx317_1,hx317_2,hx317_3⟩:=Yk HR0.out x5_1 p317 q317;cases e317
         replace p317:=eq_true p317;replace q317:=eq_true q317;have p318:0≤(x5_1:Int):=of_decide_eq_true (by first|(with_reducible assumption)|assumption);have q318:x5_1<(l0.length:Int):=of_decide_eq_true (by first|(with_reducible assumption)|assumption);obtain ⟨ad318,e318,hx318_0,hx318_1,hx318_2,hx318_3⟩:=Yk HR0.out x5_1 p318 q318;obtain rfl:ad317=ad318:=(by injection e318);replace p318:=eq_true p318;replace q318:=eq_true q318;have p319:0≤(x5_1:Int):=of_decide_eq_true (by first|(with_reducible assumption)|assumption);have q319:x5_1<(l0.length:Int):=of_decide_eq_true (by first|(with_reducible assumption)|assumption);obtain ⟨ad319,e319,hx319_0,hx319_1,hx319_2,hx319_3⟩:=Yk HR0.out x5_1 p319 q319;obtain rfl:ad317=ad319:=(by injection e319);replace p319:=eq_true p319;replace q319:=eq_true q319;have p320:0≤(x5_1:Int):=of_decide_eq_true (by first|(with_reducible assumption)|assumption);have q320:x5_1<(l0.length:Int):=of_decide_eq_true (by first|(with_reducible assumption)|assumption);obtain ⟨ad320,e320,hx320_0,hx320_1,hx320_2,hx320_3⟩:=Yk HR0.out x5_1 p320 q320;obtain rfl:ad317=ad320:=(by injection e320);replace p320:=eq_true p320;replace q320:=eq_true q320;go_wp2
         go_roundg k1
         case measure=>have:=HK1.out;omega
         case rel=>exact ⟨(wrap64 ((wrap64 ((wrap64 ((wrap64 (x1_1+1))+1))+1))+1)),(wrap64 (x5_1+1)),(by first|rfl|(simp;done)|(simp [*];done)),(by first|rfl|(simp;done)|(simp [*];done)),H',⟨by have:=HK1.out;omega⟩,by repeat (first|exact Xm.refl _|apply Xm.step)⟩
        ·rw [if_neg c8] at H;have c8b0:(((Xb l0 x5_1).f3) == (wrap64 ((wrap64 ((wrap64 (x1_1+1))+1))+1)))=false:=beq_eq_false_iff_ne.mpr c8;have c8b1:(((Xb l0 x5_1).f3) != (wrap64 ((wrap64 ((wrap64 (x1_1+1))+1))+1)))=true:=bne_iff_ne.mpr c8;obtain rfl:=Option.some.inj H;have p317:0≤(x5_1:Int):=of_decide_eq_true (by first|(with_reducible assumption)|assumption);have q317:x5_1<(l0.length:Int):=of_decide_eq_true (by first|(with_reducible assumption)|assumption);obtain ⟨ad317,e317,hx317_0,hx317_1,hx317_2,hx317_3⟩:=Yk HR0.out x5_1 p317 q317;cases e317
         replace p317:=eq_true p317;replace q317:=eq_true q317;have p318:0≤(x5_1:Int):=of_decide_eq_true (by first|(with_reducible assumption)|assumption);have q318:x5_1<(l0.length:Int):=of_decide_eq_true (by first|(with_reducible assumption)|assumption);obtain ⟨ad318,e318,hx318_0,hx318_1,hx318_2,hx318_3⟩:=Yk HR0.out x5_1 p318 q318;obtain rfl:ad317=ad318:=(by injection e318);replace p318:=eq_true p318;replace q318:=eq_true q318;have p319:0≤(x5_1:Int):=of_decide_eq_true (by first|(with_reducible assumption)|assumption);have q319:x5_1<(l0.length:Int):=of_decide_eq_true (by first|(with_reducible assumption)|assumption);obtain ⟨ad319,e319,hx319_0,hx319_1,hx319_2,hx319_3⟩:=Yk HR0.out x5_1 p319 q319;obtain rfl:ad317=ad319:=(by injection e319);replace p319:=eq_true p319;replace q319:=eq_true q319;have p320:0≤(x5_1:Int):=of_decide_eq_true (by first|(with_reducible assumption)|assumption);have q320:x5_1<(l0.length:Int):=of_decide_eq_true (by first|(with_reducible assumption)|assumption);obtain ⟨ad320,e320,hx320_0,hx320_1,hx320_2,hx320_3⟩:=Yk HR0.out x5_1 p320 q320;obtain rfl:ad317=ad320:=(by injection e320);replace p320:=eq_true p320;replace q320:=eq_true q320;go_wp2
         go_ret
         exact ⟨by first|rfl|(simp;done)|(simp [*];done),by repeat (first|exact Xm.refl _|apply Xm.step)⟩
       ·rw [if_neg c7] at H;have c7b0:(((Xb l0 x5_1).f2) == (wrap64 ((wrap64 (x1_1+1))+1)))=false:=beq_eq_false_iff_ne.mpr c7;have c7b1:(((Xb l0 x5_1).f2) != (wrap64 ((wrap64 (x1_1+1))+1)))=true:=bne_iff_ne.mpr c7;obtain rfl:=Option.some.inj H;have p317:0≤(x5_1:Int):=of_decide_eq_true (by first|(with_reducible assumption)|assumption);have q317:x5_1<(l0.length:Int):=of_decide_eq_true (by first|(with_reducible assumption)|assumption);obtain ⟨ad317,e317,hx317_0,hx317_1,hx317_2,hx317_3⟩:=Yk HR0.out x5_1 p317 q317;cases e317
        replace p317:=eq_true p317;replace q317:=eq_true q317;have p318:0≤(x5_1:Int):=of_decide_eq_true (by first|(with_reducible assumption)|assumption);have q318:x5_1<(l0.length:Int):=of_decide_eq_true (by first|(with_reducible assumption)|assumption);obtain ⟨ad318,e318,hx318_0,hx318_1,hx318_2,hx318_3⟩:=Yk HR0.out x5_1 p318 q318;obtain rfl:ad317=ad318:=(by injection e318);replace p318:=eq_true p318;replace q318:=eq_true q318;have p319:0≤(x5_1:Int):=of_decide_eq_true (by first|(with_reducible assumption)|assumption);have q319:x5_1<(l0.length:Int):=of_decide_eq_true (by first|(with_reducible assumption)|assumption);obtain ⟨ad319,e319,hx319_0,hx319_1,hx319_2,hx319_3⟩:=Yk HR0.out x5_1 p319 q319;obtain rfl:ad317=ad319:=(by injection e319);replace p319:=eq_true p319;replace q319:=eq_true q319;go_wp2
        go_ret
        exact ⟨by first|rfl|(simp;done)|(simp [*];done),by repeat (first|exact Xm.refl _|apply Xm.step)⟩
      ·rw [if_neg c6] at H;have c6b0:(((Xb l0 x5_1).f1) == (wrap64 (x1_1+1)))=false:=beq_eq_false_iff_ne.mpr c6;have c6b1:(((Xb l0 x5_1).f1) != (wrap64 (x1_1+1)))=true:=bne_iff_ne.mpr c6;obtain rfl:=Option.some.inj H;have p317:0≤(x5_1:Int):=of_decide_eq_true (by first|(with_reducible assumption)|assumption);have q317:x5_1<(l0.length:Int):=of_decide_eq_true (by first|(with_reducible assumption)|assumption);obtain ⟨ad317,e317,hx317_0,hx317_1,hx317_2,hx317_3⟩:=Yk HR0.out x5_1 p317 q317;cases e317
       replace p317:=eq_true p317;replace q317:=eq_true q317;have p318:0≤(x5_1:Int):=of_decide_eq_true (by first|(with_reducible assumption)|assumption);have q318:x5_1<(l0.length:Int):=of_decide_eq_true (by first|(with_reducible assumption)|assumption);obtain ⟨ad318,e318,hx318_0,hx318_1,hx318_2,hx318_3⟩:=Yk HR0.out x5_1 p318 q318;obtain rfl:ad317=ad318:=(by injection e318);replace p318:=eq_true p318;replace q318:=eq_true q318;go_wp2
       go_ret
       exact ⟨by first|rfl|(simp;done)|(simp [*];done),by repeat (first|exact Xm.refl _|apply Xm.step)⟩
     ·rw [if_neg c5] at H;have c5b0:(((Xb l0 x5_1).f0) == x1_1)=false:=beq_eq_false_iff_ne.mpr c5;have c5b1:(((Xb l0 x5_1).f0) != x1_1)=true:=bne_iff_ne.mpr c5;obtain rfl:=Option.some.inj H;have p317:0≤(x5_1:Int):=of_decide_eq_true (by first|(with_reducible assumption)|assumption);have q317:x5_1<(l0.length:Int):=of_decide_eq_true (by first|(with_reducible assumption)|assumption);obtain ⟨ad317,e317,hx317_0,hx317_1,hx317_2,hx317_3⟩:=Yk HR0.out x5_1 p317 q317;cases e317
      replace p317:=eq_true p317;replace q317:=eq_true q317;go_wp2
      go_ret
      exact ⟨by first|rfl|(simp;done)|(simp [*];done),by repeat (first|exact Xm.refl _|apply Xm.step)⟩
    ·rw [if_neg c4] at H;exact absurd H (by simp)
   ·rw [if_neg c3] at H;have c3b0:decide (x5_1<(l0.length:Int))=false:=decide_eq_false c3;clear c3;obtain rfl:=Option.some.inj H;go_wp2
    go_ret
    exact ⟨by first|rfl|(simp;done)|(simp [*];done),by repeat (first|exact Xm.refl _|apply Xm.step)⟩
end Go.Proofs.Ytjmlpgpkmhjdiaa.GSlim
