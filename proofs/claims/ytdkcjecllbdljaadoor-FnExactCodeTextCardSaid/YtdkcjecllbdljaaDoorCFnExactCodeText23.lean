import Derived.Test.YtdkcjecllbdljaaDoorCFnExactCodeText22
namespace Go.Proofs.YtdkcjecllbdljaaDoor.GCode
open Go.RowKit Go.Proofs.YtdkcjecllbdljaaDoorW.PrintWords Go.Proofs.YtdkcjecllbdljaaDoorW.PrintLast Go.Proofs.YtdkcjecllbdljaaDoorW.PrintMore
attribute [local go_sem] max2_int min2_int max_two min_two Zb Zc max_four min_four
set_option linter.unusedVariables false
set_option linter.unusedSimpArgs false
def laws_szInsS.f (l0:List (S41)) (a1:Int):Option (Int):=if (wrap64 (a1 - (l0.length:Int)))<0 then (some (-1)) else (some (wrap64 (a1 - (l0.length:Int))))
set_option maxHeartbeats 8000000 in
set_option maxRecDepth 100000 in
theorem laws_szInsS.calls (A0:Option Addr) (c0:Nat) (l0:List (S41)) (a1:Int) (r:Int) (w:World) (hr0:Kd.C k41 w A0 l0.length l0) (hc0:l0.length≤c0) (h:laws_szInsS.f l0 a1=some r) :
  Calls Tryd.prog 5 #[.slice A0 l0.length c0,.int .i64 a1] w fun e w'=>e=.returned (.int .i64 r)∧Drawn0 w w':=by
 have HR0:=Xa.mk hr0;have HC0:=Xa.mk hc0;clear hr0 hc0;have H:(if (wrap64 (a1 - (l0.length:Int)))<0 then (some (-1)) else (some (wrap64 (a1 - (l0.length:Int)))))=some r:=h;clear h;by_cases c3:(wrap64 (a1 - (l0.length:Int)))<0
 ·rw [if_pos c3] at H;have c3b0:decide ((wrap64 (a1 - (l0.length:Int)))<0)=true:=decide_eq_true c3;clear c3;obtain rfl:=Option.some.inj H
  go_enter Tryd.func5,Tryd.ntmps5
  go_wp2
  go_ret
  exact ⟨by first|rfl|(simp;done)|(simp [*];done),by repeat (first|exact Drawn0.refl _|apply Drawn0.step)⟩
 ·rw [if_neg c3] at H;have c3b0:decide ((wrap64 (a1 - (l0.length:Int)))<0)=false:=decide_eq_false c3;clear c3;obtain rfl:=Option.some.inj H
  go_enter Tryd.func5,Tryd.ntmps5
  go_wp2
  go_ret
  exact ⟨by first|rfl|(simp;done)|(simp [*];done),by repeat (first|exact Drawn0.refl _|apply Drawn0.step)⟩
def Yx.f (a0:Int):Option (Bool):=if a0 ≥ (-999) then (some (decide (a0≤999))) else (some false)
set_option maxHeartbeats 8000000 in
set_option maxRecDepth 100000 in
theorem Yx.calls (a0:Int) (r:Bool) (w:World) (h:Yx.f a0=some r) :
  Calls Tryd.prog 49 #[.int .i64 a0] w fun e w'=>e=.returned (.bool r)∧Drawn0 w w':=by
 have H:(if a0 ≥ (-999) then (some (decide (a0≤999))) else (some false))=some r:=h;clear h;by_cases c2:a0 ≥ (-999)
 ·rw [if_pos c2] at H;have c2b0:decide ((-999)≤a0)=true:=decide_eq_true c2;clear c2;obtain rfl:=Option.some.inj H
  go_enter Tryd.func49,Tryd.ntmps49
  go_wp2
  go_ret
  exact ⟨by first|rfl|(simp;done)|(simp [*];done),by repeat (first|exact Drawn0.refl _|apply Drawn0.step)⟩
 ·rw [if_neg c2] at H;have c2b0:decide ((-999)≤a0)=false:=decide_eq_false c2;clear c2;obtain rfl:=Option.some.inj H
  go_enter Tryd.func49,Tryd.ntmps49
  go_wp2
  go_ret
  exact ⟨by first|rfl|(simp;done)|(simp [*];done),by repeat (first|exact Drawn0.refl _|apply Drawn0.step)⟩
end Go.Proofs.YtdkcjecllbdljaaDoor.GCode
