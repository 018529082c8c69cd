import Derived.Test.YtjmlpgpkmhjdiaaCFnSlimJumps21
namespace Go.Proofs.Ytjmlpgpkmhjdiaa.GSlim
open Go.RowKit Go.Proofs.YtjmlpgpkmhjdiaaW.PrintWords Go.Proofs.YtjmlpgpkmhjdiaaW.PrintLast Go.Proofs.YtjmlpgpkmhjdiaaW.PrintMore
attribute [local go_sem] Zn Zp Ua Ub Zh Zi Zo Zq
set_option linter.unusedVariables false
set_option linter.unusedSimpArgs false
def Um.f (a0:Int):Option (Bool):=if a0 ≥ (-999) then (some (decide (a0≤999))) else (some false)
set_option maxHeartbeats 8000000 in
set_option maxRecDepth 100000 in
theorem Um.calls (a0:Int) (r:Bool) (w:World) (h:Um.f a0=some r) :
  Calls Try.prog 19 #[.int .i64 a0] w fun e w'=>e=.returned (.bool r)∧Zu w w':=by
 have H:(if a0 ≥ (-999) then (some (decide (a0≤999))) else (some false))=some r:=h;clear h;by_cases c2:a0 ≥ (-999)
 ·rw [if_pos c2] at H;have c2b0:decide ((-999)≤a0)=true:=decide_eq_true c2;clear c2;obtain rfl:=Option.some.inj H
  go_enter Try.func19,Try.ntmps19
  go_wp2
  go_ret
  exact ⟨by first|rfl|(simp;done)|(simp [*];done),by repeat (first|exact Zu.refl _|apply Zu.step)⟩
 ·rw [if_neg c2] at H;have c2b0:decide ((-999)≤a0)=false:=decide_eq_false c2;clear c2;obtain rfl:=Option.some.inj H
  go_enter Try.func19,Try.ntmps19
  go_wp2
  go_ret
  exact ⟨by first|rfl|(simp;done)|(simp [*];done),by repeat (first|exact Zu.refl _|apply Zu.step)⟩
end Go.Proofs.Ytjmlpgpkmhjdiaa.GSlim
