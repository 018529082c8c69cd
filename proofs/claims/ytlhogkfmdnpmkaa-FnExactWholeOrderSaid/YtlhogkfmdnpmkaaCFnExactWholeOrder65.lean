import Derived.Test.YtlhogkfmdnpmkaaCFnExactWholeOrder21
set_option maxRecDepth 100000
namespace Go.Proofs.Ytlhogkfmdnpmkaa.GWhole
open Go.RowKit Go.Proofs.YtlhogkfmdnpmkaaW.PrintWords Go.Proofs.YtlhogkfmdnpmkaaW.PrintLast Go.Proofs.YtlhogkfmdnpmkaaW.PrintMore
attribute [local go_sem] Ui Uk max_two min_two Zx Zy Uj Ul
set_option linter.unusedVariables false
set_option linter.unusedSimpArgs false
def Ua.f (a0:Int):Option (Bool):=if a0 ≥ (-999) then (some (decide (a0≤999))) else (some false)
set_option maxHeartbeats 8000000 in
theorem Ua.calls (a0:Int) (r:Bool) (w:World) (h:Ua.f a0=some r) :
  Calls Try.prog 64 #[.int .i64 a0] w fun e w'=>e=.returned (.bool r)∧Yl w w':=by
 have H:(if a0 ≥ (-999) then (some (decide (a0≤999))) else (some false))=some r:=h;clear h;by_cases c2:a0 ≥ (-999)
 ·rw [if_pos c2] at H;have aA:=decide_eq_true c2;clear c2;obtain rfl:=Option.some.inj H
  go_enter Try.func64,Try.ntmps64
  go_wp2
  go_ret
  exact ⟨by first|rfl|(simp;done)|(simp [*];done),by repeat (first|exact Yl.refl _|apply Yl.step)⟩
 ·rw [if_neg c2] at H;have aA:=decide_eq_false c2;clear c2;obtain rfl:=Option.some.inj H
  go_enter Try.func64,Try.ntmps64
  go_wp2
  go_ret
  exact ⟨by first|rfl|(simp;done)|(simp [*];done),by repeat (first|exact Yl.refl _|apply Yl.step)⟩
end Go.Proofs.Ytlhogkfmdnpmkaa.GWhole
