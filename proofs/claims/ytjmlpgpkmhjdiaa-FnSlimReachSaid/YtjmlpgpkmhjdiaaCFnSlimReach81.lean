import Derived.Test.YtjmlpgpkmhjdiaaCFnSlimReach67
import Derived.Test.YtjmlpgpkmhjdiaaCFnSlimReach64
namespace Go.Proofs.Ytjmlpgpkmhjdiaa.Pure
open Go.RowKit Go.Proofs.Ytjmlpgpkmhjdiaa.GSlim Go.Proofs.YtjmlpgpkmhjdiaaW.PrintWords Go.Proofs.YtjmlpgpkmhjdiaaW.PrintLast Go.Proofs.YtjmlpgpkmhjdiaaW.PrintMore Go.Proofs.Ytjmlpgpkmhjdiaa.Evt
set_option linter.unusedVariables false
theorem wpBools_loop (l:List Bool) (hl:l.length≤1000000):∀ (d j:Nat),j+d=l.length→Evt (fun k=>Zn.l0 k l l (j:Int)) true
  |0,j,h=>by
    refine Evt.step ?_
    simp only [Zn.l0]
    exact Evt.neg (by omega) (Evt.pure _)
  |d+1,j,h=>by
    refine Evt.step ?_
    simp only [Zn.l0]
    refine Evt.pos (by omega) (Evt.pos (by omega) (Evt.pos (by omega) (Evt.neg (by simp) ?_)))
    rw [w64n j (by omega)]
    exact wpBools_loop l hl d (j+1) (by omega)
theorem wpBools_ev (l:List Bool) (hl:l.length≤1000000):Evt (fun k=>Zn.f k l l) true:=by
  unfold Zn.f
  exact Evt.pos rfl (wpBools_loop l hl l.length 0 (by omega))
end Go.Proofs.Ytjmlpgpkmhjdiaa.Pure
