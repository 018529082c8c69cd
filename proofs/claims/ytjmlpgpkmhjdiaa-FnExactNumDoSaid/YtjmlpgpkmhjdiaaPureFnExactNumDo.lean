/- The program's NumDo returns what the reference's returns, for all arguments: no condition. -/
import Derived.Test.YtjmlpgpkmhjdiaaGNumx3
import Derived.Test.YtjmlpgpkmhjdiaaNumBase
namespace Go.Proofs.Ytjmlpgpkmhjdiaa.Pure
open Go.RowKit Go.Proofs.Ytjmlpgpkmhjdiaa.GNum Go.Proofs.YtjmlpgpkmhjdiaaW.PrintWords Go.Proofs.YtjmlpgpkmhjdiaaW.PrintMore

theorem FnExactNumDo : laws_FnExactNumDo.Pure := by
  intro op a b _ _ _
  refine ⟨1, ?_⟩
  unfold laws_FnExactNumDo.f
  rw [specNumDo]
  simp [impl_NumDo.f]

end Go.Proofs.Ytjmlpgpkmhjdiaa.Pure
