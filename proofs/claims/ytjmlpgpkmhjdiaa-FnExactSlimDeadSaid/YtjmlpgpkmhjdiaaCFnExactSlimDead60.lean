import Derived.Test.YtjmlpgpkmhjdiaaCFnExactSlimDead58
import Derived.Test.YtjmlpgpkmhjdiaaCFnExactSlimDead44
import Derived.Test.YtjmlpgpkmhjdiaaCFnExactSlimDead42
namespace Go.Proofs.Ytjmlpgpkmhjdiaa.Pure
open Go.RowKit Go.Proofs.Ytjmlpgpkmhjdiaa.GSlim Go.Proofs.YtjmlpgpkmhjdiaaW.PrintWords Go.Proofs.YtjmlpgpkmhjdiaaW.PrintLast Go.Proofs.YtjmlpgpkmhjdiaaW.PrintMore Go.Proofs.Ytjmlpgpkmhjdiaa.Evt Go.Proofs.Ytjmlpgpkmhjdiaa.KindsSlim Go.Proofs.Ytjmlpgpkmhjdiaa.Open Go.Proofs.Ytjmlpgpkmhjdiaa.HForms
set_option linter.unusedVariables false
set_option linter.unusedSimpArgs false
theorem at_lt {c : List Ins} {i : Nat} (h : i < c.length) : at_ c i = c[i] := by unfold at_; exact getD_at _ h
theorem Valid.target {c : List Ins} (hv : Valid c) {i : Nat} (hi : i < c.length) (ho : (at_ c i).f0 = 6 ∨ (at_ c i).f0 = 7) : 0 ≤ (at_ c i).f3 ∧ (at_ c i).f3 < c.length := index_ok (hv.ins i hi) ho
end Go.Proofs.Ytjmlpgpkmhjdiaa.Pure
