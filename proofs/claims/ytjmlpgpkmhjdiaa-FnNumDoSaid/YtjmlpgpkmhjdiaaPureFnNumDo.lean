/- Arithmetic is total and saturates: FnNumDo answers true for every code: no condition. -/
import Derived.Test.YtjmlpgpkmhjdiaaGNumx4
import Derived.Test.YtjmlpgpkmhjdiaaNumBase
namespace Go.Proofs.Ytjmlpgpkmhjdiaa.Pure
open Go.RowKit Go.Proofs.Ytjmlpgpkmhjdiaa.GNum Go.Proofs.YtjmlpgpkmhjdiaaW.PrintWords Go.Proofs.YtjmlpgpkmhjdiaaW.PrintMore

theorem FnNumDo : laws_FnNumDo.Pure := by
  intro l _ _ hw
  refine ⟨2, ?_⟩
  unfold laws_FnNumDo.f
  split
  · rfl
  obtain ⟨op, a, b, hd⟩ := drawNumDo_ok l hw 1
  rw [hd]
  simp only [Option.bind_some, impl_NumDo.f, specNumDo, if_true, bne_self_eq_false, Bool.false_eq_true, if_false, implOk, specOk]
  by_cases c : 1 ≤ op ∧ op ≤ 5 ∧ okN a = true ∧ okN b = true
  · rw [numDo_ok c]
    obtain ⟨c1, c2, c3, c4⟩ := c
    obtain ⟨a1, a2⟩ := okN_iff.1 c3
    obtain ⟨b1, b2⟩ := okN_iff.1 c4
    obtain ⟨m1, m2⟩ := mul_lo a1 a2 b1 b2
    have c5 : op = 1 ∨ op = 2 ∨ op = 3 ∨ op = 4 ∨ op = 5 := by omega
    rcases c5 with rfl | rfl | rfl | rfl | rfl
    · simp [laws_FnNumDo.j0, cutN_ok, implCut, wrap64_id (n := a + b) (by omega) (by omega)]
    · simp [laws_FnNumDo.j0, cutN_ok, implCut, wrap64_id (n := a - b) (by omega) (by omega)]
    · simp [laws_FnNumDo.j0, cutN_ok, implCut, wrap64_id (n := a * b) (by omega) (by omega)]
    · simp [laws_FnNumDo.j0, okN_01]
    · simp [laws_FnNumDo.j0, okN_01]
  · rw [numDo_no c]
    have z : okN 0 = true := rfl
    simp only [z, Bool.not_true, laws_FnNumDo.j0, Bool.false_eq_true, if_false, if_true, specOk, Option.bind_some]
    by_cases ca : okN a = true
    · by_cases cb : okN b = true
      · rw [if_pos ca, if_pos cb]
        split
        · rfl
        · have : op > 5 := by
            rcases Classical.em (op > 5) with h | h
            · exact h
            · exact absurd ⟨by omega, by omega, ca, cb⟩ c
          simp [this]
      · rw [if_pos ca, if_neg cb]
    · rw [if_neg ca]

end Go.Proofs.Ytjmlpgpkmhjdiaa.Pure
