/- Nought and one are neutral: FnNumNought answers true for every code: no condition. -/
import Derived.Test.YtjmlpgpkmhjdiaaGNumx5
import Derived.Test.YtjmlpgpkmhjdiaaNumBase
namespace Go.Proofs.Ytjmlpgpkmhjdiaa.Pure
open Go.RowKit Go.Proofs.Ytjmlpgpkmhjdiaa.GNum Go.Proofs.YtjmlpgpkmhjdiaaW.PrintWords Go.Proofs.YtjmlpgpkmhjdiaaW.PrintMore

theorem cut_mid {n : Int} (h : okN n = true) : cutN n = n := by
  obtain ⟨a1, a2⟩ := okN_iff.1 h
  unfold cutN
  split
  · omega
  · split <;> omega

theorem FnNumNought : laws_FnNumNought.Pure := by
  intro l _ _ hw
  refine ⟨2, ?_⟩
  unfold laws_FnNumNought.f
  split
  · rfl
  obtain ⟨op, a, b, hd⟩ := drawNumDo_ok l hw 1
  rw [hd]
  simp only [Option.bind_some, impl_NumDo.f, specNumDo, if_true, bne_self_eq_false, Bool.false_eq_true, if_false, specOk]
  by_cases ca : okN a = true
  · have c0 : okN 0 = true := rfl
    have c1 : okN 1 = true := rfl
    simp only [ca, Bool.not_true, laws_FnNumNought.j0, Bool.false_eq_true, if_false, impl_NumDo.f, Option.bind_some]
    rw [numDo_ok (op := 1) (a := a) (b := 0) ⟨by omega, by omega, ca, c0⟩, numDo_ok (op := 2) (a := a) (b := 0) ⟨by omega, by omega, ca, c0⟩,
      numDo_ok (op := 3) (a := a) (b := 1) ⟨by omega, by omega, ca, c1⟩, numDo_ok (op := 3) (a := a) (b := 0) ⟨by omega, by omega, ca, c0⟩, numDo_ok (op := 2) (a := a) (b := a) ⟨by omega, by omega, ca, ca⟩]
    have z : cutN 0 = 0 := rfl
    simp [cut_mid ca, z]
  · have ca' : okN a = false := by simpa using ca
    simp [ca', laws_FnNumNought.j0]

end Go.Proofs.Ytjmlpgpkmhjdiaa.Pure
