/- Arithmetic is as symmetric as it should be: FnNumTurn answers true for every code: no condition. -/
import Derived.Test.YtjmlpgpkmhjdiaaGNumx6
import Derived.Test.YtjmlpgpkmhjdiaaNumBase
namespace Go.Proofs.Ytjmlpgpkmhjdiaa.Pure
open Go.RowKit Go.Proofs.Ytjmlpgpkmhjdiaa.GNum Go.Proofs.YtjmlpgpkmhjdiaaW.PrintWords Go.Proofs.YtjmlpgpkmhjdiaaW.PrintMore

theorem two_ok (op a b : Int) : (numDo op a b).2 = (decide (1 ≤ op ∧ op ≤ 5) && (okN a && okN b)) := by
  by_cases c : 1 ≤ op ∧ op ≤ 5 ∧ okN a = true ∧ okN b = true
  · rw [numDo_ok c]; simp [c.1, c.2.1, c.2.2.1, c.2.2.2]
  · rw [numDo_no c]
    cases ha : okN a <;> cases hb : okN b <;> simp_all
theorem cut_neg (n : Int) : cutN (-n) = -cutN n := by
  unfold cutN
  split <;> split <;> (try split) <;> (try split) <;> omega
theorem cut_bd (n : Int) : -999 ≤ cutN n ∧ cutN n ≤ 999 := okN_iff.1 (cutN_ok n)

theorem FnNumTurn : laws_FnNumTurn.Pure := by
  intro l _ _ hw
  refine ⟨2, ?_⟩
  unfold laws_FnNumTurn.f
  split
  · rfl
  obtain ⟨op, a, b, hd⟩ := drawNumDo_ok l hw 1
  rw [hd]
  simp only [Option.bind_some, impl_NumDo.f, specNumDo, bne_self_eq_false, Bool.false_eq_true, if_false]
  have e : (numDo op b a).2 = (numDo op a b).2 := by rw [two_ok, two_ok, Bool.and_comm (okN b)]
  rw [e]
  simp only [bne_self_eq_false, Bool.false_eq_true, if_false]
  by_cases c : 1 ≤ op ∧ op ≤ 5 ∧ okN a = true ∧ okN b = true
  · have c' : 1 ≤ op ∧ op ≤ 5 ∧ okN b = true ∧ okN a = true := ⟨c.1, c.2.1, c.2.2.2, c.2.2.1⟩
    rw [numDo_ok c, numDo_ok c']
    obtain ⟨c1, c2, c3, c4⟩ := c
    have c5 : op = 1 ∨ op = 2 ∨ op = 3 ∨ op = 4 ∨ op = 5 := by omega
    have hb := cut_bd (a - b)
    rcases c5 with rfl | rfl | rfl | rfl | rfl
    · simp [laws_FnNumTurn.j0, Int.add_comm a b]
    · have : b - a = -(a - b) := by omega
      simp [laws_FnNumTurn.j0, this, cut_neg]
      rw [wrap64_id (by omega) (by omega)]
    · simp [laws_FnNumTurn.j0, Int.mul_comm a b]
    · simp only [laws_FnNumTurn.j0, Bool.not_true, Bool.false_eq_true, if_false, if_true, show ¬ (4 : Int) = 2 by omega, show ¬ (4 : Int) = 1 by omega, show ¬ (4 : Int) = 3 by omega]
      by_cases h1 : a < b
      · have h2 : ¬ b < a := by omega
        have h3 : ¬ a = b := by omega
        simp [h1, h2, h3, wrap64]
      · by_cases h3 : a = b
        · subst h3; simp [wrap64]
        · have h2 : b < a := by omega
          simp [h1, h2, h3, wrap64]
    · simp only [laws_FnNumTurn.j0, Bool.not_true, Bool.false_eq_true, if_false, show ¬ (5 : Int) = 2 by omega, show ¬ (5 : Int) = 1 by omega, show ¬ (5 : Int) = 3 by omega, show ¬ (5 : Int) = 4 by omega]
      by_cases h3 : a = b
      · subst h3; simp
      · have h4 : ¬ b = a := fun h => h3 h.symm
        simp [h3, h4]
  · have c' : ¬ (1 ≤ op ∧ op ≤ 5 ∧ okN b = true ∧ okN a = true) := fun h => c ⟨h.1, h.2.1, h.2.2.2, h.2.2.1⟩
    rw [numDo_no c, numDo_no c']
    simp [laws_FnNumTurn.j0]

end Go.Proofs.Ytjmlpgpkmhjdiaa.Pure
