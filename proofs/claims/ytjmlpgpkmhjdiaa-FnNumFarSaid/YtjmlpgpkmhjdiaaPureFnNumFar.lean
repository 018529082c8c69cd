/- Sums saturate, and otherwise can be undone: FnNumFar answers true for every code: no condition. -/
import Derived.Test.YtjmlpgpkmhjdiaaGNumx5
import Derived.Test.YtjmlpgpkmhjdiaaNumBase
namespace Go.Proofs.Ytjmlpgpkmhjdiaa.Pure
open Go.RowKit Go.Proofs.Ytjmlpgpkmhjdiaa.GNum Go.Proofs.YtjmlpgpkmhjdiaaW.PrintWords Go.Proofs.YtjmlpgpkmhjdiaaW.PrintMore

theorem sums (a b : Int) (ha : okN a = true) (hb : okN b = true) :
    (numDo 1 a b).1 = a + b ∧ (numDo 2 (numDo 1 a b).1 b).1 = a ∨ (numDo 1 a b).1 = 999 ∧ a + b > 999 ∨ (numDo 1 a b).1 = -999 ∧ a + b < -999 := by
  obtain ⟨a1, a2⟩ := okN_iff.1 ha
  obtain ⟨b1, b2⟩ := okN_iff.1 hb
  rw [numDo_ok (op := 1) ⟨by omega, by omega, ha, hb⟩]
  simp only [if_true]
  rw [numDo_ok (op := 2) ⟨by omega, by omega, cutN_ok _, hb⟩]
  simp only [if_true, show ¬ (2 : Int) = 1 by omega, if_false]
  unfold cutN
  split
  · omega
  · split
    · omega
    · left; refine ⟨rfl, ?_⟩; split
      · omega
      · split <;> omega

theorem FnNumFar : laws_FnNumFar.Pure := by
  intro l _ _ hw
  refine ⟨2, ?_⟩
  unfold laws_FnNumFar.f
  split
  · rfl
  obtain ⟨op, a, b, hd⟩ := drawNumDo_ok l hw 1
  rw [hd]
  simp only [Option.bind_some, impl_NumDo.f, specNumDo, if_true, bne_self_eq_false, Bool.false_eq_true, if_false, specOk]
  by_cases ca : okN a = true
  · rw [if_pos ca]
    by_cases cb : okN b = true
    · simp only [cb, Bool.not_true, laws_FnNumFar.j0, Bool.false_eq_true, if_false, impl_NumDo.f, Option.bind_some]
      obtain ⟨a1, a2⟩ := okN_iff.1 ca
      obtain ⟨b1, b2⟩ := okN_iff.1 cb
      rw [wrap64_id (n := a + b) (by omega) (by omega)]
      have hs := sums a b ca cb
      generalize (numDo 2 (numDo 1 a b).1 b).1 = d at hs ⊢
      generalize (numDo 1 a b).1 = s at hs ⊢
      rcases hs with ⟨h1, h2⟩ | ⟨h1, h2⟩ | ⟨h1, h2⟩
      · rw [if_pos h1, if_pos h2]
      · subst h1
        rw [if_neg (by omega), if_pos rfl, if_pos h2]
      · subst h1
        rw [if_neg (by omega), if_neg (by omega), if_pos rfl]
        simp [h2]
    · have cb' : okN b = false := by simpa using cb
      simp [cb', laws_FnNumFar.j0]
  · rw [if_neg ca]
    simp [laws_FnNumFar.j0]

end Go.Proofs.Ytjmlpgpkmhjdiaa.Pure
