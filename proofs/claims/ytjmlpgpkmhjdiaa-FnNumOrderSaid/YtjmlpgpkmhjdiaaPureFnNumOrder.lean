/- Less is a strict order: FnNumOrder answers true for all codes: no condition. -/
import Derived.Test.YtjmlpgpkmhjdiaaGNumx6
import Derived.Test.YtjmlpgpkmhjdiaaNumBase
namespace Go.Proofs.Ytjmlpgpkmhjdiaa.Pure
open Go.RowKit Go.Proofs.Ytjmlpgpkmhjdiaa.GNum Go.Proofs.YtjmlpgpkmhjdiaaW.PrintWords Go.Proofs.YtjmlpgpkmhjdiaaW.PrintMore

theorem less_ok {a b : Int} (ha : okN a = true) (hb : okN b = true) : (numDo 4 a b).1 = if a < b then 1 else 0 := by
  rw [numDo_ok (op := 4) ⟨by omega, by omega, ha, hb⟩]; simp
theorem same_ok {a b : Int} (ha : okN a = true) (hb : okN b = true) : (numDo 5 a b).1 = if a = b then 1 else 0 := by
  rw [numDo_ok (op := 5) ⟨by omega, by omega, ha, hb⟩]; simp
theorem less_two {a b : Int} : (numDo 4 a b).2 = (okN a && okN b) := by
  by_cases c : okN a = true ∧ okN b = true
  · rw [numDo_ok (op := 4) ⟨by omega, by omega, c.1, c.2⟩]; simp [c.1, c.2]
  · rw [numDo_no (fun h => c h.2.2)]
    cases ha : okN a <;> cases hb : okN b <;> simp_all

theorem FnNumOrder : laws_FnNumOrder.Pure := by
  intro l m _ _ hw _ _ hw2
  refine ⟨4, ?_⟩
  unfold laws_FnNumOrder.f
  split
  · simp [laws_FnNumOrder.j0]
  by_cases cl : (m.length : Int) > 1048576
  · simp [laws_FnNumOrder.j0, cl]
  obtain ⟨op, a, b, hd⟩ := drawNumDo_ok l hw 2
  obtain ⟨op2, c, e, hd2⟩ := drawNumDo_ok m hw2 2
  simp only [laws_FnNumOrder.j0, cl, decide_false, Bool.false_eq_true, if_false]
  rw [hd, hd2]
  simp only [Option.bind_some, impl_NumDo.f, specNumDo, if_true, bne_self_eq_false, Bool.false_eq_true, if_false, specOk]
  by_cases cab : okN a = true ∧ okN b = true
  · obtain ⟨ca, cb⟩ := cab
    rw [less_two]
    simp only [ca, cb, Bool.and_self, if_true]
    by_cases cc : okN c = true
    · simp only [cc, Bool.not_true, laws_FnNumOrder.j1, Bool.false_eq_true, if_false, impl_NumDo.f, Option.bind_some, less_ok ca cb, less_ok cb cc, less_ok ca cc, same_ok ca cb]
      by_cases h1 : a < b
      · have h2 : ¬ a = b := by omega
        by_cases h3 : b < c
        · have h4 : a < c := by omega
          simp [h1, h2, h3, h4]
        · simp [h1, h2, h3]
      · by_cases h2 : a = b
        · simp [h2]
        · simp [h1, h2]
    · have cc' : okN c = false := by simpa using cc
      simp [cc', laws_FnNumOrder.j1]
  · have c2 : (okN a && okN b) = false := by
      cases ha : okN a <;> cases hb : okN b <;> simp_all
    rw [less_two]
    simp [c2, laws_FnNumOrder.j1]

end Go.Proofs.Ytjmlpgpkmhjdiaa.Pure
