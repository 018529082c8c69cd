/- The reference's NumDo answers as the program's does; what DrawNumDo draws. -/
import Derived.Test.YtjmlpgpkmhjdiaaDraw
import Derived.Test.YtjmlpgpkmhjdiaaGNumx3
import Derived.Test.YtjmlpgpkmhjdiaaGNumx1
import Derived.Test.YtjmlpgpkmhjdiaaGNumx2
import Derived.Test.YtjmlpgpkmhjdiaaGNumx3
import Derived.Test.YtjmlpgpkmhjdiaaGNumx3
namespace Go.Proofs.Ytjmlpgpkmhjdiaa.Pure
open Go.RowKit Go.Proofs.Ytjmlpgpkmhjdiaa.GNum Go.Proofs.YtjmlpgpkmhjdiaaW.PrintWords Go.Proofs.YtjmlpgpkmhjdiaaW.PrintMore

theorem l1Num_ok {b : List Int} (hb : Bytes b) {p : Int} (hp : 0 ≤ p) (hp2 : p < 1000000) (k : Nat) :
    ∃ v, spec_l1Num.f (k + 1) b p = some (v, p + 2) := by
  obtain ⟨v, h, h0, h1⟩ := pick_ok hb hp (by omega) (n := 12) (by omega) (by omega) k
  unfold spec_l1Num.f
  rw [h]
  simp only [Option.bind_some]
  split
  · obtain ⟨u, h2, _⟩ := num_ok hb (p := p + 1) (by omega) (by omega) (l := [1000, (-1000), 9223372036854775807, (-9223372036854775808)]) (by decide) (by decide) k
    rw [h2]
    exact ⟨u, by simp; omega⟩
  · obtain ⟨u, h2, _⟩ := num_ok hb (p := p + 1) (by omega) (by omega) (l := [0, 1, 2, 3, (-1), 7, 31, 32, (-500), 500, 999, (-999)]) (by decide) (by decide) k
    rw [h2]
    exact ⟨u, by simp; omega⟩

theorem drawNumDo_ok (l : List Int) (h : ∀ x ∈ l, (Lit.int .u8 x).wf = true) (k : Nat) : ∃ op a b, spec_DrawNumDo.f (k + 1) l = some (op, a, b) := by
  obtain ⟨b, ho, hb⟩ := open_ok l h
  obtain ⟨u, hn, _⟩ := num_ok hb (p := 0) (by omega) (by omega) (l := [1, 2, 3, 4, 5, 1, 2, 3, 4, 5, 0, 6]) (by decide) (by decide) k
  obtain ⟨v, hv⟩ := l1Num_ok hb (p := 0 + 1) (by omega) (by omega) k
  obtain ⟨z, hz⟩ := l1Num_ok hb (p := 0 + 1 + 2) (by omega) (by omega) k
  unfold spec_DrawNumDo.f
  rw [ho]
  simp only [Option.bind_some]
  rw [hn]
  simp only [Option.bind_some]
  rw [hv]
  simp only [Option.bind_some]
  rw [hz]
  exact ⟨u, v, z, rfl⟩

theorem specOk (n : Int) : spec_NumOk.f n = some (okN n) := by
  unfold spec_NumOk.f okN
  by_cases c : n ≥ -999
  · rw [if_pos c]; simp [c]
  · rw [if_neg c]; simp; omega
theorem implOk (n : Int) : impl_NumOk.f n = some (okN n) := by
  unfold impl_NumOk.f okN
  by_cases c : n ≥ -999
  · rw [if_pos c]; simp [c]
  · rw [if_neg c]; simp; omega
theorem specCut (n : Int) : spec_NumCut.f n = some (cutN n) := by
  unfold spec_NumCut.f cutN
  split <;> simp_all
  split <;> simp
theorem implCut (n : Int) : impl_NumCut.f n = some (cutN n) := by
  unfold impl_NumCut.f cutN mx mn
  congr 1
  split <;> split <;> (try split) <;> omega
theorem l1If_ok (b : Bool) : spec_l1If.f b = some (if b = true then 1 else 0) := by unfold spec_l1If.f; split <;> rfl
theorem okN_iff {n : Int} : okN n = true ↔ -999 ≤ n ∧ n ≤ 999 := by simp [okN]

theorem numDo_ok {op a b : Int} (h : 1 ≤ op ∧ op ≤ 5 ∧ okN a = true ∧ okN b = true) :
    numDo op a b = (if op = 1 then cutN (a + b) else if op = 2 then cutN (a - b) else if op = 3 then cutN (a * b) else if op = 4 then (if a < b then 1 else 0) else (if a = b then 1 else 0), true) := by
  unfold numDo; rw [if_pos h]
theorem numDo_no {op a b : Int} (h : ¬ (1 ≤ op ∧ op ≤ 5 ∧ okN a = true ∧ okN b = true)) : numDo op a b = (0, false) := by
  unfold numDo; rw [if_neg h]

theorem specNumDo (k : Nat) (op a b : Int) : spec_NumDo.f (k + 1) op a b = some (numDo op a b) := by
  unfold spec_NumDo.f
  rw [specOk, specOk]
  simp only [Option.bind_some]
  by_cases ha : okN a = true
  · rw [if_pos ha]
    by_cases hb : okN b = true
    · obtain ⟨a1, a2⟩ := okN_iff.1 ha
      obtain ⟨b1, b2⟩ := okN_iff.1 hb
      obtain ⟨m1, m2⟩ := mul_lo a1 a2 b1 b2
      simp only [hb, Bool.not_true, spec_NumDo.j0, Bool.false_eq_true, if_false, specCut, l1If_ok, Option.bind_some]
      rw [wrap64_id (n := a + b) (by omega) (by omega), wrap64_id (n := a - b) (by omega) (by omega), wrap64_id (n := a * b) (by omega) (by omega)]
      by_cases c : 1 ≤ op ∧ op ≤ 5
      · rw [numDo_ok ⟨c.1, c.2, ha, hb⟩]
        have c5 : op = 1 ∨ op = 2 ∨ op = 3 ∨ op = 4 ∨ op = 5 := by omega
        rcases c5 with rfl | rfl | rfl | rfl | rfl <;> simp
      · rw [numDo_no (fun h => c ⟨h.1, h.2.1⟩), if_neg (by omega), if_neg (by omega), if_neg (by omega), if_neg (by omega), if_neg (by omega)]
    · have hb' : okN b = false := by simpa using hb
      simp only [hb', Bool.not_false, spec_NumDo.j0, if_true]
      rw [numDo_no (fun h => hb h.2.2.2)]
  · rw [if_neg ha]
    simp only [spec_NumDo.j0, if_true]
    rw [numDo_no (fun h => ha h.2.2.1)]

theorem cutN_ok (n : Int) : okN (cutN n) = true := by
  rw [okN_iff]; unfold cutN; split <;> (try split) <;> omega
theorem okN_01 (p : Prop) [Decidable p] : okN (if p then 1 else 0) = true := by split <;> rfl

end Go.Proofs.Ytjmlpgpkmhjdiaa.Pure
