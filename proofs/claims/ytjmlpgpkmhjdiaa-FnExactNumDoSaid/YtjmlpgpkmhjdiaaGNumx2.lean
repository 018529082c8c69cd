/- What functions of the translated program answer (or a law's row out of it), shown by walking their text; no condition. Written for this claim by a program of the session's own (gprint.py, over the kit's print). Not trusted: Lean checks it. -/
import Derived.Test.YtjmlpgpkmhjdiaaGNumx0
import Derived.Laws.EntriesVeiled
namespace Go.Proofs.Ytjmlpgpkmhjdiaa.GNum
open Go.RowKit Go.Proofs.YtjmlpgpkmhjdiaaW.PrintWords Go.Proofs.YtjmlpgpkmhjdiaaW.PrintLast Go.Proofs.YtjmlpgpkmhjdiaaW.PrintMore
attribute [local go_sem] max2_int min2_int max_two min_two max_three min_three max_four min_four   -- for this text's walks alone
set_option linter.unusedVariables false
set_option linter.unusedSimpArgs false

/-! ### impl_NumDo: function 16 (given by hand) -/
def okN (n : Int) : Bool := decide (-999 ≤ n) && decide (n ≤ 999)
def cutN (n : Int) : Int := if n > 999 then 999 else if n < -999 then -999 else n
def numDo (op a b : Int) : Int × Bool :=
  if 1 ≤ op ∧ op ≤ 5 ∧ okN a = true ∧ okN b = true then
    (if op = 1 then cutN (a + b) else if op = 2 then cutN (a - b) else if op = 3 then cutN (a * b)
      else if op = 4 then (if a < b then 1 else 0) else (if a = b then 1 else 0), true)
  else (0, false)
def impl_NumDo.f (a0 a1 a2 : Int) : Option (Int × Bool) := some (numDo a0 a1 a2)

theorem cutN_mid {n : Int} (h1 : -999 < n) (h2 : n ≤ 999) : cutN n = n := by unfold cutN; split <;> (try split) <;> omega
theorem cutN_hi {n : Int} (h : 999 < n) : cutN n = 999 := by unfold cutN; split <;> (try split) <;> omega
theorem cutN_lo {n : Int} (h : n ≤ -999) : cutN n = -999 := by unfold cutN; split <;> (try split) <;> omega
theorem mul_lo {a b : Int} (h1 : -999 ≤ a) (h2 : a ≤ 999) (h3 : -999 ≤ b) (h4 : b ≤ 999) : -998001 ≤ a * b ∧ a * b ≤ 998001 := by
  have e1 : 0 ≤ (999 - a) * (999 - b) := Int.mul_nonneg (by omega) (by omega)
  have e2 : 0 ≤ (999 + a) * (999 + b) := Int.mul_nonneg (by omega) (by omega)
  have e3 : 0 ≤ (999 - a) * (999 + b) := Int.mul_nonneg (by omega) (by omega)
  have e4 : 0 ≤ (999 + a) * (999 - b) := Int.mul_nonneg (by omega) (by omega)
  rw [Int.sub_mul, Int.mul_sub, Int.mul_sub] at e1
  rw [Int.add_mul, Int.mul_add, Int.mul_add] at e2
  rw [Int.sub_mul, Int.mul_add, Int.mul_add] at e3
  rw [Int.add_mul, Int.mul_sub, Int.mul_sub] at e4
  omega

set_option maxHeartbeats 8000000 in
set_option maxRecDepth 100000 in
theorem do_add (a1 a2 : Int) (w : World) (h1 : -999 ≤ a1) (h2 : a1 ≤ 999) (h3 : -999 ≤ a2) (h4 : a2 ≤ 999) :
    Calls Try.prog 16 #[.int .i64 1, .int .i64 a1, .int .i64 a2] w fun e w' => e = .returned (.tuple #[.int .i64 (cutN (a1 + a2)), .bool true]) ∧ Below w.heap.size w w' := by
  obtain ⟨m1, m2⟩ := mul_lo h1 h2 h3 h4
  have c : 999 < a1 + a2 ∨ a1 + a2 ≤ -999 ∨ (-999 < a1 + a2 ∧ a1 + a2 ≤ 999) := by omega
  rcases c with c | c | ⟨c, c'⟩
  · rw [cutN_hi c]
    go_enter Try.func16, Try.ntmps16
    go_wp2
    all_goals
      go_ret2
      exact ⟨rfl, by repeat (first | exact Below.refl _ _ | apply below_alloc | apply below_drew)⟩
  · rw [cutN_lo c]
    go_enter Try.func16, Try.ntmps16
    go_wp2
    all_goals
      go_ret2
      exact ⟨rfl, by repeat (first | exact Below.refl _ _ | apply below_alloc | apply below_drew)⟩
  · rw [cutN_mid c c']
    go_enter Try.func16, Try.ntmps16
    go_wp2
    all_goals
      go_ret2
      exact ⟨rfl, by repeat (first | exact Below.refl _ _ | apply below_alloc | apply below_drew)⟩

set_option maxHeartbeats 8000000 in
set_option maxRecDepth 100000 in
theorem do_sub (a1 a2 : Int) (w : World) (h1 : -999 ≤ a1) (h2 : a1 ≤ 999) (h3 : -999 ≤ a2) (h4 : a2 ≤ 999) :
    Calls Try.prog 16 #[.int .i64 2, .int .i64 a1, .int .i64 a2] w fun e w' => e = .returned (.tuple #[.int .i64 (cutN (a1 - a2)), .bool true]) ∧ Below w.heap.size w w' := by
  obtain ⟨m1, m2⟩ := mul_lo h1 h2 h3 h4
  have c : 999 < a1 - a2 ∨ a1 - a2 ≤ -999 ∨ (-999 < a1 - a2 ∧ a1 - a2 ≤ 999) := by omega
  rcases c with c | c | ⟨c, c'⟩
  · rw [cutN_hi c]
    go_enter Try.func16, Try.ntmps16
    go_wp2
    all_goals
      go_ret2
      exact ⟨rfl, by repeat (first | exact Below.refl _ _ | apply below_alloc | apply below_drew)⟩
  · rw [cutN_lo c]
    go_enter Try.func16, Try.ntmps16
    go_wp2
    all_goals
      go_ret2
      exact ⟨rfl, by repeat (first | exact Below.refl _ _ | apply below_alloc | apply below_drew)⟩
  · rw [cutN_mid c c']
    go_enter Try.func16, Try.ntmps16
    go_wp2
    all_goals
      go_ret2
      exact ⟨rfl, by repeat (first | exact Below.refl _ _ | apply below_alloc | apply below_drew)⟩

set_option maxHeartbeats 8000000 in
set_option maxRecDepth 100000 in
theorem do_mul (a1 a2 : Int) (w : World) (h1 : -999 ≤ a1) (h2 : a1 ≤ 999) (h3 : -999 ≤ a2) (h4 : a2 ≤ 999) :
    Calls Try.prog 16 #[.int .i64 3, .int .i64 a1, .int .i64 a2] w fun e w' => e = .returned (.tuple #[.int .i64 (cutN (a1 * a2)), .bool true]) ∧ Below w.heap.size w w' := by
  obtain ⟨m1, m2⟩ := mul_lo h1 h2 h3 h4
  have c : 999 < a1 * a2 ∨ a1 * a2 ≤ -999 ∨ (-999 < a1 * a2 ∧ a1 * a2 ≤ 999) := by omega
  rcases c with c | c | ⟨c, c'⟩
  · rw [cutN_hi c]
    go_enter Try.func16, Try.ntmps16
    go_wp2
    all_goals
      go_ret2
      exact ⟨rfl, by repeat (first | exact Below.refl _ _ | apply below_alloc | apply below_drew)⟩
  · rw [cutN_lo c]
    go_enter Try.func16, Try.ntmps16
    go_wp2
    all_goals
      go_ret2
      exact ⟨rfl, by repeat (first | exact Below.refl _ _ | apply below_alloc | apply below_drew)⟩
  · rw [cutN_mid c c']
    go_enter Try.func16, Try.ntmps16
    go_wp2
    all_goals
      go_ret2
      exact ⟨rfl, by repeat (first | exact Below.refl _ _ | apply below_alloc | apply below_drew)⟩

set_option maxHeartbeats 8000000 in
set_option maxRecDepth 100000 in
theorem do_less (a1 a2 : Int) (w : World) (h1 : -999 ≤ a1) (h2 : a1 ≤ 999) (h3 : -999 ≤ a2) (h4 : a2 ≤ 999) :
    Calls Try.prog 16 #[.int .i64 4, .int .i64 a1, .int .i64 a2] w fun e w' => e = .returned (.tuple #[.int .i64 (if a1 < a2 then 1 else 0), .bool true]) ∧ Below w.heap.size w w' := by
  by_cases c : a1 < a2
  · rw [if_pos c]
    skip
    go_enter Try.func16, Try.ntmps16
    go_wp2
    all_goals
      go_ret2
      exact ⟨rfl, by repeat (first | exact Below.refl _ _ | apply below_alloc | apply below_drew)⟩
  · rw [if_neg c]
    skip
    go_enter Try.func16, Try.ntmps16
    go_wp2
    all_goals
      go_ret2
      exact ⟨rfl, by repeat (first | exact Below.refl _ _ | apply below_alloc | apply below_drew)⟩

set_option maxHeartbeats 8000000 in
set_option maxRecDepth 100000 in
theorem do_same (a1 a2 : Int) (w : World) (h1 : -999 ≤ a1) (h2 : a1 ≤ 999) (h3 : -999 ≤ a2) (h4 : a2 ≤ 999) :
    Calls Try.prog 16 #[.int .i64 5, .int .i64 a1, .int .i64 a2] w fun e w' => e = .returned (.tuple #[.int .i64 (if a1 = a2 then 1 else 0), .bool true]) ∧ Below w.heap.size w w' := by
  by_cases c : a1 = a2
  · rw [if_pos c]
    have d : (a1 == a2) = true := by simpa using c
    go_enter Try.func16, Try.ntmps16
    go_wp2
    all_goals
      go_ret2
      exact ⟨rfl, by repeat (first | exact Below.refl _ _ | apply below_alloc | apply below_drew)⟩
  · rw [if_neg c]
    have d : (a1 == a2) = false := by simpa using c
    go_enter Try.func16, Try.ntmps16
    go_wp2
    all_goals
      go_ret2
      exact ⟨rfl, by repeat (first | exact Below.refl _ _ | apply below_alloc | apply below_drew)⟩

set_option maxHeartbeats 8000000 in
set_option maxRecDepth 100000 in
theorem do_bad (a0 a1 a2 : Int) (w : World) (h : ¬ (1 ≤ a0 ∧ a0 ≤ 5 ∧ (-999 ≤ a1 ∧ a1 ≤ 999) ∧ (-999 ≤ a2 ∧ a2 ≤ 999))) :
    Calls Try.prog 16 #[.int .i64 a0, .int .i64 a1, .int .i64 a2] w fun e w' => e = .returned (.tuple #[.int .i64 0, .bool false]) ∧ Below w.heap.size w w' := by
  by_cases c0 : 1 ≤ a0
  case neg =>
    clear h
    go_enter Try.func16, Try.ntmps16
    go_wp2
    all_goals
      go_ret2
      exact ⟨rfl, by repeat (first | exact Below.refl _ _ | apply below_alloc | apply below_drew)⟩
  by_cases c1 : a0 ≤ 5
  case neg =>
    clear h
    go_enter Try.func16, Try.ntmps16
    go_wp2
    all_goals
      go_ret2
      exact ⟨rfl, by repeat (first | exact Below.refl _ _ | apply below_alloc | apply below_drew)⟩
  by_cases c2 : -999 ≤ a1
  case neg =>
    clear h
    go_enter Try.func16, Try.ntmps16
    go_wp2
    all_goals
      go_ret2
      exact ⟨rfl, by repeat (first | exact Below.refl _ _ | apply below_alloc | apply below_drew)⟩
  by_cases c3 : a1 ≤ 999
  case neg =>
    clear h
    go_enter Try.func16, Try.ntmps16
    go_wp2
    all_goals
      go_ret2
      exact ⟨rfl, by repeat (first | exact Below.refl _ _ | apply below_alloc | apply below_drew)⟩
  by_cases c4 : -999 ≤ a2
  case neg =>
    clear h
    go_enter Try.func16, Try.ntmps16
    go_wp2
    all_goals
      go_ret2
      exact ⟨rfl, by repeat (first | exact Below.refl _ _ | apply below_alloc | apply below_drew)⟩
  by_cases c5 : a2 ≤ 999
  case neg =>
    clear h
    go_enter Try.func16, Try.ntmps16
    go_wp2
    all_goals
      go_ret2
      exact ⟨rfl, by repeat (first | exact Below.refl _ _ | apply below_alloc | apply below_drew)⟩
  exact absurd ⟨c0, c1, ⟨c2, c3⟩, ⟨c4, c5⟩⟩ h

theorem impl_NumDo.calls (a0 a1 a2 : Int) (r1 : Int) (r2 : Bool) (w : World) (h : impl_NumDo.f a0 a1 a2 = some (r1, r2)) :
    Calls Try.prog 16 #[.int .i64 a0, .int .i64 a1, .int .i64 a2] w fun e w' => e = .returned (.tuple #[.int .i64 r1, .bool r2]) ∧ Below w.heap.size w w' := by
  have H := Option.some.inj h
  clear h
  by_cases c1 : 1 ≤ a0 ∧ a0 ≤ 5 ∧ okN a1 = true ∧ okN a2 = true
  · unfold numDo at H
    rw [if_pos c1] at H
    obtain ⟨h1, h2, h3, h4⟩ := c1
    simp only [okN, Bool.and_eq_true, decide_eq_true_eq] at h3 h4
    simp only [Prod.mk.injEq] at H
    obtain ⟨H, rfl⟩ := H
    have c : a0 = 1 ∨ a0 = 2 ∨ a0 = 3 ∨ a0 = 4 ∨ a0 = 5 := by omega
    rcases c with rfl | rfl | rfl | rfl | rfl
    · simp at H; rw [← H]; exact do_add a1 a2 w h3.1 h3.2 h4.1 h4.2
    · simp at H; rw [← H]; exact do_sub a1 a2 w h3.1 h3.2 h4.1 h4.2
    · simp at H; rw [← H]; exact do_mul a1 a2 w h3.1 h3.2 h4.1 h4.2
    · simp at H; rw [← H]; exact do_less a1 a2 w h3.1 h3.2 h4.1 h4.2
    · simp at H; rw [← H]; exact do_same a1 a2 w h3.1 h3.2 h4.1 h4.2
  · unfold numDo at H
    rw [if_neg c1] at H
    simp only [Prod.mk.injEq] at H
    obtain ⟨rfl, rfl⟩ := H
    refine do_bad a0 a1 a2 w (fun c => c1 ?_)
    simpa [okN] using c



end Go.Proofs.Ytjmlpgpkmhjdiaa.GNum
