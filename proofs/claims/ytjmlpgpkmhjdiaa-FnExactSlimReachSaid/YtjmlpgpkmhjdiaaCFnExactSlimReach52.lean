import Derived.Test.YtjmlpgpkmhjdiaaCFnExactSlimReach43
import Derived.Test.YtjmlpgpkmhjdiaaCFnExactSlimReach39
import Derived.Test.YtjmlpgpkmhjdiaaCFnExactSlimReach40
namespace Go.Proofs.Ytjmlpgpkmhjdiaa.Pure
open Go.RowKit Go.Proofs.Ytjmlpgpkmhjdiaa.GSlim Go.Proofs.YtjmlpgpkmhjdiaaW.PrintWords Go.Proofs.YtjmlpgpkmhjdiaaW.PrintLast Go.Proofs.YtjmlpgpkmhjdiaaW.PrintMore Go.Proofs.Ytjmlpgpkmhjdiaa.Evt
set_option linter.unusedVariables false
theorem eqBoolS_loop (l : List Bool) (hl : l.length ≤ 4398046511104) : ∀ (d i : Nat), i + d = l.length → Evt (fun k => laws_eqBoolS.l0 k l l (i : Int)) true
  | 0, i, h => by
    refine Evt.step ?_
    simp only [laws_eqBoolS.l0]
    exact Evt.neg (by omega) (Evt.pure _)
  | d + 1, i, h => by
    refine Evt.step ?_
    simp only [laws_eqBoolS.l0]
    refine Evt.pos (by omega) (Evt.pos (by omega) (Evt.pos (by omega) (Evt.neg (by simp) ?_)))
    rw [w64n i (by omega)]
    exact eqBoolS_loop l hl d (i + 1) (by omega)
theorem eqBoolS_ev (l : List Bool) (hl : l.length ≤ 4398046511104) : Evt (fun k => laws_eqBoolS.f k l l) true := by
  unfold laws_eqBoolS.f
  exact Evt.pos rfl (eqBoolS_loop l hl l.length 0 (by omega))
def marksB (m : Int) (n : Nat) : List Bool := (List.range n).map (fun i => Int.tmod (m + (i : Nat)) 3 == 0)
theorem marksB_snoc (m : Int) (n : Nat) : marksB m (n + 1) = marksB m n ++ [Int.tmod (m + (n : Nat)) 3 == 0] := by unfold marksB; rw [List.range_succ, List.map_append]; rfl
theorem length_marksB (m : Int) (n : Nat) : (marksB m n).length = n := by simp [marksB]
theorem marksB_get {m : Int} {n i : Nat} (h : i < n) : (marksB m n).getD i false = (Int.tmod (m + (i : Nat)) 3 == 0) := by
  unfold marksB
  simp [List.getD_eq_getElem?_getD, List.getElem?_map, List.getElem?_range h]
theorem markBoolS_loop (m : Int) (hm0 : 0 ≤ m) (hm : m ≤ 1048576) : ∀ (B : List Bool) (a : Nat), a + B.length ≤ 1048576 →
    Evt (fun k => laws_markBoolS.l0 k (marksB m a ++ B) (m + a) (a : Int)) (m + ((a + B.length : Nat) : Int), marksB m (a + B.length))
  | [], a, h => by
    refine Evt.step ?_
    simp only [laws_markBoolS.l0]
    refine Evt.neg (by simp [length_marksB]) ?_
    simp
    exact Evt.pure _
  | b :: B, a, h => by
    refine Evt.step ?_
    simp only [laws_markBoolS.l0]
    have h' : a + B.length + 1 ≤ 1048576 := by simpa [Nat.add_assoc] using h
    refine Evt.pos (by simp [length_marksB]; omega) (Evt.pos (by omega) ?_)
    have hs : ∀ v, (marksB m a ++ b :: B).set (a : Int).toNat v = marksB m a ++ v :: B := fun v => by
      rw [Int.toNat_natCast]
      have : (marksB m a ++ b :: B).set (marksB m a).length v = marksB m a ++ v :: B := by simp
      rwa [length_marksB] at this
    rw [w64n a (by omega), w64s (by omega) (by omega), hs]
    have ih := markBoolS_loop m hm0 hm B (a + 1) (by omega)
    rw [marksB_snoc, List.append_assoc] at ih
    rw [show m + (a : Int) + 1 = m + ((a + 1 : Nat) : Int) by omega, show a + (b :: B).length = a + 1 + B.length by simp; omega]
    exact ih
theorem markBoolS_ev (l : List Bool) (m : Int) (hm0 : 0 ≤ m) (hm : m ≤ 1048576) (hl : l.length ≤ 1048576) : Evt (fun k => laws_markBoolS.f k l m) (m + (l.length : Int), marksB m l.length) := by
  unfold laws_markBoolS.f
  have := markBoolS_loop m hm0 hm l 0 (by omega)
  simpa [marksB] using this
theorem heldBoolS_loop (m : Int) (hm0 : 0 ≤ m) (hm : m ≤ 1048576) (n : Nat) (hn : n ≤ 1048576) : ∀ (d i : Nat), i + d = n → Evt (fun k => laws_heldBoolS.l0 k (marksB m n) (m + i) (i : Int)) (m + (n : Int))
  | 0, i, h => by
    refine Evt.step ?_
    simp only [laws_heldBoolS.l0]
    refine Evt.neg (by rw [length_marksB]; omega) ?_
    obtain rfl : i = n := by omega
    exact Evt.pure _
  | d + 1, i, h => by
    refine Evt.step ?_
    simp only [laws_heldBoolS.l0, rdOf_nat]
    refine Evt.pos (by rw [length_marksB]; omega) (Evt.pos (by omega) (Evt.neg ?_ ?_))
    · rw [marksB_get (by omega)]; simp
    · rw [w64n i (by omega), w64s (by omega) (by omega), show m + (i : Int) + 1 = m + ((i + 1 : Nat) : Int) by omega]
      exact heldBoolS_loop m hm0 hm n hn d (i + 1) (by omega)
theorem heldBoolS_ev (m : Int) (hm0 : 0 ≤ m) (hm : m ≤ 1048576) (n : Nat) (hn : n ≤ 1048576) : Evt (fun k => laws_heldBoolS.f k (marksB m n) m) (m + (n : Int)) := by
  unfold laws_heldBoolS.f
  have := heldBoolS_loop m hm0 hm n hn n 0 (by omega)
  simpa using this
end Go.Proofs.Ytjmlpgpkmhjdiaa.Pure
