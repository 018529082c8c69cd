/- What functions of the translated program answer (or a law's row out of it), shown by walking their text; no condition. Written for this claim by a program of the session's own (gprint.py, over the kit's print). Not trusted: Lean checks it. -/
import Derived.Test.YtjmlpgpkmhjdiaaGNumx0
import Derived.Test.YtjmlpgpkmhjdiaaGNumx1
import Derived.Test.YtjmlpgpkmhjdiaaGNumx2
import Derived.Test.YtjmlpgpkmhjdiaaGNumx3
namespace Go.Proofs.Ytjmlpgpkmhjdiaa.GNum
open Go.RowKit Go.Proofs.YtjmlpgpkmhjdiaaW.PrintWords Go.Proofs.YtjmlpgpkmhjdiaaW.PrintLast Go.Proofs.YtjmlpgpkmhjdiaaW.PrintMore
attribute [local go_sem] max2_int min2_int max_two min_two max_three min_three max_four min_four   -- for this text's walks alone
set_option linter.unusedVariables false
set_option linter.unusedSimpArgs false

/-! ### laws_FnNumOrder: function 7 -/
mutual
def laws_FnNumOrder.j0 : Nat → List Int → List Int → Bool → Option (Bool)
  | 0, _, _, _ => none
  | k + 1, x0, x1, x28 => if x28 = true then (some true) else ((spec_DrawNumDo.f k x0).bind fun bt191 => ((spec_DrawNumDo.f k x1).bind fun bt194 => ((impl_NumDo.f 4 bt191.2.1 bt191.2.2).bind fun bt197 => ((spec_NumDo.f k 4 bt191.2.1 bt191.2.2).bind fun bt199 => (if bt197.1 = bt199.1 then (if (bt197.2 != bt199.2) = true then (laws_FnNumOrder.j1 k bt191.2.1 bt191.2.2 bt194.2.1 bt197.1 bt197.2 bt199.1 bt199.2 true) else (if bt197.2 = true then ((spec_NumOk.f bt194.2.1).bind fun t201 => (laws_FnNumOrder.j1 k bt191.2.1 bt191.2.2 bt194.2.1 bt197.1 bt197.2 bt199.1 bt199.2 (!t201))) else (laws_FnNumOrder.j1 k bt191.2.1 bt191.2.2 bt194.2.1 bt197.1 bt197.2 bt199.1 bt199.2 true))) else (laws_FnNumOrder.j1 k bt191.2.1 bt191.2.2 bt194.2.1 bt197.1 bt197.2 bt199.1 bt199.2 true))))))
def laws_FnNumOrder.j1 : Nat → Int → Int → Int → Int → Bool → Int → Bool → Bool → Option (Bool)
  | 0, _, _, _, _, _, _, _, _ => none
  | k + 1, x6, x7, x9, x11, x12, x13, x14, x69 => if x69 = true then (if x11 = x13 then (some (x12 == x14)) else (some false)) else ((impl_NumDo.f 4 x7 x9).bind fun bt202 => ((impl_NumDo.f 4 x6 x9).bind fun bt204 => ((impl_NumDo.f 5 x6 x7).bind fun bt206 => (if x11 = 0 then (if ((bt206.1 == 1) == (x6 == x7)) = true then (some true) else (some false)) else (if bt202.1 = 0 then (if ((bt206.1 == 1) == (x6 == x7)) = true then (some (bt206.1 == 0)) else (some false)) else (if bt204.1 = 1 then (if ((bt206.1 == 1) == (x6 == x7)) = true then (some (bt206.1 == 0)) else (some false)) else (some false)))))))
end
def laws_FnNumOrder.f (k : Nat) (l0 : List Int) (l1 : List Int) : Option (Bool) := if (l0.length : Int) > 1048576 then (laws_FnNumOrder.j0 k l0 l1 true) else (laws_FnNumOrder.j0 k l0 l1 (decide ((l1.length : Int) > 1048576)))
theorem laws_FnNumOrder.mono_l : ∀ k, (∀ y0 y1 y2, LeO (laws_FnNumOrder.j0 k y0 y1 y2) (laws_FnNumOrder.j0 (k + 1) y0 y1 y2)) ∧ (∀ y0 y1 y2 y3 y4 y5 y6 y7, LeO (laws_FnNumOrder.j1 k y0 y1 y2 y3 y4 y5 y6 y7) (laws_FnNumOrder.j1 (k + 1) y0 y1 y2 y3 y4 y5 y6 y7))
  | 0 => ⟨fun _ _ _ r h => by simp [laws_FnNumOrder.j0] at h, fun _ _ _ _ _ _ _ _ r h => by simp [laws_FnNumOrder.j1] at h⟩
  | k + 1 => by
    obtain ⟨ih0, ih1⟩ := laws_FnNumOrder.mono_l k
    refine ⟨?_, ?_⟩
    · intro y0 y1 y2
      unfold laws_FnNumOrder.j0
      repeat' first
      | (with_reducible exact ih0 _ _ _)
      | (with_reducible exact ih1 _ _ _ _ _ _ _ _)
      | (with_reducible exact spec_DrawNumDo.mono _ _)
      | (with_reducible exact spec_NumDo.mono _ _ _ _)
      | (with_reducible exact LeO.refl _)
      | (with_reducible exact LeO.none _)
      | (with_reducible refine LeO.ite ?_ ?_)
      | (with_reducible refine LeO.bind ?_ (fun _ => ?_))
      | exact ih0 _ _ _
      | exact ih1 _ _ _ _ _ _ _ _
      | exact spec_DrawNumDo.mono _ _
      | exact spec_NumDo.mono _ _ _ _
      | exact LeO.none _
      | refine LeO.ite ?_ ?_
      | refine LeO.bind ?_ (fun _ => ?_)
    · intro y0 y1 y2 y3 y4 y5 y6 y7
      unfold laws_FnNumOrder.j1
      repeat' first
      | (with_reducible exact ih0 _ _ _)
      | (with_reducible exact ih1 _ _ _ _ _ _ _ _)
      | (with_reducible exact spec_DrawNumDo.mono _ _)
      | (with_reducible exact spec_NumDo.mono _ _ _ _)
      | (with_reducible exact LeO.refl _)
      | (with_reducible exact LeO.none _)
      | (with_reducible refine LeO.ite ?_ ?_)
      | (with_reducible refine LeO.bind ?_ (fun _ => ?_))
      | exact ih0 _ _ _
      | exact ih1 _ _ _ _ _ _ _ _
      | exact spec_DrawNumDo.mono _ _
      | exact spec_NumDo.mono _ _ _ _
      | exact LeO.none _
      | refine LeO.ite ?_ ?_
      | refine LeO.bind ?_ (fun _ => ?_)
theorem laws_FnNumOrder.mono : ∀ a0 a1 k, LeO (laws_FnNumOrder.f k a0 a1) (laws_FnNumOrder.f (k + 1) a0 a1) := by
  intro a0 a1 k
  obtain ⟨ih0, ih1⟩ := laws_FnNumOrder.mono_l k
  unfold laws_FnNumOrder.f
  repeat' first
      | (with_reducible exact ih0 _ _ _)
      | (with_reducible exact ih1 _ _ _ _ _ _ _ _)
      | (with_reducible exact spec_DrawNumDo.mono _ _)
      | (with_reducible exact spec_NumDo.mono _ _ _ _)
      | (with_reducible exact LeO.refl _)
      | (with_reducible exact LeO.none _)
      | (with_reducible refine LeO.ite ?_ ?_)
      | (with_reducible refine LeO.bind ?_ (fun _ => ?_))
      | exact ih0 _ _ _
      | exact ih1 _ _ _ _ _ _ _ _
      | exact spec_DrawNumDo.mono _ _
      | exact spec_NumDo.mono _ _ _ _
      | exact LeO.none _
      | refine LeO.ite ?_ ?_
      | refine LeO.bind ?_ (fun _ => ?_)
set_option maxHeartbeats 8000000 in
set_option maxRecDepth 100000 in
theorem laws_FnNumOrder.calls (k : Nat) (A0 : Option Addr) (c0 : Nat) (l0 : List Int) (A1 : Option Addr) (c1 : Nat) (l1 : List Int) (r : Bool) (w : World) (hr0 : Kd.C (Kd.int .u8) w A0 l0.length l0) (hc0 : l0.length ≤ c0) (hr1 : Kd.C (Kd.int .u8) w A1 l1.length l1) (hc1 : l1.length ≤ c1) (h : laws_FnNumOrder.f k l0 l1 = some r) :
    Calls Try.prog 7 #[.slice A0 l0.length c0, .slice A1 l1.length c1] w fun e w' => e = .returned (.bool r) ∧ Below w.heap.size w w' := by
  have HR0 := Aside0.mk hr0
  have HC0 := Aside0.mk hc0
  clear hr0 hc0
  have HR1 := Aside0.mk hr1
  have HC1 := Aside0.mk hc1
  clear hr1 hc1
  have HB := Aside0.mk (Below.refl w.heap.size w)
  have H : (if (l0.length : Int) > 1048576 then (laws_FnNumOrder.j0 k l0 l1 true) else (laws_FnNumOrder.j0 k l0 l1 (decide ((l1.length : Int) > 1048576)))) = some r := h
  clear h
  have HC3 := Aside0.mk H
  clear H
  go_enter Try.func7, Try.ntmps7
  go_upto_region 1 with (fail)
  go_cut [28] (fun v28 wc => ∃ (kq : Nat) (x28_2 : Bool), v28 = .bool x28_2 ∧ Aside0 (laws_FnNumOrder.j0 kq l0 l1 x28_2 = some r) ∧ Aside0 (kq ≤ k) ∧ Aside0 (Below w.heap.size w wc))
  case first =>
    have H := HC3.out
    clear HC3
    by_cases c4 : (l0.length : Int) > 1048576
    · rw [if_pos c4] at H
      have c4b0 : decide (1048576 < (l0.length : Int)) = true := decide_eq_true c4
      have c4b1 : decide (1048576 < l0.length) = true := decide_eq_true (by omega)
      clear c4
      (first | rw [c4b0] | (simp only [i64_w, i32_w]; rw [c4b0]) | skip)
      have H' := Aside0.mk H
      clear H
      go_wp2
      go_meet
      case rel => exact ⟨_, (true), (by first | rfl | (simp; done) | (simp [*]; done)), H', ⟨by first | omega | exact Nat.le_refl _⟩, ⟨by repeat (first | (with_reducible first | exact HB.out | apply below_alloc | apply pw_below_drewN | apply below_drew1) | exact HB.out)⟩⟩
    · rw [if_neg c4] at H
      have c4b0 : decide (1048576 < (l0.length : Int)) = false := decide_eq_false c4
      have c4b1 : decide (1048576 < l0.length) = false := decide_eq_false (by omega)
      clear c4
      (first | rw [c4b0] | (simp only [i64_w, i32_w]; rw [c4b0]) | skip)
      have H' := Aside0.mk H
      clear H
      go_wp2
      go_meet
      case rel => exact ⟨_, (decide ((l1.length : Int) > 1048576)), (by first | rfl | (simp; done) | (simp [*]; done)), H', ⟨by first | omega | exact Nat.le_refl _⟩, ⟨by repeat (first | (with_reducible first | exact HB.out | apply below_alloc | apply pw_below_drewN | apply below_drew1) | exact HB.out)⟩⟩
  case rest =>
    clear HC3
    try clear c1
    try clear p2
    try clear c4
    try clear c4b0
    try clear c4b1
    obtain ⟨kq, x28_2, rfl, HA, HJ2, HB⟩ := hcut
    cases kq with
    | zero => exact absurd HA.out (by simp [laws_FnNumOrder.j0])
    | succ kj2 =>
      have H := HA.out
      clear HA
      simp only [laws_FnNumOrder.j0] at H
      by_cases c5 : x28_2 = true
      · subst c5
        have H1 : (some true) = some r := by rw [if_pos rfl] at H; exact H
        clear H
        have H := H1
        clear H1
        obtain rfl := Option.some.inj H
        go_wp2
        go_ret
        exact ⟨by first | rfl | (simp [errW_none, errW_some] <;> rfl) | (simp [*, errW_none, errW_some] <;> rfl), by repeat (first | (with_reducible first | exact HB.out | apply below_alloc | apply pw_below_drewN | apply below_drew1) | exact HB.out)⟩
      · replace c5 := Bool.eq_false_iff.mpr c5
        subst c5
        have H1 : ((spec_DrawNumDo.f kj2 l0).bind fun bt191 => ((spec_DrawNumDo.f kj2 l1).bind fun bt194 => ((impl_NumDo.f 4 bt191.2.1 bt191.2.2).bind fun bt197 => ((spec_NumDo.f kj2 4 bt191.2.1 bt191.2.2).bind fun bt199 => (if bt197.1 = bt199.1 then (if (bt197.2 != bt199.2) = true then (laws_FnNumOrder.j1 kj2 bt191.2.1 bt191.2.2 bt194.2.1 bt197.1 bt197.2 bt199.1 bt199.2 true) else (if bt197.2 = true then ((spec_NumOk.f bt194.2.1).bind fun t201 => (laws_FnNumOrder.j1 kj2 bt191.2.1 bt191.2.2 bt194.2.1 bt197.1 bt197.2 bt199.1 bt199.2 (!t201))) else (laws_FnNumOrder.j1 kj2 bt191.2.1 bt191.2.2 bt194.2.1 bt197.1 bt197.2 bt199.1 bt199.2 true))) else (laws_FnNumOrder.j1 kj2 bt191.2.1 bt191.2.2 bt194.2.1 bt197.1 bt197.2 bt199.1 bt199.2 true)))))) = some r := by rw [if_neg (show ¬ (false = true) by decide)] at H; exact H
        clear H
        have H := H1
        clear H1
        replace H := Option.bind_eq_some_iff.mp H
        obtain ⟨⟨t191, t192, t193⟩, A60, H⟩ := H
        replace H : ((spec_DrawNumDo.f kj2 l1).bind fun bt194 => ((impl_NumDo.f 4 t192 t193).bind fun bt197 => ((spec_NumDo.f kj2 4 t192 t193).bind fun bt199 => (if bt197.1 = bt199.1 then (if (bt197.2 != bt199.2) = true then (laws_FnNumOrder.j1 kj2 t192 t193 bt194.2.1 bt197.1 bt197.2 bt199.1 bt199.2 true) else (if bt197.2 = true then ((spec_NumOk.f bt194.2.1).bind fun t201 => (laws_FnNumOrder.j1 kj2 t192 t193 bt194.2.1 bt197.1 bt197.2 bt199.1 bt199.2 (!t201))) else (laws_FnNumOrder.j1 kj2 t192 t193 bt194.2.1 bt197.1 bt197.2 bt199.1 bt199.2 true))) else (laws_FnNumOrder.j1 kj2 t192 t193 bt194.2.1 bt197.1 bt197.2 bt199.1 bt199.2 true))))) = some r := H
        have A6 := Aside0.mk A60
        clear A60
        replace H := Option.bind_eq_some_iff.mp H
        obtain ⟨⟨t194, t195, t196⟩, A70, H⟩ := H
        replace H : ((impl_NumDo.f 4 t192 t193).bind fun bt197 => ((spec_NumDo.f kj2 4 t192 t193).bind fun bt199 => (if bt197.1 = bt199.1 then (if (bt197.2 != bt199.2) = true then (laws_FnNumOrder.j1 kj2 t192 t193 t195 bt197.1 bt197.2 bt199.1 bt199.2 true) else (if bt197.2 = true then ((spec_NumOk.f t195).bind fun t201 => (laws_FnNumOrder.j1 kj2 t192 t193 t195 bt197.1 bt197.2 bt199.1 bt199.2 (!t201))) else (laws_FnNumOrder.j1 kj2 t192 t193 t195 bt197.1 bt197.2 bt199.1 bt199.2 true))) else (laws_FnNumOrder.j1 kj2 t192 t193 t195 bt197.1 bt197.2 bt199.1 bt199.2 true)))) = some r := H
        have A7 := Aside0.mk A70
        clear A70
        replace H := Option.bind_eq_some_iff.mp H
        obtain ⟨⟨t197, t198⟩, A80, H⟩ := H
        replace H : ((spec_NumDo.f kj2 4 t192 t193).bind fun bt199 => (if t197 = bt199.1 then (if (t198 != bt199.2) = true then (laws_FnNumOrder.j1 kj2 t192 t193 t195 t197 t198 bt199.1 bt199.2 true) else (if t198 = true then ((spec_NumOk.f t195).bind fun t201 => (laws_FnNumOrder.j1 kj2 t192 t193 t195 t197 t198 bt199.1 bt199.2 (!t201))) else (laws_FnNumOrder.j1 kj2 t192 t193 t195 t197 t198 bt199.1 bt199.2 true))) else (laws_FnNumOrder.j1 kj2 t192 t193 t195 t197 t198 bt199.1 bt199.2 true))) = some r := H
        have A8 := Aside0.mk A80
        clear A80
        replace H := Option.bind_eq_some_iff.mp H
        obtain ⟨⟨t199, t200⟩, A90, H⟩ := H
        replace H : (if t197 = t199 then (if (t198 != t200) = true then (laws_FnNumOrder.j1 kj2 t192 t193 t195 t197 t198 t199 t200 true) else (if t198 = true then ((spec_NumOk.f t195).bind fun t201 => (laws_FnNumOrder.j1 kj2 t192 t193 t195 t197 t198 t199 t200 (!t201))) else (laws_FnNumOrder.j1 kj2 t192 t193 t195 t197 t198 t199 t200 true))) else (laws_FnNumOrder.j1 kj2 t192 t193 t195 t197 t198 t199 t200 true)) = some r := H
        have A9 := Aside0.mk A90
        clear A90
        have HC10 := Aside0.mk H
        clear H
        go_upto_region 7 with (first | ((with_reducible refine gate_callee (f := 17) rfl ?_); refine goesL_ (some 31) rfl rfl Try.func17 (by kernel_rfl) rfl #[.slice A0 l0.length c0] rfl (by (try simp only [List.map_toArray, List.map_cons, List.map_nil]); first | done | rfl | (simp only [List.length_drop, List.length_take]; rfl)) ?_; (with_reducible refine (spec_DrawNumDo.calls kj2 _ _ l0 t191 t192 t193 _ ?side1 ?side2 A6.out).mono ?_); (case side1 => repeat (first | exact (Kd.C_below HR0.out HB.out) | (with_reducible refine Kd.C_alloc ?_ _) | (with_reducible refine Kd.C_drewN ?_ _) | (with_reducible refine Kd.C_drew ?_))); (case side2 => exact HC0.out); rintro e w11 ⟨rfl, hb⟩; refine ⟨_, rfl, ?_⟩; have n0_ := Aside0.mk (below_step (by repeat (first | (with_reducible first | exact HB.out | apply below_alloc | apply pw_below_drewN | apply below_drew1) | exact HB.out)) hb); clear HB; have HB := n0_; clear n0_; (try clear hb); (try clear hb2); (try clear hk); (try clear hi)) | ((with_reducible refine gate_callee (f := 17) rfl ?_); refine goesL_ (some 37) rfl rfl Try.func17 (by kernel_rfl) rfl #[.slice A1 l1.length c1] rfl (by (try simp only [List.map_toArray, List.map_cons, List.map_nil]); first | done | rfl | (simp only [List.length_drop, List.length_take]; rfl)) ?_; (with_reducible refine (spec_DrawNumDo.calls kj2 _ _ l1 t194 t195 t196 _ ?side1 ?side2 A7.out).mono ?_); (case side1 => repeat (first | exact (Kd.C_below HR1.out HB.out) | (with_reducible refine Kd.C_alloc ?_ _) | (with_reducible refine Kd.C_drewN ?_ _) | (with_reducible refine Kd.C_drew ?_))); (case side2 => exact HC1.out); rintro e w12 ⟨rfl, hb⟩; refine ⟨_, rfl, ?_⟩; have n0_ := Aside0.mk (below_step (by repeat (first | (with_reducible first | exact HB.out | apply below_alloc | apply pw_below_drewN | apply below_drew1) | exact HB.out)) hb); clear HB; have HB := n0_; clear n0_; (try clear hb); (try clear hb2); (try clear hk); (try clear hi)) | ((with_reducible refine gate_callee (f := 16) rfl ?_); refine goesL_ (some 44) rfl rfl Try.func16 (by kernel_rfl) rfl #[.int .i64 4, .int .i64 t192, .int .i64 t193] rfl (by (try simp only [List.map_toArray, List.map_cons, List.map_nil]); first | done | rfl | (simp only [List.length_drop, List.length_take]; rfl)) ?_; (with_reducible refine (impl_NumDo.calls 4 t192 t193 t197 t198 _ A8.out).mono ?_); rintro e w13 ⟨rfl, hb⟩; refine ⟨_, rfl, ?_⟩; have n0_ := Aside0.mk (below_step (by repeat (first | (with_reducible first | exact HB.out | apply below_alloc | apply pw_below_drewN | apply below_drew1) | exact HB.out)) hb); clear HB; have HB := n0_; clear n0_; (try clear hb); (try clear hb2); (try clear hk); (try clear hi)) | ((with_reducible refine gate_callee (f := 15) rfl ?_); refine goesL_ (some 50) rfl rfl Try.func15 (by kernel_rfl) rfl #[.int .i64 4, .int .i64 t192, .int .i64 t193] rfl (by (try simp only [List.map_toArray, List.map_cons, List.map_nil]); first | done | rfl | (simp only [List.length_drop, List.length_take]; rfl)) ?_; (with_reducible refine (spec_NumDo.calls kj2 4 t192 t193 t199 t200 _ A9.out).mono ?_); rintro e w' ⟨rfl, ⟨nd, rfl⟩⟩; refine ⟨_, rfl, ?_⟩))
        (try simp only [Act.put, List.setIfInBounds_toArray, List.set_cons_zero, List.set_cons_succ])
        go_cut [69] (fun v69 wc => ∃ (kq : Nat) (x69_9 : Bool), v69 = .bool x69_9 ∧ Aside0 (laws_FnNumOrder.j1 kq t192 t193 t195 t197 t198 t199 t200 x69_9 = some r) ∧ Aside0 (kq ≤ kj2) ∧ Aside0 (Below w.heap.size w wc))
        case first =>
          have H := HC10.out
          clear HC10
          by_cases c14 : t197 = t199
          · rw [if_pos c14] at H
            have c14b0 : (t197 == t199) = true := beq_iff_eq.mpr c14
            have c14b1 : (t197 != t199) = false := bne_eq_false_iff_eq.mpr c14
            clear c14
            (first | rw [c14b0] | (simp only [i64_w, i32_w]; rw [c14b0]) | skip)
            by_cases c15 : (t198 != t200) = true
            · rw [if_pos c15] at H
              have c15b0 : (t198 != t200) = true := c15
              (try (have c15b1 : decide (t198 = t200) = false := by simpa using c15))
              (try (have c15b2 : (t198 == t200) = false := by simpa using c15))
              (try (have c15b3 : ¬ (t198 = t200) := by simpa using c15))
              clear c15
              have H' := Aside0.mk H
              clear H
              go_wp2
              go_meet
              case rel => exact ⟨_, (true), (by first | rfl | (simp; done) | (simp [*]; done)), H', ⟨by have := HJ2.out; first | omega | exact Nat.le_refl _⟩, ⟨by repeat (first | (with_reducible first | exact HB.out | apply below_alloc | apply pw_below_drewN | apply below_drew1) | exact HB.out)⟩⟩
            · rw [if_neg c15] at H
              have c15b0 : (t198 != t200) = false := by simpa using c15
              (try (have c15b1 : decide (t198 = t200) = true := by simpa using c15))
              (try (have c15b2 : (t198 == t200) = true := by simpa using c15))
              clear c15
              by_cases c16 : t198 = true
              · subst c16
                have H1 : ((spec_NumOk.f t195).bind fun t201 => (laws_FnNumOrder.j1 kj2 t192 t193 t195 t197 true t199 t200 (!t201))) = some r := by rw [if_pos rfl] at H; exact H
                clear H
                have H := H1
                clear H1
                replace H := Option.bind_eq_some_iff.mp H
                obtain ⟨t201, A170, H⟩ := H
                replace H : (laws_FnNumOrder.j1 kj2 t192 t193 t195 t197 true t199 t200 (!t201)) = some r := H
                have A17 := Aside0.mk A170
                clear A170
                have H' := Aside0.mk H
                clear H
                go_wp2_with (first | (go_at_call 19; (with_reducible refine (spec_NumOk.calls t195 t201 _ A17.out).mono ?_); rintro e w' ⟨rfl, ⟨nd, rfl⟩⟩))
                go_meet
                case rel => exact ⟨_, (!t201), (by first | rfl | (simp; done) | (simp [*]; done)), H', ⟨by have := HJ2.out; first | omega | exact Nat.le_refl _⟩, ⟨by repeat (first | (with_reducible first | exact HB.out | apply below_alloc | apply pw_below_drewN | apply below_drew1) | exact HB.out)⟩⟩
              · replace c16 := Bool.eq_false_iff.mpr c16
                subst c16
                have H1 : (laws_FnNumOrder.j1 kj2 t192 t193 t195 t197 false t199 t200 true) = some r := by rw [if_neg (show ¬ (false = true) by decide)] at H; exact H
                clear H
                have H := H1
                clear H1
                have H' := Aside0.mk H
                clear H
                go_wp2
                go_meet
                case rel => exact ⟨_, (true), (by first | rfl | (simp; done) | (simp [*]; done)), H', ⟨by have := HJ2.out; first | omega | exact Nat.le_refl _⟩, ⟨by repeat (first | (with_reducible first | exact HB.out | apply below_alloc | apply pw_below_drewN | apply below_drew1) | exact HB.out)⟩⟩
          · rw [if_neg c14] at H
            have c14b0 : (t197 == t199) = false := beq_eq_false_iff_ne.mpr c14
            have c14b1 : (t197 != t199) = true := bne_iff_ne.mpr c14
            (first | rw [c14b0] | (simp only [i64_w, i32_w]; rw [c14b0]) | skip)
            have H' := Aside0.mk H
            clear H
            go_wp2
            go_meet
            case rel => exact ⟨_, (true), (by first | rfl | (simp; done) | (simp [*]; done)), H', ⟨by have := HJ2.out; first | omega | exact Nat.le_refl _⟩, ⟨by repeat (first | (with_reducible first | exact HB.out | apply below_alloc | apply pw_below_drewN | apply below_drew1) | exact HB.out)⟩⟩
        case rest =>
          clear HC10
          try clear c1
          try clear p2
          try clear c4
          try clear c4b0
          try clear c4b1
          try clear c5
          try clear c7
          try clear c14
          try clear c14b0
          try clear c14b1
          try clear c15
          try clear c15b0
          try clear c15b1
          try clear c15b2
          try clear c16
          try clear c17
          try clear p2
          obtain ⟨kq, x69_9, rfl, HA, HJ9, HB⟩ := hcut
          cases kq with
          | zero => exact absurd HA.out (by simp [laws_FnNumOrder.j1])
          | succ kj9 =>
            have H := HA.out
            clear HA
            simp only [laws_FnNumOrder.j1] at H
            by_cases c18 : x69_9 = true
            · subst c18
              have H1 : (if t197 = t199 then (some (t198 == t200)) else (some false)) = some r := by rw [if_pos rfl] at H; exact H
              clear H
              have H := H1
              clear H1
              by_cases c19 : t197 = t199
              · rw [if_pos c19] at H
                have c19b0 : (t197 == t199) = true := beq_iff_eq.mpr c19
                have c19b1 : (t197 != t199) = false := bne_eq_false_iff_eq.mpr c19
                clear c19
                obtain rfl := Option.some.inj H
                go_wp2
                go_ret
                exact ⟨by first | rfl | (simp [errW_none, errW_some] <;> rfl) | (simp [*, errW_none, errW_some] <;> rfl), by repeat (first | (with_reducible first | exact HB.out | apply below_alloc | apply pw_below_drewN | apply below_drew1) | exact HB.out)⟩
              · rw [if_neg c19] at H
                have c19b0 : (t197 == t199) = false := beq_eq_false_iff_ne.mpr c19
                have c19b1 : (t197 != t199) = true := bne_iff_ne.mpr c19
                obtain rfl := Option.some.inj H
                go_wp2
                go_ret
                exact ⟨by first | rfl | (simp [errW_none, errW_some] <;> rfl) | (simp [*, errW_none, errW_some] <;> rfl), by repeat (first | (with_reducible first | exact HB.out | apply below_alloc | apply pw_below_drewN | apply below_drew1) | exact HB.out)⟩
            · replace c18 := Bool.eq_false_iff.mpr c18
              subst c18
              have H1 : ((impl_NumDo.f 4 t193 t195).bind fun bt202 => ((impl_NumDo.f 4 t192 t195).bind fun bt204 => ((impl_NumDo.f 5 t192 t193).bind fun bt206 => (if t197 = 0 then (if ((bt206.1 == 1) == (t192 == t193)) = true then (some true) else (some false)) else (if bt202.1 = 0 then (if ((bt206.1 == 1) == (t192 == t193)) = true then (some (bt206.1 == 0)) else (some false)) else (if bt204.1 = 1 then (if ((bt206.1 == 1) == (t192 == t193)) = true then (some (bt206.1 == 0)) else (some false)) else (some false))))))) = some r := by rw [if_neg (show ¬ (false = true) by decide)] at H; exact H
              clear H
              have H := H1
              clear H1
              replace H := Option.bind_eq_some_iff.mp H
              obtain ⟨⟨t202, t203⟩, A200, H⟩ := H
              replace H : ((impl_NumDo.f 4 t192 t195).bind fun bt204 => ((impl_NumDo.f 5 t192 t193).bind fun bt206 => (if t197 = 0 then (if ((bt206.1 == 1) == (t192 == t193)) = true then (some true) else (some false)) else (if t202 = 0 then (if ((bt206.1 == 1) == (t192 == t193)) = true then (some (bt206.1 == 0)) else (some false)) else (if bt204.1 = 1 then (if ((bt206.1 == 1) == (t192 == t193)) = true then (some (bt206.1 == 0)) else (some false)) else (some false)))))) = some r := H
              have A20 := Aside0.mk A200
              clear A200
              replace H := Option.bind_eq_some_iff.mp H
              obtain ⟨⟨t204, t205⟩, A210, H⟩ := H
              replace H : ((impl_NumDo.f 5 t192 t193).bind fun bt206 => (if t197 = 0 then (if ((bt206.1 == 1) == (t192 == t193)) = true then (some true) else (some false)) else (if t202 = 0 then (if ((bt206.1 == 1) == (t192 == t193)) = true then (some (bt206.1 == 0)) else (some false)) else (if t204 = 1 then (if ((bt206.1 == 1) == (t192 == t193)) = true then (some (bt206.1 == 0)) else (some false)) else (some false))))) = some r := H
              have A21 := Aside0.mk A210
              clear A210
              replace H := Option.bind_eq_some_iff.mp H
              obtain ⟨⟨t206, t207⟩, A220, H⟩ := H
              replace H : (if t197 = 0 then (if ((t206 == 1) == (t192 == t193)) = true then (some true) else (some false)) else (if t202 = 0 then (if ((t206 == 1) == (t192 == t193)) = true then (some (t206 == 0)) else (some false)) else (if t204 = 1 then (if ((t206 == 1) == (t192 == t193)) = true then (some (t206 == 0)) else (some false)) else (some false)))) = some r := H
              have A22 := Aside0.mk A220
              clear A220
              by_cases c23 : t197 = 0
              · rw [if_pos c23] at H
                have c23b0 : (t197 == 0) = true := beq_iff_eq.mpr c23
                have c23b1 : (t197 != 0) = false := bne_eq_false_iff_eq.mpr c23
                clear c23
                by_cases c24 : ((t206 == 1) == (t192 == t193)) = true
                · rw [if_pos c24] at H
                  have c24b0 : ((t206 == 1) == (t192 == t193)) = true := c24
                  (try (have c24b1 : decide ((t206 == 1) = (t192 == t193)) = true := by simpa using c24))
                  (try (have c24b2 : ((t206 == 1) == (t192 == t193)) = true := by simpa using c24))
                  clear c24
                  obtain rfl := Option.some.inj H
                  go_wp2_with (first | ((with_reducible refine gate_callee (f := 16) rfl ?_); refine goesL_ (some 81) rfl rfl Try.func16 (by kernel_rfl) rfl #[.int .i64 4, .int .i64 t193, .int .i64 t195] rfl (by (try simp only [List.map_toArray, List.map_cons, List.map_nil]); first | done | rfl | (simp only [List.length_drop, List.length_take]; rfl)) ?_; (with_reducible refine (impl_NumDo.calls 4 t193 t195 t202 t203 _ A20.out).mono ?_); rintro e w25 ⟨rfl, hb⟩; refine ⟨_, rfl, ?_⟩; have n0_ := Aside0.mk (below_step (by repeat (first | (with_reducible first | exact HB.out | apply below_alloc | apply pw_below_drewN | apply below_drew1) | exact HB.out)) hb); clear HB; have HB := n0_; clear n0_; (try clear hb); (try clear hb2); (try clear hk); (try clear hi)) | ((with_reducible refine gate_callee (f := 16) rfl ?_); refine goesL_ (some 87) rfl rfl Try.func16 (by kernel_rfl) rfl #[.int .i64 4, .int .i64 t192, .int .i64 t195] rfl (by (try simp only [List.map_toArray, List.map_cons, List.map_nil]); first | done | rfl | (simp only [List.length_drop, List.length_take]; rfl)) ?_; (with_reducible refine (impl_NumDo.calls 4 t192 t195 t204 t205 _ A21.out).mono ?_); rintro e w26 ⟨rfl, hb⟩; refine ⟨_, rfl, ?_⟩; have n0_ := Aside0.mk (below_step (by repeat (first | (with_reducible first | exact HB.out | apply below_alloc | apply pw_below_drewN | apply below_drew1) | exact HB.out)) hb); clear HB; have HB := n0_; clear n0_; (try clear hb); (try clear hb2); (try clear hk); (try clear hi)) | ((with_reducible refine gate_callee (f := 16) rfl ?_); refine goesL_ (some 93) rfl rfl Try.func16 (by kernel_rfl) rfl #[.int .i64 5, .int .i64 t192, .int .i64 t193] rfl (by (try simp only [List.map_toArray, List.map_cons, List.map_nil]); first | done | rfl | (simp only [List.length_drop, List.length_take]; rfl)) ?_; (with_reducible refine (impl_NumDo.calls 5 t192 t193 t206 t207 _ A22.out).mono ?_); rintro e w27 ⟨rfl, hb⟩; refine ⟨_, rfl, ?_⟩; have n0_ := Aside0.mk (below_step (by repeat (first | (with_reducible first | exact HB.out | apply below_alloc | apply pw_below_drewN | apply below_drew1) | exact HB.out)) hb); clear HB; have HB := n0_; clear n0_; (try clear hb); (try clear hb2); (try clear hk); (try clear hi)))
                  go_ret
                  exact ⟨by first | rfl | (simp [errW_none, errW_some] <;> rfl) | (simp [*, errW_none, errW_some] <;> rfl), by repeat (first | (with_reducible first | exact HB.out | apply below_alloc | apply pw_below_drewN | apply below_drew1) | exact HB.out)⟩
                · rw [if_neg c24] at H
                  have c24b0 : ((t206 == 1) == (t192 == t193)) = false := by simpa using c24
                  (try (have c24b1 : decide ((t206 == 1) = (t192 == t193)) = false := by simpa using c24))
                  (try (have c24b2 : ((t206 == 1) == (t192 == t193)) = false := by simpa using c24))
                  (try (have c24b3 : ¬ ((t206 == 1) = (t192 == t193)) := by simpa using c24))
                  clear c24
                  obtain rfl := Option.some.inj H
                  go_wp2_with (first | ((with_reducible refine gate_callee (f := 16) rfl ?_); refine goesL_ (some 81) rfl rfl Try.func16 (by kernel_rfl) rfl #[.int .i64 4, .int .i64 t193, .int .i64 t195] rfl (by (try simp only [List.map_toArray, List.map_cons, List.map_nil]); first | done | rfl | (simp only [List.length_drop, List.length_take]; rfl)) ?_; (with_reducible refine (impl_NumDo.calls 4 t193 t195 t202 t203 _ A20.out).mono ?_); rintro e w28 ⟨rfl, hb⟩; refine ⟨_, rfl, ?_⟩; have n0_ := Aside0.mk (below_step (by repeat (first | (with_reducible first | exact HB.out | apply below_alloc | apply pw_below_drewN | apply below_drew1) | exact HB.out)) hb); clear HB; have HB := n0_; clear n0_; (try clear hb); (try clear hb2); (try clear hk); (try clear hi)) | ((with_reducible refine gate_callee (f := 16) rfl ?_); refine goesL_ (some 87) rfl rfl Try.func16 (by kernel_rfl) rfl #[.int .i64 4, .int .i64 t192, .int .i64 t195] rfl (by (try simp only [List.map_toArray, List.map_cons, List.map_nil]); first | done | rfl | (simp only [List.length_drop, List.length_take]; rfl)) ?_; (with_reducible refine (impl_NumDo.calls 4 t192 t195 t204 t205 _ A21.out).mono ?_); rintro e w29 ⟨rfl, hb⟩; refine ⟨_, rfl, ?_⟩; have n0_ := Aside0.mk (below_step (by repeat (first | (with_reducible first | exact HB.out | apply below_alloc | apply pw_below_drewN | apply below_drew1) | exact HB.out)) hb); clear HB; have HB := n0_; clear n0_; (try clear hb); (try clear hb2); (try clear hk); (try clear hi)) | ((with_reducible refine gate_callee (f := 16) rfl ?_); refine goesL_ (some 93) rfl rfl Try.func16 (by kernel_rfl) rfl #[.int .i64 5, .int .i64 t192, .int .i64 t193] rfl (by (try simp only [List.map_toArray, List.map_cons, List.map_nil]); first | done | rfl | (simp only [List.length_drop, List.length_take]; rfl)) ?_; (with_reducible refine (impl_NumDo.calls 5 t192 t193 t206 t207 _ A22.out).mono ?_); rintro e w30 ⟨rfl, hb⟩; refine ⟨_, rfl, ?_⟩; have n0_ := Aside0.mk (below_step (by repeat (first | (with_reducible first | exact HB.out | apply below_alloc | apply pw_below_drewN | apply below_drew1) | exact HB.out)) hb); clear HB; have HB := n0_; clear n0_; (try clear hb); (try clear hb2); (try clear hk); (try clear hi)))
                  go_ret
                  exact ⟨by first | rfl | (simp [errW_none, errW_some] <;> rfl) | (simp [*, errW_none, errW_some] <;> rfl), by repeat (first | (with_reducible first | exact HB.out | apply below_alloc | apply pw_below_drewN | apply below_drew1) | exact HB.out)⟩
              · rw [if_neg c23] at H
                have c23b0 : (t197 == 0) = false := beq_eq_false_iff_ne.mpr c23
                have c23b1 : (t197 != 0) = true := bne_iff_ne.mpr c23
                by_cases c31 : t202 = 0
                · rw [if_pos c31] at H
                  have c31b0 : (t202 == 0) = true := beq_iff_eq.mpr c31
                  have c31b1 : (t202 != 0) = false := bne_eq_false_iff_eq.mpr c31
                  clear c31
                  by_cases c32 : ((t206 == 1) == (t192 == t193)) = true
                  · rw [if_pos c32] at H
                    have c32b0 : ((t206 == 1) == (t192 == t193)) = true := c32
                    (try (have c32b1 : decide ((t206 == 1) = (t192 == t193)) = true := by simpa using c32))
                    (try (have c32b2 : ((t206 == 1) == (t192 == t193)) = true := by simpa using c32))
                    clear c32
                    obtain rfl := Option.some.inj H
                    go_wp2_with (first | ((with_reducible refine gate_callee (f := 16) rfl ?_); refine goesL_ (some 81) rfl rfl Try.func16 (by kernel_rfl) rfl #[.int .i64 4, .int .i64 t193, .int .i64 t195] rfl (by (try simp only [List.map_toArray, List.map_cons, List.map_nil]); first | done | rfl | (simp only [List.length_drop, List.length_take]; rfl)) ?_; (with_reducible refine (impl_NumDo.calls 4 t193 t195 t202 t203 _ A20.out).mono ?_); rintro e w33 ⟨rfl, hb⟩; refine ⟨_, rfl, ?_⟩; have n0_ := Aside0.mk (below_step (by repeat (first | (with_reducible first | exact HB.out | apply below_alloc | apply pw_below_drewN | apply below_drew1) | exact HB.out)) hb); clear HB; have HB := n0_; clear n0_; (try clear hb); (try clear hb2); (try clear hk); (try clear hi)) | ((with_reducible refine gate_callee (f := 16) rfl ?_); refine goesL_ (some 87) rfl rfl Try.func16 (by kernel_rfl) rfl #[.int .i64 4, .int .i64 t192, .int .i64 t195] rfl (by (try simp only [List.map_toArray, List.map_cons, List.map_nil]); first | done | rfl | (simp only [List.length_drop, List.length_take]; rfl)) ?_; (with_reducible refine (impl_NumDo.calls 4 t192 t195 t204 t205 _ A21.out).mono ?_); rintro e w34 ⟨rfl, hb⟩; refine ⟨_, rfl, ?_⟩; have n0_ := Aside0.mk (below_step (by repeat (first | (with_reducible first | exact HB.out | apply below_alloc | apply pw_below_drewN | apply below_drew1) | exact HB.out)) hb); clear HB; have HB := n0_; clear n0_; (try clear hb); (try clear hb2); (try clear hk); (try clear hi)) | ((with_reducible refine gate_callee (f := 16) rfl ?_); refine goesL_ (some 93) rfl rfl Try.func16 (by kernel_rfl) rfl #[.int .i64 5, .int .i64 t192, .int .i64 t193] rfl (by (try simp only [List.map_toArray, List.map_cons, List.map_nil]); first | done | rfl | (simp only [List.length_drop, List.length_take]; rfl)) ?_; (with_reducible refine (impl_NumDo.calls 5 t192 t193 t206 t207 _ A22.out).mono ?_); rintro e w35 ⟨rfl, hb⟩; refine ⟨_, rfl, ?_⟩; have n0_ := Aside0.mk (below_step (by repeat (first | (with_reducible first | exact HB.out | apply below_alloc | apply pw_below_drewN | apply below_drew1) | exact HB.out)) hb); clear HB; have HB := n0_; clear n0_; (try clear hb); (try clear hb2); (try clear hk); (try clear hi)))
                    go_ret
                    exact ⟨by first | rfl | (simp [errW_none, errW_some] <;> rfl) | (simp [*, errW_none, errW_some] <;> rfl), by repeat (first | (with_reducible first | exact HB.out | apply below_alloc | apply pw_below_drewN | apply below_drew1) | exact HB.out)⟩
                  · rw [if_neg c32] at H
                    have c32b0 : ((t206 == 1) == (t192 == t193)) = false := by simpa using c32
                    (try (have c32b1 : decide ((t206 == 1) = (t192 == t193)) = false := by simpa using c32))
                    (try (have c32b2 : ((t206 == 1) == (t192 == t193)) = false := by simpa using c32))
                    (try (have c32b3 : ¬ ((t206 == 1) = (t192 == t193)) := by simpa using c32))
                    clear c32
                    obtain rfl := Option.some.inj H
                    go_wp2_with (first | ((with_reducible refine gate_callee (f := 16) rfl ?_); refine goesL_ (some 81) rfl rfl Try.func16 (by kernel_rfl) rfl #[.int .i64 4, .int .i64 t193, .int .i64 t195] rfl (by (try simp only [List.map_toArray, List.map_cons, List.map_nil]); first | done | rfl | (simp only [List.length_drop, List.length_take]; rfl)) ?_; (with_reducible refine (impl_NumDo.calls 4 t193 t195 t202 t203 _ A20.out).mono ?_); rintro e w36 ⟨rfl, hb⟩; refine ⟨_, rfl, ?_⟩; have n0_ := Aside0.mk (below_step (by repeat (first | (with_reducible first | exact HB.out | apply below_alloc | apply pw_below_drewN | apply below_drew1) | exact HB.out)) hb); clear HB; have HB := n0_; clear n0_; (try clear hb); (try clear hb2); (try clear hk); (try clear hi)) | ((with_reducible refine gate_callee (f := 16) rfl ?_); refine goesL_ (some 87) rfl rfl Try.func16 (by kernel_rfl) rfl #[.int .i64 4, .int .i64 t192, .int .i64 t195] rfl (by (try simp only [List.map_toArray, List.map_cons, List.map_nil]); first | done | rfl | (simp only [List.length_drop, List.length_take]; rfl)) ?_; (with_reducible refine (impl_NumDo.calls 4 t192 t195 t204 t205 _ A21.out).mono ?_); rintro e w37 ⟨rfl, hb⟩; refine ⟨_, rfl, ?_⟩; have n0_ := Aside0.mk (below_step (by repeat (first | (with_reducible first | exact HB.out | apply below_alloc | apply pw_below_drewN | apply below_drew1) | exact HB.out)) hb); clear HB; have HB := n0_; clear n0_; (try clear hb); (try clear hb2); (try clear hk); (try clear hi)) | ((with_reducible refine gate_callee (f := 16) rfl ?_); refine goesL_ (some 93) rfl rfl Try.func16 (by kernel_rfl) rfl #[.int .i64 5, .int .i64 t192, .int .i64 t193] rfl (by (try simp only [List.map_toArray, List.map_cons, List.map_nil]); first | done | rfl | (simp only [List.length_drop, List.length_take]; rfl)) ?_; (with_reducible refine (impl_NumDo.calls 5 t192 t193 t206 t207 _ A22.out).mono ?_); rintro e w38 ⟨rfl, hb⟩; refine ⟨_, rfl, ?_⟩; have n0_ := Aside0.mk (below_step (by repeat (first | (with_reducible first | exact HB.out | apply below_alloc | apply pw_below_drewN | apply below_drew1) | exact HB.out)) hb); clear HB; have HB := n0_; clear n0_; (try clear hb); (try clear hb2); (try clear hk); (try clear hi)))
                    go_ret
                    exact ⟨by first | rfl | (simp [errW_none, errW_some] <;> rfl) | (simp [*, errW_none, errW_some] <;> rfl), by repeat (first | (with_reducible first | exact HB.out | apply below_alloc | apply pw_below_drewN | apply below_drew1) | exact HB.out)⟩
                · rw [if_neg c31] at H
                  have c31b0 : (t202 == 0) = false := beq_eq_false_iff_ne.mpr c31
                  have c31b1 : (t202 != 0) = true := bne_iff_ne.mpr c31
                  by_cases c39 : t204 = 1
                  · rw [if_pos c39] at H
                    have c39b0 : (t204 == 1) = true := beq_iff_eq.mpr c39
                    have c39b1 : (t204 != 1) = false := bne_eq_false_iff_eq.mpr c39
                    clear c39
                    by_cases c40 : ((t206 == 1) == (t192 == t193)) = true
                    · rw [if_pos c40] at H
                      have c40b0 : ((t206 == 1) == (t192 == t193)) = true := c40
                      (try (have c40b1 : decide ((t206 == 1) = (t192 == t193)) = true := by simpa using c40))
                      (try (have c40b2 : ((t206 == 1) == (t192 == t193)) = true := by simpa using c40))
                      clear c40
                      obtain rfl := Option.some.inj H
                      go_wp2_with (first | ((with_reducible refine gate_callee (f := 16) rfl ?_); refine goesL_ (some 81) rfl rfl Try.func16 (by kernel_rfl) rfl #[.int .i64 4, .int .i64 t193, .int .i64 t195] rfl (by (try simp only [List.map_toArray, List.map_cons, List.map_nil]); first | done | rfl | (simp only [List.length_drop, List.length_take]; rfl)) ?_; (with_reducible refine (impl_NumDo.calls 4 t193 t195 t202 t203 _ A20.out).mono ?_); rintro e w41 ⟨rfl, hb⟩; refine ⟨_, rfl, ?_⟩; have n0_ := Aside0.mk (below_step (by repeat (first | (with_reducible first | exact HB.out | apply below_alloc | apply pw_below_drewN | apply below_drew1) | exact HB.out)) hb); clear HB; have HB := n0_; clear n0_; (try clear hb); (try clear hb2); (try clear hk); (try clear hi)) | ((with_reducible refine gate_callee (f := 16) rfl ?_); refine goesL_ (some 87) rfl rfl Try.func16 (by kernel_rfl) rfl #[.int .i64 4, .int .i64 t192, .int .i64 t195] rfl (by (try simp only [List.map_toArray, List.map_cons, List.map_nil]); first | done | rfl | (simp only [List.length_drop, List.length_take]; rfl)) ?_; (with_reducible refine (impl_NumDo.calls 4 t192 t195 t204 t205 _ A21.out).mono ?_); rintro e w42 ⟨rfl, hb⟩; refine ⟨_, rfl, ?_⟩; have n0_ := Aside0.mk (below_step (by repeat (first | (with_reducible first | exact HB.out | apply below_alloc | apply pw_below_drewN | apply below_drew1) | exact HB.out)) hb); clear HB; have HB := n0_; clear n0_; (try clear hb); (try clear hb2); (try clear hk); (try clear hi)) | ((with_reducible refine gate_callee (f := 16) rfl ?_); refine goesL_ (some 93) rfl rfl Try.func16 (by kernel_rfl) rfl #[.int .i64 5, .int .i64 t192, .int .i64 t193] rfl (by (try simp only [List.map_toArray, List.map_cons, List.map_nil]); first | done | rfl | (simp only [List.length_drop, List.length_take]; rfl)) ?_; (with_reducible refine (impl_NumDo.calls 5 t192 t193 t206 t207 _ A22.out).mono ?_); rintro e w43 ⟨rfl, hb⟩; refine ⟨_, rfl, ?_⟩; have n0_ := Aside0.mk (below_step (by repeat (first | (with_reducible first | exact HB.out | apply below_alloc | apply pw_below_drewN | apply below_drew1) | exact HB.out)) hb); clear HB; have HB := n0_; clear n0_; (try clear hb); (try clear hb2); (try clear hk); (try clear hi)))
                      go_ret
                      exact ⟨by first | rfl | (simp [errW_none, errW_some] <;> rfl) | (simp [*, errW_none, errW_some] <;> rfl), by repeat (first | (with_reducible first | exact HB.out | apply below_alloc | apply pw_below_drewN | apply below_drew1) | exact HB.out)⟩
                    · rw [if_neg c40] at H
                      have c40b0 : ((t206 == 1) == (t192 == t193)) = false := by simpa using c40
                      (try (have c40b1 : decide ((t206 == 1) = (t192 == t193)) = false := by simpa using c40))
                      (try (have c40b2 : ((t206 == 1) == (t192 == t193)) = false := by simpa using c40))
                      (try (have c40b3 : ¬ ((t206 == 1) = (t192 == t193)) := by simpa using c40))
                      clear c40
                      obtain rfl := Option.some.inj H
                      go_wp2_with (first | ((with_reducible refine gate_callee (f := 16) rfl ?_); refine goesL_ (some 81) rfl rfl Try.func16 (by kernel_rfl) rfl #[.int .i64 4, .int .i64 t193, .int .i64 t195] rfl (by (try simp only [List.map_toArray, List.map_cons, List.map_nil]); first | done | rfl | (simp only [List.length_drop, List.length_take]; rfl)) ?_; (with_reducible refine (impl_NumDo.calls 4 t193 t195 t202 t203 _ A20.out).mono ?_); rintro e w44 ⟨rfl, hb⟩; refine ⟨_, rfl, ?_⟩; have n0_ := Aside0.mk (below_step (by repeat (first | (with_reducible first | exact HB.out | apply below_alloc | apply pw_below_drewN | apply below_drew1) | exact HB.out)) hb); clear HB; have HB := n0_; clear n0_; (try clear hb); (try clear hb2); (try clear hk); (try clear hi)) | ((with_reducible refine gate_callee (f := 16) rfl ?_); refine goesL_ (some 87) rfl rfl Try.func16 (by kernel_rfl) rfl #[.int .i64 4, .int .i64 t192, .int .i64 t195] rfl (by (try simp only [List.map_toArray, List.map_cons, List.map_nil]); first | done | rfl | (simp only [List.length_drop, List.length_take]; rfl)) ?_; (with_reducible refine (impl_NumDo.calls 4 t192 t195 t204 t205 _ A21.out).mono ?_); rintro e w45 ⟨rfl, hb⟩; refine ⟨_, rfl, ?_⟩; have n0_ := Aside0.mk (below_step (by repeat (first | (with_reducible first | exact HB.out | apply below_alloc | apply pw_below_drewN | apply below_drew1) | exact HB.out)) hb); clear HB; have HB := n0_; clear n0_; (try clear hb); (try clear hb2); (try clear hk); (try clear hi)) | ((with_reducible refine gate_callee (f := 16) rfl ?_); refine goesL_ (some 93) rfl rfl Try.func16 (by kernel_rfl) rfl #[.int .i64 5, .int .i64 t192, .int .i64 t193] rfl (by (try simp only [List.map_toArray, List.map_cons, List.map_nil]); first | done | rfl | (simp only [List.length_drop, List.length_take]; rfl)) ?_; (with_reducible refine (impl_NumDo.calls 5 t192 t193 t206 t207 _ A22.out).mono ?_); rintro e w46 ⟨rfl, hb⟩; refine ⟨_, rfl, ?_⟩; have n0_ := Aside0.mk (below_step (by repeat (first | (with_reducible first | exact HB.out | apply below_alloc | apply pw_below_drewN | apply below_drew1) | exact HB.out)) hb); clear HB; have HB := n0_; clear n0_; (try clear hb); (try clear hb2); (try clear hk); (try clear hi)))
                      go_ret
                      exact ⟨by first | rfl | (simp [errW_none, errW_some] <;> rfl) | (simp [*, errW_none, errW_some] <;> rfl), by repeat (first | (with_reducible first | exact HB.out | apply below_alloc | apply pw_below_drewN | apply below_drew1) | exact HB.out)⟩
                  · rw [if_neg c39] at H
                    have c39b0 : (t204 == 1) = false := beq_eq_false_iff_ne.mpr c39
                    have c39b1 : (t204 != 1) = true := bne_iff_ne.mpr c39
                    obtain rfl := Option.some.inj H
                    go_wp2_with (first | ((with_reducible refine gate_callee (f := 16) rfl ?_); refine goesL_ (some 81) rfl rfl Try.func16 (by kernel_rfl) rfl #[.int .i64 4, .int .i64 t193, .int .i64 t195] rfl (by (try simp only [List.map_toArray, List.map_cons, List.map_nil]); first | done | rfl | (simp only [List.length_drop, List.length_take]; rfl)) ?_; (with_reducible refine (impl_NumDo.calls 4 t193 t195 t202 t203 _ A20.out).mono ?_); rintro e w47 ⟨rfl, hb⟩; refine ⟨_, rfl, ?_⟩; have n0_ := Aside0.mk (below_step (by repeat (first | (with_reducible first | exact HB.out | apply below_alloc | apply pw_below_drewN | apply below_drew1) | exact HB.out)) hb); clear HB; have HB := n0_; clear n0_; (try clear hb); (try clear hb2); (try clear hk); (try clear hi)) | ((with_reducible refine gate_callee (f := 16) rfl ?_); refine goesL_ (some 87) rfl rfl Try.func16 (by kernel_rfl) rfl #[.int .i64 4, .int .i64 t192, .int .i64 t195] rfl (by (try simp only [List.map_toArray, List.map_cons, List.map_nil]); first | done | rfl | (simp only [List.length_drop, List.length_take]; rfl)) ?_; (with_reducible refine (impl_NumDo.calls 4 t192 t195 t204 t205 _ A21.out).mono ?_); rintro e w48 ⟨rfl, hb⟩; refine ⟨_, rfl, ?_⟩; have n0_ := Aside0.mk (below_step (by repeat (first | (with_reducible first | exact HB.out | apply below_alloc | apply pw_below_drewN | apply below_drew1) | exact HB.out)) hb); clear HB; have HB := n0_; clear n0_; (try clear hb); (try clear hb2); (try clear hk); (try clear hi)) | ((with_reducible refine gate_callee (f := 16) rfl ?_); refine goesL_ (some 93) rfl rfl Try.func16 (by kernel_rfl) rfl #[.int .i64 5, .int .i64 t192, .int .i64 t193] rfl (by (try simp only [List.map_toArray, List.map_cons, List.map_nil]); first | done | rfl | (simp only [List.length_drop, List.length_take]; rfl)) ?_; (with_reducible refine (impl_NumDo.calls 5 t192 t193 t206 t207 _ A22.out).mono ?_); rintro e w49 ⟨rfl, hb⟩; refine ⟨_, rfl, ?_⟩; have n0_ := Aside0.mk (below_step (by repeat (first | (with_reducible first | exact HB.out | apply below_alloc | apply pw_below_drewN | apply below_drew1) | exact HB.out)) hb); clear HB; have HB := n0_; clear n0_; (try clear hb); (try clear hb2); (try clear hk); (try clear hi)))
                    go_ret
                    exact ⟨by first | rfl | (simp [errW_none, errW_some] <;> rfl) | (simp [*, errW_none, errW_some] <;> rfl), by repeat (first | (with_reducible first | exact HB.out | apply below_alloc | apply pw_below_drewN | apply below_drew1) | exact HB.out)⟩

/-- THE ONE PURE STATEMENT of laws_FnNumOrder: yours. -/
def laws_FnNumOrder.Pure : Prop := ∀ (l0 : List Int) (l1 : List Int), l0.length ≤ maxLen → l0.length * 1 ≤ 140737488351232 → (∀ x ∈ l0, (Lit.int .u8 x).wf = true) → l1.length ≤ maxLen → l1.length * 1 ≤ 140737488351232 → (∀ x ∈ l1, (Lit.int .u8 x).wf = true) → ∃ k, laws_FnNumOrder.f k l0 l1 = some true
theorem laws_FnNumOrder.walk (P : laws_FnNumOrder.Pure) (a0 : Option Addr) (len0 cap0 : Nat) (z0 : List Int) (a1 : Option Addr) (len1 cap1 : Nat) (z1 : List Int) (w : World) (w0 : (a0 = none ∧ len0 = 0 ∧ cap0 = 0 ∧ z0 = []) ∨ ∃ x, a0 = some x ∧ len0 ≤ cap0 ∧ cap0 ≤ maxLen ∧ z0.length = cap0 ∧ (∀ i, i < z0.length → w.cell? (x.add i) = some (.int .u8 (z0.getD i 0))) ∧ ∀ n ∈ z0, (Lit.int .u8 n).wf = true) (y0 : len0 * 1 ≤ 140737488351232) (w1 : (a1 = none ∧ len1 = 0 ∧ cap1 = 0 ∧ z1 = []) ∨ ∃ x, a1 = some x ∧ len1 ≤ cap1 ∧ cap1 ≤ maxLen ∧ z1.length = cap1 ∧ (∀ i, i < z1.length → w.cell? (x.add i) = some (.int .u8 (z1.getD i 0))) ∧ ∀ n ∈ z1, (Lit.int .u8 n).wf = true) (y1 : len1 * 1 ≤ 140737488351232) :
    Calls Try.prog 7 #[.slice a0 len0 cap0, .slice a1 len1 cap1] w fun e w' => e = .returned (.bool true) ∧ Below w.heap.size w w' := by
  obtain ⟨l0, rfl, hr0, hm0, hw0, hc0⟩ := ReadsInt.ofRowC w0
  obtain ⟨l1, rfl, hr1, hm1, hw1, hc1⟩ := ReadsInt.ofRowC w1
  obtain ⟨k, h⟩ := P l0 l1 hm0 y0 hw0 hm1 y1 hw1
  refine (laws_FnNumOrder.calls k _ _ l0 _ _ l1 true w (Kd.C_of_reads (d := (0 : Int)) (h1 := fun _ => rfl) hr0) hc0 (Kd.C_of_reads (d := (0 : Int)) (h1 := fun _ => rfl) hr1) hc1 h).mono ?_
  rintro e w' ⟨rfl, hd⟩
  exact ⟨rfl, hd⟩

/-! ### laws_FnNumTurn: function 8 -/
def laws_FnNumTurn.j0 : Nat → Int → Int → Int → Int → Bool → Int → Bool → Bool → Bool → Option (Bool)
  | 0, _, _, _, _, _, _, _, _, _ => none
  | k + 1, x3, x4, x5, x6, x7, x8, x9, x11, x53 => if x53 = true then (if (x7 == x11) = true then (some (x9 == x11)) else (some false)) else (if x3 = 2 then (some (x6 == (wrap64 (-x8)))) else (if x3 = 4 then (if (wrap64 (x6 + x8)) = 1 then (if x4 = x5 then (if (wrap64 (x6 + x8)) = 0 then (some (x4 == x5)) else (some false)) else (some true)) else (if (wrap64 (x6 + x8)) = 0 then (some (x4 == x5)) else (some false))) else (some (x6 == x8))))
def laws_FnNumTurn.f (k : Nat) (l0 : List Int) : Option (Bool) := if (l0.length : Int) > 1048576 then (some true) else ((spec_DrawNumDo.f k l0).bind fun bt208 => ((impl_NumDo.f bt208.1 bt208.2.1 bt208.2.2).bind fun bt211 => ((impl_NumDo.f bt208.1 bt208.2.2 bt208.2.1).bind fun bt213 => ((spec_NumDo.f k bt208.1 bt208.2.1 bt208.2.2).bind fun bt215 => (if (bt211.2 != bt215.2) = true then (laws_FnNumTurn.j0 k bt208.1 bt208.2.1 bt208.2.2 bt211.1 bt211.2 bt213.1 bt213.2 bt215.2 true) else (if (bt213.2 != bt215.2) = true then (laws_FnNumTurn.j0 k bt208.1 bt208.2.1 bt208.2.2 bt211.1 bt211.2 bt213.1 bt213.2 bt215.2 true) else (laws_FnNumTurn.j0 k bt208.1 bt208.2.1 bt208.2.2 bt211.1 bt211.2 bt213.1 bt213.2 bt215.2 (!bt211.2))))))))
theorem laws_FnNumTurn.mono_l : ∀ k, (∀ y0 y1 y2 y3 y4 y5 y6 y7 y8, LeO (laws_FnNumTurn.j0 k y0 y1 y2 y3 y4 y5 y6 y7 y8) (laws_FnNumTurn.j0 (k + 1) y0 y1 y2 y3 y4 y5 y6 y7 y8))
  | 0 => fun _ _ _ _ _ _ _ _ _ r h => by simp [laws_FnNumTurn.j0] at h
  | k + 1 => by
    have ih0 := laws_FnNumTurn.mono_l k
    · intro y0 y1 y2 y3 y4 y5 y6 y7 y8
      unfold laws_FnNumTurn.j0
      repeat' first
      | (with_reducible exact ih0 _ _ _ _ _ _ _ _ _)
      | (with_reducible exact spec_DrawNumDo.mono _ _)
      | (with_reducible exact spec_NumDo.mono _ _ _ _)
      | (with_reducible exact LeO.refl _)
      | (with_reducible exact LeO.none _)
      | (with_reducible refine LeO.ite ?_ ?_)
      | (with_reducible refine LeO.bind ?_ (fun _ => ?_))
      | exact ih0 _ _ _ _ _ _ _ _ _
      | exact spec_DrawNumDo.mono _ _
      | exact spec_NumDo.mono _ _ _ _
      | exact LeO.none _
      | refine LeO.ite ?_ ?_
      | refine LeO.bind ?_ (fun _ => ?_)
theorem laws_FnNumTurn.mono : ∀ a0 k, LeO (laws_FnNumTurn.f k a0) (laws_FnNumTurn.f (k + 1) a0) := by
  intro a0 k
  have ih0 := laws_FnNumTurn.mono_l k
  unfold laws_FnNumTurn.f
  repeat' first
      | (with_reducible exact ih0 _ _ _ _ _ _ _ _ _)
      | (with_reducible exact spec_DrawNumDo.mono _ _)
      | (with_reducible exact spec_NumDo.mono _ _ _ _)
      | (with_reducible exact LeO.refl _)
      | (with_reducible exact LeO.none _)
      | (with_reducible refine LeO.ite ?_ ?_)
      | (with_reducible refine LeO.bind ?_ (fun _ => ?_))
      | exact ih0 _ _ _ _ _ _ _ _ _
      | exact spec_DrawNumDo.mono _ _
      | exact spec_NumDo.mono _ _ _ _
      | exact LeO.none _
      | refine LeO.ite ?_ ?_
      | refine LeO.bind ?_ (fun _ => ?_)
set_option maxHeartbeats 8000000 in
set_option maxRecDepth 100000 in
theorem laws_FnNumTurn.calls (k : Nat) (A0 : Option Addr) (c0 : Nat) (l0 : List Int) (r : Bool) (w : World) (hr0 : Kd.C (Kd.int .u8) w A0 l0.length l0) (hc0 : l0.length ≤ c0) (h : laws_FnNumTurn.f k l0 = some r) :
    Calls Try.prog 8 #[.slice A0 l0.length c0] w fun e w' => e = .returned (.bool r) ∧ Below w.heap.size w w' := by
  have HR0 := Aside0.mk hr0
  have HC0 := Aside0.mk hc0
  clear hr0 hc0
  have HB := Aside0.mk (Below.refl w.heap.size w)
  have H : (if (l0.length : Int) > 1048576 then (some true) else ((spec_DrawNumDo.f k l0).bind fun bt208 => ((impl_NumDo.f bt208.1 bt208.2.1 bt208.2.2).bind fun bt211 => ((impl_NumDo.f bt208.1 bt208.2.2 bt208.2.1).bind fun bt213 => ((spec_NumDo.f k bt208.1 bt208.2.1 bt208.2.2).bind fun bt215 => (if (bt211.2 != bt215.2) = true then (laws_FnNumTurn.j0 k bt208.1 bt208.2.1 bt208.2.2 bt211.1 bt211.2 bt213.1 bt213.2 bt215.2 true) else (if (bt213.2 != bt215.2) = true then (laws_FnNumTurn.j0 k bt208.1 bt208.2.1 bt208.2.2 bt211.1 bt211.2 bt213.1 bt213.2 bt215.2 true) else (laws_FnNumTurn.j0 k bt208.1 bt208.2.1 bt208.2.2 bt211.1 bt211.2 bt213.1 bt213.2 bt215.2 (!bt211.2))))))))) = some r := h
  clear h
  by_cases c2 : (l0.length : Int) > 1048576
  · rw [if_pos c2] at H
    have c2b0 : decide (1048576 < (l0.length : Int)) = true := decide_eq_true c2
    have c2b1 : decide (1048576 < l0.length) = true := decide_eq_true (by omega)
    clear c2
    obtain rfl := Option.some.inj H
    go_enter Try.func8, Try.ntmps8
    go_wp2
    go_ret
    exact ⟨by first | rfl | (simp [errW_none, errW_some] <;> rfl) | (simp [*, errW_none, errW_some] <;> rfl), by repeat (first | (with_reducible first | exact HB.out | apply below_alloc | apply pw_below_drewN | apply below_drew1) | exact HB.out)⟩
  · rw [if_neg c2] at H
    have c2b0 : decide (1048576 < (l0.length : Int)) = false := decide_eq_false c2
    have c2b1 : decide (1048576 < l0.length) = false := decide_eq_false (by omega)
    clear c2
    replace H := Option.bind_eq_some_iff.mp H
    obtain ⟨⟨t208, t209, t210⟩, A30, H⟩ := H
    replace H : ((impl_NumDo.f t208 t209 t210).bind fun bt211 => ((impl_NumDo.f t208 t210 t209).bind fun bt213 => ((spec_NumDo.f k t208 t209 t210).bind fun bt215 => (if (bt211.2 != bt215.2) = true then (laws_FnNumTurn.j0 k t208 t209 t210 bt211.1 bt211.2 bt213.1 bt213.2 bt215.2 true) else (if (bt213.2 != bt215.2) = true then (laws_FnNumTurn.j0 k t208 t209 t210 bt211.1 bt211.2 bt213.1 bt213.2 bt215.2 true) else (laws_FnNumTurn.j0 k t208 t209 t210 bt211.1 bt211.2 bt213.1 bt213.2 bt215.2 (!bt211.2))))))) = some r := H
    have A3 := Aside0.mk A30
    clear A30
    replace H := Option.bind_eq_some_iff.mp H
    obtain ⟨⟨t211, t212⟩, A40, H⟩ := H
    replace H : ((impl_NumDo.f t208 t210 t209).bind fun bt213 => ((spec_NumDo.f k t208 t209 t210).bind fun bt215 => (if (t212 != bt215.2) = true then (laws_FnNumTurn.j0 k t208 t209 t210 t211 t212 bt213.1 bt213.2 bt215.2 true) else (if (bt213.2 != bt215.2) = true then (laws_FnNumTurn.j0 k t208 t209 t210 t211 t212 bt213.1 bt213.2 bt215.2 true) else (laws_FnNumTurn.j0 k t208 t209 t210 t211 t212 bt213.1 bt213.2 bt215.2 (!t212)))))) = some r := H
    have A4 := Aside0.mk A40
    clear A40
    replace H := Option.bind_eq_some_iff.mp H
    obtain ⟨⟨t213, t214⟩, A50, H⟩ := H
    replace H : ((spec_NumDo.f k t208 t209 t210).bind fun bt215 => (if (t212 != bt215.2) = true then (laws_FnNumTurn.j0 k t208 t209 t210 t211 t212 t213 t214 bt215.2 true) else (if (t214 != bt215.2) = true then (laws_FnNumTurn.j0 k t208 t209 t210 t211 t212 t213 t214 bt215.2 true) else (laws_FnNumTurn.j0 k t208 t209 t210 t211 t212 t213 t214 bt215.2 (!t212))))) = some r := H
    have A5 := Aside0.mk A50
    clear A50
    replace H := Option.bind_eq_some_iff.mp H
    obtain ⟨⟨t215, t216⟩, A60, H⟩ := H
    replace H : (if (t212 != t216) = true then (laws_FnNumTurn.j0 k t208 t209 t210 t211 t212 t213 t214 t216 true) else (if (t214 != t216) = true then (laws_FnNumTurn.j0 k t208 t209 t210 t211 t212 t213 t214 t216 true) else (laws_FnNumTurn.j0 k t208 t209 t210 t211 t212 t213 t214 t216 (!t212)))) = some r := H
    have A6 := Aside0.mk A60
    clear A60
    have HC7 := Aside0.mk H
    clear H
    go_enter Try.func8, Try.ntmps8
    go_upto_region 7 with (first | ((with_reducible refine gate_callee (f := 17) rfl ?_); refine goesL_ (some 17) rfl rfl Try.func17 (by kernel_rfl) rfl #[.slice A0 l0.length c0] rfl (by (try simp only [List.map_toArray, List.map_cons, List.map_nil]); first | done | rfl | (simp only [List.length_drop, List.length_take]; rfl)) ?_; (with_reducible refine (spec_DrawNumDo.calls k _ _ l0 t208 t209 t210 _ ?side1 ?side2 A3.out).mono ?_); (case side1 => repeat (first | exact HR0.out | (with_reducible refine Kd.C_alloc ?_ _) | (with_reducible refine Kd.C_drewN ?_ _) | (with_reducible refine Kd.C_drew ?_))); (case side2 => exact HC0.out); rintro e w8 ⟨rfl, hb⟩; refine ⟨_, rfl, ?_⟩; have n0_ := Aside0.mk (below_step (by repeat (first | (with_reducible first | exact HB.out | apply below_alloc | apply pw_below_drewN | apply below_drew1) | exact HB.out)) hb); clear HB; have HB := n0_; clear n0_; (try clear hb); (try clear hb2); (try clear hk); (try clear hi)) | ((with_reducible refine gate_callee (f := 16) rfl ?_); refine goesL_ (some 25) rfl rfl Try.func16 (by kernel_rfl) rfl #[.int .i64 t208, .int .i64 t209, .int .i64 t210] rfl (by (try simp only [List.map_toArray, List.map_cons, List.map_nil]); first | done | rfl | (simp only [List.length_drop, List.length_take]; rfl)) ?_; (with_reducible refine (impl_NumDo.calls t208 t209 t210 t211 t212 _ A4.out).mono ?_); rintro e w9 ⟨rfl, hb⟩; refine ⟨_, rfl, ?_⟩; have n0_ := Aside0.mk (below_step (by repeat (first | (with_reducible first | exact HB.out | apply below_alloc | apply pw_below_drewN | apply below_drew1) | exact HB.out)) hb); clear HB; have HB := n0_; clear n0_; (try clear hb); (try clear hb2); (try clear hk); (try clear hi)) | ((with_reducible refine gate_callee (f := 16) rfl ?_); refine goesL_ (some 32) rfl rfl Try.func16 (by kernel_rfl) rfl #[.int .i64 t208, .int .i64 t210, .int .i64 t209] rfl (by (try simp only [List.map_toArray, List.map_cons, List.map_nil]); first | done | rfl | (simp only [List.length_drop, List.length_take]; rfl)) ?_; (with_reducible refine (impl_NumDo.calls t208 t210 t209 t213 t214 _ A5.out).mono ?_); rintro e w10 ⟨rfl, hb⟩; refine ⟨_, rfl, ?_⟩; have n0_ := Aside0.mk (below_step (by repeat (first | (with_reducible first | exact HB.out | apply below_alloc | apply pw_below_drewN | apply below_drew1) | exact HB.out)) hb); clear HB; have HB := n0_; clear n0_; (try clear hb); (try clear hb2); (try clear hk); (try clear hi)) | ((with_reducible refine gate_callee (f := 15) rfl ?_); refine goesL_ (some 39) rfl rfl Try.func15 (by kernel_rfl) rfl #[.int .i64 t208, .int .i64 t209, .int .i64 t210] rfl (by (try simp only [List.map_toArray, List.map_cons, List.map_nil]); first | done | rfl | (simp only [List.length_drop, List.length_take]; rfl)) ?_; (with_reducible refine (spec_NumDo.calls k t208 t209 t210 t215 t216 _ A6.out).mono ?_); rintro e w' ⟨rfl, ⟨nd, rfl⟩⟩; refine ⟨_, rfl, ?_⟩))
    (try simp only [Act.put, List.setIfInBounds_toArray, List.set_cons_zero, List.set_cons_succ])
    go_cut [53] (fun v53 wc => ∃ (kq : Nat) (x53_6 : Bool), v53 = .bool x53_6 ∧ Aside0 (laws_FnNumTurn.j0 kq t208 t209 t210 t211 t212 t213 t214 t216 x53_6 = some r) ∧ Aside0 (kq ≤ k) ∧ Aside0 (Below w.heap.size w wc))
    case first =>
      have H := HC7.out
      clear HC7
      by_cases c11 : (t212 != t216) = true
      · rw [if_pos c11] at H
        have c11b0 : (t212 != t216) = true := c11
        (try (have c11b1 : decide (t212 = t216) = false := by simpa using c11))
        (try (have c11b2 : (t212 == t216) = false := by simpa using c11))
        (try (have c11b3 : ¬ (t212 = t216) := by simpa using c11))
        clear c11
        (first | rw [c11b0] | (simp only [i64_w, i32_w]; rw [c11b0]) | skip)
        have H' := Aside0.mk H
        clear H
        go_wp2
        go_meet
        case rel => exact ⟨_, (true), (by first | rfl | (simp; done) | (simp [*]; done)), H', ⟨by first | omega | exact Nat.le_refl _⟩, ⟨by repeat (first | (with_reducible first | exact HB.out | apply below_alloc | apply pw_below_drewN | apply below_drew1) | exact HB.out)⟩⟩
      · rw [if_neg c11] at H
        have c11b0 : (t212 != t216) = false := by simpa using c11
        (try (have c11b1 : decide (t212 = t216) = true := by simpa using c11))
        (try (have c11b2 : (t212 == t216) = true := by simpa using c11))
        clear c11
        (first | rw [c11b0] | (simp only [i64_w, i32_w]; rw [c11b0]) | skip)
        by_cases c12 : (t214 != t216) = true
        · rw [if_pos c12] at H
          have c12b0 : (t214 != t216) = true := c12
          (try (have c12b1 : decide (t214 = t216) = false := by simpa using c12))
          (try (have c12b2 : (t214 == t216) = false := by simpa using c12))
          (try (have c12b3 : ¬ (t214 = t216) := by simpa using c12))
          clear c12
          have H' := Aside0.mk H
          clear H
          go_wp2
          go_meet
          case rel => exact ⟨_, (true), (by first | rfl | (simp; done) | (simp [*]; done)), H', ⟨by first | omega | exact Nat.le_refl _⟩, ⟨by repeat (first | (with_reducible first | exact HB.out | apply below_alloc | apply pw_below_drewN | apply below_drew1) | exact HB.out)⟩⟩
        · rw [if_neg c12] at H
          have c12b0 : (t214 != t216) = false := by simpa using c12
          (try (have c12b1 : decide (t214 = t216) = true := by simpa using c12))
          (try (have c12b2 : (t214 == t216) = true := by simpa using c12))
          clear c12
          have H' := Aside0.mk H
          clear H
          go_wp2
          go_meet
          case rel => exact ⟨_, (!t212), (by first | rfl | (simp; done) | (simp [*]; done)), H', ⟨by first | omega | exact Nat.le_refl _⟩, ⟨by repeat (first | (with_reducible first | exact HB.out | apply below_alloc | apply pw_below_drewN | apply below_drew1) | exact HB.out)⟩⟩
    case rest =>
      clear HC7
      try clear c1
      try clear c2
      try clear c2b0
      try clear c2b1
      try clear p2
      try clear c8
      try clear c11
      try clear c11b0
      try clear c11b1
      try clear c11b2
      try clear c12
      try clear c12b0
      try clear c12b1
      try clear c12b2
      obtain ⟨kq, x53_6, rfl, HA, HJ6, HB⟩ := hcut
      cases kq with
      | zero => exact absurd HA.out (by simp [laws_FnNumTurn.j0])
      | succ kj6 =>
        have H := HA.out
        clear HA
        simp only [laws_FnNumTurn.j0] at H
        by_cases c13 : x53_6 = true
        · subst c13
          have H1 : (if (t212 == t216) = true then (some (t214 == t216)) else (some false)) = some r := by rw [if_pos rfl] at H; exact H
          clear H
          have H := H1
          clear H1
          by_cases c14 : (t212 == t216) = true
          · rw [if_pos c14] at H
            have c14b0 : (t212 == t216) = true := c14
            (try (have c14b1 : decide (t212 = t216) = true := by simpa using c14))
            (try (have c14b2 : (t212 == t216) = true := by simpa using c14))
            clear c14
            obtain rfl := Option.some.inj H
            go_wp2
            go_ret
            exact ⟨by first | rfl | (simp [errW_none, errW_some] <;> rfl) | (simp [*, errW_none, errW_some] <;> rfl), by repeat (first | (with_reducible first | exact HB.out | apply below_alloc | apply pw_below_drewN | apply below_drew1) | exact HB.out)⟩
          · rw [if_neg c14] at H
            have c14b0 : (t212 == t216) = false := by simpa using c14
            (try (have c14b1 : decide (t212 = t216) = false := by simpa using c14))
            (try (have c14b2 : (t212 == t216) = false := by simpa using c14))
            (try (have c14b3 : ¬ (t212 = t216) := by simpa using c14))
            clear c14
            obtain rfl := Option.some.inj H
            go_wp2
            go_ret
            exact ⟨by first | rfl | (simp [errW_none, errW_some] <;> rfl) | (simp [*, errW_none, errW_some] <;> rfl), by repeat (first | (with_reducible first | exact HB.out | apply below_alloc | apply pw_below_drewN | apply below_drew1) | exact HB.out)⟩
        · replace c13 := Bool.eq_false_iff.mpr c13
          subst c13
          have H1 : (if t208 = 2 then (some (t211 == (wrap64 (-t213)))) else (if t208 = 4 then (if (wrap64 (t211 + t213)) = 1 then (if t209 = t210 then (if (wrap64 (t211 + t213)) = 0 then (some (t209 == t210)) else (some false)) else (some true)) else (if (wrap64 (t211 + t213)) = 0 then (some (t209 == t210)) else (some false))) else (some (t211 == t213)))) = some r := by rw [if_neg (show ¬ (false = true) by decide)] at H; exact H
          clear H
          have H := H1
          clear H1
          by_cases c15 : t208 = 2
          · rw [if_pos c15] at H
            have c15b0 : (t208 == 2) = true := beq_iff_eq.mpr c15
            have c15b1 : (t208 != 2) = false := bne_eq_false_iff_eq.mpr c15
            clear c15
            obtain rfl := Option.some.inj H
            go_wp2
            go_ret
            exact ⟨by first | rfl | (simp [errW_none, errW_some] <;> rfl) | (simp [*, errW_none, errW_some] <;> rfl), by repeat (first | (with_reducible first | exact HB.out | apply below_alloc | apply pw_below_drewN | apply below_drew1) | exact HB.out)⟩
          · rw [if_neg c15] at H
            have c15b0 : (t208 == 2) = false := beq_eq_false_iff_ne.mpr c15
            have c15b1 : (t208 != 2) = true := bne_iff_ne.mpr c15
            by_cases c16 : t208 = 4
            · rw [if_pos c16] at H
              have c16b0 : (t208 == 4) = true := beq_iff_eq.mpr c16
              have c16b1 : (t208 != 4) = false := bne_eq_false_iff_eq.mpr c16
              clear c16
              by_cases c17 : (wrap64 (t211 + t213)) = 1
              · rw [if_pos c17] at H
                have c17b0 : ((wrap64 (t211 + t213)) == 1) = true := beq_iff_eq.mpr c17
                have c17b1 : ((wrap64 (t211 + t213)) != 1) = false := bne_eq_false_iff_eq.mpr c17
                clear c17
                by_cases c18 : t209 = t210
                · rw [if_pos c18] at H
                  have c18b0 : (t209 == t210) = true := beq_iff_eq.mpr c18
                  have c18b1 : (t209 != t210) = false := bne_eq_false_iff_eq.mpr c18
                  clear c18
                  by_cases c19 : (wrap64 (t211 + t213)) = 0
                  · rw [if_pos c19] at H
                    have c19b0 : ((wrap64 (t211 + t213)) == 0) = true := beq_iff_eq.mpr c19
                    have c19b1 : ((wrap64 (t211 + t213)) != 0) = false := bne_eq_false_iff_eq.mpr c19
                    clear c19
                    obtain rfl := Option.some.inj H
                    go_wp2
                    go_ret
                    exact ⟨by first | rfl | (simp [errW_none, errW_some] <;> rfl) | (simp [*, errW_none, errW_some] <;> rfl), by repeat (first | (with_reducible first | exact HB.out | apply below_alloc | apply pw_below_drewN | apply below_drew1) | exact HB.out)⟩
                  · rw [if_neg c19] at H
                    have c19b0 : ((wrap64 (t211 + t213)) == 0) = false := beq_eq_false_iff_ne.mpr c19
                    have c19b1 : ((wrap64 (t211 + t213)) != 0) = true := bne_iff_ne.mpr c19
                    obtain rfl := Option.some.inj H
                    go_wp2
                    go_ret
                    exact ⟨by first | rfl | (simp [errW_none, errW_some] <;> rfl) | (simp [*, errW_none, errW_some] <;> rfl), by repeat (first | (with_reducible first | exact HB.out | apply below_alloc | apply pw_below_drewN | apply below_drew1) | exact HB.out)⟩
                · rw [if_neg c18] at H
                  have c18b0 : (t209 == t210) = false := beq_eq_false_iff_ne.mpr c18
                  have c18b1 : (t209 != t210) = true := bne_iff_ne.mpr c18
                  obtain rfl := Option.some.inj H
                  go_wp2
                  go_ret
                  exact ⟨by first | rfl | (simp [errW_none, errW_some] <;> rfl) | (simp [*, errW_none, errW_some] <;> rfl), by repeat (first | (with_reducible first | exact HB.out | apply below_alloc | apply pw_below_drewN | apply below_drew1) | exact HB.out)⟩
              · rw [if_neg c17] at H
                have c17b0 : ((wrap64 (t211 + t213)) == 1) = false := beq_eq_false_iff_ne.mpr c17
                have c17b1 : ((wrap64 (t211 + t213)) != 1) = true := bne_iff_ne.mpr c17
                by_cases c20 : (wrap64 (t211 + t213)) = 0
                · rw [if_pos c20] at H
                  have c20b0 : ((wrap64 (t211 + t213)) == 0) = true := beq_iff_eq.mpr c20
                  have c20b1 : ((wrap64 (t211 + t213)) != 0) = false := bne_eq_false_iff_eq.mpr c20
                  clear c20
                  obtain rfl := Option.some.inj H
                  go_wp2
                  go_ret
                  exact ⟨by first | rfl | (simp [errW_none, errW_some] <;> rfl) | (simp [*, errW_none, errW_some] <;> rfl), by repeat (first | (with_reducible first | exact HB.out | apply below_alloc | apply pw_below_drewN | apply below_drew1) | exact HB.out)⟩
                · rw [if_neg c20] at H
                  have c20b0 : ((wrap64 (t211 + t213)) == 0) = false := beq_eq_false_iff_ne.mpr c20
                  have c20b1 : ((wrap64 (t211 + t213)) != 0) = true := bne_iff_ne.mpr c20
                  obtain rfl := Option.some.inj H
                  go_wp2
                  go_ret
                  exact ⟨by first | rfl | (simp [errW_none, errW_some] <;> rfl) | (simp [*, errW_none, errW_some] <;> rfl), by repeat (first | (with_reducible first | exact HB.out | apply below_alloc | apply pw_below_drewN | apply below_drew1) | exact HB.out)⟩
            · rw [if_neg c16] at H
              have c16b0 : (t208 == 4) = false := beq_eq_false_iff_ne.mpr c16
              have c16b1 : (t208 != 4) = true := bne_iff_ne.mpr c16
              obtain rfl := Option.some.inj H
              go_wp2
              go_ret
              exact ⟨by first | rfl | (simp [errW_none, errW_some] <;> rfl) | (simp [*, errW_none, errW_some] <;> rfl), by repeat (first | (with_reducible first | exact HB.out | apply below_alloc | apply pw_below_drewN | apply below_drew1) | exact HB.out)⟩

/-- THE ONE PURE STATEMENT of laws_FnNumTurn: yours. -/
def laws_FnNumTurn.Pure : Prop := ∀ (l0 : List Int), l0.length ≤ maxLen → l0.length * 1 ≤ 140737488351232 → (∀ x ∈ l0, (Lit.int .u8 x).wf = true) → ∃ k, laws_FnNumTurn.f k l0 = some true
theorem laws_FnNumTurn.walk (P : laws_FnNumTurn.Pure) (a0 : Option Addr) (len0 cap0 : Nat) (z0 : List Int) (w : World) (w0 : (a0 = none ∧ len0 = 0 ∧ cap0 = 0 ∧ z0 = []) ∨ ∃ x, a0 = some x ∧ len0 ≤ cap0 ∧ cap0 ≤ maxLen ∧ z0.length = cap0 ∧ (∀ i, i < z0.length → w.cell? (x.add i) = some (.int .u8 (z0.getD i 0))) ∧ ∀ n ∈ z0, (Lit.int .u8 n).wf = true) (y0 : len0 * 1 ≤ 140737488351232) :
    Calls Try.prog 8 #[.slice a0 len0 cap0] w fun e w' => e = .returned (.bool true) ∧ Below w.heap.size w w' := by
  obtain ⟨l0, rfl, hr0, hm0, hw0, hc0⟩ := ReadsInt.ofRowC w0
  obtain ⟨k, h⟩ := P l0 hm0 y0 hw0
  refine (laws_FnNumTurn.calls k _ _ l0 true w (Kd.C_of_reads (d := (0 : Int)) (h1 := fun _ => rfl) hr0) hc0 h).mono ?_
  rintro e w' ⟨rfl, hd⟩
  exact ⟨rfl, hd⟩

end Go.Proofs.Ytjmlpgpkmhjdiaa.GNum
