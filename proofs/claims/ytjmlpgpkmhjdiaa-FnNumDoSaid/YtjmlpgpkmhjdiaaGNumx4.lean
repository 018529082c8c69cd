/- What functions of the translated program answer (or a law's row out of it), shown by walking their text; no condition. Written for this claim by a program of the session's own (gprint.py, over the kit's print). Not trusted: Lean checks it. -/
import Derived.Test.YtjmlpgpkmhjdiaaGNumx0
import Derived.Test.YtjmlpgpkmhjdiaaGNumx1
import Derived.Test.YtjmlpgpkmhjdiaaGNumx2
import Derived.Test.YtjmlpgpkmhjdiaaGNumx3
namespace Go.Proofs.Ytjmlpgpkmhjdiaa.GNum
open Go.RowKit Go.Proofs.YtjmlpgpkmhjdiaaW.PrintWords Go.Proofs.YtjmlpgpkmhjdiaaW.PrintLast Go.Proofs.YtjmlpgpkmhjdiaaW.PrintMore
attribute [local go_sem] max2_int min2_int max_two min_two max_three min_three max_four min_four   -- for this text's walks alone
set_option linter.unusedVariables false
set_option linter.unusedSimpArgs false

/-! ### laws_FnNumDo: function 4 -/
def laws_FnNumDo.j0 : Nat → Int → Int → Int → Int → Bool → Bool → Option (Bool)
  | 0, _, _, _, _, _, _ => none
  | k + 1, x3, x4, x5, x6, x7, x52 => if x52 = true then (some false) else (if x7 = true then (if x3 = 1 then ((impl_NumCut.f (wrap64 (x4 + x5))).bind fun t157 => (some (x6 == t157))) else (if x3 = 2 then ((impl_NumCut.f (wrap64 (x4 - x5))).bind fun t158 => (some (x6 == t158))) else (if x3 = 3 then ((impl_NumCut.f (wrap64 (x4 * x5))).bind fun t159 => (some (x6 == t159))) else (if x6 = 0 then (some true) else (some (x6 == 1)))))) else (if x6 = 0 then ((spec_NumOk.f x4).bind fun t155 => (if t155 = true then ((spec_NumOk.f x5).bind fun t156 => (if t156 = true then (if x3 < 1 then (some true) else (some (decide (x3 > 5)))) else (some true))) else (some true))) else (some false)))
def laws_FnNumDo.f (k : Nat) (l0 : List Int) : Option (Bool) := if (l0.length : Int) > 1048576 then (some true) else ((spec_DrawNumDo.f k l0).bind fun bt145 => ((impl_NumDo.f bt145.1 bt145.2.1 bt145.2.2).bind fun bt148 => ((spec_NumDo.f k bt145.1 bt145.2.1 bt145.2.2).bind fun bt150 => (if bt148.1 = bt150.1 then (if (bt148.2 != bt150.2) = true then (laws_FnNumDo.j0 k bt145.1 bt145.2.1 bt145.2.2 bt148.1 bt148.2 true) else ((impl_NumOk.f bt145.2.1).bind fun t152 => ((spec_NumOk.f bt145.2.1).bind fun t153 => (if (t152 != t153) = true then (laws_FnNumDo.j0 k bt145.1 bt145.2.1 bt145.2.2 bt148.1 bt148.2 true) else ((impl_NumOk.f bt148.1).bind fun t154 => (laws_FnNumDo.j0 k bt145.1 bt145.2.1 bt145.2.2 bt148.1 bt148.2 (!t154))))))) else (laws_FnNumDo.j0 k bt145.1 bt145.2.1 bt145.2.2 bt148.1 bt148.2 true)))))
theorem laws_FnNumDo.mono_l : ∀ k, (∀ y0 y1 y2 y3 y4 y5, LeO (laws_FnNumDo.j0 k y0 y1 y2 y3 y4 y5) (laws_FnNumDo.j0 (k + 1) y0 y1 y2 y3 y4 y5))
  | 0 => fun _ _ _ _ _ _ r h => by simp [laws_FnNumDo.j0] at h
  | k + 1 => by
    have ih0 := laws_FnNumDo.mono_l k
    · intro y0 y1 y2 y3 y4 y5
      unfold laws_FnNumDo.j0
      repeat' first
      | (with_reducible exact ih0 _ _ _ _ _ _)
      | (with_reducible exact spec_DrawNumDo.mono _ _)
      | (with_reducible exact spec_NumDo.mono _ _ _ _)
      | (with_reducible exact LeO.refl _)
      | (with_reducible exact LeO.none _)
      | (with_reducible refine LeO.ite ?_ ?_)
      | (with_reducible refine LeO.bind ?_ (fun _ => ?_))
      | exact ih0 _ _ _ _ _ _
      | exact spec_DrawNumDo.mono _ _
      | exact spec_NumDo.mono _ _ _ _
      | exact LeO.none _
      | refine LeO.ite ?_ ?_
      | refine LeO.bind ?_ (fun _ => ?_)
theorem laws_FnNumDo.mono : ∀ a0 k, LeO (laws_FnNumDo.f k a0) (laws_FnNumDo.f (k + 1) a0) := by
  intro a0 k
  have ih0 := laws_FnNumDo.mono_l k
  unfold laws_FnNumDo.f
  repeat' first
      | (with_reducible exact ih0 _ _ _ _ _ _)
      | (with_reducible exact spec_DrawNumDo.mono _ _)
      | (with_reducible exact spec_NumDo.mono _ _ _ _)
      | (with_reducible exact LeO.refl _)
      | (with_reducible exact LeO.none _)
      | (with_reducible refine LeO.ite ?_ ?_)
      | (with_reducible refine LeO.bind ?_ (fun _ => ?_))
      | exact ih0 _ _ _ _ _ _
      | exact spec_DrawNumDo.mono _ _
      | exact spec_NumDo.mono _ _ _ _
      | exact LeO.none _
      | refine LeO.ite ?_ ?_
      | refine LeO.bind ?_ (fun _ => ?_)
set_option maxHeartbeats 8000000 in
set_option maxRecDepth 100000 in
theorem laws_FnNumDo.calls (k : Nat) (A0 : Option Addr) (c0 : Nat) (l0 : List Int) (r : Bool) (w : World) (hr0 : Kd.C (Kd.int .u8) w A0 l0.length l0) (hc0 : l0.length ≤ c0) (h : laws_FnNumDo.f k l0 = some r) :
    Calls Try.prog 4 #[.slice A0 l0.length c0] w fun e w' => e = .returned (.bool r) ∧ Below w.heap.size w w' := by
  have HR0 := Aside0.mk hr0
  have HC0 := Aside0.mk hc0
  clear hr0 hc0
  have HB := Aside0.mk (Below.refl w.heap.size w)
  have H : (if (l0.length : Int) > 1048576 then (some true) else ((spec_DrawNumDo.f k l0).bind fun bt145 => ((impl_NumDo.f bt145.1 bt145.2.1 bt145.2.2).bind fun bt148 => ((spec_NumDo.f k bt145.1 bt145.2.1 bt145.2.2).bind fun bt150 => (if bt148.1 = bt150.1 then (if (bt148.2 != bt150.2) = true then (laws_FnNumDo.j0 k bt145.1 bt145.2.1 bt145.2.2 bt148.1 bt148.2 true) else ((impl_NumOk.f bt145.2.1).bind fun t152 => ((spec_NumOk.f bt145.2.1).bind fun t153 => (if (t152 != t153) = true then (laws_FnNumDo.j0 k bt145.1 bt145.2.1 bt145.2.2 bt148.1 bt148.2 true) else ((impl_NumOk.f bt148.1).bind fun t154 => (laws_FnNumDo.j0 k bt145.1 bt145.2.1 bt145.2.2 bt148.1 bt148.2 (!t154))))))) else (laws_FnNumDo.j0 k bt145.1 bt145.2.1 bt145.2.2 bt148.1 bt148.2 true)))))) = some r := h
  clear h
  by_cases c2 : (l0.length : Int) > 1048576
  · rw [if_pos c2] at H
    have c2b0 : decide (1048576 < (l0.length : Int)) = true := decide_eq_true c2
    have c2b1 : decide (1048576 < l0.length) = true := decide_eq_true (by omega)
    clear c2
    obtain rfl := Option.some.inj H
    go_enter Try.func4, Try.ntmps4
    go_wp2
    go_ret
    exact ⟨by first | rfl | (simp [errW_none, errW_some] <;> rfl) | (simp [*, errW_none, errW_some] <;> rfl), by repeat (first | (with_reducible first | exact HB.out | apply below_alloc | apply pw_below_drewN | apply below_drew1) | exact HB.out)⟩
  · rw [if_neg c2] at H
    have c2b0 : decide (1048576 < (l0.length : Int)) = false := decide_eq_false c2
    have c2b1 : decide (1048576 < l0.length) = false := decide_eq_false (by omega)
    clear c2
    replace H := Option.bind_eq_some_iff.mp H
    obtain ⟨⟨t145, t146, t147⟩, A30, H⟩ := H
    replace H : ((impl_NumDo.f t145 t146 t147).bind fun bt148 => ((spec_NumDo.f k t145 t146 t147).bind fun bt150 => (if bt148.1 = bt150.1 then (if (bt148.2 != bt150.2) = true then (laws_FnNumDo.j0 k t145 t146 t147 bt148.1 bt148.2 true) else ((impl_NumOk.f t146).bind fun t152 => ((spec_NumOk.f t146).bind fun t153 => (if (t152 != t153) = true then (laws_FnNumDo.j0 k t145 t146 t147 bt148.1 bt148.2 true) else ((impl_NumOk.f bt148.1).bind fun t154 => (laws_FnNumDo.j0 k t145 t146 t147 bt148.1 bt148.2 (!t154))))))) else (laws_FnNumDo.j0 k t145 t146 t147 bt148.1 bt148.2 true)))) = some r := H
    have A3 := Aside0.mk A30
    clear A30
    replace H := Option.bind_eq_some_iff.mp H
    obtain ⟨⟨t148, t149⟩, A40, H⟩ := H
    replace H : ((spec_NumDo.f k t145 t146 t147).bind fun bt150 => (if t148 = bt150.1 then (if (t149 != bt150.2) = true then (laws_FnNumDo.j0 k t145 t146 t147 t148 t149 true) else ((impl_NumOk.f t146).bind fun t152 => ((spec_NumOk.f t146).bind fun t153 => (if (t152 != t153) = true then (laws_FnNumDo.j0 k t145 t146 t147 t148 t149 true) else ((impl_NumOk.f t148).bind fun t154 => (laws_FnNumDo.j0 k t145 t146 t147 t148 t149 (!t154))))))) else (laws_FnNumDo.j0 k t145 t146 t147 t148 t149 true))) = some r := H
    have A4 := Aside0.mk A40
    clear A40
    replace H := Option.bind_eq_some_iff.mp H
    obtain ⟨⟨t150, t151⟩, A50, H⟩ := H
    replace H : (if t148 = t150 then (if (t149 != t151) = true then (laws_FnNumDo.j0 k t145 t146 t147 t148 t149 true) else ((impl_NumOk.f t146).bind fun t152 => ((spec_NumOk.f t146).bind fun t153 => (if (t152 != t153) = true then (laws_FnNumDo.j0 k t145 t146 t147 t148 t149 true) else ((impl_NumOk.f t148).bind fun t154 => (laws_FnNumDo.j0 k t145 t146 t147 t148 t149 (!t154))))))) else (laws_FnNumDo.j0 k t145 t146 t147 t148 t149 true)) = some r := H
    have A5 := Aside0.mk A50
    clear A50
    have HC6 := Aside0.mk H
    clear H
    go_enter Try.func4, Try.ntmps4
    go_upto_region 6 with (first | ((with_reducible refine gate_callee (f := 17) rfl ?_); refine goesL_ (some 15) rfl rfl Try.func17 (by kernel_rfl) rfl #[.slice A0 l0.length c0] rfl (by (try simp only [List.map_toArray, List.map_cons, List.map_nil]); first | done | rfl | (simp only [List.length_drop, List.length_take]; rfl)) ?_; (with_reducible refine (spec_DrawNumDo.calls k _ _ l0 t145 t146 t147 _ ?side1 ?side2 A3.out).mono ?_); (case side1 => repeat (first | exact HR0.out | (with_reducible refine Kd.C_alloc ?_ _) | (with_reducible refine Kd.C_drewN ?_ _) | (with_reducible refine Kd.C_drew ?_))); (case side2 => exact HC0.out); rintro e w7 ⟨rfl, hb⟩; refine ⟨_, rfl, ?_⟩; have n0_ := Aside0.mk (below_step (by repeat (first | (with_reducible first | exact HB.out | apply below_alloc | apply pw_below_drewN | apply below_drew1) | exact HB.out)) hb); clear HB; have HB := n0_; clear n0_; (try clear hb); (try clear hb2); (try clear hk); (try clear hi)) | ((with_reducible refine gate_callee (f := 16) rfl ?_); refine goesL_ (some 23) rfl rfl Try.func16 (by kernel_rfl) rfl #[.int .i64 t145, .int .i64 t146, .int .i64 t147] rfl (by (try simp only [List.map_toArray, List.map_cons, List.map_nil]); first | done | rfl | (simp only [List.length_drop, List.length_take]; rfl)) ?_; (with_reducible refine (impl_NumDo.calls t145 t146 t147 t148 t149 _ A4.out).mono ?_); rintro e w8 ⟨rfl, hb⟩; refine ⟨_, rfl, ?_⟩; have n0_ := Aside0.mk (below_step (by repeat (first | (with_reducible first | exact HB.out | apply below_alloc | apply pw_below_drewN | apply below_drew1) | exact HB.out)) hb); clear HB; have HB := n0_; clear n0_; (try clear hb); (try clear hb2); (try clear hk); (try clear hi)) | ((with_reducible refine gate_callee (f := 15) rfl ?_); refine goesL_ (some 30) rfl rfl Try.func15 (by kernel_rfl) rfl #[.int .i64 t145, .int .i64 t146, .int .i64 t147] rfl (by (try simp only [List.map_toArray, List.map_cons, List.map_nil]); first | done | rfl | (simp only [List.length_drop, List.length_take]; rfl)) ?_; (with_reducible refine (spec_NumDo.calls k t145 t146 t147 t150 t151 _ A5.out).mono ?_); rintro e w' ⟨rfl, ⟨nd, rfl⟩⟩; refine ⟨_, rfl, ?_⟩))
    (try simp only [Act.put, List.setIfInBounds_toArray, List.set_cons_zero, List.set_cons_succ])
    go_cut [52] (fun v52 wc => ∃ (kq : Nat) (x52_5 : Bool), v52 = .bool x52_5 ∧ Aside0 (laws_FnNumDo.j0 kq t145 t146 t147 t148 t149 x52_5 = some r) ∧ Aside0 (kq ≤ k) ∧ Aside0 (Below w.heap.size w wc))
    case first =>
      have H := HC6.out
      clear HC6
      by_cases c9 : t148 = t150
      · rw [if_pos c9] at H
        have c9b0 : (t148 == t150) = true := beq_iff_eq.mpr c9
        have c9b1 : (t148 != t150) = false := bne_eq_false_iff_eq.mpr c9
        clear c9
        (first | rw [c9b0] | (simp only [i64_w, i32_w]; rw [c9b0]) | skip)
        by_cases c10 : (t149 != t151) = true
        · rw [if_pos c10] at H
          have c10b0 : (t149 != t151) = true := c10
          (try (have c10b1 : decide (t149 = t151) = false := by simpa using c10))
          (try (have c10b2 : (t149 == t151) = false := by simpa using c10))
          (try (have c10b3 : ¬ (t149 = t151) := by simpa using c10))
          clear c10
          have H' := Aside0.mk H
          clear H
          go_wp2
          go_meet
          case rel => exact ⟨_, (true), (by first | rfl | (simp; done) | (simp [*]; done)), H', ⟨by first | omega | exact Nat.le_refl _⟩, ⟨by repeat (first | (with_reducible first | exact HB.out | apply below_alloc | apply pw_below_drewN | apply below_drew1) | exact HB.out)⟩⟩
        · rw [if_neg c10] at H
          have c10b0 : (t149 != t151) = false := by simpa using c10
          (try (have c10b1 : decide (t149 = t151) = true := by simpa using c10))
          (try (have c10b2 : (t149 == t151) = true := by simpa using c10))
          clear c10
          replace H := Option.bind_eq_some_iff.mp H
          obtain ⟨t152, A110, H⟩ := H
          replace H : ((spec_NumOk.f t146).bind fun t153 => (if (t152 != t153) = true then (laws_FnNumDo.j0 k t145 t146 t147 t148 t149 true) else ((impl_NumOk.f t148).bind fun t154 => (laws_FnNumDo.j0 k t145 t146 t147 t148 t149 (!t154))))) = some r := H
          have A11 := Aside0.mk A110
          clear A110
          replace H := Option.bind_eq_some_iff.mp H
          obtain ⟨t153, A120, H⟩ := H
          replace H : (if (t152 != t153) = true then (laws_FnNumDo.j0 k t145 t146 t147 t148 t149 true) else ((impl_NumOk.f t148).bind fun t154 => (laws_FnNumDo.j0 k t145 t146 t147 t148 t149 (!t154)))) = some r := H
          have A12 := Aside0.mk A120
          clear A120
          by_cases c13 : (t152 != t153) = true
          · rw [if_pos c13] at H
            have c13b0 : (t152 != t153) = true := c13
            (try (have c13b1 : decide (t152 = t153) = false := by simpa using c13))
            (try (have c13b2 : (t152 == t153) = false := by simpa using c13))
            (try (have c13b3 : ¬ (t152 = t153) := by simpa using c13))
            clear c13
            have H' := Aside0.mk H
            clear H
            go_wp2_with (first | (go_at_call 18; (with_reducible refine (impl_NumOk.calls t146 t152 _ A11.out).mono ?_); rintro e w' ⟨rfl, ⟨nd, rfl⟩⟩) | (go_at_call 19; (with_reducible refine (spec_NumOk.calls t146 t153 _ A12.out).mono ?_); rintro e w' ⟨rfl, ⟨nd, rfl⟩⟩))
            go_meet
            case rel => exact ⟨_, (true), (by first | rfl | (simp; done) | (simp [*]; done)), H', ⟨by first | omega | exact Nat.le_refl _⟩, ⟨by repeat (first | (with_reducible first | exact HB.out | apply below_alloc | apply pw_below_drewN | apply below_drew1) | exact HB.out)⟩⟩
          · rw [if_neg c13] at H
            have c13b0 : (t152 != t153) = false := by simpa using c13
            (try (have c13b1 : decide (t152 = t153) = true := by simpa using c13))
            (try (have c13b2 : (t152 == t153) = true := by simpa using c13))
            clear c13
            replace H := Option.bind_eq_some_iff.mp H
            obtain ⟨t154, A140, H⟩ := H
            replace H : (laws_FnNumDo.j0 k t145 t146 t147 t148 t149 (!t154)) = some r := H
            have A14 := Aside0.mk A140
            clear A140
            have H' := Aside0.mk H
            clear H
            go_wp2_with (first | (go_at_call 18; (with_reducible refine (impl_NumOk.calls t146 t152 _ A11.out).mono ?_); rintro e w' ⟨rfl, ⟨nd, rfl⟩⟩) | (go_at_call 19; (with_reducible refine (spec_NumOk.calls t146 t153 _ A12.out).mono ?_); rintro e w' ⟨rfl, ⟨nd, rfl⟩⟩) | (go_at_call 18; (with_reducible refine (impl_NumOk.calls t148 t154 _ A14.out).mono ?_); rintro e w' ⟨rfl, ⟨nd, rfl⟩⟩))
            go_meet
            case rel => exact ⟨_, (!t154), (by first | rfl | (simp; done) | (simp [*]; done)), H', ⟨by first | omega | exact Nat.le_refl _⟩, ⟨by repeat (first | (with_reducible first | exact HB.out | apply below_alloc | apply pw_below_drewN | apply below_drew1) | exact HB.out)⟩⟩
      · rw [if_neg c9] at H
        have c9b0 : (t148 == t150) = false := beq_eq_false_iff_ne.mpr c9
        have c9b1 : (t148 != t150) = true := bne_iff_ne.mpr c9
        (first | rw [c9b0] | (simp only [i64_w, i32_w]; rw [c9b0]) | skip)
        have H' := Aside0.mk H
        clear H
        go_wp2
        go_meet
        case rel => exact ⟨_, (true), (by first | rfl | (simp; done) | (simp [*]; done)), H', ⟨by first | omega | exact Nat.le_refl _⟩, ⟨by repeat (first | (with_reducible first | exact HB.out | apply below_alloc | apply pw_below_drewN | apply below_drew1) | exact HB.out)⟩⟩
    case rest =>
      clear HC6
      try clear c1
      try clear c2
      try clear c2b0
      try clear c2b1
      try clear p2
      try clear c4
      try clear c9
      try clear c9b0
      try clear c9b1
      try clear c10
      try clear c10b0
      try clear c10b1
      try clear c10b2
      try clear c13
      try clear c13b0
      try clear c13b1
      try clear c13b2
      obtain ⟨kq, x52_5, rfl, HA, HJ5, HB⟩ := hcut
      cases kq with
      | zero => exact absurd HA.out (by simp [laws_FnNumDo.j0])
      | succ kj5 =>
        have H := HA.out
        clear HA
        simp only [laws_FnNumDo.j0] at H
        by_cases c15 : x52_5 = true
        · subst c15
          have H1 : (some false) = some r := by rw [if_pos rfl] at H; exact H
          clear H
          have H := H1
          clear H1
          obtain rfl := Option.some.inj H
          go_wp2
          go_ret
          exact ⟨by first | rfl | (simp [errW_none, errW_some] <;> rfl) | (simp [*, errW_none, errW_some] <;> rfl), by repeat (first | (with_reducible first | exact HB.out | apply below_alloc | apply pw_below_drewN | apply below_drew1) | exact HB.out)⟩
        · replace c15 := Bool.eq_false_iff.mpr c15
          subst c15
          have H1 : (if t149 = true then (if t145 = 1 then ((impl_NumCut.f (wrap64 (t146 + t147))).bind fun t157 => (some (t148 == t157))) else (if t145 = 2 then ((impl_NumCut.f (wrap64 (t146 - t147))).bind fun t158 => (some (t148 == t158))) else (if t145 = 3 then ((impl_NumCut.f (wrap64 (t146 * t147))).bind fun t159 => (some (t148 == t159))) else (if t148 = 0 then (some true) else (some (t148 == 1)))))) else (if t148 = 0 then ((spec_NumOk.f t146).bind fun t155 => (if t155 = true then ((spec_NumOk.f t147).bind fun t156 => (if t156 = true then (if t145 < 1 then (some true) else (some (decide (t145 > 5)))) else (some true))) else (some true))) else (some false))) = some r := by rw [if_neg (show ¬ (false = true) by decide)] at H; exact H
          clear H
          have H := H1
          clear H1
          by_cases c16 : t149 = true
          · subst c16
            have H1 : (if t145 = 1 then ((impl_NumCut.f (wrap64 (t146 + t147))).bind fun t157 => (some (t148 == t157))) else (if t145 = 2 then ((impl_NumCut.f (wrap64 (t146 - t147))).bind fun t158 => (some (t148 == t158))) else (if t145 = 3 then ((impl_NumCut.f (wrap64 (t146 * t147))).bind fun t159 => (some (t148 == t159))) else (if t148 = 0 then (some true) else (some (t148 == 1)))))) = some r := by rw [if_pos rfl] at H; exact H
            clear H
            have H := H1
            clear H1
            by_cases c17 : t145 = 1
            · rw [if_pos c17] at H
              have c17b0 : (t145 == 1) = true := beq_iff_eq.mpr c17
              have c17b1 : (t145 != 1) = false := bne_eq_false_iff_eq.mpr c17
              clear c17
              replace H := Option.bind_eq_some_iff.mp H
              obtain ⟨t157, A180, H⟩ := H
              replace H : (some (t148 == t157)) = some r := H
              have A18 := Aside0.mk A180
              clear A180
              obtain rfl := Option.some.inj H
              go_wp2_with (first | ((with_reducible refine gate_callee (f := 20) rfl ?_); refine goesL_ (some 82) rfl rfl Try.func20 (by kernel_rfl) rfl #[.int .i64 (wrap64 (t146 + t147))] rfl (by (try simp only [List.map_toArray, List.map_cons, List.map_nil]); first | done | rfl | (simp only [List.length_drop, List.length_take]; rfl)) ?_; (with_reducible refine (impl_NumCut.calls (wrap64 (t146 + t147)) t157 _ A18.out).mono ?_); rintro e w19 ⟨rfl, hb⟩; refine ⟨_, rfl, ?_⟩; have n0_ := Aside0.mk (below_step (by repeat (first | (with_reducible first | exact HB.out | apply below_alloc | apply pw_below_drewN | apply below_drew1) | exact HB.out)) hb); clear HB; have HB := n0_; clear n0_; (try clear hb); (try clear hb2); (try clear hk); (try clear hi)))
              go_ret
              exact ⟨by first | rfl | (simp [errW_none, errW_some] <;> rfl) | (simp [*, errW_none, errW_some] <;> rfl), by repeat (first | (with_reducible first | exact HB.out | apply below_alloc | apply pw_below_drewN | apply below_drew1) | exact HB.out)⟩
            · rw [if_neg c17] at H
              have c17b0 : (t145 == 1) = false := beq_eq_false_iff_ne.mpr c17
              have c17b1 : (t145 != 1) = true := bne_iff_ne.mpr c17
              by_cases c20 : t145 = 2
              · rw [if_pos c20] at H
                have c20b0 : (t145 == 2) = true := beq_iff_eq.mpr c20
                have c20b1 : (t145 != 2) = false := bne_eq_false_iff_eq.mpr c20
                clear c20
                replace H := Option.bind_eq_some_iff.mp H
                obtain ⟨t158, A210, H⟩ := H
                replace H : (some (t148 == t158)) = some r := H
                have A21 := Aside0.mk A210
                clear A210
                obtain rfl := Option.some.inj H
                go_wp2_with (first | ((with_reducible refine gate_callee (f := 20) rfl ?_); refine goesL_ (some 90) rfl rfl Try.func20 (by kernel_rfl) rfl #[.int .i64 (wrap64 (t146 - t147))] rfl (by (try simp only [List.map_toArray, List.map_cons, List.map_nil]); first | done | rfl | (simp only [List.length_drop, List.length_take]; rfl)) ?_; (with_reducible refine (impl_NumCut.calls (wrap64 (t146 - t147)) t158 _ A21.out).mono ?_); rintro e w22 ⟨rfl, hb⟩; refine ⟨_, rfl, ?_⟩; have n0_ := Aside0.mk (below_step (by repeat (first | (with_reducible first | exact HB.out | apply below_alloc | apply pw_below_drewN | apply below_drew1) | exact HB.out)) hb); clear HB; have HB := n0_; clear n0_; (try clear hb); (try clear hb2); (try clear hk); (try clear hi)))
                go_ret
                exact ⟨by first | rfl | (simp [errW_none, errW_some] <;> rfl) | (simp [*, errW_none, errW_some] <;> rfl), by repeat (first | (with_reducible first | exact HB.out | apply below_alloc | apply pw_below_drewN | apply below_drew1) | exact HB.out)⟩
              · rw [if_neg c20] at H
                have c20b0 : (t145 == 2) = false := beq_eq_false_iff_ne.mpr c20
                have c20b1 : (t145 != 2) = true := bne_iff_ne.mpr c20
                by_cases c23 : t145 = 3
                · rw [if_pos c23] at H
                  have c23b0 : (t145 == 3) = true := beq_iff_eq.mpr c23
                  have c23b1 : (t145 != 3) = false := bne_eq_false_iff_eq.mpr c23
                  clear c23
                  replace H := Option.bind_eq_some_iff.mp H
                  obtain ⟨t159, A240, H⟩ := H
                  replace H : (some (t148 == t159)) = some r := H
                  have A24 := Aside0.mk A240
                  clear A240
                  obtain rfl := Option.some.inj H
                  go_wp2_with (first | ((with_reducible refine gate_callee (f := 20) rfl ?_); refine goesL_ (some 98) rfl rfl Try.func20 (by kernel_rfl) rfl #[.int .i64 (wrap64 (t146 * t147))] rfl (by (try simp only [List.map_toArray, List.map_cons, List.map_nil]); first | done | rfl | (simp only [List.length_drop, List.length_take]; rfl)) ?_; (with_reducible refine (impl_NumCut.calls (wrap64 (t146 * t147)) t159 _ A24.out).mono ?_); rintro e w25 ⟨rfl, hb⟩; refine ⟨_, rfl, ?_⟩; have n0_ := Aside0.mk (below_step (by repeat (first | (with_reducible first | exact HB.out | apply below_alloc | apply pw_below_drewN | apply below_drew1) | exact HB.out)) hb); clear HB; have HB := n0_; clear n0_; (try clear hb); (try clear hb2); (try clear hk); (try clear hi)))
                  go_ret
                  exact ⟨by first | rfl | (simp [errW_none, errW_some] <;> rfl) | (simp [*, errW_none, errW_some] <;> rfl), by repeat (first | (with_reducible first | exact HB.out | apply below_alloc | apply pw_below_drewN | apply below_drew1) | exact HB.out)⟩
                · rw [if_neg c23] at H
                  have c23b0 : (t145 == 3) = false := beq_eq_false_iff_ne.mpr c23
                  have c23b1 : (t145 != 3) = true := bne_iff_ne.mpr c23
                  by_cases c26 : t148 = 0
                  · rw [if_pos c26] at H
                    have c26b0 : (t148 == 0) = true := beq_iff_eq.mpr c26
                    have c26b1 : (t148 != 0) = false := bne_eq_false_iff_eq.mpr c26
                    clear c26
                    obtain rfl := Option.some.inj H
                    go_wp2
                    go_ret
                    exact ⟨by first | rfl | (simp [errW_none, errW_some] <;> rfl) | (simp [*, errW_none, errW_some] <;> rfl), by repeat (first | (with_reducible first | exact HB.out | apply below_alloc | apply pw_below_drewN | apply below_drew1) | exact HB.out)⟩
                  · rw [if_neg c26] at H
                    have c26b0 : (t148 == 0) = false := beq_eq_false_iff_ne.mpr c26
                    have c26b1 : (t148 != 0) = true := bne_iff_ne.mpr c26
                    obtain rfl := Option.some.inj H
                    go_wp2
                    go_ret
                    exact ⟨by first | rfl | (simp [errW_none, errW_some] <;> rfl) | (simp [*, errW_none, errW_some] <;> rfl), by repeat (first | (with_reducible first | exact HB.out | apply below_alloc | apply pw_below_drewN | apply below_drew1) | exact HB.out)⟩
          · replace c16 := Bool.eq_false_iff.mpr c16
            subst c16
            have H1 : (if t148 = 0 then ((spec_NumOk.f t146).bind fun t155 => (if t155 = true then ((spec_NumOk.f t147).bind fun t156 => (if t156 = true then (if t145 < 1 then (some true) else (some (decide (t145 > 5)))) else (some true))) else (some true))) else (some false)) = some r := by rw [if_neg (show ¬ (false = true) by decide)] at H; exact H
            clear H
            have H := H1
            clear H1
            by_cases c27 : t148 = 0
            · rw [if_pos c27] at H
              have c27b0 : (t148 == 0) = true := beq_iff_eq.mpr c27
              have c27b1 : (t148 != 0) = false := bne_eq_false_iff_eq.mpr c27
              clear c27
              replace H := Option.bind_eq_some_iff.mp H
              obtain ⟨t155, A280, H⟩ := H
              replace H : (if t155 = true then ((spec_NumOk.f t147).bind fun t156 => (if t156 = true then (if t145 < 1 then (some true) else (some (decide (t145 > 5)))) else (some true))) else (some true)) = some r := H
              have A28 := Aside0.mk A280
              clear A280
              by_cases c29 : t155 = true
              · subst c29
                have H1 : ((spec_NumOk.f t147).bind fun t156 => (if t156 = true then (if t145 < 1 then (some true) else (some (decide (t145 > 5)))) else (some true))) = some r := by rw [if_pos rfl] at H; exact H
                clear H
                have H := H1
                clear H1
                replace H := Option.bind_eq_some_iff.mp H
                obtain ⟨t156, A300, H⟩ := H
                replace H : (if t156 = true then (if t145 < 1 then (some true) else (some (decide (t145 > 5)))) else (some true)) = some r := H
                have A30 := Aside0.mk A300
                clear A300
                by_cases c31 : t156 = true
                · subst c31
                  have H1 : (if t145 < 1 then (some true) else (some (decide (t145 > 5)))) = some r := by rw [if_pos rfl] at H; exact H
                  clear H
                  have H := H1
                  clear H1
                  by_cases c32 : t145 < 1
                  · rw [if_pos c32] at H
                    have c32b0 : decide (t145 < 1) = true := decide_eq_true c32
                    clear c32
                    obtain rfl := Option.some.inj H
                    go_wp2_with (first | (go_at_call 19; (with_reducible refine (spec_NumOk.calls t146 true _ A28.out).mono ?_); rintro e w' ⟨rfl, ⟨nd, rfl⟩⟩) | (go_at_call 19; (with_reducible refine (spec_NumOk.calls t147 true _ A30.out).mono ?_); rintro e w' ⟨rfl, ⟨nd, rfl⟩⟩))
                    go_ret
                    exact ⟨by first | rfl | (simp [errW_none, errW_some] <;> rfl) | (simp [*, errW_none, errW_some] <;> rfl), by repeat (first | (with_reducible first | exact HB.out | apply below_alloc | apply pw_below_drewN | apply below_drew1) | exact HB.out)⟩
                  · rw [if_neg c32] at H
                    have c32b0 : decide (t145 < 1) = false := decide_eq_false c32
                    clear c32
                    obtain rfl := Option.some.inj H
                    go_wp2_with (first | (go_at_call 19; (with_reducible refine (spec_NumOk.calls t146 true _ A28.out).mono ?_); rintro e w' ⟨rfl, ⟨nd, rfl⟩⟩) | (go_at_call 19; (with_reducible refine (spec_NumOk.calls t147 true _ A30.out).mono ?_); rintro e w' ⟨rfl, ⟨nd, rfl⟩⟩))
                    go_ret
                    exact ⟨by first | rfl | (simp [errW_none, errW_some] <;> rfl) | (simp [*, errW_none, errW_some] <;> rfl), by repeat (first | (with_reducible first | exact HB.out | apply below_alloc | apply pw_below_drewN | apply below_drew1) | exact HB.out)⟩
                · replace c31 := Bool.eq_false_iff.mpr c31
                  subst c31
                  have H1 : (some true) = some r := by rw [if_neg (show ¬ (false = true) by decide)] at H; exact H
                  clear H
                  have H := H1
                  clear H1
                  obtain rfl := Option.some.inj H
                  go_wp2_with (first | (go_at_call 19; (with_reducible refine (spec_NumOk.calls t146 true _ A28.out).mono ?_); rintro e w' ⟨rfl, ⟨nd, rfl⟩⟩) | (go_at_call 19; (with_reducible refine (spec_NumOk.calls t147 false _ A30.out).mono ?_); rintro e w' ⟨rfl, ⟨nd, rfl⟩⟩))
                  go_ret
                  exact ⟨by first | rfl | (simp [errW_none, errW_some] <;> rfl) | (simp [*, errW_none, errW_some] <;> rfl), by repeat (first | (with_reducible first | exact HB.out | apply below_alloc | apply pw_below_drewN | apply below_drew1) | exact HB.out)⟩
              · replace c29 := Bool.eq_false_iff.mpr c29
                subst c29
                have H1 : (some true) = some r := by rw [if_neg (show ¬ (false = true) by decide)] at H; exact H
                clear H
                have H := H1
                clear H1
                obtain rfl := Option.some.inj H
                go_wp2_with (first | (go_at_call 19; (with_reducible refine (spec_NumOk.calls t146 false _ A28.out).mono ?_); rintro e w' ⟨rfl, ⟨nd, rfl⟩⟩))
                go_ret
                exact ⟨by first | rfl | (simp [errW_none, errW_some] <;> rfl) | (simp [*, errW_none, errW_some] <;> rfl), by repeat (first | (with_reducible first | exact HB.out | apply below_alloc | apply pw_below_drewN | apply below_drew1) | exact HB.out)⟩
            · rw [if_neg c27] at H
              have c27b0 : (t148 == 0) = false := beq_eq_false_iff_ne.mpr c27
              have c27b1 : (t148 != 0) = true := bne_iff_ne.mpr c27
              obtain rfl := Option.some.inj H
              go_wp2
              go_ret
              exact ⟨by first | rfl | (simp [errW_none, errW_some] <;> rfl) | (simp [*, errW_none, errW_some] <;> rfl), by repeat (first | (with_reducible first | exact HB.out | apply below_alloc | apply pw_below_drewN | apply below_drew1) | exact HB.out)⟩

/-- THE ONE PURE STATEMENT of laws_FnNumDo: yours. -/
def laws_FnNumDo.Pure : Prop := ∀ (l0 : List Int), l0.length ≤ maxLen → l0.length * 1 ≤ 140737488351232 → (∀ x ∈ l0, (Lit.int .u8 x).wf = true) → ∃ k, laws_FnNumDo.f k l0 = some true
theorem laws_FnNumDo.walk (P : laws_FnNumDo.Pure) (a0 : Option Addr) (len0 cap0 : Nat) (z0 : List Int) (w : World) (w0 : (a0 = none ∧ len0 = 0 ∧ cap0 = 0 ∧ z0 = []) ∨ ∃ x, a0 = some x ∧ len0 ≤ cap0 ∧ cap0 ≤ maxLen ∧ z0.length = cap0 ∧ (∀ i, i < z0.length → w.cell? (x.add i) = some (.int .u8 (z0.getD i 0))) ∧ ∀ n ∈ z0, (Lit.int .u8 n).wf = true) (y0 : len0 * 1 ≤ 140737488351232) :
    Calls Try.prog 4 #[.slice a0 len0 cap0] w fun e w' => e = .returned (.bool true) ∧ Below w.heap.size w w' := by
  obtain ⟨l0, rfl, hr0, hm0, hw0, hc0⟩ := ReadsInt.ofRowC w0
  obtain ⟨k, h⟩ := P l0 hm0 y0 hw0
  refine (laws_FnNumDo.calls k _ _ l0 true w (Kd.C_of_reads (d := (0 : Int)) (h1 := fun _ => rfl) hr0) hc0 h).mono ?_
  rintro e w' ⟨rfl, hd⟩
  exact ⟨rfl, hd⟩

end Go.Proofs.Ytjmlpgpkmhjdiaa.GNum
