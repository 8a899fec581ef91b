/- Written by a program of this session (wip/patch_print.py over the kit's printer). -/
import Derived.Test.YtkkokkmhldceiaaAM0
namespace Go.Proofs.Ytkkokkmhldceiaa.M
open Go.RowKit Go.Proofs.YtkkokkmhldceiaaW.PrintWords Go.Proofs.YtkkokkmhldceiaaW.PrintLast Go.Proofs.YtkkokkmhldceiaaW.PrintMore
attribute [local go_sem] max2_int min2_int max_two min_two max_three min_three max_four min_four   -- for this text's walks alone
set_option linter.unusedVariables false
set_option linter.unusedSimpArgs false

/-! ### laws_heldBusS: function 50 -/
def laws_heldBusS.l0 : Nat → List (S69) → Int → Int → Option (Int)
  | 0, _, _, _ => none
  | k + 1, x0, x1, x5 => if x5 < (x0.length : Int) then (if 0 ≤ x5 then (if ((rd_T69 x0 x5).f0) = x1 then (if 0 ≤ (wrap64 (x1 + 1)) then (if (wrap64 (x1 + 1)) ≤ 4096 then (if (((FloatKind.f32.format.order ((rd_T69 x0 x5).f1).re (mk32 (wrap64 (x1 + 1))) == some .eq) && (FloatKind.f32.format.order ((rd_T69 x0 x5).f1).im 1065353216 == some .eq)) = true) then (if 0 ≤ (wrap64 ((wrap64 (x1 + 1)) + 1)) then (if (wrap64 ((wrap64 (x1 + 1)) + 1)) ≤ 4096 then (if (((FloatKind.f32.format.order ((rd_T69 x0 x5).f2).re (mk32 (wrap64 ((wrap64 (x1 + 1)) + 1))) == some .eq) && (FloatKind.f32.format.order ((rd_T69 x0 x5).f2).im 1065353216 == some .eq)) = true) then (if ((rd_T69 x0 x5).f3) = (wrap64 ((wrap64 ((wrap64 (x1 + 1)) + 1)) + 1)) then (if 0 ≤ (wrap64 ((wrap64 ((wrap64 ((wrap64 (x1 + 1)) + 1)) + 1)) + 1)) then (if (wrap64 ((wrap64 ((wrap64 ((wrap64 (x1 + 1)) + 1)) + 1)) + 1)) ≤ 4096 then (if (((FloatKind.f32.format.order ((rd_T69 x0 x5).f4.f0).re (mk32 (wrap64 ((wrap64 ((wrap64 ((wrap64 (x1 + 1)) + 1)) + 1)) + 1))) == some .eq) && (FloatKind.f32.format.order ((rd_T69 x0 x5).f4.f0).im 1065353216 == some .eq)) = true) then (if 0 ≤ (wrap64 ((wrap64 ((wrap64 ((wrap64 ((wrap64 (x1 + 1)) + 1)) + 1)) + 1)) + 1)) then (if (wrap64 ((wrap64 ((wrap64 ((wrap64 ((wrap64 (x1 + 1)) + 1)) + 1)) + 1)) + 1)) ≤ 4096 then (if (((FloatKind.f32.format.order ((rd_T69 x0 x5).f4.f1).re (mk32 (wrap64 ((wrap64 ((wrap64 ((wrap64 ((wrap64 (x1 + 1)) + 1)) + 1)) + 1)) + 1))) == some .eq) && (FloatKind.f32.format.order ((rd_T69 x0 x5).f4.f1).im 1065353216 == some .eq)) = true) then (if 0 ≤ (wrap64 ((wrap64 ((wrap64 ((wrap64 ((wrap64 ((wrap64 (x1 + 1)) + 1)) + 1)) + 1)) + 1)) + 1)) then (if (wrap64 ((wrap64 ((wrap64 ((wrap64 ((wrap64 ((wrap64 (x1 + 1)) + 1)) + 1)) + 1)) + 1)) + 1)) ≤ 4096 then (if (((FloatKind.f32.format.order ((rd_T69 x0 x5).f4.f2).re (mk32 (wrap64 ((wrap64 ((wrap64 ((wrap64 ((wrap64 ((wrap64 (x1 + 1)) + 1)) + 1)) + 1)) + 1)) + 1))) == some .eq) && (FloatKind.f32.format.order ((rd_T69 x0 x5).f4.f2).im 1065353216 == some .eq)) = true) then (if ((rd_T69 x0 x5).f5) = (wrap64 ((wrap64 ((wrap64 ((wrap64 ((wrap64 ((wrap64 ((wrap64 (x1 + 1)) + 1)) + 1)) + 1)) + 1)) + 1)) + 1)) then (laws_heldBusS.l0 k x0 (wrap64 ((wrap64 ((wrap64 ((wrap64 ((wrap64 ((wrap64 ((wrap64 ((wrap64 (x1 + 1)) + 1)) + 1)) + 1)) + 1)) + 1)) + 1)) + 1)) (wrap64 (x5 + 1))) else (some (-1))) else (some (-1))) else (none)) else (none)) else (some (-1))) else (none)) else (none)) else (some (-1))) else (none)) else (none)) else (some (-1))) else (some (-1))) else (none)) else (none)) else (some (-1))) else (none)) else (none)) else (some (-1))) else (none)) else (some x1)
def laws_heldBusS.f (k : Nat) (l0 : List (S69)) (a1 : Int) : Option (Int) := laws_heldBusS.l0 k l0 a1 0
theorem laws_heldBusS.mono_l : ∀ k, (∀ y0 y1 y2, LeO (laws_heldBusS.l0 k y0 y1 y2) (laws_heldBusS.l0 (k + 1) y0 y1 y2))
  | 0 => fun _ _ _ r h => by simp [laws_heldBusS.l0] at h
  | k + 1 => by
    have ih0 := laws_heldBusS.mono_l k
    · intro y0 y1 y2
      unfold laws_heldBusS.l0
      repeat' first
      | (with_reducible exact ih0 _ _ _)
      | (with_reducible exact LeO.refl _)
      | (with_reducible refine LeO.ite ?_ ?_)
theorem laws_heldBusS.mono : ∀ a0 a1 k, LeO (laws_heldBusS.f k a0 a1) (laws_heldBusS.f (k + 1) a0 a1) := by
  intro a0 a1 k
  have ih0 := laws_heldBusS.mono_l k
  unfold laws_heldBusS.f
  repeat' first
      | (with_reducible exact ih0 _ _ _)
set_option maxHeartbeats 8000000 in
set_option maxRecDepth 100000 in
theorem laws_heldBusS.calls (k : Nat) (A0 : Option Addr) (c0 : Nat) (l0 : List (S69)) (a1 : Int) (r : Int) (w : World) (hr0 : Kd.C k69 w A0 l0.length l0) (hc0 : l0.length ≤ c0) (h : laws_heldBusS.f k l0 a1 = some r) :
    Calls Try.prog 50 #[.slice A0 l0.length c0, .int .i64 a1] w fun e w' => e = .returned (.int .i64 r) ∧ Below w.heap.size w w' := by
  have HR0 := Aside0.mk hr0
  have HC0 := Aside0.mk hc0
  clear hr0 hc0
  have HB := Aside0.mk (Below.refl w.heap.size w)
  have H : (laws_heldBusS.l0 k l0 a1 0) = some r := h
  clear h
  have H' := Aside0.mk H
  clear H
  go_enter Try.func50, Try.ntmps50
  go_wp2
  go_loopg [1, 5] k (fun kq v1 v5 w' => ∃ (x1_1 : Int) (x5_1 : Int), v1 = .int .i64 x1_1 ∧ v5 = .int .i64 x5_1 ∧ Aside0 (laws_heldBusS.l0 kq l0 x1_1 x5_1 = some r) ∧ Aside0 (kq ≤ k) ∧ Aside0 (Below w.heap.size w w'))
  case atStart => exact ⟨(a1), (0), (by rfl), (by rfl), H', ⟨Nat.le_refl _⟩, ⟨by with_reducible exact HB.out⟩⟩
  case round =>
    clear H'
    obtain ⟨x1_1, x5_1, rfl, rfl, HA, HK1, HB⟩ := hrel
    cases gk with
    | zero => exact absurd HA.out (by simp [laws_heldBusS.l0])
    | succ k1 =>
      have H := HA.out
      clear HA
      simp only [laws_heldBusS.l0] at H
      by_cases c3 : x5_1 < (l0.length : Int)
      · rw [if_pos c3] at H
        have c3b0 : decide (x5_1 < (l0.length : Int)) = true := decide_eq_true c3
        clear c3
        by_cases c4 : 0 ≤ x5_1
        · rw [if_pos c4] at H
          have c4b0 : decide (0 ≤ x5_1) = true := decide_eq_true c4
          clear c4
          by_cases c5 : ((rd_T69 l0 x5_1).f0) = x1_1
          · rw [if_pos c5] at H
            have c5b0 : (((rd_T69 l0 x5_1).f0) == x1_1) = true := beq_iff_eq.mpr c5
            have c5b1 : (((rd_T69 l0 x5_1).f0) != x1_1) = false := bne_eq_false_iff_eq.mpr c5
            clear c5
            obtain ⟨ji6, hji6⟩ : ∃ j_ : Int, (wrap64 (x1_1 + 1)) = j_ := ⟨_, rfl⟩
            replace H : (if 0 ≤ (ji6) then (if (ji6) ≤ 4096 then (if (((FloatKind.f32.format.order ((rd_T69 l0 x5_1).f1).re (mk32 (ji6)) == some .eq) && (FloatKind.f32.format.order ((rd_T69 l0 x5_1).f1).im 1065353216 == some .eq)) = true) then (if 0 ≤ (wrap64 ((ji6) + 1)) then (if (wrap64 ((ji6) + 1)) ≤ 4096 then (if (((FloatKind.f32.format.order ((rd_T69 l0 x5_1).f2).re (mk32 (wrap64 ((ji6) + 1))) == some .eq) && (FloatKind.f32.format.order ((rd_T69 l0 x5_1).f2).im 1065353216 == some .eq)) = true) then (if ((rd_T69 l0 x5_1).f3) = (wrap64 ((wrap64 ((ji6) + 1)) + 1)) then (if 0 ≤ (wrap64 ((wrap64 ((wrap64 ((ji6) + 1)) + 1)) + 1)) then (if (wrap64 ((wrap64 ((wrap64 ((ji6) + 1)) + 1)) + 1)) ≤ 4096 then (if (((FloatKind.f32.format.order ((rd_T69 l0 x5_1).f4.f0).re (mk32 (wrap64 ((wrap64 ((wrap64 ((ji6) + 1)) + 1)) + 1))) == some .eq) && (FloatKind.f32.format.order ((rd_T69 l0 x5_1).f4.f0).im 1065353216 == some .eq)) = true) then (if 0 ≤ (wrap64 ((wrap64 ((wrap64 ((wrap64 ((ji6) + 1)) + 1)) + 1)) + 1)) then (if (wrap64 ((wrap64 ((wrap64 ((wrap64 ((ji6) + 1)) + 1)) + 1)) + 1)) ≤ 4096 then (if (((FloatKind.f32.format.order ((rd_T69 l0 x5_1).f4.f1).re (mk32 (wrap64 ((wrap64 ((wrap64 ((wrap64 ((ji6) + 1)) + 1)) + 1)) + 1))) == some .eq) && (FloatKind.f32.format.order ((rd_T69 l0 x5_1).f4.f1).im 1065353216 == some .eq)) = true) then (if 0 ≤ (wrap64 ((wrap64 ((wrap64 ((wrap64 ((wrap64 ((ji6) + 1)) + 1)) + 1)) + 1)) + 1)) then (if (wrap64 ((wrap64 ((wrap64 ((wrap64 ((wrap64 ((ji6) + 1)) + 1)) + 1)) + 1)) + 1)) ≤ 4096 then (if (((FloatKind.f32.format.order ((rd_T69 l0 x5_1).f4.f2).re (mk32 (wrap64 ((wrap64 ((wrap64 ((wrap64 ((wrap64 ((ji6) + 1)) + 1)) + 1)) + 1)) + 1))) == some .eq) && (FloatKind.f32.format.order ((rd_T69 l0 x5_1).f4.f2).im 1065353216 == some .eq)) = true) then (if ((rd_T69 l0 x5_1).f5) = (wrap64 ((wrap64 ((wrap64 ((wrap64 ((wrap64 ((wrap64 ((ji6) + 1)) + 1)) + 1)) + 1)) + 1)) + 1)) then (laws_heldBusS.l0 k1 l0 (wrap64 ((wrap64 ((wrap64 ((wrap64 ((wrap64 ((wrap64 ((wrap64 ((ji6) + 1)) + 1)) + 1)) + 1)) + 1)) + 1)) + 1)) (wrap64 (x5_1 + 1))) else (some (-1))) else (some (-1))) else (none)) else (none)) else (some (-1))) else (none)) else (none)) else (some (-1))) else (none)) else (none)) else (some (-1))) else (some (-1))) else (none)) else (none)) else (some (-1))) else (none)) else (none)) = some r := by (rw [hji6] at H; exact H)
            have hji6w : (IntKind.i64.wrap (x1_1 + 1)) = ji6 := (i64_w _).trans hji6
            by_cases c7 : 0 ≤ (ji6)
            · rw [if_pos c7] at H
              have c7b0 := eq_true c7
              have c7b1 : decide (0 ≤ (ji6)) = true := decide_eq_true c7
              clear c7
              by_cases c8 : (ji6) ≤ 4096
              · rw [if_pos c8] at H
                have c8b0 := eq_true c8
                have c8b1 : decide ((ji6) ≤ 4096) = true := decide_eq_true c8
                clear c8
                by_cases c9 : (((FloatKind.f32.format.order ((rd_T69 l0 x5_1).f1).re (mk32 (ji6)) == some .eq) && (FloatKind.f32.format.order ((rd_T69 l0 x5_1).f1).im 1065353216 == some .eq)) = true)
                · rw [if_pos c9] at H
                  have c9b0 : ((FloatKind.f32.format.order ((rd_T69 l0 x5_1).f1).re (mk32 (ji6)) == some .eq) && (FloatKind.f32.format.order ((rd_T69 l0 x5_1).f1).im 1065353216 == some .eq)) = true := c9
                  clear c9
                  obtain ⟨ji10, hji10⟩ : ∃ j_ : Int, (wrap64 ((ji6) + 1)) = j_ := ⟨_, rfl⟩
                  replace H : (if 0 ≤ (ji10) then (if (ji10) ≤ 4096 then (if (((FloatKind.f32.format.order ((rd_T69 l0 x5_1).f2).re (mk32 (ji10)) == some .eq) && (FloatKind.f32.format.order ((rd_T69 l0 x5_1).f2).im 1065353216 == some .eq)) = true) then (if ((rd_T69 l0 x5_1).f3) = (wrap64 ((ji10) + 1)) then (if 0 ≤ (wrap64 ((wrap64 ((ji10) + 1)) + 1)) then (if (wrap64 ((wrap64 ((ji10) + 1)) + 1)) ≤ 4096 then (if (((FloatKind.f32.format.order ((rd_T69 l0 x5_1).f4.f0).re (mk32 (wrap64 ((wrap64 ((ji10) + 1)) + 1))) == some .eq) && (FloatKind.f32.format.order ((rd_T69 l0 x5_1).f4.f0).im 1065353216 == some .eq)) = true) then (if 0 ≤ (wrap64 ((wrap64 ((wrap64 ((ji10) + 1)) + 1)) + 1)) then (if (wrap64 ((wrap64 ((wrap64 ((ji10) + 1)) + 1)) + 1)) ≤ 4096 then (if (((FloatKind.f32.format.order ((rd_T69 l0 x5_1).f4.f1).re (mk32 (wrap64 ((wrap64 ((wrap64 ((ji10) + 1)) + 1)) + 1))) == some .eq) && (FloatKind.f32.format.order ((rd_T69 l0 x5_1).f4.f1).im 1065353216 == some .eq)) = true) then (if 0 ≤ (wrap64 ((wrap64 ((wrap64 ((wrap64 ((ji10) + 1)) + 1)) + 1)) + 1)) then (if (wrap64 ((wrap64 ((wrap64 ((wrap64 ((ji10) + 1)) + 1)) + 1)) + 1)) ≤ 4096 then (if (((FloatKind.f32.format.order ((rd_T69 l0 x5_1).f4.f2).re (mk32 (wrap64 ((wrap64 ((wrap64 ((wrap64 ((ji10) + 1)) + 1)) + 1)) + 1))) == some .eq) && (FloatKind.f32.format.order ((rd_T69 l0 x5_1).f4.f2).im 1065353216 == some .eq)) = true) then (if ((rd_T69 l0 x5_1).f5) = (wrap64 ((wrap64 ((wrap64 ((wrap64 ((wrap64 ((ji10) + 1)) + 1)) + 1)) + 1)) + 1)) then (laws_heldBusS.l0 k1 l0 (wrap64 ((wrap64 ((wrap64 ((wrap64 ((wrap64 ((wrap64 ((ji10) + 1)) + 1)) + 1)) + 1)) + 1)) + 1)) (wrap64 (x5_1 + 1))) else (some (-1))) else (some (-1))) else (none)) else (none)) else (some (-1))) else (none)) else (none)) else (some (-1))) else (none)) else (none)) else (some (-1))) else (some (-1))) else (none)) else (none)) = some r := by (rw [hji10] at H; exact H)
                  have hji10w : (IntKind.i64.wrap ((ji6) + 1)) = ji10 := (i64_w _).trans hji10
                  by_cases c11 : 0 ≤ (ji10)
                  · rw [if_pos c11] at H
                    have c11b0 := eq_true c11
                    have c11b1 : decide (0 ≤ (ji10)) = true := decide_eq_true c11
                    clear c11
                    by_cases c12 : (ji10) ≤ 4096
                    · rw [if_pos c12] at H
                      have c12b0 := eq_true c12
                      have c12b1 : decide ((ji10) ≤ 4096) = true := decide_eq_true c12
                      clear c12
                      by_cases c13 : (((FloatKind.f32.format.order ((rd_T69 l0 x5_1).f2).re (mk32 (ji10)) == some .eq) && (FloatKind.f32.format.order ((rd_T69 l0 x5_1).f2).im 1065353216 == some .eq)) = true)
                      · rw [if_pos c13] at H
                        have c13b0 : ((FloatKind.f32.format.order ((rd_T69 l0 x5_1).f2).re (mk32 (ji10)) == some .eq) && (FloatKind.f32.format.order ((rd_T69 l0 x5_1).f2).im 1065353216 == some .eq)) = true := c13
                        clear c13
                        by_cases c14 : ((rd_T69 l0 x5_1).f3) = (wrap64 ((ji10) + 1))
                        · rw [if_pos c14] at H
                          have c14b0 : (((rd_T69 l0 x5_1).f3) == (wrap64 ((ji10) + 1))) = true := beq_iff_eq.mpr c14
                          have c14b1 : (((rd_T69 l0 x5_1).f3) != (wrap64 ((ji10) + 1))) = false := bne_eq_false_iff_eq.mpr c14
                          clear c14
                          obtain ⟨ji15, hji15⟩ : ∃ j_ : Int, (wrap64 ((wrap64 ((ji10) + 1)) + 1)) = j_ := ⟨_, rfl⟩
                          replace H : (if 0 ≤ (ji15) then (if (ji15) ≤ 4096 then (if (((FloatKind.f32.format.order ((rd_T69 l0 x5_1).f4.f0).re (mk32 (ji15)) == some .eq) && (FloatKind.f32.format.order ((rd_T69 l0 x5_1).f4.f0).im 1065353216 == some .eq)) = true) then (if 0 ≤ (wrap64 ((ji15) + 1)) then (if (wrap64 ((ji15) + 1)) ≤ 4096 then (if (((FloatKind.f32.format.order ((rd_T69 l0 x5_1).f4.f1).re (mk32 (wrap64 ((ji15) + 1))) == some .eq) && (FloatKind.f32.format.order ((rd_T69 l0 x5_1).f4.f1).im 1065353216 == some .eq)) = true) then (if 0 ≤ (wrap64 ((wrap64 ((ji15) + 1)) + 1)) then (if (wrap64 ((wrap64 ((ji15) + 1)) + 1)) ≤ 4096 then (if (((FloatKind.f32.format.order ((rd_T69 l0 x5_1).f4.f2).re (mk32 (wrap64 ((wrap64 ((ji15) + 1)) + 1))) == some .eq) && (FloatKind.f32.format.order ((rd_T69 l0 x5_1).f4.f2).im 1065353216 == some .eq)) = true) then (if ((rd_T69 l0 x5_1).f5) = (wrap64 ((wrap64 ((wrap64 ((ji15) + 1)) + 1)) + 1)) then (laws_heldBusS.l0 k1 l0 (wrap64 ((wrap64 ((wrap64 ((wrap64 ((ji15) + 1)) + 1)) + 1)) + 1)) (wrap64 (x5_1 + 1))) else (some (-1))) else (some (-1))) else (none)) else (none)) else (some (-1))) else (none)) else (none)) else (some (-1))) else (none)) else (none)) = some r := by (rw [hji15] at H; exact H)
                          have hji15w : (IntKind.i64.wrap ((wrap64 ((ji10) + 1)) + 1)) = ji15 := (i64_w _).trans hji15
                          by_cases c16 : 0 ≤ (ji15)
                          · rw [if_pos c16] at H
                            have c16b0 := eq_true c16
                            have c16b1 : decide (0 ≤ (ji15)) = true := decide_eq_true c16
                            clear c16
                            by_cases c17 : (ji15) ≤ 4096
                            · rw [if_pos c17] at H
                              have c17b0 := eq_true c17
                              have c17b1 : decide ((ji15) ≤ 4096) = true := decide_eq_true c17
                              clear c17
                              by_cases c18 : (((FloatKind.f32.format.order ((rd_T69 l0 x5_1).f4.f0).re (mk32 (ji15)) == some .eq) && (FloatKind.f32.format.order ((rd_T69 l0 x5_1).f4.f0).im 1065353216 == some .eq)) = true)
                              · rw [if_pos c18] at H
                                have c18b0 : ((FloatKind.f32.format.order ((rd_T69 l0 x5_1).f4.f0).re (mk32 (ji15)) == some .eq) && (FloatKind.f32.format.order ((rd_T69 l0 x5_1).f4.f0).im 1065353216 == some .eq)) = true := c18
                                clear c18
                                obtain ⟨ji19, hji19⟩ : ∃ j_ : Int, (wrap64 ((ji15) + 1)) = j_ := ⟨_, rfl⟩
                                replace H : (if 0 ≤ (ji19) then (if (ji19) ≤ 4096 then (if (((FloatKind.f32.format.order ((rd_T69 l0 x5_1).f4.f1).re (mk32 (ji19)) == some .eq) && (FloatKind.f32.format.order ((rd_T69 l0 x5_1).f4.f1).im 1065353216 == some .eq)) = true) then (if 0 ≤ (wrap64 ((ji19) + 1)) then (if (wrap64 ((ji19) + 1)) ≤ 4096 then (if (((FloatKind.f32.format.order ((rd_T69 l0 x5_1).f4.f2).re (mk32 (wrap64 ((ji19) + 1))) == some .eq) && (FloatKind.f32.format.order ((rd_T69 l0 x5_1).f4.f2).im 1065353216 == some .eq)) = true) then (if ((rd_T69 l0 x5_1).f5) = (wrap64 ((wrap64 ((ji19) + 1)) + 1)) then (laws_heldBusS.l0 k1 l0 (wrap64 ((wrap64 ((wrap64 ((ji19) + 1)) + 1)) + 1)) (wrap64 (x5_1 + 1))) else (some (-1))) else (some (-1))) else (none)) else (none)) else (some (-1))) else (none)) else (none)) = some r := by (rw [hji19] at H; exact H)
                                have hji19w : (IntKind.i64.wrap ((ji15) + 1)) = ji19 := (i64_w _).trans hji19
                                by_cases c20 : 0 ≤ (ji19)
                                · rw [if_pos c20] at H
                                  have c20b0 := eq_true c20
                                  have c20b1 : decide (0 ≤ (ji19)) = true := decide_eq_true c20
                                  clear c20
                                  by_cases c21 : (ji19) ≤ 4096
                                  · rw [if_pos c21] at H
                                    have c21b0 := eq_true c21
                                    have c21b1 : decide ((ji19) ≤ 4096) = true := decide_eq_true c21
                                    clear c21
                                    by_cases c22 : (((FloatKind.f32.format.order ((rd_T69 l0 x5_1).f4.f1).re (mk32 (ji19)) == some .eq) && (FloatKind.f32.format.order ((rd_T69 l0 x5_1).f4.f1).im 1065353216 == some .eq)) = true)
                                    · rw [if_pos c22] at H
                                      have c22b0 : ((FloatKind.f32.format.order ((rd_T69 l0 x5_1).f4.f1).re (mk32 (ji19)) == some .eq) && (FloatKind.f32.format.order ((rd_T69 l0 x5_1).f4.f1).im 1065353216 == some .eq)) = true := c22
                                      clear c22
                                      obtain ⟨ji23, hji23⟩ : ∃ j_ : Int, (wrap64 ((ji19) + 1)) = j_ := ⟨_, rfl⟩
                                      replace H : (if 0 ≤ (ji23) then (if (ji23) ≤ 4096 then (if (((FloatKind.f32.format.order ((rd_T69 l0 x5_1).f4.f2).re (mk32 (ji23)) == some .eq) && (FloatKind.f32.format.order ((rd_T69 l0 x5_1).f4.f2).im 1065353216 == some .eq)) = true) then (if ((rd_T69 l0 x5_1).f5) = (wrap64 ((ji23) + 1)) then (laws_heldBusS.l0 k1 l0 (wrap64 ((wrap64 ((ji23) + 1)) + 1)) (wrap64 (x5_1 + 1))) else (some (-1))) else (some (-1))) else (none)) else (none)) = some r := by (rw [hji23] at H; exact H)
                                      have hji23w : (IntKind.i64.wrap ((ji19) + 1)) = ji23 := (i64_w _).trans hji23
                                      by_cases c24 : 0 ≤ (ji23)
                                      · rw [if_pos c24] at H
                                        have c24b0 := eq_true c24
                                        have c24b1 : decide (0 ≤ (ji23)) = true := decide_eq_true c24
                                        clear c24
                                        by_cases c25 : (ji23) ≤ 4096
                                        · rw [if_pos c25] at H
                                          have c25b0 := eq_true c25
                                          have c25b1 : decide ((ji23) ≤ 4096) = true := decide_eq_true c25
                                          clear c25
                                          by_cases c26 : (((FloatKind.f32.format.order ((rd_T69 l0 x5_1).f4.f2).re (mk32 (ji23)) == some .eq) && (FloatKind.f32.format.order ((rd_T69 l0 x5_1).f4.f2).im 1065353216 == some .eq)) = true)
                                          · rw [if_pos c26] at H
                                            have c26b0 : ((FloatKind.f32.format.order ((rd_T69 l0 x5_1).f4.f2).re (mk32 (ji23)) == some .eq) && (FloatKind.f32.format.order ((rd_T69 l0 x5_1).f4.f2).im 1065353216 == some .eq)) = true := c26
                                            clear c26
                                            by_cases c27 : ((rd_T69 l0 x5_1).f5) = (wrap64 ((ji23) + 1))
                                            · rw [if_pos c27] at H
                                              have c27b0 : (((rd_T69 l0 x5_1).f5) == (wrap64 ((ji23) + 1))) = true := beq_iff_eq.mpr c27
                                              have c27b1 : (((rd_T69 l0 x5_1).f5) != (wrap64 ((ji23) + 1))) = false := bne_eq_false_iff_eq.mpr c27
                                              clear c27
                                              have H' := Aside0.mk H
                                              clear H
                                              have p357 : 0 ≤ (x5_1 : Int) := of_decide_eq_true (by (with_reducible assumption))
                                              have q357 : x5_1 < (l0.length : Int) := of_decide_eq_true (by (with_reducible assumption))
                                              obtain ⟨ad357, e357, hx357_0, hx357_1, hx357_2, hx357_3, hx357_4, hx357_5, hx357_6, hx357_7⟩ := at_T69 HR0.out x5_1 p357 q357
                                              cases e357
                                              replace hx357_0 := (HB.out.cell (World.block_lt_of_cell? w _ hx357_0)).trans hx357_0
                                              replace hx357_1 := (HB.out.cell (World.block_lt_of_cell? w _ hx357_1)).trans hx357_1
                                              replace hx357_2 := (HB.out.cell (World.block_lt_of_cell? w _ hx357_2)).trans hx357_2
                                              replace hx357_3 := (HB.out.cell (World.block_lt_of_cell? w _ hx357_3)).trans hx357_3
                                              replace hx357_4 := (HB.out.cell (World.block_lt_of_cell? w _ hx357_4)).trans hx357_4
                                              replace hx357_5 := (HB.out.cell (World.block_lt_of_cell? w _ hx357_5)).trans hx357_5
                                              replace hx357_6 := (HB.out.cell (World.block_lt_of_cell? w _ hx357_6)).trans hx357_6
                                              replace hx357_7 := (HB.out.cell (World.block_lt_of_cell? w _ hx357_7)).trans hx357_7
                                              replace p357 := eq_true p357
                                              replace q357 := eq_true q357
                                              have p358 : 0 ≤ (x5_1 : Int) := of_decide_eq_true (by (with_reducible assumption))
                                              have q358 : x5_1 < (l0.length : Int) := of_decide_eq_true (by (with_reducible assumption))
                                              obtain ⟨ad358, e358, hx358_0, hx358_1, hx358_2, hx358_3, hx358_4, hx358_5, hx358_6, hx358_7⟩ := at_T69 HR0.out x5_1 p358 q358
                                              obtain rfl : ad357 = ad358 := (by injection e358)
                                              replace hx358_0 := (HB.out.cell (World.block_lt_of_cell? w _ hx358_0)).trans hx358_0
                                              replace hx358_1 := (HB.out.cell (World.block_lt_of_cell? w _ hx358_1)).trans hx358_1
                                              replace hx358_2 := (HB.out.cell (World.block_lt_of_cell? w _ hx358_2)).trans hx358_2
                                              replace hx358_3 := (HB.out.cell (World.block_lt_of_cell? w _ hx358_3)).trans hx358_3
                                              replace hx358_4 := (HB.out.cell (World.block_lt_of_cell? w _ hx358_4)).trans hx358_4
                                              replace hx358_5 := (HB.out.cell (World.block_lt_of_cell? w _ hx358_5)).trans hx358_5
                                              replace hx358_6 := (HB.out.cell (World.block_lt_of_cell? w _ hx358_6)).trans hx358_6
                                              replace hx358_7 := (HB.out.cell (World.block_lt_of_cell? w _ hx358_7)).trans hx358_7
                                              replace p358 := eq_true p358
                                              replace q358 := eq_true q358
                                              have p359 : 0 ≤ (x5_1 : Int) := of_decide_eq_true (by (with_reducible assumption))
                                              have q359 : x5_1 < (l0.length : Int) := of_decide_eq_true (by (with_reducible assumption))
                                              obtain ⟨ad359, e359, hx359_0, hx359_1, hx359_2, hx359_3, hx359_4, hx359_5, hx359_6, hx359_7⟩ := at_T69 HR0.out x5_1 p359 q359
                                              obtain rfl : ad357 = ad359 := (by injection e359)
                                              replace hx359_0 := (HB.out.cell (World.block_lt_of_cell? w _ hx359_0)).trans hx359_0
                                              replace hx359_1 := (HB.out.cell (World.block_lt_of_cell? w _ hx359_1)).trans hx359_1
                                              replace hx359_2 := (HB.out.cell (World.block_lt_of_cell? w _ hx359_2)).trans hx359_2
                                              replace hx359_3 := (HB.out.cell (World.block_lt_of_cell? w _ hx359_3)).trans hx359_3
                                              replace hx359_4 := (HB.out.cell (World.block_lt_of_cell? w _ hx359_4)).trans hx359_4
                                              replace hx359_5 := (HB.out.cell (World.block_lt_of_cell? w _ hx359_5)).trans hx359_5
                                              replace hx359_6 := (HB.out.cell (World.block_lt_of_cell? w _ hx359_6)).trans hx359_6
                                              replace hx359_7 := (HB.out.cell (World.block_lt_of_cell? w _ hx359_7)).trans hx359_7
                                              replace p359 := eq_true p359
                                              replace q359 := eq_true q359
                                              have p360 : 0 ≤ (x5_1 : Int) := of_decide_eq_true (by (with_reducible assumption))
                                              have q360 : x5_1 < (l0.length : Int) := of_decide_eq_true (by (with_reducible assumption))
                                              obtain ⟨ad360, e360, hx360_0, hx360_1, hx360_2, hx360_3, hx360_4, hx360_5, hx360_6, hx360_7⟩ := at_T69 HR0.out x5_1 p360 q360
                                              obtain rfl : ad357 = ad360 := (by injection e360)
                                              replace hx360_0 := (HB.out.cell (World.block_lt_of_cell? w _ hx360_0)).trans hx360_0
                                              replace hx360_1 := (HB.out.cell (World.block_lt_of_cell? w _ hx360_1)).trans hx360_1
                                              replace hx360_2 := (HB.out.cell (World.block_lt_of_cell? w _ hx360_2)).trans hx360_2
                                              replace hx360_3 := (HB.out.cell (World.block_lt_of_cell? w _ hx360_3)).trans hx360_3
                                              replace hx360_4 := (HB.out.cell (World.block_lt_of_cell? w _ hx360_4)).trans hx360_4
                                              replace hx360_5 := (HB.out.cell (World.block_lt_of_cell? w _ hx360_5)).trans hx360_5
                                              replace hx360_6 := (HB.out.cell (World.block_lt_of_cell? w _ hx360_6)).trans hx360_6
                                              replace hx360_7 := (HB.out.cell (World.block_lt_of_cell? w _ hx360_7)).trans hx360_7
                                              replace p360 := eq_true p360
                                              replace q360 := eq_true q360
                                              have p361 : 0 ≤ (x5_1 : Int) := of_decide_eq_true (by (with_reducible assumption))
                                              have q361 : x5_1 < (l0.length : Int) := of_decide_eq_true (by (with_reducible assumption))
                                              obtain ⟨ad361, e361, hx361_0, hx361_1, hx361_2, hx361_3, hx361_4, hx361_5, hx361_6, hx361_7⟩ := at_T69 HR0.out x5_1 p361 q361
                                              obtain rfl : ad357 = ad361 := (by injection e361)
                                              replace hx361_0 := (HB.out.cell (World.block_lt_of_cell? w _ hx361_0)).trans hx361_0
                                              replace hx361_1 := (HB.out.cell (World.block_lt_of_cell? w _ hx361_1)).trans hx361_1
                                              replace hx361_2 := (HB.out.cell (World.block_lt_of_cell? w _ hx361_2)).trans hx361_2
                                              replace hx361_3 := (HB.out.cell (World.block_lt_of_cell? w _ hx361_3)).trans hx361_3
                                              replace hx361_4 := (HB.out.cell (World.block_lt_of_cell? w _ hx361_4)).trans hx361_4
                                              replace hx361_5 := (HB.out.cell (World.block_lt_of_cell? w _ hx361_5)).trans hx361_5
                                              replace hx361_6 := (HB.out.cell (World.block_lt_of_cell? w _ hx361_6)).trans hx361_6
                                              replace hx361_7 := (HB.out.cell (World.block_lt_of_cell? w _ hx361_7)).trans hx361_7
                                              replace p361 := eq_true p361
                                              replace q361 := eq_true q361
                                              have p362 : 0 ≤ (x5_1 : Int) := of_decide_eq_true (by (with_reducible assumption))
                                              have q362 : x5_1 < (l0.length : Int) := of_decide_eq_true (by (with_reducible assumption))
                                              obtain ⟨ad362, e362, hx362_0, hx362_1, hx362_2, hx362_3, hx362_4, hx362_5, hx362_6, hx362_7⟩ := at_T69 HR0.out x5_1 p362 q362
                                              obtain rfl : ad357 = ad362 := (by injection e362)
                                              replace hx362_0 := (HB.out.cell (World.block_lt_of_cell? w _ hx362_0)).trans hx362_0
                                              replace hx362_1 := (HB.out.cell (World.block_lt_of_cell? w _ hx362_1)).trans hx362_1
                                              replace hx362_2 := (HB.out.cell (World.block_lt_of_cell? w _ hx362_2)).trans hx362_2
                                              replace hx362_3 := (HB.out.cell (World.block_lt_of_cell? w _ hx362_3)).trans hx362_3
                                              replace hx362_4 := (HB.out.cell (World.block_lt_of_cell? w _ hx362_4)).trans hx362_4
                                              replace hx362_5 := (HB.out.cell (World.block_lt_of_cell? w _ hx362_5)).trans hx362_5
                                              replace hx362_6 := (HB.out.cell (World.block_lt_of_cell? w _ hx362_6)).trans hx362_6
                                              replace hx362_7 := (HB.out.cell (World.block_lt_of_cell? w _ hx362_7)).trans hx362_7
                                              replace p362 := eq_true p362
                                              replace q362 := eq_true q362
                                              have p363 : 0 ≤ (x5_1 : Int) := of_decide_eq_true (by (with_reducible assumption))
                                              have q363 : x5_1 < (l0.length : Int) := of_decide_eq_true (by (with_reducible assumption))
                                              obtain ⟨ad363, e363, hx363_0, hx363_1, hx363_2, hx363_3, hx363_4, hx363_5, hx363_6, hx363_7⟩ := at_T69 HR0.out x5_1 p363 q363
                                              obtain rfl : ad357 = ad363 := (by injection e363)
                                              replace hx363_0 := (HB.out.cell (World.block_lt_of_cell? w _ hx363_0)).trans hx363_0
                                              replace hx363_1 := (HB.out.cell (World.block_lt_of_cell? w _ hx363_1)).trans hx363_1
                                              replace hx363_2 := (HB.out.cell (World.block_lt_of_cell? w _ hx363_2)).trans hx363_2
                                              replace hx363_3 := (HB.out.cell (World.block_lt_of_cell? w _ hx363_3)).trans hx363_3
                                              replace hx363_4 := (HB.out.cell (World.block_lt_of_cell? w _ hx363_4)).trans hx363_4
                                              replace hx363_5 := (HB.out.cell (World.block_lt_of_cell? w _ hx363_5)).trans hx363_5
                                              replace hx363_6 := (HB.out.cell (World.block_lt_of_cell? w _ hx363_6)).trans hx363_6
                                              replace hx363_7 := (HB.out.cell (World.block_lt_of_cell? w _ hx363_7)).trans hx363_7
                                              replace p363 := eq_true p363
                                              replace q363 := eq_true q363
                                              have p364 : 0 ≤ (x5_1 : Int) := of_decide_eq_true (by (with_reducible assumption))
                                              have q364 : x5_1 < (l0.length : Int) := of_decide_eq_true (by (with_reducible assumption))
                                              obtain ⟨ad364, e364, hx364_0, hx364_1, hx364_2, hx364_3, hx364_4, hx364_5, hx364_6, hx364_7⟩ := at_T69 HR0.out x5_1 p364 q364
                                              obtain rfl : ad357 = ad364 := (by injection e364)
                                              replace hx364_0 := (HB.out.cell (World.block_lt_of_cell? w _ hx364_0)).trans hx364_0
                                              replace hx364_1 := (HB.out.cell (World.block_lt_of_cell? w _ hx364_1)).trans hx364_1
                                              replace hx364_2 := (HB.out.cell (World.block_lt_of_cell? w _ hx364_2)).trans hx364_2
                                              replace hx364_3 := (HB.out.cell (World.block_lt_of_cell? w _ hx364_3)).trans hx364_3
                                              replace hx364_4 := (HB.out.cell (World.block_lt_of_cell? w _ hx364_4)).trans hx364_4
                                              replace hx364_5 := (HB.out.cell (World.block_lt_of_cell? w _ hx364_5)).trans hx364_5
                                              replace hx364_6 := (HB.out.cell (World.block_lt_of_cell? w _ hx364_6)).trans hx364_6
                                              replace hx364_7 := (HB.out.cell (World.block_lt_of_cell? w _ hx364_7)).trans hx364_7
                                              replace p364 := eq_true p364
                                              replace q364 := eq_true q364
                                              go_wp2
                                              go_roundg k1
                                              case measure => have := HK1.out; omega
                                              case rel => exact ⟨(wrap64 ((wrap64 ((ji23) + 1)) + 1)), (wrap64 (x5_1 + 1)), (by rfl), (by rfl), H', ⟨by have := HK1.out; omega⟩, ⟨by with_reducible exact HB.out⟩⟩
                                            · rw [if_neg c27] at H
                                              have c27b0 : (((rd_T69 l0 x5_1).f5) == (wrap64 ((ji23) + 1))) = false := beq_eq_false_iff_ne.mpr c27
                                              have c27b1 : (((rd_T69 l0 x5_1).f5) != (wrap64 ((ji23) + 1))) = true := bne_iff_ne.mpr c27
                                              obtain rfl := Option.some.inj H
                                              have p357 : 0 ≤ (x5_1 : Int) := of_decide_eq_true (by (with_reducible assumption))
                                              have q357 : x5_1 < (l0.length : Int) := of_decide_eq_true (by (with_reducible assumption))
                                              obtain ⟨ad357, e357, hx357_0, hx357_1, hx357_2, hx357_3, hx357_4, hx357_5, hx357_6, hx357_7⟩ := at_T69 HR0.out x5_1 p357 q357
                                              cases e357
                                              replace hx357_0 := (HB.out.cell (World.block_lt_of_cell? w _ hx357_0)).trans hx357_0
                                              replace hx357_1 := (HB.out.cell (World.block_lt_of_cell? w _ hx357_1)).trans hx357_1
                                              replace hx357_2 := (HB.out.cell (World.block_lt_of_cell? w _ hx357_2)).trans hx357_2
                                              replace hx357_3 := (HB.out.cell (World.block_lt_of_cell? w _ hx357_3)).trans hx357_3
                                              replace hx357_4 := (HB.out.cell (World.block_lt_of_cell? w _ hx357_4)).trans hx357_4
                                              replace hx357_5 := (HB.out.cell (World.block_lt_of_cell? w _ hx357_5)).trans hx357_5
                                              replace hx357_6 := (HB.out.cell (World.block_lt_of_cell? w _ hx357_6)).trans hx357_6
                                              replace hx357_7 := (HB.out.cell (World.block_lt_of_cell? w _ hx357_7)).trans hx357_7
                                              replace p357 := eq_true p357
                                              replace q357 := eq_true q357
                                              have p358 : 0 ≤ (x5_1 : Int) := of_decide_eq_true (by (with_reducible assumption))
                                              have q358 : x5_1 < (l0.length : Int) := of_decide_eq_true (by (with_reducible assumption))
                                              obtain ⟨ad358, e358, hx358_0, hx358_1, hx358_2, hx358_3, hx358_4, hx358_5, hx358_6, hx358_7⟩ := at_T69 HR0.out x5_1 p358 q358
                                              obtain rfl : ad357 = ad358 := (by injection e358)
                                              replace hx358_0 := (HB.out.cell (World.block_lt_of_cell? w _ hx358_0)).trans hx358_0
                                              replace hx358_1 := (HB.out.cell (World.block_lt_of_cell? w _ hx358_1)).trans hx358_1
                                              replace hx358_2 := (HB.out.cell (World.block_lt_of_cell? w _ hx358_2)).trans hx358_2
                                              replace hx358_3 := (HB.out.cell (World.block_lt_of_cell? w _ hx358_3)).trans hx358_3
                                              replace hx358_4 := (HB.out.cell (World.block_lt_of_cell? w _ hx358_4)).trans hx358_4
                                              replace hx358_5 := (HB.out.cell (World.block_lt_of_cell? w _ hx358_5)).trans hx358_5
                                              replace hx358_6 := (HB.out.cell (World.block_lt_of_cell? w _ hx358_6)).trans hx358_6
                                              replace hx358_7 := (HB.out.cell (World.block_lt_of_cell? w _ hx358_7)).trans hx358_7
                                              replace p358 := eq_true p358
                                              replace q358 := eq_true q358
                                              have p359 : 0 ≤ (x5_1 : Int) := of_decide_eq_true (by (with_reducible assumption))
                                              have q359 : x5_1 < (l0.length : Int) := of_decide_eq_true (by (with_reducible assumption))
                                              obtain ⟨ad359, e359, hx359_0, hx359_1, hx359_2, hx359_3, hx359_4, hx359_5, hx359_6, hx359_7⟩ := at_T69 HR0.out x5_1 p359 q359
                                              obtain rfl : ad357 = ad359 := (by injection e359)
                                              replace hx359_0 := (HB.out.cell (World.block_lt_of_cell? w _ hx359_0)).trans hx359_0
                                              replace hx359_1 := (HB.out.cell (World.block_lt_of_cell? w _ hx359_1)).trans hx359_1
                                              replace hx359_2 := (HB.out.cell (World.block_lt_of_cell? w _ hx359_2)).trans hx359_2
                                              replace hx359_3 := (HB.out.cell (World.block_lt_of_cell? w _ hx359_3)).trans hx359_3
                                              replace hx359_4 := (HB.out.cell (World.block_lt_of_cell? w _ hx359_4)).trans hx359_4
                                              replace hx359_5 := (HB.out.cell (World.block_lt_of_cell? w _ hx359_5)).trans hx359_5
                                              replace hx359_6 := (HB.out.cell (World.block_lt_of_cell? w _ hx359_6)).trans hx359_6
                                              replace hx359_7 := (HB.out.cell (World.block_lt_of_cell? w _ hx359_7)).trans hx359_7
                                              replace p359 := eq_true p359
                                              replace q359 := eq_true q359
                                              have p360 : 0 ≤ (x5_1 : Int) := of_decide_eq_true (by (with_reducible assumption))
                                              have q360 : x5_1 < (l0.length : Int) := of_decide_eq_true (by (with_reducible assumption))
                                              obtain ⟨ad360, e360, hx360_0, hx360_1, hx360_2, hx360_3, hx360_4, hx360_5, hx360_6, hx360_7⟩ := at_T69 HR0.out x5_1 p360 q360
                                              obtain rfl : ad357 = ad360 := (by injection e360)
                                              replace hx360_0 := (HB.out.cell (World.block_lt_of_cell? w _ hx360_0)).trans hx360_0
                                              replace hx360_1 := (HB.out.cell (World.block_lt_of_cell? w _ hx360_1)).trans hx360_1
                                              replace hx360_2 := (HB.out.cell (World.block_lt_of_cell? w _ hx360_2)).trans hx360_2
                                              replace hx360_3 := (HB.out.cell (World.block_lt_of_cell? w _ hx360_3)).trans hx360_3
                                              replace hx360_4 := (HB.out.cell (World.block_lt_of_cell? w _ hx360_4)).trans hx360_4
                                              replace hx360_5 := (HB.out.cell (World.block_lt_of_cell? w _ hx360_5)).trans hx360_5
                                              replace hx360_6 := (HB.out.cell (World.block_lt_of_cell? w _ hx360_6)).trans hx360_6
                                              replace hx360_7 := (HB.out.cell (World.block_lt_of_cell? w _ hx360_7)).trans hx360_7
                                              replace p360 := eq_true p360
                                              replace q360 := eq_true q360
                                              have p361 : 0 ≤ (x5_1 : Int) := of_decide_eq_true (by (with_reducible assumption))
                                              have q361 : x5_1 < (l0.length : Int) := of_decide_eq_true (by (with_reducible assumption))
                                              obtain ⟨ad361, e361, hx361_0, hx361_1, hx361_2, hx361_3, hx361_4, hx361_5, hx361_6, hx361_7⟩ := at_T69 HR0.out x5_1 p361 q361
                                              obtain rfl : ad357 = ad361 := (by injection e361)
                                              replace hx361_0 := (HB.out.cell (World.block_lt_of_cell? w _ hx361_0)).trans hx361_0
                                              replace hx361_1 := (HB.out.cell (World.block_lt_of_cell? w _ hx361_1)).trans hx361_1
                                              replace hx361_2 := (HB.out.cell (World.block_lt_of_cell? w _ hx361_2)).trans hx361_2
                                              replace hx361_3 := (HB.out.cell (World.block_lt_of_cell? w _ hx361_3)).trans hx361_3
                                              replace hx361_4 := (HB.out.cell (World.block_lt_of_cell? w _ hx361_4)).trans hx361_4
                                              replace hx361_5 := (HB.out.cell (World.block_lt_of_cell? w _ hx361_5)).trans hx361_5
                                              replace hx361_6 := (HB.out.cell (World.block_lt_of_cell? w _ hx361_6)).trans hx361_6
                                              replace hx361_7 := (HB.out.cell (World.block_lt_of_cell? w _ hx361_7)).trans hx361_7
                                              replace p361 := eq_true p361
                                              replace q361 := eq_true q361
                                              have p362 : 0 ≤ (x5_1 : Int) := of_decide_eq_true (by (with_reducible assumption))
                                              have q362 : x5_1 < (l0.length : Int) := of_decide_eq_true (by (with_reducible assumption))
                                              obtain ⟨ad362, e362, hx362_0, hx362_1, hx362_2, hx362_3, hx362_4, hx362_5, hx362_6, hx362_7⟩ := at_T69 HR0.out x5_1 p362 q362
                                              obtain rfl : ad357 = ad362 := (by injection e362)
                                              replace hx362_0 := (HB.out.cell (World.block_lt_of_cell? w _ hx362_0)).trans hx362_0
                                              replace hx362_1 := (HB.out.cell (World.block_lt_of_cell? w _ hx362_1)).trans hx362_1
                                              replace hx362_2 := (HB.out.cell (World.block_lt_of_cell? w _ hx362_2)).trans hx362_2
                                              replace hx362_3 := (HB.out.cell (World.block_lt_of_cell? w _ hx362_3)).trans hx362_3
                                              replace hx362_4 := (HB.out.cell (World.block_lt_of_cell? w _ hx362_4)).trans hx362_4
                                              replace hx362_5 := (HB.out.cell (World.block_lt_of_cell? w _ hx362_5)).trans hx362_5
                                              replace hx362_6 := (HB.out.cell (World.block_lt_of_cell? w _ hx362_6)).trans hx362_6
                                              replace hx362_7 := (HB.out.cell (World.block_lt_of_cell? w _ hx362_7)).trans hx362_7
                                              replace p362 := eq_true p362
                                              replace q362 := eq_true q362
                                              have p363 : 0 ≤ (x5_1 : Int) := of_decide_eq_true (by (with_reducible assumption))
                                              have q363 : x5_1 < (l0.length : Int) := of_decide_eq_true (by (with_reducible assumption))
                                              obtain ⟨ad363, e363, hx363_0, hx363_1, hx363_2, hx363_3, hx363_4, hx363_5, hx363_6, hx363_7⟩ := at_T69 HR0.out x5_1 p363 q363
                                              obtain rfl : ad357 = ad363 := (by injection e363)
                                              replace hx363_0 := (HB.out.cell (World.block_lt_of_cell? w _ hx363_0)).trans hx363_0
                                              replace hx363_1 := (HB.out.cell (World.block_lt_of_cell? w _ hx363_1)).trans hx363_1
                                              replace hx363_2 := (HB.out.cell (World.block_lt_of_cell? w _ hx363_2)).trans hx363_2
                                              replace hx363_3 := (HB.out.cell (World.block_lt_of_cell? w _ hx363_3)).trans hx363_3
                                              replace hx363_4 := (HB.out.cell (World.block_lt_of_cell? w _ hx363_4)).trans hx363_4
                                              replace hx363_5 := (HB.out.cell (World.block_lt_of_cell? w _ hx363_5)).trans hx363_5
                                              replace hx363_6 := (HB.out.cell (World.block_lt_of_cell? w _ hx363_6)).trans hx363_6
                                              replace hx363_7 := (HB.out.cell (World.block_lt_of_cell? w _ hx363_7)).trans hx363_7
                                              replace p363 := eq_true p363
                                              replace q363 := eq_true q363
                                              have p364 : 0 ≤ (x5_1 : Int) := of_decide_eq_true (by (with_reducible assumption))
                                              have q364 : x5_1 < (l0.length : Int) := of_decide_eq_true (by (with_reducible assumption))
                                              obtain ⟨ad364, e364, hx364_0, hx364_1, hx364_2, hx364_3, hx364_4, hx364_5, hx364_6, hx364_7⟩ := at_T69 HR0.out x5_1 p364 q364
                                              obtain rfl : ad357 = ad364 := (by injection e364)
                                              replace hx364_0 := (HB.out.cell (World.block_lt_of_cell? w _ hx364_0)).trans hx364_0
                                              replace hx364_1 := (HB.out.cell (World.block_lt_of_cell? w _ hx364_1)).trans hx364_1
                                              replace hx364_2 := (HB.out.cell (World.block_lt_of_cell? w _ hx364_2)).trans hx364_2
                                              replace hx364_3 := (HB.out.cell (World.block_lt_of_cell? w _ hx364_3)).trans hx364_3
                                              replace hx364_4 := (HB.out.cell (World.block_lt_of_cell? w _ hx364_4)).trans hx364_4
                                              replace hx364_5 := (HB.out.cell (World.block_lt_of_cell? w _ hx364_5)).trans hx364_5
                                              replace hx364_6 := (HB.out.cell (World.block_lt_of_cell? w _ hx364_6)).trans hx364_6
                                              replace hx364_7 := (HB.out.cell (World.block_lt_of_cell? w _ hx364_7)).trans hx364_7
                                              replace p364 := eq_true p364
                                              replace q364 := eq_true q364
                                              go_wp2
                                              go_ret
                                              exact ⟨by rfl, by with_reducible exact HB.out⟩
                                          · rw [if_neg c26] at H
                                            have c26b0 : ((FloatKind.f32.format.order ((rd_T69 l0 x5_1).f4.f2).re (mk32 (ji23)) == some .eq) && (FloatKind.f32.format.order ((rd_T69 l0 x5_1).f4.f2).im 1065353216 == some .eq)) = false := by simpa using c26
                                            clear c26
                                            obtain rfl := Option.some.inj H
                                            have p357 : 0 ≤ (x5_1 : Int) := of_decide_eq_true (by (with_reducible assumption))
                                            have q357 : x5_1 < (l0.length : Int) := of_decide_eq_true (by (with_reducible assumption))
                                            obtain ⟨ad357, e357, hx357_0, hx357_1, hx357_2, hx357_3, hx357_4, hx357_5, hx357_6, hx357_7⟩ := at_T69 HR0.out x5_1 p357 q357
                                            cases e357
                                            replace hx357_0 := (HB.out.cell (World.block_lt_of_cell? w _ hx357_0)).trans hx357_0
                                            replace hx357_1 := (HB.out.cell (World.block_lt_of_cell? w _ hx357_1)).trans hx357_1
                                            replace hx357_2 := (HB.out.cell (World.block_lt_of_cell? w _ hx357_2)).trans hx357_2
                                            replace hx357_3 := (HB.out.cell (World.block_lt_of_cell? w _ hx357_3)).trans hx357_3
                                            replace hx357_4 := (HB.out.cell (World.block_lt_of_cell? w _ hx357_4)).trans hx357_4
                                            replace hx357_5 := (HB.out.cell (World.block_lt_of_cell? w _ hx357_5)).trans hx357_5
                                            replace hx357_6 := (HB.out.cell (World.block_lt_of_cell? w _ hx357_6)).trans hx357_6
                                            replace hx357_7 := (HB.out.cell (World.block_lt_of_cell? w _ hx357_7)).trans hx357_7
                                            replace p357 := eq_true p357
                                            replace q357 := eq_true q357
                                            have p358 : 0 ≤ (x5_1 : Int) := of_decide_eq_true (by (with_reducible assumption))
                                            have q358 : x5_1 < (l0.length : Int) := of_decide_eq_true (by (with_reducible assumption))
                                            obtain ⟨ad358, e358, hx358_0, hx358_1, hx358_2, hx358_3, hx358_4, hx358_5, hx358_6, hx358_7⟩ := at_T69 HR0.out x5_1 p358 q358
                                            obtain rfl : ad357 = ad358 := (by injection e358)
                                            replace hx358_0 := (HB.out.cell (World.block_lt_of_cell? w _ hx358_0)).trans hx358_0
                                            replace hx358_1 := (HB.out.cell (World.block_lt_of_cell? w _ hx358_1)).trans hx358_1
                                            replace hx358_2 := (HB.out.cell (World.block_lt_of_cell? w _ hx358_2)).trans hx358_2
                                            replace hx358_3 := (HB.out.cell (World.block_lt_of_cell? w _ hx358_3)).trans hx358_3
                                            replace hx358_4 := (HB.out.cell (World.block_lt_of_cell? w _ hx358_4)).trans hx358_4
                                            replace hx358_5 := (HB.out.cell (World.block_lt_of_cell? w _ hx358_5)).trans hx358_5
                                            replace hx358_6 := (HB.out.cell (World.block_lt_of_cell? w _ hx358_6)).trans hx358_6
                                            replace hx358_7 := (HB.out.cell (World.block_lt_of_cell? w _ hx358_7)).trans hx358_7
                                            replace p358 := eq_true p358
                                            replace q358 := eq_true q358
                                            have p359 : 0 ≤ (x5_1 : Int) := of_decide_eq_true (by (with_reducible assumption))
                                            have q359 : x5_1 < (l0.length : Int) := of_decide_eq_true (by (with_reducible assumption))
                                            obtain ⟨ad359, e359, hx359_0, hx359_1, hx359_2, hx359_3, hx359_4, hx359_5, hx359_6, hx359_7⟩ := at_T69 HR0.out x5_1 p359 q359
                                            obtain rfl : ad357 = ad359 := (by injection e359)
                                            replace hx359_0 := (HB.out.cell (World.block_lt_of_cell? w _ hx359_0)).trans hx359_0
                                            replace hx359_1 := (HB.out.cell (World.block_lt_of_cell? w _ hx359_1)).trans hx359_1
                                            replace hx359_2 := (HB.out.cell (World.block_lt_of_cell? w _ hx359_2)).trans hx359_2
                                            replace hx359_3 := (HB.out.cell (World.block_lt_of_cell? w _ hx359_3)).trans hx359_3
                                            replace hx359_4 := (HB.out.cell (World.block_lt_of_cell? w _ hx359_4)).trans hx359_4
                                            replace hx359_5 := (HB.out.cell (World.block_lt_of_cell? w _ hx359_5)).trans hx359_5
                                            replace hx359_6 := (HB.out.cell (World.block_lt_of_cell? w _ hx359_6)).trans hx359_6
                                            replace hx359_7 := (HB.out.cell (World.block_lt_of_cell? w _ hx359_7)).trans hx359_7
                                            replace p359 := eq_true p359
                                            replace q359 := eq_true q359
                                            have p360 : 0 ≤ (x5_1 : Int) := of_decide_eq_true (by (with_reducible assumption))
                                            have q360 : x5_1 < (l0.length : Int) := of_decide_eq_true (by (with_reducible assumption))
                                            obtain ⟨ad360, e360, hx360_0, hx360_1, hx360_2, hx360_3, hx360_4, hx360_5, hx360_6, hx360_7⟩ := at_T69 HR0.out x5_1 p360 q360
                                            obtain rfl : ad357 = ad360 := (by injection e360)
                                            replace hx360_0 := (HB.out.cell (World.block_lt_of_cell? w _ hx360_0)).trans hx360_0
                                            replace hx360_1 := (HB.out.cell (World.block_lt_of_cell? w _ hx360_1)).trans hx360_1
                                            replace hx360_2 := (HB.out.cell (World.block_lt_of_cell? w _ hx360_2)).trans hx360_2
                                            replace hx360_3 := (HB.out.cell (World.block_lt_of_cell? w _ hx360_3)).trans hx360_3
                                            replace hx360_4 := (HB.out.cell (World.block_lt_of_cell? w _ hx360_4)).trans hx360_4
                                            replace hx360_5 := (HB.out.cell (World.block_lt_of_cell? w _ hx360_5)).trans hx360_5
                                            replace hx360_6 := (HB.out.cell (World.block_lt_of_cell? w _ hx360_6)).trans hx360_6
                                            replace hx360_7 := (HB.out.cell (World.block_lt_of_cell? w _ hx360_7)).trans hx360_7
                                            replace p360 := eq_true p360
                                            replace q360 := eq_true q360
                                            have p361 : 0 ≤ (x5_1 : Int) := of_decide_eq_true (by (with_reducible assumption))
                                            have q361 : x5_1 < (l0.length : Int) := of_decide_eq_true (by (with_reducible assumption))
                                            obtain ⟨ad361, e361, hx361_0, hx361_1, hx361_2, hx361_3, hx361_4, hx361_5, hx361_6, hx361_7⟩ := at_T69 HR0.out x5_1 p361 q361
                                            obtain rfl : ad357 = ad361 := (by injection e361)
                                            replace hx361_0 := (HB.out.cell (World.block_lt_of_cell? w _ hx361_0)).trans hx361_0
                                            replace hx361_1 := (HB.out.cell (World.block_lt_of_cell? w _ hx361_1)).trans hx361_1
                                            replace hx361_2 := (HB.out.cell (World.block_lt_of_cell? w _ hx361_2)).trans hx361_2
                                            replace hx361_3 := (HB.out.cell (World.block_lt_of_cell? w _ hx361_3)).trans hx361_3
                                            replace hx361_4 := (HB.out.cell (World.block_lt_of_cell? w _ hx361_4)).trans hx361_4
                                            replace hx361_5 := (HB.out.cell (World.block_lt_of_cell? w _ hx361_5)).trans hx361_5
                                            replace hx361_6 := (HB.out.cell (World.block_lt_of_cell? w _ hx361_6)).trans hx361_6
                                            replace hx361_7 := (HB.out.cell (World.block_lt_of_cell? w _ hx361_7)).trans hx361_7
                                            replace p361 := eq_true p361
                                            replace q361 := eq_true q361
                                            have p362 : 0 ≤ (x5_1 : Int) := of_decide_eq_true (by (with_reducible assumption))
                                            have q362 : x5_1 < (l0.length : Int) := of_decide_eq_true (by (with_reducible assumption))
                                            obtain ⟨ad362, e362, hx362_0, hx362_1, hx362_2, hx362_3, hx362_4, hx362_5, hx362_6, hx362_7⟩ := at_T69 HR0.out x5_1 p362 q362
                                            obtain rfl : ad357 = ad362 := (by injection e362)
                                            replace hx362_0 := (HB.out.cell (World.block_lt_of_cell? w _ hx362_0)).trans hx362_0
                                            replace hx362_1 := (HB.out.cell (World.block_lt_of_cell? w _ hx362_1)).trans hx362_1
                                            replace hx362_2 := (HB.out.cell (World.block_lt_of_cell? w _ hx362_2)).trans hx362_2
                                            replace hx362_3 := (HB.out.cell (World.block_lt_of_cell? w _ hx362_3)).trans hx362_3
                                            replace hx362_4 := (HB.out.cell (World.block_lt_of_cell? w _ hx362_4)).trans hx362_4
                                            replace hx362_5 := (HB.out.cell (World.block_lt_of_cell? w _ hx362_5)).trans hx362_5
                                            replace hx362_6 := (HB.out.cell (World.block_lt_of_cell? w _ hx362_6)).trans hx362_6
                                            replace hx362_7 := (HB.out.cell (World.block_lt_of_cell? w _ hx362_7)).trans hx362_7
                                            replace p362 := eq_true p362
                                            replace q362 := eq_true q362
                                            have p363 : 0 ≤ (x5_1 : Int) := of_decide_eq_true (by (with_reducible assumption))
                                            have q363 : x5_1 < (l0.length : Int) := of_decide_eq_true (by (with_reducible assumption))
                                            obtain ⟨ad363, e363, hx363_0, hx363_1, hx363_2, hx363_3, hx363_4, hx363_5, hx363_6, hx363_7⟩ := at_T69 HR0.out x5_1 p363 q363
                                            obtain rfl : ad357 = ad363 := (by injection e363)
                                            replace hx363_0 := (HB.out.cell (World.block_lt_of_cell? w _ hx363_0)).trans hx363_0
                                            replace hx363_1 := (HB.out.cell (World.block_lt_of_cell? w _ hx363_1)).trans hx363_1
                                            replace hx363_2 := (HB.out.cell (World.block_lt_of_cell? w _ hx363_2)).trans hx363_2
                                            replace hx363_3 := (HB.out.cell (World.block_lt_of_cell? w _ hx363_3)).trans hx363_3
                                            replace hx363_4 := (HB.out.cell (World.block_lt_of_cell? w _ hx363_4)).trans hx363_4
                                            replace hx363_5 := (HB.out.cell (World.block_lt_of_cell? w _ hx363_5)).trans hx363_5
                                            replace hx363_6 := (HB.out.cell (World.block_lt_of_cell? w _ hx363_6)).trans hx363_6
                                            replace hx363_7 := (HB.out.cell (World.block_lt_of_cell? w _ hx363_7)).trans hx363_7
                                            replace p363 := eq_true p363
                                            replace q363 := eq_true q363
                                            go_wp2
                                            go_ret
                                            exact ⟨by rfl, by with_reducible exact HB.out⟩
                                        · rw [if_neg c25] at H
                                          exact absurd H (by simp)
                                      · rw [if_neg c24] at H
                                        exact absurd H (by simp)
                                    · rw [if_neg c22] at H
                                      have c22b0 : ((FloatKind.f32.format.order ((rd_T69 l0 x5_1).f4.f1).re (mk32 (ji19)) == some .eq) && (FloatKind.f32.format.order ((rd_T69 l0 x5_1).f4.f1).im 1065353216 == some .eq)) = false := by simpa using c22
                                      clear c22
                                      obtain rfl := Option.some.inj H
                                      have p357 : 0 ≤ (x5_1 : Int) := of_decide_eq_true (by (with_reducible assumption))
                                      have q357 : x5_1 < (l0.length : Int) := of_decide_eq_true (by (with_reducible assumption))
                                      obtain ⟨ad357, e357, hx357_0, hx357_1, hx357_2, hx357_3, hx357_4, hx357_5, hx357_6, hx357_7⟩ := at_T69 HR0.out x5_1 p357 q357
                                      cases e357
                                      replace hx357_0 := (HB.out.cell (World.block_lt_of_cell? w _ hx357_0)).trans hx357_0
                                      replace hx357_1 := (HB.out.cell (World.block_lt_of_cell? w _ hx357_1)).trans hx357_1
                                      replace hx357_2 := (HB.out.cell (World.block_lt_of_cell? w _ hx357_2)).trans hx357_2
                                      replace hx357_3 := (HB.out.cell (World.block_lt_of_cell? w _ hx357_3)).trans hx357_3
                                      replace hx357_4 := (HB.out.cell (World.block_lt_of_cell? w _ hx357_4)).trans hx357_4
                                      replace hx357_5 := (HB.out.cell (World.block_lt_of_cell? w _ hx357_5)).trans hx357_5
                                      replace hx357_6 := (HB.out.cell (World.block_lt_of_cell? w _ hx357_6)).trans hx357_6
                                      replace hx357_7 := (HB.out.cell (World.block_lt_of_cell? w _ hx357_7)).trans hx357_7
                                      replace p357 := eq_true p357
                                      replace q357 := eq_true q357
                                      have p358 : 0 ≤ (x5_1 : Int) := of_decide_eq_true (by (with_reducible assumption))
                                      have q358 : x5_1 < (l0.length : Int) := of_decide_eq_true (by (with_reducible assumption))
                                      obtain ⟨ad358, e358, hx358_0, hx358_1, hx358_2, hx358_3, hx358_4, hx358_5, hx358_6, hx358_7⟩ := at_T69 HR0.out x5_1 p358 q358
                                      obtain rfl : ad357 = ad358 := (by injection e358)
                                      replace hx358_0 := (HB.out.cell (World.block_lt_of_cell? w _ hx358_0)).trans hx358_0
                                      replace hx358_1 := (HB.out.cell (World.block_lt_of_cell? w _ hx358_1)).trans hx358_1
                                      replace hx358_2 := (HB.out.cell (World.block_lt_of_cell? w _ hx358_2)).trans hx358_2
                                      replace hx358_3 := (HB.out.cell (World.block_lt_of_cell? w _ hx358_3)).trans hx358_3
                                      replace hx358_4 := (HB.out.cell (World.block_lt_of_cell? w _ hx358_4)).trans hx358_4
                                      replace hx358_5 := (HB.out.cell (World.block_lt_of_cell? w _ hx358_5)).trans hx358_5
                                      replace hx358_6 := (HB.out.cell (World.block_lt_of_cell? w _ hx358_6)).trans hx358_6
                                      replace hx358_7 := (HB.out.cell (World.block_lt_of_cell? w _ hx358_7)).trans hx358_7
                                      replace p358 := eq_true p358
                                      replace q358 := eq_true q358
                                      have p359 : 0 ≤ (x5_1 : Int) := of_decide_eq_true (by (with_reducible assumption))
                                      have q359 : x5_1 < (l0.length : Int) := of_decide_eq_true (by (with_reducible assumption))
                                      obtain ⟨ad359, e359, hx359_0, hx359_1, hx359_2, hx359_3, hx359_4, hx359_5, hx359_6, hx359_7⟩ := at_T69 HR0.out x5_1 p359 q359
                                      obtain rfl : ad357 = ad359 := (by injection e359)
                                      replace hx359_0 := (HB.out.cell (World.block_lt_of_cell? w _ hx359_0)).trans hx359_0
                                      replace hx359_1 := (HB.out.cell (World.block_lt_of_cell? w _ hx359_1)).trans hx359_1
                                      replace hx359_2 := (HB.out.cell (World.block_lt_of_cell? w _ hx359_2)).trans hx359_2
                                      replace hx359_3 := (HB.out.cell (World.block_lt_of_cell? w _ hx359_3)).trans hx359_3
                                      replace hx359_4 := (HB.out.cell (World.block_lt_of_cell? w _ hx359_4)).trans hx359_4
                                      replace hx359_5 := (HB.out.cell (World.block_lt_of_cell? w _ hx359_5)).trans hx359_5
                                      replace hx359_6 := (HB.out.cell (World.block_lt_of_cell? w _ hx359_6)).trans hx359_6
                                      replace hx359_7 := (HB.out.cell (World.block_lt_of_cell? w _ hx359_7)).trans hx359_7
                                      replace p359 := eq_true p359
                                      replace q359 := eq_true q359
                                      have p360 : 0 ≤ (x5_1 : Int) := of_decide_eq_true (by (with_reducible assumption))
                                      have q360 : x5_1 < (l0.length : Int) := of_decide_eq_true (by (with_reducible assumption))
                                      obtain ⟨ad360, e360, hx360_0, hx360_1, hx360_2, hx360_3, hx360_4, hx360_5, hx360_6, hx360_7⟩ := at_T69 HR0.out x5_1 p360 q360
                                      obtain rfl : ad357 = ad360 := (by injection e360)
                                      replace hx360_0 := (HB.out.cell (World.block_lt_of_cell? w _ hx360_0)).trans hx360_0
                                      replace hx360_1 := (HB.out.cell (World.block_lt_of_cell? w _ hx360_1)).trans hx360_1
                                      replace hx360_2 := (HB.out.cell (World.block_lt_of_cell? w _ hx360_2)).trans hx360_2
                                      replace hx360_3 := (HB.out.cell (World.block_lt_of_cell? w _ hx360_3)).trans hx360_3
                                      replace hx360_4 := (HB.out.cell (World.block_lt_of_cell? w _ hx360_4)).trans hx360_4
                                      replace hx360_5 := (HB.out.cell (World.block_lt_of_cell? w _ hx360_5)).trans hx360_5
                                      replace hx360_6 := (HB.out.cell (World.block_lt_of_cell? w _ hx360_6)).trans hx360_6
                                      replace hx360_7 := (HB.out.cell (World.block_lt_of_cell? w _ hx360_7)).trans hx360_7
                                      replace p360 := eq_true p360
                                      replace q360 := eq_true q360
                                      have p361 : 0 ≤ (x5_1 : Int) := of_decide_eq_true (by (with_reducible assumption))
                                      have q361 : x5_1 < (l0.length : Int) := of_decide_eq_true (by (with_reducible assumption))
                                      obtain ⟨ad361, e361, hx361_0, hx361_1, hx361_2, hx361_3, hx361_4, hx361_5, hx361_6, hx361_7⟩ := at_T69 HR0.out x5_1 p361 q361
                                      obtain rfl : ad357 = ad361 := (by injection e361)
                                      replace hx361_0 := (HB.out.cell (World.block_lt_of_cell? w _ hx361_0)).trans hx361_0
                                      replace hx361_1 := (HB.out.cell (World.block_lt_of_cell? w _ hx361_1)).trans hx361_1
                                      replace hx361_2 := (HB.out.cell (World.block_lt_of_cell? w _ hx361_2)).trans hx361_2
                                      replace hx361_3 := (HB.out.cell (World.block_lt_of_cell? w _ hx361_3)).trans hx361_3
                                      replace hx361_4 := (HB.out.cell (World.block_lt_of_cell? w _ hx361_4)).trans hx361_4
                                      replace hx361_5 := (HB.out.cell (World.block_lt_of_cell? w _ hx361_5)).trans hx361_5
                                      replace hx361_6 := (HB.out.cell (World.block_lt_of_cell? w _ hx361_6)).trans hx361_6
                                      replace hx361_7 := (HB.out.cell (World.block_lt_of_cell? w _ hx361_7)).trans hx361_7
                                      replace p361 := eq_true p361
                                      replace q361 := eq_true q361
                                      have p362 : 0 ≤ (x5_1 : Int) := of_decide_eq_true (by (with_reducible assumption))
                                      have q362 : x5_1 < (l0.length : Int) := of_decide_eq_true (by (with_reducible assumption))
                                      obtain ⟨ad362, e362, hx362_0, hx362_1, hx362_2, hx362_3, hx362_4, hx362_5, hx362_6, hx362_7⟩ := at_T69 HR0.out x5_1 p362 q362
                                      obtain rfl : ad357 = ad362 := (by injection e362)
                                      replace hx362_0 := (HB.out.cell (World.block_lt_of_cell? w _ hx362_0)).trans hx362_0
                                      replace hx362_1 := (HB.out.cell (World.block_lt_of_cell? w _ hx362_1)).trans hx362_1
                                      replace hx362_2 := (HB.out.cell (World.block_lt_of_cell? w _ hx362_2)).trans hx362_2
                                      replace hx362_3 := (HB.out.cell (World.block_lt_of_cell? w _ hx362_3)).trans hx362_3
                                      replace hx362_4 := (HB.out.cell (World.block_lt_of_cell? w _ hx362_4)).trans hx362_4
                                      replace hx362_5 := (HB.out.cell (World.block_lt_of_cell? w _ hx362_5)).trans hx362_5
                                      replace hx362_6 := (HB.out.cell (World.block_lt_of_cell? w _ hx362_6)).trans hx362_6
                                      replace hx362_7 := (HB.out.cell (World.block_lt_of_cell? w _ hx362_7)).trans hx362_7
                                      replace p362 := eq_true p362
                                      replace q362 := eq_true q362
                                      go_wp2
                                      go_ret
                                      exact ⟨by rfl, by with_reducible exact HB.out⟩
                                  · rw [if_neg c21] at H
                                    exact absurd H (by simp)
                                · rw [if_neg c20] at H
                                  exact absurd H (by simp)
                              · rw [if_neg c18] at H
                                have c18b0 : ((FloatKind.f32.format.order ((rd_T69 l0 x5_1).f4.f0).re (mk32 (ji15)) == some .eq) && (FloatKind.f32.format.order ((rd_T69 l0 x5_1).f4.f0).im 1065353216 == some .eq)) = false := by simpa using c18
                                clear c18
                                obtain rfl := Option.some.inj H
                                have p357 : 0 ≤ (x5_1 : Int) := of_decide_eq_true (by (with_reducible assumption))
                                have q357 : x5_1 < (l0.length : Int) := of_decide_eq_true (by (with_reducible assumption))
                                obtain ⟨ad357, e357, hx357_0, hx357_1, hx357_2, hx357_3, hx357_4, hx357_5, hx357_6, hx357_7⟩ := at_T69 HR0.out x5_1 p357 q357
                                cases e357
                                replace hx357_0 := (HB.out.cell (World.block_lt_of_cell? w _ hx357_0)).trans hx357_0
                                replace hx357_1 := (HB.out.cell (World.block_lt_of_cell? w _ hx357_1)).trans hx357_1
                                replace hx357_2 := (HB.out.cell (World.block_lt_of_cell? w _ hx357_2)).trans hx357_2
                                replace hx357_3 := (HB.out.cell (World.block_lt_of_cell? w _ hx357_3)).trans hx357_3
                                replace hx357_4 := (HB.out.cell (World.block_lt_of_cell? w _ hx357_4)).trans hx357_4
                                replace hx357_5 := (HB.out.cell (World.block_lt_of_cell? w _ hx357_5)).trans hx357_5
                                replace hx357_6 := (HB.out.cell (World.block_lt_of_cell? w _ hx357_6)).trans hx357_6
                                replace hx357_7 := (HB.out.cell (World.block_lt_of_cell? w _ hx357_7)).trans hx357_7
                                replace p357 := eq_true p357
                                replace q357 := eq_true q357
                                have p358 : 0 ≤ (x5_1 : Int) := of_decide_eq_true (by (with_reducible assumption))
                                have q358 : x5_1 < (l0.length : Int) := of_decide_eq_true (by (with_reducible assumption))
                                obtain ⟨ad358, e358, hx358_0, hx358_1, hx358_2, hx358_3, hx358_4, hx358_5, hx358_6, hx358_7⟩ := at_T69 HR0.out x5_1 p358 q358
                                obtain rfl : ad357 = ad358 := (by injection e358)
                                replace hx358_0 := (HB.out.cell (World.block_lt_of_cell? w _ hx358_0)).trans hx358_0
                                replace hx358_1 := (HB.out.cell (World.block_lt_of_cell? w _ hx358_1)).trans hx358_1
                                replace hx358_2 := (HB.out.cell (World.block_lt_of_cell? w _ hx358_2)).trans hx358_2
                                replace hx358_3 := (HB.out.cell (World.block_lt_of_cell? w _ hx358_3)).trans hx358_3
                                replace hx358_4 := (HB.out.cell (World.block_lt_of_cell? w _ hx358_4)).trans hx358_4
                                replace hx358_5 := (HB.out.cell (World.block_lt_of_cell? w _ hx358_5)).trans hx358_5
                                replace hx358_6 := (HB.out.cell (World.block_lt_of_cell? w _ hx358_6)).trans hx358_6
                                replace hx358_7 := (HB.out.cell (World.block_lt_of_cell? w _ hx358_7)).trans hx358_7
                                replace p358 := eq_true p358
                                replace q358 := eq_true q358
                                have p359 : 0 ≤ (x5_1 : Int) := of_decide_eq_true (by (with_reducible assumption))
                                have q359 : x5_1 < (l0.length : Int) := of_decide_eq_true (by (with_reducible assumption))
                                obtain ⟨ad359, e359, hx359_0, hx359_1, hx359_2, hx359_3, hx359_4, hx359_5, hx359_6, hx359_7⟩ := at_T69 HR0.out x5_1 p359 q359
                                obtain rfl : ad357 = ad359 := (by injection e359)
                                replace hx359_0 := (HB.out.cell (World.block_lt_of_cell? w _ hx359_0)).trans hx359_0
                                replace hx359_1 := (HB.out.cell (World.block_lt_of_cell? w _ hx359_1)).trans hx359_1
                                replace hx359_2 := (HB.out.cell (World.block_lt_of_cell? w _ hx359_2)).trans hx359_2
                                replace hx359_3 := (HB.out.cell (World.block_lt_of_cell? w _ hx359_3)).trans hx359_3
                                replace hx359_4 := (HB.out.cell (World.block_lt_of_cell? w _ hx359_4)).trans hx359_4
                                replace hx359_5 := (HB.out.cell (World.block_lt_of_cell? w _ hx359_5)).trans hx359_5
                                replace hx359_6 := (HB.out.cell (World.block_lt_of_cell? w _ hx359_6)).trans hx359_6
                                replace hx359_7 := (HB.out.cell (World.block_lt_of_cell? w _ hx359_7)).trans hx359_7
                                replace p359 := eq_true p359
                                replace q359 := eq_true q359
                                have p360 : 0 ≤ (x5_1 : Int) := of_decide_eq_true (by (with_reducible assumption))
                                have q360 : x5_1 < (l0.length : Int) := of_decide_eq_true (by (with_reducible assumption))
                                obtain ⟨ad360, e360, hx360_0, hx360_1, hx360_2, hx360_3, hx360_4, hx360_5, hx360_6, hx360_7⟩ := at_T69 HR0.out x5_1 p360 q360
                                obtain rfl : ad357 = ad360 := (by injection e360)
                                replace hx360_0 := (HB.out.cell (World.block_lt_of_cell? w _ hx360_0)).trans hx360_0
                                replace hx360_1 := (HB.out.cell (World.block_lt_of_cell? w _ hx360_1)).trans hx360_1
                                replace hx360_2 := (HB.out.cell (World.block_lt_of_cell? w _ hx360_2)).trans hx360_2
                                replace hx360_3 := (HB.out.cell (World.block_lt_of_cell? w _ hx360_3)).trans hx360_3
                                replace hx360_4 := (HB.out.cell (World.block_lt_of_cell? w _ hx360_4)).trans hx360_4
                                replace hx360_5 := (HB.out.cell (World.block_lt_of_cell? w _ hx360_5)).trans hx360_5
                                replace hx360_6 := (HB.out.cell (World.block_lt_of_cell? w _ hx360_6)).trans hx360_6
                                replace hx360_7 := (HB.out.cell (World.block_lt_of_cell? w _ hx360_7)).trans hx360_7
                                replace p360 := eq_true p360
                                replace q360 := eq_true q360
                                have p361 : 0 ≤ (x5_1 : Int) := of_decide_eq_true (by (with_reducible assumption))
                                have q361 : x5_1 < (l0.length : Int) := of_decide_eq_true (by (with_reducible assumption))
                                obtain ⟨ad361, e361, hx361_0, hx361_1, hx361_2, hx361_3, hx361_4, hx361_5, hx361_6, hx361_7⟩ := at_T69 HR0.out x5_1 p361 q361
                                obtain rfl : ad357 = ad361 := (by injection e361)
                                replace hx361_0 := (HB.out.cell (World.block_lt_of_cell? w _ hx361_0)).trans hx361_0
                                replace hx361_1 := (HB.out.cell (World.block_lt_of_cell? w _ hx361_1)).trans hx361_1
                                replace hx361_2 := (HB.out.cell (World.block_lt_of_cell? w _ hx361_2)).trans hx361_2
                                replace hx361_3 := (HB.out.cell (World.block_lt_of_cell? w _ hx361_3)).trans hx361_3
                                replace hx361_4 := (HB.out.cell (World.block_lt_of_cell? w _ hx361_4)).trans hx361_4
                                replace hx361_5 := (HB.out.cell (World.block_lt_of_cell? w _ hx361_5)).trans hx361_5
                                replace hx361_6 := (HB.out.cell (World.block_lt_of_cell? w _ hx361_6)).trans hx361_6
                                replace hx361_7 := (HB.out.cell (World.block_lt_of_cell? w _ hx361_7)).trans hx361_7
                                replace p361 := eq_true p361
                                replace q361 := eq_true q361
                                go_wp2
                                go_ret
                                exact ⟨by rfl, by with_reducible exact HB.out⟩
                            · rw [if_neg c17] at H
                              exact absurd H (by simp)
                          · rw [if_neg c16] at H
                            exact absurd H (by simp)
                        · rw [if_neg c14] at H
                          have c14b0 : (((rd_T69 l0 x5_1).f3) == (wrap64 ((ji10) + 1))) = false := beq_eq_false_iff_ne.mpr c14
                          have c14b1 : (((rd_T69 l0 x5_1).f3) != (wrap64 ((ji10) + 1))) = true := bne_iff_ne.mpr c14
                          obtain rfl := Option.some.inj H
                          have p357 : 0 ≤ (x5_1 : Int) := of_decide_eq_true (by (with_reducible assumption))
                          have q357 : x5_1 < (l0.length : Int) := of_decide_eq_true (by (with_reducible assumption))
                          obtain ⟨ad357, e357, hx357_0, hx357_1, hx357_2, hx357_3, hx357_4, hx357_5, hx357_6, hx357_7⟩ := at_T69 HR0.out x5_1 p357 q357
                          cases e357
                          replace hx357_0 := (HB.out.cell (World.block_lt_of_cell? w _ hx357_0)).trans hx357_0
                          replace hx357_1 := (HB.out.cell (World.block_lt_of_cell? w _ hx357_1)).trans hx357_1
                          replace hx357_2 := (HB.out.cell (World.block_lt_of_cell? w _ hx357_2)).trans hx357_2
                          replace hx357_3 := (HB.out.cell (World.block_lt_of_cell? w _ hx357_3)).trans hx357_3
                          replace hx357_4 := (HB.out.cell (World.block_lt_of_cell? w _ hx357_4)).trans hx357_4
                          replace hx357_5 := (HB.out.cell (World.block_lt_of_cell? w _ hx357_5)).trans hx357_5
                          replace hx357_6 := (HB.out.cell (World.block_lt_of_cell? w _ hx357_6)).trans hx357_6
                          replace hx357_7 := (HB.out.cell (World.block_lt_of_cell? w _ hx357_7)).trans hx357_7
                          replace p357 := eq_true p357
                          replace q357 := eq_true q357
                          have p358 : 0 ≤ (x5_1 : Int) := of_decide_eq_true (by (with_reducible assumption))
                          have q358 : x5_1 < (l0.length : Int) := of_decide_eq_true (by (with_reducible assumption))
                          obtain ⟨ad358, e358, hx358_0, hx358_1, hx358_2, hx358_3, hx358_4, hx358_5, hx358_6, hx358_7⟩ := at_T69 HR0.out x5_1 p358 q358
                          obtain rfl : ad357 = ad358 := (by injection e358)
                          replace hx358_0 := (HB.out.cell (World.block_lt_of_cell? w _ hx358_0)).trans hx358_0
                          replace hx358_1 := (HB.out.cell (World.block_lt_of_cell? w _ hx358_1)).trans hx358_1
                          replace hx358_2 := (HB.out.cell (World.block_lt_of_cell? w _ hx358_2)).trans hx358_2
                          replace hx358_3 := (HB.out.cell (World.block_lt_of_cell? w _ hx358_3)).trans hx358_3
                          replace hx358_4 := (HB.out.cell (World.block_lt_of_cell? w _ hx358_4)).trans hx358_4
                          replace hx358_5 := (HB.out.cell (World.block_lt_of_cell? w _ hx358_5)).trans hx358_5
                          replace hx358_6 := (HB.out.cell (World.block_lt_of_cell? w _ hx358_6)).trans hx358_6
                          replace hx358_7 := (HB.out.cell (World.block_lt_of_cell? w _ hx358_7)).trans hx358_7
                          replace p358 := eq_true p358
                          replace q358 := eq_true q358
                          have p359 : 0 ≤ (x5_1 : Int) := of_decide_eq_true (by (with_reducible assumption))
                          have q359 : x5_1 < (l0.length : Int) := of_decide_eq_true (by (with_reducible assumption))
                          obtain ⟨ad359, e359, hx359_0, hx359_1, hx359_2, hx359_3, hx359_4, hx359_5, hx359_6, hx359_7⟩ := at_T69 HR0.out x5_1 p359 q359
                          obtain rfl : ad357 = ad359 := (by injection e359)
                          replace hx359_0 := (HB.out.cell (World.block_lt_of_cell? w _ hx359_0)).trans hx359_0
                          replace hx359_1 := (HB.out.cell (World.block_lt_of_cell? w _ hx359_1)).trans hx359_1
                          replace hx359_2 := (HB.out.cell (World.block_lt_of_cell? w _ hx359_2)).trans hx359_2
                          replace hx359_3 := (HB.out.cell (World.block_lt_of_cell? w _ hx359_3)).trans hx359_3
                          replace hx359_4 := (HB.out.cell (World.block_lt_of_cell? w _ hx359_4)).trans hx359_4
                          replace hx359_5 := (HB.out.cell (World.block_lt_of_cell? w _ hx359_5)).trans hx359_5
                          replace hx359_6 := (HB.out.cell (World.block_lt_of_cell? w _ hx359_6)).trans hx359_6
                          replace hx359_7 := (HB.out.cell (World.block_lt_of_cell? w _ hx359_7)).trans hx359_7
                          replace p359 := eq_true p359
                          replace q359 := eq_true q359
                          have p360 : 0 ≤ (x5_1 : Int) := of_decide_eq_true (by (with_reducible assumption))
                          have q360 : x5_1 < (l0.length : Int) := of_decide_eq_true (by (with_reducible assumption))
                          obtain ⟨ad360, e360, hx360_0, hx360_1, hx360_2, hx360_3, hx360_4, hx360_5, hx360_6, hx360_7⟩ := at_T69 HR0.out x5_1 p360 q360
                          obtain rfl : ad357 = ad360 := (by injection e360)
                          replace hx360_0 := (HB.out.cell (World.block_lt_of_cell? w _ hx360_0)).trans hx360_0
                          replace hx360_1 := (HB.out.cell (World.block_lt_of_cell? w _ hx360_1)).trans hx360_1
                          replace hx360_2 := (HB.out.cell (World.block_lt_of_cell? w _ hx360_2)).trans hx360_2
                          replace hx360_3 := (HB.out.cell (World.block_lt_of_cell? w _ hx360_3)).trans hx360_3
                          replace hx360_4 := (HB.out.cell (World.block_lt_of_cell? w _ hx360_4)).trans hx360_4
                          replace hx360_5 := (HB.out.cell (World.block_lt_of_cell? w _ hx360_5)).trans hx360_5
                          replace hx360_6 := (HB.out.cell (World.block_lt_of_cell? w _ hx360_6)).trans hx360_6
                          replace hx360_7 := (HB.out.cell (World.block_lt_of_cell? w _ hx360_7)).trans hx360_7
                          replace p360 := eq_true p360
                          replace q360 := eq_true q360
                          go_wp2
                          go_ret
                          exact ⟨by rfl, by with_reducible exact HB.out⟩
                      · rw [if_neg c13] at H
                        have c13b0 : ((FloatKind.f32.format.order ((rd_T69 l0 x5_1).f2).re (mk32 (ji10)) == some .eq) && (FloatKind.f32.format.order ((rd_T69 l0 x5_1).f2).im 1065353216 == some .eq)) = false := by simpa using c13
                        clear c13
                        obtain rfl := Option.some.inj H
                        have p357 : 0 ≤ (x5_1 : Int) := of_decide_eq_true (by (with_reducible assumption))
                        have q357 : x5_1 < (l0.length : Int) := of_decide_eq_true (by (with_reducible assumption))
                        obtain ⟨ad357, e357, hx357_0, hx357_1, hx357_2, hx357_3, hx357_4, hx357_5, hx357_6, hx357_7⟩ := at_T69 HR0.out x5_1 p357 q357
                        cases e357
                        replace hx357_0 := (HB.out.cell (World.block_lt_of_cell? w _ hx357_0)).trans hx357_0
                        replace hx357_1 := (HB.out.cell (World.block_lt_of_cell? w _ hx357_1)).trans hx357_1
                        replace hx357_2 := (HB.out.cell (World.block_lt_of_cell? w _ hx357_2)).trans hx357_2
                        replace hx357_3 := (HB.out.cell (World.block_lt_of_cell? w _ hx357_3)).trans hx357_3
                        replace hx357_4 := (HB.out.cell (World.block_lt_of_cell? w _ hx357_4)).trans hx357_4
                        replace hx357_5 := (HB.out.cell (World.block_lt_of_cell? w _ hx357_5)).trans hx357_5
                        replace hx357_6 := (HB.out.cell (World.block_lt_of_cell? w _ hx357_6)).trans hx357_6
                        replace hx357_7 := (HB.out.cell (World.block_lt_of_cell? w _ hx357_7)).trans hx357_7
                        replace p357 := eq_true p357
                        replace q357 := eq_true q357
                        have p358 : 0 ≤ (x5_1 : Int) := of_decide_eq_true (by (with_reducible assumption))
                        have q358 : x5_1 < (l0.length : Int) := of_decide_eq_true (by (with_reducible assumption))
                        obtain ⟨ad358, e358, hx358_0, hx358_1, hx358_2, hx358_3, hx358_4, hx358_5, hx358_6, hx358_7⟩ := at_T69 HR0.out x5_1 p358 q358
                        obtain rfl : ad357 = ad358 := (by injection e358)
                        replace hx358_0 := (HB.out.cell (World.block_lt_of_cell? w _ hx358_0)).trans hx358_0
                        replace hx358_1 := (HB.out.cell (World.block_lt_of_cell? w _ hx358_1)).trans hx358_1
                        replace hx358_2 := (HB.out.cell (World.block_lt_of_cell? w _ hx358_2)).trans hx358_2
                        replace hx358_3 := (HB.out.cell (World.block_lt_of_cell? w _ hx358_3)).trans hx358_3
                        replace hx358_4 := (HB.out.cell (World.block_lt_of_cell? w _ hx358_4)).trans hx358_4
                        replace hx358_5 := (HB.out.cell (World.block_lt_of_cell? w _ hx358_5)).trans hx358_5
                        replace hx358_6 := (HB.out.cell (World.block_lt_of_cell? w _ hx358_6)).trans hx358_6
                        replace hx358_7 := (HB.out.cell (World.block_lt_of_cell? w _ hx358_7)).trans hx358_7
                        replace p358 := eq_true p358
                        replace q358 := eq_true q358
                        have p359 : 0 ≤ (x5_1 : Int) := of_decide_eq_true (by (with_reducible assumption))
                        have q359 : x5_1 < (l0.length : Int) := of_decide_eq_true (by (with_reducible assumption))
                        obtain ⟨ad359, e359, hx359_0, hx359_1, hx359_2, hx359_3, hx359_4, hx359_5, hx359_6, hx359_7⟩ := at_T69 HR0.out x5_1 p359 q359
                        obtain rfl : ad357 = ad359 := (by injection e359)
                        replace hx359_0 := (HB.out.cell (World.block_lt_of_cell? w _ hx359_0)).trans hx359_0
                        replace hx359_1 := (HB.out.cell (World.block_lt_of_cell? w _ hx359_1)).trans hx359_1
                        replace hx359_2 := (HB.out.cell (World.block_lt_of_cell? w _ hx359_2)).trans hx359_2
                        replace hx359_3 := (HB.out.cell (World.block_lt_of_cell? w _ hx359_3)).trans hx359_3
                        replace hx359_4 := (HB.out.cell (World.block_lt_of_cell? w _ hx359_4)).trans hx359_4
                        replace hx359_5 := (HB.out.cell (World.block_lt_of_cell? w _ hx359_5)).trans hx359_5
                        replace hx359_6 := (HB.out.cell (World.block_lt_of_cell? w _ hx359_6)).trans hx359_6
                        replace hx359_7 := (HB.out.cell (World.block_lt_of_cell? w _ hx359_7)).trans hx359_7
                        replace p359 := eq_true p359
                        replace q359 := eq_true q359
                        go_wp2
                        go_ret
                        exact ⟨by rfl, by with_reducible exact HB.out⟩
                    · rw [if_neg c12] at H
                      exact absurd H (by simp)
                  · rw [if_neg c11] at H
                    exact absurd H (by simp)
                · rw [if_neg c9] at H
                  have c9b0 : ((FloatKind.f32.format.order ((rd_T69 l0 x5_1).f1).re (mk32 (ji6)) == some .eq) && (FloatKind.f32.format.order ((rd_T69 l0 x5_1).f1).im 1065353216 == some .eq)) = false := by simpa using c9
                  clear c9
                  obtain rfl := Option.some.inj H
                  have p357 : 0 ≤ (x5_1 : Int) := of_decide_eq_true (by (with_reducible assumption))
                  have q357 : x5_1 < (l0.length : Int) := of_decide_eq_true (by (with_reducible assumption))
                  obtain ⟨ad357, e357, hx357_0, hx357_1, hx357_2, hx357_3, hx357_4, hx357_5, hx357_6, hx357_7⟩ := at_T69 HR0.out x5_1 p357 q357
                  cases e357
                  replace hx357_0 := (HB.out.cell (World.block_lt_of_cell? w _ hx357_0)).trans hx357_0
                  replace hx357_1 := (HB.out.cell (World.block_lt_of_cell? w _ hx357_1)).trans hx357_1
                  replace hx357_2 := (HB.out.cell (World.block_lt_of_cell? w _ hx357_2)).trans hx357_2
                  replace hx357_3 := (HB.out.cell (World.block_lt_of_cell? w _ hx357_3)).trans hx357_3
                  replace hx357_4 := (HB.out.cell (World.block_lt_of_cell? w _ hx357_4)).trans hx357_4
                  replace hx357_5 := (HB.out.cell (World.block_lt_of_cell? w _ hx357_5)).trans hx357_5
                  replace hx357_6 := (HB.out.cell (World.block_lt_of_cell? w _ hx357_6)).trans hx357_6
                  replace hx357_7 := (HB.out.cell (World.block_lt_of_cell? w _ hx357_7)).trans hx357_7
                  replace p357 := eq_true p357
                  replace q357 := eq_true q357
                  have p358 : 0 ≤ (x5_1 : Int) := of_decide_eq_true (by (with_reducible assumption))
                  have q358 : x5_1 < (l0.length : Int) := of_decide_eq_true (by (with_reducible assumption))
                  obtain ⟨ad358, e358, hx358_0, hx358_1, hx358_2, hx358_3, hx358_4, hx358_5, hx358_6, hx358_7⟩ := at_T69 HR0.out x5_1 p358 q358
                  obtain rfl : ad357 = ad358 := (by injection e358)
                  replace hx358_0 := (HB.out.cell (World.block_lt_of_cell? w _ hx358_0)).trans hx358_0
                  replace hx358_1 := (HB.out.cell (World.block_lt_of_cell? w _ hx358_1)).trans hx358_1
                  replace hx358_2 := (HB.out.cell (World.block_lt_of_cell? w _ hx358_2)).trans hx358_2
                  replace hx358_3 := (HB.out.cell (World.block_lt_of_cell? w _ hx358_3)).trans hx358_3
                  replace hx358_4 := (HB.out.cell (World.block_lt_of_cell? w _ hx358_4)).trans hx358_4
                  replace hx358_5 := (HB.out.cell (World.block_lt_of_cell? w _ hx358_5)).trans hx358_5
                  replace hx358_6 := (HB.out.cell (World.block_lt_of_cell? w _ hx358_6)).trans hx358_6
                  replace hx358_7 := (HB.out.cell (World.block_lt_of_cell? w _ hx358_7)).trans hx358_7
                  replace p358 := eq_true p358
                  replace q358 := eq_true q358
                  go_wp2
                  go_ret
                  exact ⟨by rfl, by with_reducible exact HB.out⟩
              · rw [if_neg c8] at H
                exact absurd H (by simp)
            · rw [if_neg c7] at H
              exact absurd H (by simp)
          · rw [if_neg c5] at H
            have c5b0 : (((rd_T69 l0 x5_1).f0) == x1_1) = false := beq_eq_false_iff_ne.mpr c5
            have c5b1 : (((rd_T69 l0 x5_1).f0) != x1_1) = true := bne_iff_ne.mpr c5
            obtain rfl := Option.some.inj H
            have p357 : 0 ≤ (x5_1 : Int) := of_decide_eq_true (by (with_reducible assumption))
            have q357 : x5_1 < (l0.length : Int) := of_decide_eq_true (by (with_reducible assumption))
            obtain ⟨ad357, e357, hx357_0, hx357_1, hx357_2, hx357_3, hx357_4, hx357_5, hx357_6, hx357_7⟩ := at_T69 HR0.out x5_1 p357 q357
            cases e357
            replace hx357_0 := (HB.out.cell (World.block_lt_of_cell? w _ hx357_0)).trans hx357_0
            replace hx357_1 := (HB.out.cell (World.block_lt_of_cell? w _ hx357_1)).trans hx357_1
            replace hx357_2 := (HB.out.cell (World.block_lt_of_cell? w _ hx357_2)).trans hx357_2
            replace hx357_3 := (HB.out.cell (World.block_lt_of_cell? w _ hx357_3)).trans hx357_3
            replace hx357_4 := (HB.out.cell (World.block_lt_of_cell? w _ hx357_4)).trans hx357_4
            replace hx357_5 := (HB.out.cell (World.block_lt_of_cell? w _ hx357_5)).trans hx357_5
            replace hx357_6 := (HB.out.cell (World.block_lt_of_cell? w _ hx357_6)).trans hx357_6
            replace hx357_7 := (HB.out.cell (World.block_lt_of_cell? w _ hx357_7)).trans hx357_7
            replace p357 := eq_true p357
            replace q357 := eq_true q357
            go_wp2
            go_ret
            exact ⟨by rfl, by with_reducible exact HB.out⟩
        · rw [if_neg c4] at H
          exact absurd H (by simp)
      · rw [if_neg c3] at H
        have c3b0 : decide (x5_1 < (l0.length : Int)) = false := decide_eq_false c3
        clear c3
        obtain rfl := Option.some.inj H
        go_wp2
        go_ret
        exact ⟨by rfl, by with_reducible exact HB.out⟩

end Go.Proofs.Ytkkokkmhldceiaa.M
