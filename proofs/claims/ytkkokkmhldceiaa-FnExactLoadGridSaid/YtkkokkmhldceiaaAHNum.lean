/- impl's reader reads a number: its contract. -/
import Derived.Test.YtkkokkmhldceiaaAJMf89
import Derived.RegionTactic
import Derived.BigRegion
import Derived.BigGuard
import Derived.ChangeAlike
namespace Go.Proofs.Ytkkokkmhldceiaa.M
open Go.RowKit Go.Proofs.YtkkokkmhldceiaaW.PrintWords Go.Proofs.YtkkokkmhldceiaaW.PrintLast Go.Proofs.YtkkokkmhldceiaaW.PrintMore
attribute [local go_sem] max2_int min2_int max_two min_two max_three min_three max_four min_four   -- for this text's walks alone
set_option linter.unusedVariables false
set_option linter.unusedSimpArgs false

/-! ### impl_reader_number: function 41 -/
mutual
def impl_reader_number.j0 : Nat → Int → ByteArray → Int → Bool → Option (Int × ByteArray × Int × Bool)
  | 0, _, _, _, _ => none
  | k + 1, x1, x1000, x1001, x1002 => if x1002 = true then (some (0, x1000, x1001, x1002)) else (impl_reader_number.l0 k x1 0 (wrap64 (x1 - 1)) x1000 x1001 x1002)
def impl_reader_number.l0 : Nat → Int → Int → Int → ByteArray → Int → Bool → Option (Int × ByteArray × Int × Bool)
  | 0, _, _, _, _, _, _ => none
  | k + 1, x1, x5, x6, x1000, x1001, x1002 => if x6 ≥ 0 then (if 0 ≤ (wrap64 (x1001 + x6)) then (if (wrap64 (x1001 + x6)) < (x1000.size : Int) then (impl_reader_number.l0 k x1 (wrap64 ((wrap64 (x5 * 256)) + (wrap64 (bt x1000 (wrap64 (x1001 + x6)))))) (wrap64 (x6 - 1)) x1000 x1001 x1002) else (none)) else (none)) else (some (x5, x1000, wrap64 (x1001 + x1), x1002))
end
def impl_reader_number.f (k : Nat) (s0_0 : ByteArray) (s0_1 : Int) (s0_2 : Bool) (a1 : Int) : Option (Int × ByteArray × Int × Bool) := if s0_2 = true then (impl_reader_number.j0 k a1 s0_0 s0_1 true) else (impl_reader_number.j0 k a1 s0_0 s0_1 (decide ((wrap64 (s0_1 + a1)) > (s0_0.size : Int))))
theorem impl_reader_number.mono_l : ∀ k, (∀ y0 y1 y2 y3, LeO (impl_reader_number.j0 k y0 y1 y2 y3) (impl_reader_number.j0 (k + 1) y0 y1 y2 y3)) ∧ (∀ y0 y1 y2 y3 y4 y5, LeO (impl_reader_number.l0 k y0 y1 y2 y3 y4 y5) (impl_reader_number.l0 (k + 1) y0 y1 y2 y3 y4 y5))
  | 0 => ⟨fun _ _ _ _ r h => by simp [impl_reader_number.j0] at h, fun _ _ _ _ _ _ r h => by simp [impl_reader_number.l0] at h⟩
  | k + 1 => by
    obtain ⟨ih0, ih1⟩ := impl_reader_number.mono_l k
    refine ⟨?_, ?_⟩
    · intro y0 y1 y2 y3
      unfold impl_reader_number.j0
      repeat' first
      | (with_reducible exact ih1 _ _ _ _ _ _)
      | (with_reducible exact LeO.refl _)
      | (with_reducible refine LeO.ite ?_ ?_)
    · intro y0 y1 y2 y3 y4 y5
      unfold impl_reader_number.l0
      repeat' first
      | (with_reducible exact ih1 _ _ _ _ _ _)
      | (with_reducible exact LeO.refl _)
      | (with_reducible refine LeO.ite ?_ ?_)
theorem impl_reader_number.mono : ∀ a0 a1 a2 a3 k, LeO (impl_reader_number.f k a0 a1 a2 a3) (impl_reader_number.f (k + 1) a0 a1 a2 a3) := by
  intro a0 a1 a2 a3 k
  obtain ⟨ih0, ih1⟩ := impl_reader_number.mono_l k
  unfold impl_reader_number.f
  repeat' first
      | (with_reducible exact ih0 _ _ _ _)
      | (with_reducible refine LeO.ite ?_ ?_)
set_option maxHeartbeats 8000000 in
set_option maxRecDepth 100000 in
theorem impl_reader_number.calls (k : Nat) (g : Nat) (s0_0 : ByteArray) (s0_1 : Int) (s0_2 : Bool) (a1 : Int) (r1 : Int) (r2 : ByteArray) (r3 : Int) (r4 : Bool) (w0 w : World) (hI : IsS78 w0 w g s0_0 s0_1 s0_2) (hB : Below w0.heap.size w0 w) (h : impl_reader_number.f k s0_0 s0_1 s0_2 a1 = some (r1, r2, r3, r4)) :
    Calls Try.prog 41 #[.pointer (some ⟨g, 0, none⟩), .int .i64 a1] w fun e w' => e = .returned (.int .i64 r1) ∧ IsS78 w0 w' g r2 r3 r4 ∧ Below w0.heap.size w0 w' ∧ KeepBut w w' g none := by
  have HI0 := Aside0.mk hI
  have HK := Aside0.mk (KeepBut.refl w g none)
  have HL := Aside0.mk hB.size
  clear hI
  have HW0 := Aside0.mk hB.size
  have HB := Aside0.mk hB
  clear hB
  have H : (if s0_2 = true then (impl_reader_number.j0 k a1 s0_0 s0_1 true) else (impl_reader_number.j0 k a1 s0_0 s0_1 (decide ((wrap64 (s0_1 + a1)) > (s0_0.size : Int))))) = some (r1, r2, r3, r4) := h
  clear h
  have HC3 := Aside0.mk H
  clear H
  go_enter Try.func41, Try.ntmps41
  go_upto_region 1 with (fail)
  repeat (go_quiet (fail); go_upto_region 1 with (fail))
  go_cut [] (fun wc => ∃ (kq : Nat) (x1002_2 : Bool), Aside0 (impl_reader_number.j0 kq a1 s0_0 s0_1 x1002_2 = some (r1, r2, r3, r4)) ∧ Aside0 (kq ≤ k) ∧ Aside0 (IsS78 w0 wc g s0_0 s0_1 x1002_2) ∧ Aside0 (KeepBut w wc g none) ∧ Aside0 (Below w0.heap.size w0 wc))
  case first =>
    have H := HC3.out
    clear HC3
    by_cases c4 : s0_2 = true
    · subst c4
      have H1 : (impl_reader_number.j0 k a1 s0_0 s0_1 true) = some (r1, r2, r3, r4) := by rw [if_pos rfl] at H; exact H
      clear H
      have H := H1
      clear H1
      have H' := Aside0.mk H
      clear H
      obtain ⟨HGz5, hgz5⟩ := HI0.out
      have hcz5_0 := cellS78_0 HGz5
      have hcz5_1 := cellS78_1 HGz5
      have hcz5_2 := cellS78_2 HGz5
      have hfz5_0 := blk_frozen HGz5 0
      have hfz5_1 := blk_frozen HGz5 1
      have hfz5_2 := blk_frozen HGz5 2
      clear HGz5 hgz5
      go_wp2
      go_region
      go_wp2
      go_meet
      case rel => exact ⟨_, (true), H', ⟨by omega⟩, ⟨by repeat ((with_reducible first | exact HI0.out | apply IsS78.drew | apply IsS78.set_2))⟩, ⟨by repeat ((with_reducible first | exact HK.out | apply KeepBut.set_ | apply keep_drew))⟩, ⟨by repeat ((with_reducible first | exact HB.out | apply below_drew1 | refine below_set ?_ (IsS78.ge HI0.out)))⟩⟩
    · replace c4 := Bool.eq_false_iff.mpr c4
      subst c4
      have H1 : (impl_reader_number.j0 k a1 s0_0 s0_1 (decide ((wrap64 (s0_1 + a1)) > (s0_0.size : Int)))) = some (r1, r2, r3, r4) := by rw [if_neg (show ¬ (false = true) by decide)] at H; exact H
      clear H
      have H := H1
      clear H1
      have H' := Aside0.mk H
      clear H
      obtain ⟨HGz6, hgz6⟩ := HI0.out
      have hcz6_0 := cellS78_0 HGz6
      have hcz6_1 := cellS78_1 HGz6
      have hcz6_2 := cellS78_2 HGz6
      have hfz6_0 := blk_frozen HGz6 0
      have hfz6_1 := blk_frozen HGz6 1
      have hfz6_2 := blk_frozen HGz6 2
      clear HGz6 hgz6
      go_wp2
      go_region
      go_wp2
      go_meet
      case rel => exact ⟨_, (decide ((wrap64 (s0_1 + a1)) > (s0_0.size : Int))), H', ⟨by omega⟩, ⟨by repeat ((with_reducible first | exact HI0.out | apply IsS78.drew | apply IsS78.set_2))⟩, ⟨by repeat ((with_reducible first | exact HK.out | apply KeepBut.set_ | apply keep_drew))⟩, ⟨by repeat ((with_reducible first | exact HB.out | apply below_drew1 | refine below_set ?_ (IsS78.ge HI0.out)))⟩⟩
  case rest =>
    clear HC3
    obtain ⟨kq, x1002_2, HA, HJ2, HI0, HK, HB⟩ := hcut
    cases kq with
    | zero => exact absurd HA.out (by simp [impl_reader_number.j0])
    | succ kj2 =>
      have H := HA.out
      clear HA
      simp only [impl_reader_number.j0] at H
      by_cases c7 : x1002_2 = true
      · subst c7
        have H1 : (some (0, s0_0, s0_1, true)) = some (r1, r2, r3, r4) := by rw [if_pos rfl] at H; exact H
        clear H
        have H := H1
        clear H1
        simp only [Option.some.injEq, Prod.mk.injEq] at H
        obtain ⟨rfl, rfl, rfl, rfl⟩ := H
        obtain ⟨HGz8, hgz8⟩ := HI0.out
        have hcz8_0 := cellS78_0 HGz8
        have hcz8_1 := cellS78_1 HGz8
        have hcz8_2 := cellS78_2 HGz8
        have hfz8_0 := blk_frozen HGz8 0
        have hfz8_1 := blk_frozen HGz8 1
        have hfz8_2 := blk_frozen HGz8 2
        clear HGz8 hgz8
        go_wp2
        repeat (go_quiet (fail); try go_wp2)
        go_ret
        exact ⟨by rfl, by with_reducible exact HI0.out, by with_reducible exact HB.out, by with_reducible exact HK.out⟩
      · replace c7 := Bool.eq_false_iff.mpr c7
        subst c7
        have H1 : (impl_reader_number.l0 kj2 a1 0 (wrap64 (a1 - 1)) s0_0 s0_1 false) = some (r1, r2, r3, r4) := by rw [if_neg (show ¬ (false = true) by decide)] at H; exact H
        clear H
        have H := H1
        clear H1
        have H' := Aside0.mk H
        clear H
        obtain ⟨HGz9, hgz9⟩ := HI0.out
        have hcz9_0 := cellS78_0 HGz9
        have hcz9_1 := cellS78_1 HGz9
        have hcz9_2 := cellS78_2 HGz9
        have hfz9_0 := blk_frozen HGz9 0
        have hfz9_1 := blk_frozen HGz9 1
        have hfz9_2 := blk_frozen HGz9 2
        clear HGz9 hgz9
        go_wp2
        repeat (go_quiet (fail); try go_wp2)
        go_loopg [5, 6] kj2 (fun kq v5 v6 w' => ∃ (x5_2 : Int) (x6_2 : Int), v5 = .int .i64 x5_2 ∧ v6 = .int .i64 x6_2 ∧ Aside0 (impl_reader_number.l0 kq a1 x5_2 x6_2 s0_0 s0_1 false = some (r1, r2, r3, r4)) ∧ Aside0 (kq ≤ kj2) ∧ Aside0 (IsS78 w0 w' g s0_0 s0_1 false) ∧ Aside0 (KeepBut w w' g none) ∧ Aside0 (Below w0.heap.size w0 w'))
        case atStart => exact ⟨(0), (wrap64 (a1 - 1)), (by rfl), (by rfl), H', ⟨Nat.le_refl _⟩, ⟨by with_reducible exact HI0.out⟩, ⟨by with_reducible exact HK.out⟩, ⟨by with_reducible exact HB.out⟩⟩
        case round =>
          clear H'
          try clear hcz9_0
          try clear hcz9_1
          try clear hcz9_2
          try clear hfz9_0
          try clear hfz9_1
          try clear hfz9_2
          obtain ⟨x5_2, x6_2, rfl, rfl, HA, HK2, HI0, HK, HB⟩ := hrel
          cases gk with
          | zero => exact absurd HA.out (by simp [impl_reader_number.l0])
          | succ k2 =>
            have H := HA.out
            clear HA
            simp only [impl_reader_number.l0] at H
            by_cases c10 : x6_2 ≥ 0
            · rw [if_pos c10] at H
              have c10b0 : decide (0 ≤ x6_2) = true := decide_eq_true c10
              clear c10
              obtain ⟨ji11, hji11⟩ : ∃ j_ : Int, (wrap64 (s0_1 + x6_2)) = j_ := ⟨_, rfl⟩
              replace H : (if 0 ≤ (ji11) then (if (ji11) < (s0_0.size : Int) then (impl_reader_number.l0 k2 a1 (wrap64 ((wrap64 (x5_2 * 256)) + (wrap64 (bt s0_0 (ji11))))) (wrap64 (x6_2 - 1)) s0_0 s0_1 false) else (none)) else (none)) = some (r1, r2, r3, r4) := by (rw [hji11] at H; exact H)
              have hji11w : (IntKind.i64.wrap (s0_1 + x6_2)) = ji11 := (i64_w _).trans hji11
              by_cases c12 : 0 ≤ (ji11)
              · rw [if_pos c12] at H
                have c12b0 : decide (0 ≤ (ji11)) = true := decide_eq_true c12
                clear c12
                by_cases c13 : (ji11) < (s0_0.size : Int)
                · rw [if_pos c13] at H
                  have c13b0 : decide ((ji11) < (s0_0.size : Int)) = true := decide_eq_true c13
                  clear c13
                  have H' := Aside0.mk H
                  clear H
                  obtain ⟨HGz15, hgz15⟩ := HI0.out
                  have hcz15_0 := cellS78_0 HGz15
                  have hcz15_1 := cellS78_1 HGz15
                  have hcz15_2 := cellS78_2 HGz15
                  have hfz15_0 := blk_frozen HGz15 0
                  have hfz15_1 := blk_frozen HGz15 1
                  have hfz15_2 := blk_frozen HGz15 2
                  clear HGz15 hgz15
                  have p14 : 0 ≤ ((ji11) : Int) := of_decide_eq_true (by (with_reducible assumption))
                  have q14 : (ji11) < (s0_0.size : Int) := of_decide_eq_true (by (with_reducible assumption))
                  have hx14 := bt_at s0_0 (ji11)
                  replace p14 := eq_true p14
                  replace q14 := eq_true q14
                  go_wp2
                  repeat (go_quiet (fail); try go_wp2)
                  go_roundg k2
                  case measure => have := HJ2.out; have := HK2.out; omega
                  case rel => exact ⟨(wrap64 ((wrap64 (x5_2 * 256)) + (wrap64 (bt s0_0 (ji11))))), (wrap64 (x6_2 - 1)), (by rfl), (by rfl), H', ⟨by have := HJ2.out; have := HK2.out; omega⟩, ⟨by repeat ((with_reducible first | exact HI0.out | apply IsS78.drewN))⟩, ⟨by repeat ((with_reducible first | exact HK.out | apply keep_drewN))⟩, ⟨by repeat ((with_reducible first | exact HB.out | apply pw_below_drewN))⟩⟩
                · rw [if_neg c13] at H
                  exact absurd H (by simp)
              · rw [if_neg c12] at H
                exact absurd H (by simp)
            · rw [if_neg c10] at H
              have c10b0 : decide (0 ≤ x6_2) = false := decide_eq_false c10
              clear c10
              simp only [Option.some.injEq, Prod.mk.injEq] at H
              obtain ⟨rfl, rfl, rfl, rfl⟩ := H
              obtain ⟨HGz16, hgz16⟩ := HI0.out
              have hcz16_0 := cellS78_0 HGz16
              have hcz16_1 := cellS78_1 HGz16
              have hcz16_2 := cellS78_2 HGz16
              have hfz16_0 := blk_frozen HGz16 0
              have hfz16_1 := blk_frozen HGz16 1
              have hfz16_2 := blk_frozen HGz16 2
              clear HGz16 hgz16
              go_wp2
              repeat (go_quiet (fail); try go_wp2)
              go_ret
              exact ⟨by rfl, by repeat ((with_reducible first | exact HI0.out | apply IsS78.set_1)), by repeat ((with_reducible first | exact HB.out | refine below_set ?_ (IsS78.ge HI0.out))), by repeat ((with_reducible first | exact HK.out | apply KeepBut.set_))⟩

end Go.Proofs.Ytkkokkmhldceiaa.M
