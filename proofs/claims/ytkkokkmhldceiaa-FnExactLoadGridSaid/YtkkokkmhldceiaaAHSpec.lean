/- The reference's looks at a bus, a tie, a feeder, a grid that pointers lead to: what they answer. -/
import Derived.Test.YtkkokkmhldceiaaAJMf89
import Derived.Lib.Hide
namespace Go.Proofs.Ytkkokkmhldceiaa.M
open Go.RowKit Go.Proofs.YtkkokkmhldceiaaW.PrintWords Go.Proofs.YtkkokkmhldceiaaW.PrintLast Go.Proofs.YtkkokkmhldceiaaW.PrintMore
set_option linter.unusedVariables false
set_option linter.unusedSimpArgs false

def inB (n lo hi : Int) : Bool := decide (lo ≤ n) && decide (n ≤ hi)
theorem in83_eq (n lo hi : Int) : spec_l00In.f n lo hi = some (inB n lo hi) := by
  unfold spec_l00In.f inB
  by_cases h : n ≥ lo
  · rw [if_pos h]; simp [show lo ≤ n from h]
  · rw [if_neg h]; simp [show ¬ lo ≤ n from h]
theorem in83 (n lo hi : Int) (w : World) : Calls Try.prog 83 #[.int .i64 n, .int .i64 lo, .int .i64 hi] w fun e w' => e = .returned (.bool (inB n lo hi)) ∧ Drawn0 w w' :=
  spec_l00In.calls n lo hi _ w (in83_eq n lo hi)
theorem in53_eq (n lo hi : Int) : impl_in.f n lo hi = some (inB n lo hi) := by
  unfold impl_in.f inB
  by_cases h : n ≥ lo
  · rw [if_pos h]; simp [show lo ≤ n from h]
  · rw [if_neg h]; simp [show ¬ lo ≤ n from h]
theorem in53 (n lo hi : Int) (w : World) : Calls Try.prog 53 #[.int .i64 n, .int .i64 lo, .int .i64 hi] w fun e w' => e = .returned (.bool (inB n lo hi)) ∧ Drawn0 w w' :=
  impl_in.calls n lo hi _ w (in53_eq n lo hi)

def isZ (x : Cx) : Bool := (FloatKind.f32.format.order x.re 0 == some .eq) && (FloatKind.f32.format.order x.im 0 == some .eq)
/-- Whether a bus at an index is right. -/
def busB (x : S69) (i : Int) : Bool :=
  inB x.f3 0 2 && (inB x.f5 0 1000000 && (if i = 0 then x.f0 == -1 && (isZ x.f1 && isZ x.f2) else inB x.f0 0 (i - 1)))

/-- A bus in memory, from an address on. -/
structure BusAt (w : World) (q : Addr) (x : S69) : Prop where
  c0 : w.cell? q = some (.int .i64 x.f0)
  c1 : w.cell? ⟨q.block, q.off + 1, none⟩ = some (.complex .f32 x.f1.re x.f1.im)
  c2 : w.cell? ⟨q.block, q.off + 2, none⟩ = some (.complex .f32 x.f2.re x.f2.im)
  c3 : w.cell? ⟨q.block, q.off + 3, none⟩ = some (.int .i64 x.f3)
  c4 : w.cell? ⟨q.block, q.off + 4, none⟩ = some (.complex .f32 x.f4.f0.re x.f4.f0.im)
  c5 : w.cell? ⟨q.block, q.off + 5, none⟩ = some (.complex .f32 x.f4.f1.re x.f4.f1.im)
  c6 : w.cell? ⟨q.block, q.off + 6, none⟩ = some (.complex .f32 x.f4.f2.re x.f4.f2.im)
  c7 : w.cell? ⟨q.block, q.off + 7, none⟩ = some (.int .i64 x.f5)

theorem inB_of (n lo hi : Int) (b : Bool) (h : inB n lo hi = b) : (decide (lo ≤ n) && decide (n ≤ hi)) = b := h

set_option maxHeartbeats 2000000 in
theorem l02Bus_any (q : Addr) (x : S69) (i : Int) (w : World) (hq : BusAt w q x) (hi0 : 0 ≤ i) (hi1 : i ≤ 1000000) :
    Calls Try.prog 81 #[.pointer (some q), .int .i64 i] w fun e w' => e = .returned (.bool (busB x i)) ∧ Drawn0 w w' := by
  obtain ⟨c0, c1, c2, c3, c4, c5, c6, c7⟩ := hq
  generalize hr : busB x i = r
  unfold busB isZ at hr
  cases h3 : inB x.f3 0 2 with
  | false =>
    obtain rfl : false = r := by rw [← hr, h3]; rfl
    clear hr
    go_enter Try.func81, Try.ntmps81
    go_wp2_with (go_at_call 83; (with_reducible refine (in83 _ _ _ _).mono ?_); rintro e w' ⟨rfl, ⟨nd, rfl⟩⟩)
    go_ret
    exact ⟨rfl, by repeat (first | exact Drawn0.refl _ | apply Drawn0.step)⟩
  | true =>
    rw [h3] at hr
    cases h5 : inB x.f5 0 1000000 with
    | false =>
      obtain rfl : false = r := by rw [← hr, h5]; rfl
      clear hr
      go_enter Try.func81, Try.ntmps81
      go_wp2_with (go_at_call 83; (with_reducible refine (in83 _ _ _ _).mono ?_); rintro e w' ⟨rfl, ⟨nd, rfl⟩⟩)
      go_ret
      exact ⟨rfl, by repeat (first | exact Drawn0.refl _ | apply Drawn0.step)⟩
    | true =>
      rw [h5] at hr
      by_cases hz : i = 0
      · rw [if_pos hz] at hr
        have z1 : (i == 0) = true := beq_iff_eq.mpr hz
        cases g0 : (x.f0 == -1) with
        | false =>
          obtain rfl : false = r := by rw [← hr, g0]; rfl
          clear hr hz hi0 hi1
          go_enter Try.func81, Try.ntmps81
          go_wp2_with (go_at_call 83; (with_reducible refine (in83 _ _ _ _).mono ?_); rintro e w' ⟨rfl, ⟨nd, rfl⟩⟩)
          go_ret
          exact ⟨rfl, by repeat (first | exact Drawn0.refl _ | apply Drawn0.step)⟩
        | true =>
          rw [g0] at hr
          cases g1 : ((FloatKind.f32.format.order x.f1.re 0 == some .eq) && (FloatKind.f32.format.order x.f1.im 0 == some .eq)) with
          | false =>
            obtain rfl : false = r := by rw [← hr, g1]; rfl
            clear hr hz hi0 hi1
            go_enter Try.func81, Try.ntmps81
            go_wp2_with (go_at_call 83; (with_reducible refine (in83 _ _ _ _).mono ?_); rintro e w' ⟨rfl, ⟨nd, rfl⟩⟩)
            go_ret
            exact ⟨rfl, by repeat (first | exact Drawn0.refl _ | apply Drawn0.step)⟩
          | true =>
            rw [g1] at hr
            have HR := Lib.hid hr
            clear hr hz hi0 hi1
            go_enter Try.func81, Try.ntmps81
            go_wp2_with (go_at_call 83; (with_reducible refine (in83 _ _ _ _).mono ?_); rintro e w' ⟨rfl, ⟨nd, rfl⟩⟩)
            go_ret
            exact ⟨by rw [← HR.out]; simp, by repeat (first | exact Drawn0.refl _ | apply Drawn0.step)⟩
      · rw [if_neg hz] at hr
        have z1 : (i == 0) = false := beq_eq_false_iff_ne.mpr hz
        have HR := Lib.hid hr
        clear hr hz
        go_enter Try.func81, Try.ntmps81
        go_wp2_with (go_at_call 83; (with_reducible refine (in83 _ _ _ _).mono ?_); rintro e w' ⟨rfl, ⟨nd, rfl⟩⟩)
        go_ret
        exact ⟨by rw [← HR.out]; simp, by repeat (first | exact Drawn0.refl _ | apply Drawn0.step)⟩

/-- A grid in memory, in a block of its own: its cells. -/
structure GridAt (w : World) (g : Nat) (s0 s1 s2 : Cx) (A4 : Option Addr) (c4 : Nat) (l4 : List S69) (A5 : Option Addr) (c5 : Nat) (l5 : List S72) : Prop where
  d0 : w.cell? ⟨g, 0, none⟩ = some (.complex .f32 s0.re s0.im)
  d1 : w.cell? ⟨g, 1, none⟩ = some (.complex .f32 s1.re s1.im)
  d2 : w.cell? ⟨g, 2, none⟩ = some (.complex .f32 s2.re s2.im)
  d3 : w.cell? ⟨g, 3, none⟩ = some (.slice A4 l4.length c4)
  d4 : w.cell? ⟨g, 4, none⟩ = some (.slice A5 l5.length c5)

theorem l02At_any (g : Nat) (bus : Int) (n : Nat) (A4 : Option Addr) (c4 : Nat) (w : World) (d3 : w.cell? ⟨g, 3, none⟩ = some (.slice A4 n c4)) (hn : n ≤ 1000000) :
    Calls Try.prog 82 #[.pointer (some ⟨g, 0, none⟩), .int .i64 bus] w fun e w' => e = .returned (.bool (inB bus 0 (n - 1))) ∧ Drawn0 w w' := by
  go_enter Try.func82, Try.ntmps82
  go_wp2_with (go_at_call 83; (with_reducible refine (in83 _ _ _ _).mono ?_); rintro e w' ⟨rfl, ⟨nd, rfl⟩⟩)
  go_ret
  exact ⟨rfl, by repeat (first | exact Drawn0.refl _ | apply Drawn0.step)⟩

def busesB (l : List S69) : Bool := (List.range l.length).all fun i => busB (rd_T69 l (i : Int)) (i : Int)
/-- Whether buses are those of a right feeder. -/
def feederB (l : List S69) : Bool := decide (1 ≤ l.length) && (decide (l.length ≤ 16) && busesB l)

theorem busAt_of {w : World} {ad : Addr} {l : List S69} (hC : Kd.C k69 w (some ad) l.length l) (i : Int) (h0 : 0 ≤ i) (h1 : i < l.length) : BusAt w (ad.add (i.toNat * 8)) (rd_T69 l i) := by
  obtain ⟨ad', e, h⟩ := at_T69 hC i h0 h1
  obtain rfl := Option.some.inj e
  obtain ⟨a0, a1, a2, a3, a4, a5, a6, a7⟩ := h
  exact ⟨a0, a1, a2, a3, a4, a5, a6, a7⟩

theorem upto_step {f : Nat → Bool} {k : Nat} (h : ∀ i, i < k → f i = true) (hk : f k = true) : ∀ i, i < k + 1 → f i = true := by
  intro i hi
  by_cases e : i = k
  · rw [e]; exact hk
  · exact h i (by omega)

set_option maxHeartbeats 2000000 in
theorem l02Is_any (g : Nat) (l : List S69) (A4 : Option Addr) (c4 : Nat) (w : World) (d3 : w.cell? ⟨g, 3, none⟩ = some (.slice A4 l.length c4)) (hC : Kd.C k69 w A4 l.length l) (hn : l.length ≤ 1000000) :
    Calls Try.prog 59 #[.pointer (some ⟨g, 0, none⟩)] w fun e w' => e = .returned (.bool (feederB l)) ∧ Drawn0 w w' := by
  generalize hr : feederB l = r
  unfold feederB at hr
  by_cases h1 : 1 ≤ l.length
  · by_cases h16 : l.length ≤ 16
    · obtain ⟨ad, rfl, _⟩ := at_T69 hC 0 (by omega) (by omega)
      have e1 : decide ((l.length : Int) < 1) = false := decide_eq_false (by omega)
      have e1n : decide (l.length < 1) = false := decide_eq_false (by omega)
      have e2 : decide ((16 : Int) < (l.length : Int)) = false := decide_eq_false (by omega)
      have e2n : decide (16 < l.length) = false := decide_eq_false (by omega)
      rw [decide_eq_true h1, decide_eq_true h16] at hr
      have HR := Lib.hid hr
      have HC := Aside0.mk hC
      clear hr hC
      go_enter Try.func59, Try.ntmps59
      go_wp2
      go_loopw [3] (fun v3 wr => ∃ k n : Nat, k ≤ l.length ∧ v3 = .int .i64 k ∧ Aside0 (∀ i, i < k → busB (rd_T69 l (i : Int)) (i : Int) = true) ∧ wr = w.drewN n) (fun v3 _ => l.length - (intOf v3).toNat)
      case atStart => exact ⟨0, 0, by omega, rfl, ⟨fun i hi => absurd hi (by omega)⟩, rfl⟩
      case round =>
        obtain ⟨k, n, hk, rfl, HA, rfl⟩ := hrel
        by_cases hlt : k < l.length
        · have f1 : decide ((k : Int) < (l.length : Int)) = true := decide_eq_true (by omega)
          have f1n : decide (k < l.length) = true := decide_eq_true hlt
          have p0 : 0 ≤ (k : Int) := by omega
          have p1 : (k : Int) < (l.length : Int) := by omega
          have BA : Aside0 (BusAt (w.drewN n) (ad.add (k * 8)) (rd_T69 l (k : Int))) := ⟨busAt_of (w := w.drewN n) HC.out (k : Int) p0 p1⟩
          cases hb : busB (rd_T69 l (k : Int)) (k : Int) with
          | false =>
            have HBf := Lib.hid hb
            obtain rfl : false = r := by
              rw [← HR.out, Bool.true_and, Bool.true_and]
              exact (List.all_eq_false.2 ⟨k, List.mem_range.2 hlt, by rw [hb]; decide⟩).symm
            clear hb HA
            go_wp2_with fail
            refine (l02Bus_any _ _ _ _ BA.out (by omega) (by omega)).mono ?_
            rintro e w' ⟨rfl, ⟨nd, rfl⟩⟩
            rw [HBf.out]
            go_wp2_with fail
            go_ret
            exact ⟨rfl, by repeat (first | exact Drawn0.refl _ | apply Drawn0.step)⟩
          | true =>
            have HA2 := Aside0.mk (upto_step (f := fun i => busB (rd_T69 l (i : Int)) (i : Int)) HA.out hb)
            have HBf := Lib.hid hb
            clear hb HA
            go_wp2_with fail
            refine (l02Bus_any _ _ _ _ BA.out (by omega) (by omega)).mono ?_
            rintro e w' ⟨rfl, ⟨nd, rfl⟩⟩
            rw [HBf.out]
            go_wp2_with fail
            go_roundw
            case rel => exact ⟨k + 1, n + nd, by omega, by go_num, HA2, rfl⟩
            case measure => simp [intOf]; omega
        · have f1 : decide ((k : Int) < (l.length : Int)) = false := decide_eq_false (by omega)
          have f1n : decide (k < l.length) = false := decide_eq_false hlt
          obtain rfl : true = r := by
            rw [← HR.out, Bool.true_and, Bool.true_and]
            exact (List.all_eq_true.2 fun i hi => HA.out i (by have := List.mem_range.1 hi; omega)).symm
          clear HA
          go_wp2_with fail
          go_ret
          exact ⟨rfl, by repeat (first | exact Drawn0.refl _ | apply Drawn0.step)⟩
    · have e1 : decide ((l.length : Int) < 1) = false := decide_eq_false (by omega)
      have e1n : decide (l.length < 1) = false := decide_eq_false (by omega)
      have e2 : decide ((16 : Int) < (l.length : Int)) = true := decide_eq_true (by omega)
      have e2n : decide (16 < l.length) = true := decide_eq_true (by omega)
      obtain rfl : false = r := by rw [← hr, decide_eq_true h1, decide_eq_false h16]; rfl
      clear hr hC
      go_enter Try.func59, Try.ntmps59
      go_wp2
      go_ret
      exact ⟨rfl, by repeat (exact Drawn0.refl _)⟩
  · have e1 : decide ((l.length : Int) < 1) = true := decide_eq_true (by omega)
    have e1n : decide (l.length < 1) = true := decide_eq_true (by omega)
    obtain rfl : false = r := by rw [← hr, decide_eq_false h1]; rfl
    clear hr hC
    go_enter Try.func59, Try.ntmps59
    go_wp2
    go_ret
    exact ⟨rfl, by repeat (exact Drawn0.refl _)⟩
end Go.Proofs.Ytkkokkmhldceiaa.M
