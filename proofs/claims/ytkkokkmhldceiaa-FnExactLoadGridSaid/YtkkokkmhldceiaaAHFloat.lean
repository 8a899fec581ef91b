/- The laws' comparison of two 64-bit numbers: what it answers for any bits. -/
import Derived.Test.YtkkokkmhldceiaaAM0
import Derived.Lib.Hide
namespace Go.Proofs.Ytkkokkmhldceiaa.M
open Go.RowKit Go.Proofs.YtkkokkmhldceiaaW.PrintWords Go.Proofs.YtkkokkmhldceiaaW.PrintLast Go.Proofs.YtkkokkmhldceiaaW.PrintMore

def nan64 (x : Nat) : Bool := FloatKind.f64.format.order x x != some .eq
def feq64 (x y : Nat) : Bool := FloatKind.f64.format.order x y == some .eq
def pos64 (x : Nat) : Bool := FloatKind.f64.format.order ((FloatKind.f64.format.div 4607182418800017408 x).getD 0) 0 == some .gt
/-- The same value: equal with one sign of zero, or both no number. -/
def same64 (x y : Nat) : Bool :=
  if nan64 x || nan64 y then nan64 x && nan64 y
  else if feq64 x 0 && feq64 y 0 then pos64 x == pos64 y
  else feq64 x y

theorem one_read : FloatKind.f64.format.read 4607182418800017408 = .number false 4503599627370496 (-52) := by kernel_rfl
theorem div_one (x : Nat) (h : feq64 x 0 = true) : ∃ r, FloatKind.f64.format.div 4607182418800017408 x = some r := by
  unfold feq64 Ieee.Format.order at h
  unfold Ieee.Format.div
  rw [one_read]
  revert h
  generalize FloatKind.f64.format.read x = d
  intro h
  cases d with
  | number s m e =>
    unfold Ieee.Datum.quotient
    by_cases hm : m = 0 <;> simp [hm]
  | infinity s => simp [Ieee.Datum.quotient]
  | nan s t => simp [Ieee.Datum.order] at h

set_option maxHeartbeats 2000000 in
theorem sameFloat_any (x y : Nat) (w : World) :
    Calls Try.prog 90 #[.float .f64 x, .float .f64 y] w fun e w' => e = .returned (.bool (same64 x y)) ∧ Drawn0 w w' := by
  have hX : nan64 x = (FloatKind.f64.format.order x x != some .eq) := rfl
  have hY : nan64 y = (FloatKind.f64.format.order y y != some .eq) := rfl
  have hX0 : feq64 x 0 = (FloatKind.f64.format.order x 0 == some .eq) := rfl
  have hY0 : feq64 y 0 = (FloatKind.f64.format.order y 0 == some .eq) := rfl
  have hXY : feq64 x y = (FloatKind.f64.format.order x y == some .eq) := rfl
  have hdx := div_one x
  have hdy := div_one y
  have hpx : pos64 x = (FloatKind.f64.format.order ((FloatKind.f64.format.div 4607182418800017408 x).getD 0) 0 == some .gt) := rfl
  have hpy : pos64 y = (FloatKind.f64.format.order ((FloatKind.f64.format.div 4607182418800017408 y).getD 0) 0 == some .gt) := rfl
  generalize hS : same64 x y = R
  unfold same64 at hS
  cases nx : nan64 x with
  | true =>
    rw [nx] at hX hS
    have HS := Lib.hid hS
    have a1 : (FloatKind.f64.format.order x x != some .eq) = true := hX.symm
    have HY := Lib.hid hY
    clear hS hX0 hY0 hXY hdx hdy hpx hpy nx hX hY
    go_enter Try.func90, Try.ntmps90
    go_wp2
    repeat (go_quiet (fail); try go_wp2)
    go_ret
    refine ⟨?_, by repeat (exact Drawn0.refl _)⟩
    rw [← HS.out, HY.out]; simp
  | false =>
    rw [nx] at hX hS
    have a1 : (FloatKind.f64.format.order x x != some .eq) = false := hX.symm
    cases ny : nan64 y with
    | true =>
      rw [ny] at hY hS
      have HS := Lib.hid hS
      have a2 : (FloatKind.f64.format.order y y != some .eq) = true := hY.symm
      clear hS hX0 hY0 hXY hdx hdy hpx hpy nx ny hX hY
      go_enter Try.func90, Try.ntmps90
      go_wp2
      repeat (go_quiet (fail); try go_wp2)
      go_ret
      refine ⟨?_, by repeat (exact Drawn0.refl _)⟩
      rw [← HS.out]; simp
    | false =>
      rw [ny] at hY hS
      have a2 : (FloatKind.f64.format.order y y != some .eq) = false := hY.symm
      cases nx0 : feq64 x 0 with
      | false =>
        rw [nx0] at hX0 hS
        have HS := Lib.hid hS
        have a3 : (FloatKind.f64.format.order x 0 == some .eq) = false := hX0.symm
        have HXY := Lib.hid hXY
        clear hS hX0 hY0 hXY hdx hdy hpx hpy nx ny hX hY nx0
        go_enter Try.func90, Try.ntmps90
        go_wp2
        repeat (go_quiet (fail); try go_wp2)
        go_ret
        refine ⟨?_, by repeat (exact Drawn0.refl _)⟩
        rw [← HS.out, HXY.out]; simp
      | true =>
        rw [nx0] at hX0 hS
        have a3 : (FloatKind.f64.format.order x 0 == some .eq) = true := hX0.symm
        cases ny0 : feq64 y 0 with
        | false =>
          rw [ny0] at hY0 hS
          have HS := Lib.hid hS
          have a4 : (FloatKind.f64.format.order y 0 == some .eq) = false := hY0.symm
          have HXY := Lib.hid hXY
          clear hS hX0 hY0 hXY hdx hdy hpx hpy nx ny hX hY nx0 ny0
          go_enter Try.func90, Try.ntmps90
          go_wp2
          repeat (go_quiet (fail); try go_wp2)
          go_ret
          refine ⟨?_, by repeat (exact Drawn0.refl _)⟩
          rw [← HS.out, HXY.out]; simp
        | true =>
          rw [ny0] at hY0 hS
          have a4 : (FloatKind.f64.format.order y 0 == some .eq) = true := hY0.symm
          obtain ⟨rx, hrx⟩ := hdx nx0
          obtain ⟨ry, hry⟩ := hdy ny0
          rw [hrx] at hpx
          rw [hry] at hpy
          have HS := Lib.hid hS
          have HPX := Lib.hid hpx
          have HPY := Lib.hid hpy
          have o1 : ∀ t w, (binOp .quo t (.float .f64 4607182418800017408) (.float .f64 x)).run Try.prog w = .ok (.float .f64 rx) w := fun t w => run_float_arith w .quo t .f64 _ _ rx hrx
          have o2 : ∀ t w, (binOp .quo t (.float .f64 4607182418800017408) (.float .f64 y)).run Try.prog w = .ok (.float .f64 ry) w := fun t w => run_float_arith w .quo t .f64 _ _ ry hry
          clear hS hX0 hY0 hXY hdx hdy hpx hpy nx ny hX hY nx0 ny0 hrx hry
          go_enter Try.func90, Try.ntmps90
          go_wp2
          repeat (go_quiet (fail); try go_wp2)
          go_wp2_with (simp only [o1, o2])
          repeat (go_quiet (fail); try go_wp2)
          go_ret
          refine ⟨?_, by repeat (exact Drawn0.refl _)⟩
          rw [← HS.out, HPX.out, HPY.out]; simp
end Go.Proofs.Ytkkokkmhldceiaa.M
