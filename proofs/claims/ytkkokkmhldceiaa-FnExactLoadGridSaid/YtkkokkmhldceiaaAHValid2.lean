/- The program's look at a grid, whole. -/
import Derived.Test.YtkkokkmhldceiaaAHValid
namespace Go.Proofs.Ytkkokkmhldceiaa.M
open Go.RowKit Go.Proofs.YtkkokkmhldceiaaW.PrintWords Go.Proofs.YtkkokkmhldceiaaW.PrintLast Go.Proofs.YtkkokkmhldceiaaW.PrintMore
set_option linter.unusedVariables false
set_option linter.unusedSimpArgs false

set_option maxHeartbeats 2000000 in
theorem validGrid_any (k : Nat) (s0 s1 s2 : Cx) (A4 : Option Addr) (c4 : Nat) (l4 : List S69) (A5 : Option Addr) (c5 : Nat) (l5 : List S72) (w : World) (b r : Bool)
    (hf : impl_ValidFeeder.f k s0 s1 s2 l4 = some b) (hr : (b && (decide (l5.length ≤ 6) && ((List.range l5.length).all fun i => okB (rd_T72 l5 (i : Int)) l4.length))) = r)
    (hC4 : Kd.C k69 w A4 l4.length l4) (hc4 : l4.length ≤ c4) (hC5 : Kd.C k72 w A5 l5.length l5) (hc5 : l5.length ≤ c5) (hn4 : l4.length ≤ 1000000) (hn5 : l5.length ≤ 1000000) :
    Calls Try.prog 44 #[.agg #[.complex .f32 s0.re s0.im, .complex .f32 s1.re s1.im, .complex .f32 s2.re s2.im, .slice A4 l4.length c4, .slice A5 l5.length c5]] w fun e w' => e = .returned (.bool r) ∧ Below w.heap.size w w' := by
  have HF := Lib.hid hf
  have HC4 := Aside0.mk hC4
  have HC5 := Aside0.mk hC5
  have HB := Aside0.mk (Below.refl w.heap.size w)
  clear hf hC4 hC5
  cases b with
  | false =>
    obtain rfl : false = r := by rw [← hr]; rfl
    clear hr
    go_enter Try.func44, Try.ntmps44
    go_wp2_with fail
    refine (impl_ValidFeeder.calls k s0 s1 s2 A4 c4 l4 false _ (Kd.C_below HC4.out ?_) hc4 HF.out).mono ?_
    · repeat (first | exact HB.out | apply below_alloc)
    rintro e w' ⟨rfl, hb⟩
    obtain ⟨hcb, hfb⟩ := bcell_ hb
    have HB2 := Aside0.mk (below_then (B := w.heap.size) (by repeat (first | exact HB.out | apply below_alloc)) (by go_simp; omega) hb)
    clear hb
    go_wp2_with fail
    go_ret
    exact ⟨rfl, HB2.out⟩
  | true =>
    rw [Bool.true_and] at hr
    by_cases h6 : l5.length ≤ 6
    · have e2 : decide ((l5.length : Int) ≤ 6) = true := decide_eq_true (by omega)
      have e2n : decide (l5.length ≤ 6) = true := decide_eq_true h6
      rw [e2n, Bool.true_and] at hr
      have HR := Lib.hid hr
      clear hr
      go_enter Try.func44, Try.ntmps44
      go_wp2_with fail
      refine (impl_ValidFeeder.calls k s0 s1 s2 A4 c4 l4 true _ (Kd.C_below HC4.out ?_) hc4 HF.out).mono ?_
      · repeat (first | exact HB.out | apply below_alloc)
      rintro e w' ⟨rfl, hb⟩
      obtain ⟨hcb, hfb⟩ := bcell_ hb
      have hz := hb.size
      have HB2 := Aside0.mk (below_then (B := w.heap.size) (by repeat (first | exact HB.out | apply below_alloc)) (by go_simp; omega) hb)
      clear hb
      have HC5r := Aside0.mk (Kd.C_below HC5.out HB2.out)
      go_wp2_with fail
      refine (contains67 l5 l4.length A5 c5 ⟨w.heap.size + 1, 0, none⟩ _ ?_ hn4 HC5r.out hn5 r HR.out).mono ?_
      · go_simp
      rintro e w2 ⟨rfl, hb⟩
      have HB3 := Aside0.mk (below_then HB2.out HB2.out.size hb)
      clear hb
      go_wp2_with fail
      go_ret
      exact ⟨by simp, HB3.out⟩
    · have e2 : decide ((l5.length : Int) ≤ 6) = false := decide_eq_false (by omega)
      have e2n : decide (l5.length ≤ 6) = false := decide_eq_false h6
      obtain rfl : false = r := by rw [← hr, e2n]; rfl
      clear hr
      go_enter Try.func44, Try.ntmps44
      go_wp2_with fail
      refine (impl_ValidFeeder.calls k s0 s1 s2 A4 c4 l4 true _ (Kd.C_below HC4.out ?_) hc4 HF.out).mono ?_
      · repeat (first | exact HB.out | apply below_alloc)
      rintro e w' ⟨rfl, hb⟩
      obtain ⟨hcb, hfb⟩ := bcell_ hb
      have HB2 := Aside0.mk (below_then (B := w.heap.size) (by repeat (first | exact HB.out | apply below_alloc)) (by go_simp; omega) hb)
      clear hb
      go_wp2_with fail
      go_ret
      exact ⟨rfl, HB2.out⟩
end Go.Proofs.Ytkkokkmhldceiaa.M
