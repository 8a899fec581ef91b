/- The laws' comparisons of complex numbers, and of what holds them. -/
import Derived.Test.YtkkokkmhldceiaaAHWide
namespace Go.Proofs.Ytkkokkmhldceiaa.M
open Go.RowKit Go.Proofs.YtkkokkmhldceiaaW.PrintWords Go.Proofs.YtkkokkmhldceiaaW.PrintLast Go.Proofs.YtkkokkmhldceiaaW.PrintMore
set_option linter.unusedVariables false
set_option linter.unusedSimpArgs false

set_option maxHeartbeats 1000000 in
theorem sameComplex_any (a b c d : Nat) (w : World) :
    Calls Try.prog 75 #[.complex .f64 a b, .complex .f64 c d] w fun e w' => e = .returned (.bool (same64 a c && same64 b d)) ∧ Drawn0 w w' := by
  cases h : same64 a c with
  | true =>
    have H1 := Lib.hid h
    clear h
    go_enter Try.func75, Try.ntmps75
    go_wp2_with fail
    refine (sameFloat_any _ _ _).mono ?_
    rintro e w1 ⟨rfl, ⟨n1, rfl⟩⟩
    rw [H1.out]
    go_wp2_with fail
    refine (sameFloat_any _ _ _).mono ?_
    rintro e w1 ⟨rfl, ⟨n2, rfl⟩⟩
    go_wp2_with fail
    go_ret
    exact ⟨by simp, by repeat (first | exact Drawn0.refl _ | apply Drawn0.step)⟩
  | false =>
    have H1 := Lib.hid h
    clear h
    go_enter Try.func75, Try.ntmps75
    go_wp2_with fail
    refine (sameFloat_any _ _ _).mono ?_
    rintro e w1 ⟨rfl, ⟨n1, rfl⟩⟩
    rw [H1.out]
    go_wp2_with fail
    go_ret
    exact ⟨by simp, by repeat (first | exact Drawn0.refl _ | apply Drawn0.step)⟩
theorem sameComplex_wide (x y : Cx) (w1 w2 w3 w4 w : World) :
    Calls Try.prog 75 #[.complex .f64 (wa x.re w1) (wa x.im w2), .complex .f64 (wa y.re w3) (wa y.im w4)] w fun e w' => e = .returned (.bool (sameCx x y)) ∧ Drawn0 w w' := by
  refine (sameComplex_any _ _ _ _ _).mono ?_
  rintro e w' ⟨rfl, h⟩
  exact ⟨by rw [same_wide, same_wide]; rfl, h⟩
theorem bcell_ {W w1 : World} (hb : Below W.heap.size W w1) : (∀ b o, b < W.heap.size → w1.cell? ⟨b, o, none⟩ = W.cell? ⟨b, o, none⟩) ∧ (∀ b o, b < W.heap.size → w1.frozen? ⟨b, o, none⟩ = W.frozen? ⟨b, o, none⟩) :=
  ⟨fun b o h => hb.cell (p := ⟨b, o, none⟩) h, fun b o h => hb.frozen (p := ⟨b, o, none⟩) h⟩
def laws_eqPhases.f (a0_0 : Cx) (a0_1 : Cx) (a0_2 : Cx) (a1_0 : Cx) (a1_1 : Cx) (a1_2 : Cx) : Option Bool := some (sameCx a0_0 a1_0 && sameCx a0_1 a1_1 && sameCx a0_2 a1_2)
set_option maxHeartbeats 4000000 in
theorem laws_eqPhases.calls (a0_0 : Cx) (a0_1 : Cx) (a0_2 : Cx) (a1_0 : Cx) (a1_1 : Cx) (a1_2 : Cx) (r : Bool) (w : World) (h : laws_eqPhases.f a0_0 a0_1 a0_2 a1_0 a1_1 a1_2 = some r) :
    Calls Try.prog 46 #[.agg #[.complex .f32 a0_0.re a0_0.im, .complex .f32 a0_1.re a0_1.im, .complex .f32 a0_2.re a0_2.im], .agg #[.complex .f32 a1_0.re a1_0.im, .complex .f32 a1_1.re a1_1.im, .complex .f32 a1_2.re a1_2.im]] w fun e w' => e = .returned (.bool r) ∧ Below w.heap.size w w' := by
  have hr : (sameCx a0_0 a1_0 && sameCx a0_1 a1_1 && sameCx a0_2 a1_2) = r := Option.some.inj h
  clear h
  have HB := Aside0.mk (Below.refl w.heap.size w)
  cases h0 : sameCx a0_0 a1_0 with
  | false =>
    obtain rfl : false = r := by rw [← hr]; simp only [h0, Bool.and_true, Bool.true_and, Bool.and_false, Bool.false_and]
    clear hr
    have H0 := Lib.hid h0
    clear h0
    go_enter Try.func46, Try.ntmps46
    go_wp2_with fail
    refine (sameComplex_wide a0_0 a1_0 _ _ _ _ _).mono ?_
    rintro e w1 ⟨rfl, ⟨n0, rfl⟩⟩
    rw [H0.out]
    go_wp2_with fail
    go_ret
    exact ⟨rfl, by repeat ((with_reducible first | exact HB.out | apply below_alloc | apply pw_below_drewN))⟩
  | true =>
    cases h1 : sameCx a0_1 a1_1 with
    | false =>
      obtain rfl : false = r := by rw [← hr]; simp only [h0, h1, Bool.and_true, Bool.true_and, Bool.and_false, Bool.false_and]
      clear hr
      have H0 := Lib.hid h0
      clear h0
      have H1 := Lib.hid h1
      clear h1
      go_enter Try.func46, Try.ntmps46
      go_wp2_with fail
      refine (sameComplex_wide a0_0 a1_0 _ _ _ _ _).mono ?_
      rintro e w1 ⟨rfl, ⟨n0, rfl⟩⟩
      rw [H0.out]
      go_wp2_with fail
      refine (sameComplex_wide a0_1 a1_1 _ _ _ _ _).mono ?_
      rintro e w1 ⟨rfl, ⟨n1, rfl⟩⟩
      rw [H1.out]
      go_wp2_with fail
      go_ret
      exact ⟨rfl, by repeat ((with_reducible first | exact HB.out | apply below_alloc | apply pw_below_drewN))⟩
    | true =>
      cases h2 : sameCx a0_2 a1_2 with
      | false =>
        obtain rfl : false = r := by rw [← hr]; simp only [h0, h1, h2, Bool.and_true, Bool.true_and, Bool.and_false, Bool.false_and]
        clear hr
        have H0 := Lib.hid h0
        clear h0
        have H1 := Lib.hid h1
        clear h1
        have H2 := Lib.hid h2
        clear h2
        go_enter Try.func46, Try.ntmps46
        go_wp2_with fail
        refine (sameComplex_wide a0_0 a1_0 _ _ _ _ _).mono ?_
        rintro e w1 ⟨rfl, ⟨n0, rfl⟩⟩
        rw [H0.out]
        go_wp2_with fail
        refine (sameComplex_wide a0_1 a1_1 _ _ _ _ _).mono ?_
        rintro e w1 ⟨rfl, ⟨n1, rfl⟩⟩
        rw [H1.out]
        go_wp2_with fail
        refine (sameComplex_wide a0_2 a1_2 _ _ _ _ _).mono ?_
        rintro e w1 ⟨rfl, ⟨n2, rfl⟩⟩
        rw [H2.out]
        go_wp2_with fail
        go_ret
        exact ⟨rfl, by repeat ((with_reducible first | exact HB.out | apply below_alloc | apply pw_below_drewN))⟩
      | true =>
        obtain rfl : true = r := by rw [← hr]; simp only [h0, h1, h2, Bool.and_true, Bool.true_and, Bool.and_false, Bool.false_and]
        clear hr
        have H0 := Lib.hid h0
        clear h0
        have H1 := Lib.hid h1
        clear h1
        have H2 := Lib.hid h2
        clear h2
        go_enter Try.func46, Try.ntmps46
        go_wp2_with fail
        refine (sameComplex_wide a0_0 a1_0 _ _ _ _ _).mono ?_
        rintro e w1 ⟨rfl, ⟨n0, rfl⟩⟩
        rw [H0.out]
        go_wp2_with fail
        refine (sameComplex_wide a0_1 a1_1 _ _ _ _ _).mono ?_
        rintro e w1 ⟨rfl, ⟨n1, rfl⟩⟩
        rw [H1.out]
        go_wp2_with fail
        refine (sameComplex_wide a0_2 a1_2 _ _ _ _ _).mono ?_
        rintro e w1 ⟨rfl, ⟨n2, rfl⟩⟩
        rw [H2.out]
        go_wp2_with fail
        go_ret
        exact ⟨rfl, by repeat ((with_reducible first | exact HB.out | apply below_alloc | apply pw_below_drewN))⟩
def laws_eqBus.f (a0_0 : Int) (a0_1 : Cx) (a0_2 : Cx) (a0_3 : Int) (a0_4 : Cx) (a0_5 : Cx) (a0_6 : Cx) (a0_7 : Int) (a1_0 : Int) (a1_1 : Cx) (a1_2 : Cx) (a1_3 : Int) (a1_4 : Cx) (a1_5 : Cx) (a1_6 : Cx) (a1_7 : Int) : Option Bool := some ((a0_0 == a1_0) && sameCx a0_1 a1_1 && sameCx a0_2 a1_2 && (a0_3 == a1_3) && (sameCx a0_4 a1_4 && sameCx a0_5 a1_5 && sameCx a0_6 a1_6) && (a0_7 == a1_7))
set_option maxHeartbeats 4000000 in
theorem laws_eqBus.calls (a0_0 : Int) (a0_1 : Cx) (a0_2 : Cx) (a0_3 : Int) (a0_4 : Cx) (a0_5 : Cx) (a0_6 : Cx) (a0_7 : Int) (a1_0 : Int) (a1_1 : Cx) (a1_2 : Cx) (a1_3 : Int) (a1_4 : Cx) (a1_5 : Cx) (a1_6 : Cx) (a1_7 : Int) (r : Bool) (w : World) (h : laws_eqBus.f a0_0 a0_1 a0_2 a0_3 a0_4 a0_5 a0_6 a0_7 a1_0 a1_1 a1_2 a1_3 a1_4 a1_5 a1_6 a1_7 = some r) :
    Calls Try.prog 76 #[.agg #[.int .i64 a0_0, .complex .f32 a0_1.re a0_1.im, .complex .f32 a0_2.re a0_2.im, .int .i64 a0_3, .complex .f32 a0_4.re a0_4.im, .complex .f32 a0_5.re a0_5.im, .complex .f32 a0_6.re a0_6.im, .int .i64 a0_7], .agg #[.int .i64 a1_0, .complex .f32 a1_1.re a1_1.im, .complex .f32 a1_2.re a1_2.im, .int .i64 a1_3, .complex .f32 a1_4.re a1_4.im, .complex .f32 a1_5.re a1_5.im, .complex .f32 a1_6.re a1_6.im, .int .i64 a1_7]] w fun e w' => e = .returned (.bool r) ∧ Below w.heap.size w w' := by
  have hr : ((a0_0 == a1_0) && sameCx a0_1 a1_1 && sameCx a0_2 a1_2 && (a0_3 == a1_3) && (sameCx a0_4 a1_4 && sameCx a0_5 a1_5 && sameCx a0_6 a1_6) && (a0_7 == a1_7)) = r := Option.some.inj h
  clear h
  have HB := Aside0.mk (Below.refl w.heap.size w)
  cases h0 : (a0_0 == a1_0) with
  | false =>
    obtain rfl : false = r := by rw [← hr]; simp only [h0, Bool.and_true, Bool.true_and, Bool.and_false, Bool.false_and]
    clear hr
    have g0 : (a0_0 != a1_0) = true := by rw [bne, h0]; rfl
    go_enter Try.func76, Try.ntmps76
    go_wp2_with fail
    go_ret
    exact ⟨rfl, by repeat ((with_reducible first | exact HB.out | apply below_alloc))⟩
  | true =>
    cases h1 : sameCx a0_1 a1_1 with
    | false =>
      obtain rfl : false = r := by rw [← hr]; simp only [h0, h1, Bool.and_true, Bool.true_and, Bool.and_false, Bool.false_and]
      clear hr
      have g0 : (a0_0 != a1_0) = false := by rw [bne, h0]; rfl
      have H1 := Lib.hid h1
      clear h1
      go_enter Try.func76, Try.ntmps76
      go_wp2_with fail
      refine (sameComplex_wide a0_1 a1_1 _ _ _ _ _).mono ?_
      rintro e w1 ⟨rfl, ⟨n1, rfl⟩⟩
      rw [H1.out]
      go_wp2_with fail
      go_ret
      exact ⟨rfl, by repeat ((with_reducible first | exact HB.out | apply below_alloc | apply pw_below_drewN))⟩
    | true =>
      cases h2 : sameCx a0_2 a1_2 with
      | false =>
        obtain rfl : false = r := by rw [← hr]; simp only [h0, h1, h2, Bool.and_true, Bool.true_and, Bool.and_false, Bool.false_and]
        clear hr
        have g0 : (a0_0 != a1_0) = false := by rw [bne, h0]; rfl
        have H1 := Lib.hid h1
        clear h1
        have H2 := Lib.hid h2
        clear h2
        go_enter Try.func76, Try.ntmps76
        go_wp2_with fail
        refine (sameComplex_wide a0_1 a1_1 _ _ _ _ _).mono ?_
        rintro e w1 ⟨rfl, ⟨n1, rfl⟩⟩
        rw [H1.out]
        go_wp2_with fail
        refine (sameComplex_wide a0_2 a1_2 _ _ _ _ _).mono ?_
        rintro e w1 ⟨rfl, ⟨n2, rfl⟩⟩
        rw [H2.out]
        go_wp2_with fail
        go_ret
        exact ⟨rfl, by repeat ((with_reducible first | exact HB.out | apply below_alloc | apply pw_below_drewN))⟩
      | true =>
        cases h3 : (a0_3 == a1_3) with
        | false =>
          obtain rfl : false = r := by rw [← hr]; simp only [h0, h1, h2, h3, Bool.and_true, Bool.true_and, Bool.and_false, Bool.false_and]
          clear hr
          have g0 : (a0_0 != a1_0) = false := by rw [bne, h0]; rfl
          have H1 := Lib.hid h1
          clear h1
          have H2 := Lib.hid h2
          clear h2
          have g3 : (a0_3 != a1_3) = true := by rw [bne, h3]; rfl
          go_enter Try.func76, Try.ntmps76
          go_wp2_with fail
          refine (sameComplex_wide a0_1 a1_1 _ _ _ _ _).mono ?_
          rintro e w1 ⟨rfl, ⟨n1, rfl⟩⟩
          rw [H1.out]
          go_wp2_with fail
          refine (sameComplex_wide a0_2 a1_2 _ _ _ _ _).mono ?_
          rintro e w1 ⟨rfl, ⟨n2, rfl⟩⟩
          rw [H2.out]
          go_wp2_with fail
          go_ret
          exact ⟨rfl, by repeat ((with_reducible first | exact HB.out | apply below_alloc | apply pw_below_drewN))⟩
        | true =>
          cases h4 : (sameCx a0_4 a1_4 && sameCx a0_5 a1_5 && sameCx a0_6 a1_6) with
          | false =>
            obtain rfl : false = r := by rw [← hr]; simp only [h0, h1, h2, h3, h4, Bool.and_true, Bool.true_and, Bool.and_false, Bool.false_and]
            clear hr
            have g0 : (a0_0 != a1_0) = false := by rw [bne, h0]; rfl
            have H1 := Lib.hid h1
            clear h1
            have H2 := Lib.hid h2
            clear h2
            have g3 : (a0_3 != a1_3) = false := by rw [bne, h3]; rfl
            have H4 := Lib.hid h4
            clear h4
            go_enter Try.func76, Try.ntmps76
            go_wp2_with fail
            refine (sameComplex_wide a0_1 a1_1 _ _ _ _ _).mono ?_
            rintro e w1 ⟨rfl, ⟨n1, rfl⟩⟩
            rw [H1.out]
            go_wp2_with fail
            refine (sameComplex_wide a0_2 a1_2 _ _ _ _ _).mono ?_
            rintro e w1 ⟨rfl, ⟨n2, rfl⟩⟩
            rw [H2.out]
            go_wp2_with fail
            refine (laws_eqPhases.calls a0_4 a0_5 a0_6 a1_4 a1_5 a1_6 _ _ rfl).mono ?_
            rintro e wq4 ⟨rfl, hb4⟩
            have HB4 := Aside0.mk (below_then (B := w.heap.size) (by repeat ((with_reducible first | exact HB.out | apply below_alloc | apply pw_below_drewN))) (below_size (by repeat ((with_reducible first | exact HB.out | apply below_alloc | apply pw_below_drewN)))) hb4)
            obtain ⟨hc4, hf4⟩ := bcell_ hb4
            clear hb4
            rw [H4.out]
            go_wp2_with fail
            go_ret
            exact ⟨rfl, by with_reducible exact HB4.out⟩
          | true =>
            cases h5 : (a0_7 == a1_7) with
            | false =>
              obtain rfl : false = r := by rw [← hr]; simp only [h0, h1, h2, h3, h4, h5, Bool.and_true, Bool.true_and, Bool.and_false, Bool.false_and]
              clear hr
              have g0 : (a0_0 != a1_0) = false := by rw [bne, h0]; rfl
              have H1 := Lib.hid h1
              clear h1
              have H2 := Lib.hid h2
              clear h2
              have g3 : (a0_3 != a1_3) = false := by rw [bne, h3]; rfl
              have H4 := Lib.hid h4
              clear h4
              have g5 : (a0_7 != a1_7) = true := by rw [bne, h5]; rfl
              go_enter Try.func76, Try.ntmps76
              go_wp2_with fail
              refine (sameComplex_wide a0_1 a1_1 _ _ _ _ _).mono ?_
              rintro e w1 ⟨rfl, ⟨n1, rfl⟩⟩
              rw [H1.out]
              go_wp2_with fail
              refine (sameComplex_wide a0_2 a1_2 _ _ _ _ _).mono ?_
              rintro e w1 ⟨rfl, ⟨n2, rfl⟩⟩
              rw [H2.out]
              go_wp2_with fail
              refine (laws_eqPhases.calls a0_4 a0_5 a0_6 a1_4 a1_5 a1_6 _ _ rfl).mono ?_
              rintro e wq4 ⟨rfl, hb4⟩
              have HB4 := Aside0.mk (below_then (B := w.heap.size) (by repeat ((with_reducible first | exact HB.out | apply below_alloc | apply pw_below_drewN))) (below_size (by repeat ((with_reducible first | exact HB.out | apply below_alloc | apply pw_below_drewN)))) hb4)
              obtain ⟨hc4, hf4⟩ := bcell_ hb4
              clear hb4
              rw [H4.out]
              go_wp2_with fail
              go_ret
              exact ⟨rfl, by with_reducible exact HB4.out⟩
            | true =>
              obtain rfl : true = r := by rw [← hr]; simp only [h0, h1, h2, h3, h4, h5, Bool.and_true, Bool.true_and, Bool.and_false, Bool.false_and]
              clear hr
              have g0 : (a0_0 != a1_0) = false := by rw [bne, h0]; rfl
              have H1 := Lib.hid h1
              clear h1
              have H2 := Lib.hid h2
              clear h2
              have g3 : (a0_3 != a1_3) = false := by rw [bne, h3]; rfl
              have H4 := Lib.hid h4
              clear h4
              have g5 : (a0_7 != a1_7) = false := by rw [bne, h5]; rfl
              go_enter Try.func76, Try.ntmps76
              go_wp2_with fail
              refine (sameComplex_wide a0_1 a1_1 _ _ _ _ _).mono ?_
              rintro e w1 ⟨rfl, ⟨n1, rfl⟩⟩
              rw [H1.out]
              go_wp2_with fail
              refine (sameComplex_wide a0_2 a1_2 _ _ _ _ _).mono ?_
              rintro e w1 ⟨rfl, ⟨n2, rfl⟩⟩
              rw [H2.out]
              go_wp2_with fail
              refine (laws_eqPhases.calls a0_4 a0_5 a0_6 a1_4 a1_5 a1_6 _ _ rfl).mono ?_
              rintro e wq4 ⟨rfl, hb4⟩
              have HB4 := Aside0.mk (below_then (B := w.heap.size) (by repeat ((with_reducible first | exact HB.out | apply below_alloc | apply pw_below_drewN))) (below_size (by repeat ((with_reducible first | exact HB.out | apply below_alloc | apply pw_below_drewN)))) hb4)
              obtain ⟨hc4, hf4⟩ := bcell_ hb4
              clear hb4
              rw [H4.out]
              go_wp2_with fail
              go_ret
              exact ⟨rfl, by with_reducible exact HB4.out⟩
def laws_eqTie.f (a0_0 : Int) (a0_1 : Int) (a0_2 : Cx) (a0_3 : Cx) (a0_4 : Int) (a1_0 : Int) (a1_1 : Int) (a1_2 : Cx) (a1_3 : Cx) (a1_4 : Int) : Option Bool := some ((a0_0 == a1_0) && (a0_1 == a1_1) && sameCx a0_2 a1_2 && sameCx a0_3 a1_3 && (a0_4 == a1_4))
set_option maxHeartbeats 4000000 in
theorem laws_eqTie.calls (a0_0 : Int) (a0_1 : Int) (a0_2 : Cx) (a0_3 : Cx) (a0_4 : Int) (a1_0 : Int) (a1_1 : Int) (a1_2 : Cx) (a1_3 : Cx) (a1_4 : Int) (r : Bool) (w : World) (h : laws_eqTie.f a0_0 a0_1 a0_2 a0_3 a0_4 a1_0 a1_1 a1_2 a1_3 a1_4 = some r) :
    Calls Try.prog 48 #[.agg #[.int .i64 a0_0, .int .i64 a0_1, .complex .f32 a0_2.re a0_2.im, .complex .f32 a0_3.re a0_3.im, .int .i64 a0_4], .agg #[.int .i64 a1_0, .int .i64 a1_1, .complex .f32 a1_2.re a1_2.im, .complex .f32 a1_3.re a1_3.im, .int .i64 a1_4]] w fun e w' => e = .returned (.bool r) ∧ Below w.heap.size w w' := by
  have hr : ((a0_0 == a1_0) && (a0_1 == a1_1) && sameCx a0_2 a1_2 && sameCx a0_3 a1_3 && (a0_4 == a1_4)) = r := Option.some.inj h
  clear h
  have HB := Aside0.mk (Below.refl w.heap.size w)
  cases h0 : (a0_0 == a1_0) with
  | false =>
    obtain rfl : false = r := by rw [← hr]; simp only [h0, Bool.and_true, Bool.true_and, Bool.and_false, Bool.false_and]
    clear hr
    have g0 : (a0_0 != a1_0) = true := by rw [bne, h0]; rfl
    go_enter Try.func48, Try.ntmps48
    go_wp2_with fail
    go_ret
    exact ⟨rfl, by repeat ((with_reducible first | exact HB.out | apply below_alloc))⟩
  | true =>
    cases h1 : (a0_1 == a1_1) with
    | false =>
      obtain rfl : false = r := by rw [← hr]; simp only [h0, h1, Bool.and_true, Bool.true_and, Bool.and_false, Bool.false_and]
      clear hr
      have g0 : (a0_0 != a1_0) = false := by rw [bne, h0]; rfl
      have g1 : (a0_1 != a1_1) = true := by rw [bne, h1]; rfl
      go_enter Try.func48, Try.ntmps48
      go_wp2_with fail
      go_ret
      exact ⟨rfl, by repeat ((with_reducible first | exact HB.out | apply below_alloc))⟩
    | true =>
      cases h2 : sameCx a0_2 a1_2 with
      | false =>
        obtain rfl : false = r := by rw [← hr]; simp only [h0, h1, h2, Bool.and_true, Bool.true_and, Bool.and_false, Bool.false_and]
        clear hr
        have g0 : (a0_0 != a1_0) = false := by rw [bne, h0]; rfl
        have g1 : (a0_1 != a1_1) = false := by rw [bne, h1]; rfl
        have H2 := Lib.hid h2
        clear h2
        go_enter Try.func48, Try.ntmps48
        go_wp2_with fail
        refine (sameComplex_wide a0_2 a1_2 _ _ _ _ _).mono ?_
        rintro e w1 ⟨rfl, ⟨n2, rfl⟩⟩
        rw [H2.out]
        go_wp2_with fail
        go_ret
        exact ⟨rfl, by repeat ((with_reducible first | exact HB.out | apply below_alloc | apply pw_below_drewN))⟩
      | true =>
        cases h3 : sameCx a0_3 a1_3 with
        | false =>
          obtain rfl : false = r := by rw [← hr]; simp only [h0, h1, h2, h3, Bool.and_true, Bool.true_and, Bool.and_false, Bool.false_and]
          clear hr
          have g0 : (a0_0 != a1_0) = false := by rw [bne, h0]; rfl
          have g1 : (a0_1 != a1_1) = false := by rw [bne, h1]; rfl
          have H2 := Lib.hid h2
          clear h2
          have H3 := Lib.hid h3
          clear h3
          go_enter Try.func48, Try.ntmps48
          go_wp2_with fail
          refine (sameComplex_wide a0_2 a1_2 _ _ _ _ _).mono ?_
          rintro e w1 ⟨rfl, ⟨n2, rfl⟩⟩
          rw [H2.out]
          go_wp2_with fail
          refine (sameComplex_wide a0_3 a1_3 _ _ _ _ _).mono ?_
          rintro e w1 ⟨rfl, ⟨n3, rfl⟩⟩
          rw [H3.out]
          go_wp2_with fail
          go_ret
          exact ⟨rfl, by repeat ((with_reducible first | exact HB.out | apply below_alloc | apply pw_below_drewN))⟩
        | true =>
          cases h4 : (a0_4 == a1_4) with
          | false =>
            obtain rfl : false = r := by rw [← hr]; simp only [h0, h1, h2, h3, h4, Bool.and_true, Bool.true_and, Bool.and_false, Bool.false_and]
            clear hr
            have g0 : (a0_0 != a1_0) = false := by rw [bne, h0]; rfl
            have g1 : (a0_1 != a1_1) = false := by rw [bne, h1]; rfl
            have H2 := Lib.hid h2
            clear h2
            have H3 := Lib.hid h3
            clear h3
            have g4 : (a0_4 != a1_4) = true := by rw [bne, h4]; rfl
            go_enter Try.func48, Try.ntmps48
            go_wp2_with fail
            refine (sameComplex_wide a0_2 a1_2 _ _ _ _ _).mono ?_
            rintro e w1 ⟨rfl, ⟨n2, rfl⟩⟩
            rw [H2.out]
            go_wp2_with fail
            refine (sameComplex_wide a0_3 a1_3 _ _ _ _ _).mono ?_
            rintro e w1 ⟨rfl, ⟨n3, rfl⟩⟩
            rw [H3.out]
            go_wp2_with fail
            go_ret
            exact ⟨rfl, by repeat ((with_reducible first | exact HB.out | apply below_alloc | apply pw_below_drewN))⟩
          | true =>
            obtain rfl : true = r := by rw [← hr]; simp only [h0, h1, h2, h3, h4, Bool.and_true, Bool.true_and, Bool.and_false, Bool.false_and]
            clear hr
            have g0 : (a0_0 != a1_0) = false := by rw [bne, h0]; rfl
            have g1 : (a0_1 != a1_1) = false := by rw [bne, h1]; rfl
            have H2 := Lib.hid h2
            clear h2
            have H3 := Lib.hid h3
            clear h3
            have g4 : (a0_4 != a1_4) = false := by rw [bne, h4]; rfl
            go_enter Try.func48, Try.ntmps48
            go_wp2_with fail
            refine (sameComplex_wide a0_2 a1_2 _ _ _ _ _).mono ?_
            rintro e w1 ⟨rfl, ⟨n2, rfl⟩⟩
            rw [H2.out]
            go_wp2_with fail
            refine (sameComplex_wide a0_3 a1_3 _ _ _ _ _).mono ?_
            rintro e w1 ⟨rfl, ⟨n3, rfl⟩⟩
            rw [H3.out]
            go_wp2_with fail
            go_ret
            exact ⟨rfl, by repeat ((with_reducible first | exact HB.out | apply below_alloc | apply pw_below_drewN))⟩
end Go.Proofs.Ytkkokkmhldceiaa.M
