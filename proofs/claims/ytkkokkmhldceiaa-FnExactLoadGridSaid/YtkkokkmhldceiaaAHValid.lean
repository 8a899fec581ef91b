/- The program's look at a grid. -/
import Derived.Test.YtkkokkmhldceiaaAHSpec3
import Derived.Test.YtkkokkmhldceiaaAMf66
import Derived.Test.YtkkokkmhldceiaaAHEq
namespace Go.Proofs.Ytkkokkmhldceiaa.M
open Go.RowKit Go.Proofs.YtkkokkmhldceiaaW.PrintWords Go.Proofs.YtkkokkmhldceiaaW.PrintLast Go.Proofs.YtkkokkmhldceiaaW.PrintMore
set_option linter.unusedVariables false
set_option linter.unusedSimpArgs false

/-- Whether a tie is right, in the program's order. -/
def okB (x : S72) (n : Nat) : Bool := (x.f0 != x.f1) && (inB x.f0 0 (n - 1) && (inB x.f1 0 (n - 1) && inB x.f4 0 16000000))
theorem in53_q (n lo hi : Int) (w : World) (m : Nat) : Calls Try.prog 53 #[.int .i64 n, .int .i64 lo, .int .i64 hi] (w.drewN m) fun e w' => e = .returned (.bool (inB n lo hi)) ∧ ∃ m', w' = w.drewN m' :=
  quiet_drawn (in53 n lo hi (w.drewN m))
theorem okB_eq (x : S72) (n : Nat) : okB x n = tieB x n := by
  unfold okB tieB
  cases (x.f0 != x.f1) <;> cases inB x.f0 0 (n - 1) <;> cases inB x.f1 0 (n - 1) <;> rfl

set_option maxHeartbeats 2000000 in
theorem tieOk_any (q : Addr) (x : S72) (n : Nat) (w : World) (hq : TieAt w q x) (hn : n ≤ 1000000) :
    Calls Try.prog 69 #[.pointer (some q), .int .i64 n] w fun e w' => e = .returned (.bool (okB x n)) ∧ Drawn0 w w' := by
  obtain ⟨q0, q1, q2, q3, q4⟩ := hq
  generalize hr : okB x n = r
  unfold okB at hr
  cases g0 : (x.f0 != x.f1) with
  | false =>
    obtain rfl : false = r := by rw [← hr, g0]; rfl
    clear hr
    go_enter Try.func69, Try.ntmps69
    go_wp2_with (go_at_call 53; (with_reducible refine (in53 _ _ _ _).mono ?_); rintro e w' ⟨rfl, ⟨nd, rfl⟩⟩)
    repeat (go_quiet ((go_at_call 53; with_reducible exact in53_q _ _ _ _ _)); try go_wp2)
    go_ret
    exact ⟨rfl, by repeat (first | exact Drawn0.refl _ | apply Drawn0.step)⟩
  | true =>
    rw [g0] at hr
    cases g1 : inB x.f0 0 (n - 1) with
    | false =>
      obtain rfl : false = r := by rw [← hr, g1]; rfl
      clear hr
      go_enter Try.func69, Try.ntmps69
      go_wp2_with (go_at_call 53; (with_reducible refine (in53 _ _ _ _).mono ?_); rintro e w' ⟨rfl, ⟨nd, rfl⟩⟩)
      repeat (go_quiet ((go_at_call 53; with_reducible exact in53_q _ _ _ _ _)); try go_wp2)
      go_ret
      exact ⟨rfl, by repeat (first | exact Drawn0.refl _ | apply Drawn0.step)⟩
    | true =>
      rw [g1] at hr
      cases g2 : inB x.f1 0 (n - 1) with
      | false =>
        obtain rfl : false = r := by rw [← hr, g2]; rfl
        clear hr
        go_enter Try.func69, Try.ntmps69
        go_wp2_with (go_at_call 53; (with_reducible refine (in53 _ _ _ _).mono ?_); rintro e w' ⟨rfl, ⟨nd, rfl⟩⟩)
        repeat (go_quiet ((go_at_call 53; with_reducible exact in53_q _ _ _ _ _)); try go_wp2)
        go_ret
        exact ⟨rfl, by repeat (first | exact Drawn0.refl _ | apply Drawn0.step)⟩
      | true =>
        rw [g2] at hr
        have HR := Lib.hid hr
        clear hr
        go_enter Try.func69, Try.ntmps69
        go_wp2_with (go_at_call 53; (with_reducible refine (in53 _ _ _ _).mono ?_); rintro e w' ⟨rfl, ⟨nd, rfl⟩⟩)
        repeat (go_quiet ((go_at_call 53; with_reducible exact in53_q _ _ _ _ _)); try go_wp2)
        go_ret
        exact ⟨by rw [← HR.out]; simp, by repeat (first | exact Drawn0.refl _ | apply Drawn0.step)⟩

theorem drawn_below {w w' W : World} (h : Drawn0 w w') (hb : Below W.heap.size W w) : Below W.heap.size W w' := by
  obtain ⟨n, rfl⟩ := h
  exact pw_below_drewN hb n

/-- The closure: a tie is not right. -/
theorem closure68 (x : S72) (n : Nat) (p : Addr) (w : World) (hp : w.cell? p = some (.int .i64 n)) (hn : n ≤ 1000000) :
    Calls Try.prog 68 #[.agg #[.int .i64 x.f0, .int .i64 x.f1, .complex .f32 x.f2.re x.f2.im, .complex .f32 x.f3.re x.f3.im, .int .i64 x.f4], .pointer (some p)] w fun e w' => e = .returned (.bool (!okB x n)) ∧ Below w.heap.size w w' := by
  have hlt := World.block_lt_of_cell? w p hp
  have hp2 : ∀ o, (w.alloc o).cell? p = some (.int .i64 n) := fun o => pw_cell_below (below_alloc (Below.refl _ _) o) hp
  go_enter Try.func68, Try.ntmps68
  go_wp2_with fail
  refine (tieOk_any _ x n _ ?_ hn).mono ?_
  · exact ⟨by go_simp, by go_simp, by go_simp, by go_simp, by go_simp⟩
  rintro e w' ⟨rfl, ⟨nd, rfl⟩⟩
  go_wp2_with fail
  go_ret
  exact ⟨rfl, by repeat (first | exact Below.refl _ _ | apply below_alloc | apply pw_below_drewN)⟩

def okUpto (l : List S72) (n k : Nat) : Prop := ∀ i, i < k → okB (rd_T72 l (i : Int)) n = true

/-- All ties are right: none is found. -/
theorem index87 (l : List S72) (n : Nat) (A : Option Addr) (c : Nat) (p : Addr) (w : World) (hp : w.cell? p = some (.int .i64 n)) (hn : n ≤ 1000000) (hC : Kd.C k72 w A l.length l) (hl : l.length ≤ 1000000) (r : Bool)
    (hr : ((List.range l.length).all fun i => okB (rd_T72 l (i : Int)) n) = r) :
    Calls Try.prog 87 #[.slice A l.length c, .func (.func 68) #[] #[.pointer (some p)]] w fun e w' => (∃ i : Int, e = .returned (.int .i64 i) ∧ (decide (0 ≤ i)) = !r) ∧ Below w.heap.size w w' := by
  have HR := Lib.hid hr
  have HP := Aside0.mk hp
  have HC := Aside0.mk hC
  have HB := Aside0.mk (Below.refl w.heap.size w)
  clear hr hp hC
  go_enter Try.func87, Try.ntmps87
  go_wp2
  go_loopw [5, 8] (fun _ v8 wr => ∃ k : Nat, k ≤ l.length ∧ v8 = .int .i64 k ∧ Aside0 (okUpto l n k) ∧ Aside0 (Below w.heap.size w wr)) (fun _ v8 _ => l.length - (intOf v8).toNat)
  case atStart => exact ⟨0, by omega, rfl, ⟨fun i hi => absurd hi (by omega)⟩, HB⟩
  case round =>
    clear HB
    obtain ⟨k, hk, rfl, HA, HB⟩ := hrel
    rename_i wr
    by_cases hlt : k < l.length
    · have f1 : decide ((k : Int) < (l.length : Int)) = true := decide_eq_true (by omega)
      have f1n : decide (k < l.length) = true := decide_eq_true hlt
      have p0 : 0 ≤ (k : Int) := by omega
      have p1 : (k : Int) < (l.length : Int) := by omega
      have HC2 := Aside0.mk (Kd.C_below HC.out HB.out)
      have HP2 := Aside0.mk (pw_cell_below HB.out HP.out)
      obtain ⟨ad, rfl, _⟩ := at_T72 HC2.out (k : Int) p0 p1
      have TA : TieAt wr (ad.add (k * 5)) (rd_T72 l (k : Int)) := tieAt_of HC2.out (k : Int) p0 p1
      obtain ⟨t0, t1, t2, t3, t4⟩ := TA
      cases hb : okB (rd_T72 l (k : Int)) n with
      | false =>
        have HBf := Lib.hid hb
        obtain rfl : false = r := by
          rw [← HR.out]
          exact (List.all_eq_false.2 ⟨k, List.mem_range.2 hlt, by rw [hb]; decide⟩).symm
        clear hb HA
        go_wp2_with fail
        refine (closure68 (rd_T72 l (k : Int)) n p _ HP2.out hn).mono ?_
        rintro e w' ⟨rfl, hbel⟩
        rw [HBf.out]
        have HB3 := Aside0.mk (below_then HB.out HB.out.size hbel)
        clear hbel
        go_wp2_with fail
        go_ret
        exact ⟨⟨_, rfl, by simp⟩, HB3.out⟩
      | true =>
        have HA2 := Aside0.mk (upto_step (f := fun i => okB (rd_T72 l (i : Int)) n) HA.out hb)
        have HBf := Lib.hid hb
        clear hb HA
        go_wp2_with fail
        refine (closure68 (rd_T72 l (k : Int)) n p _ HP2.out hn).mono ?_
        rintro e w' ⟨rfl, hbel⟩
        rw [HBf.out]
        have HB3 := Aside0.mk (below_then HB.out HB.out.size hbel)
        clear hbel
        go_wp2_with fail
        go_roundw
        case rel => exact ⟨k + 1, by omega, by go_num, HA2, HB3⟩
        case measure => simp [intOf]; omega
    · have f1 : decide ((k : Int) < (l.length : Int)) = false := decide_eq_false (by omega)
      have f1n : decide (k < l.length) = false := decide_eq_false hlt
      obtain rfl : true = r := by
        rw [← HR.out]
        exact (List.all_eq_true.2 fun i hi => HA.out i (by have := List.mem_range.1 hi; omega)).symm
      clear HA
      go_wp2_with fail
      go_ret
      exact ⟨⟨_, rfl, by simp⟩, HB.out⟩

theorem contains67 (l : List S72) (n : Nat) (A : Option Addr) (c : Nat) (p : Addr) (w : World) (hp : w.cell? p = some (.int .i64 n)) (hn : n ≤ 1000000) (hC : Kd.C k72 w A l.length l) (hl : l.length ≤ 1000000) (r : Bool)
    (hr : ((List.range l.length).all fun i => okB (rd_T72 l (i : Int)) n) = r) :
    Calls Try.prog 67 #[.slice A l.length c, .func (.func 68) #[] #[.pointer (some p)]] w fun e w' => e = .returned (.bool (!r)) ∧ Below w.heap.size w w' := by
  have HR := Lib.hid hr
  have HP := Aside0.mk hp
  have HC := Aside0.mk hC
  clear hr hp hC
  go_enter Try.func67, Try.ntmps67
  go_wp2_with fail
  refine (index87 l n A c p _ HP.out hn HC.out hl r HR.out).mono ?_
  rintro e w' ⟨⟨i, rfl, hi⟩, hb⟩
  go_wp2_with fail
  go_ret
  exact ⟨rfl, hb⟩
end Go.Proofs.Ytkkokkmhldceiaa.M
