/- The reference's look at a tie and at a grid. -/
import Derived.Test.YtkkokkmhldceiaaAHSpec
namespace Go.Proofs.Ytkkokkmhldceiaa.M
open Go.RowKit Go.Proofs.YtkkokkmhldceiaaW.PrintWords Go.Proofs.YtkkokkmhldceiaaW.PrintLast Go.Proofs.YtkkokkmhldceiaaW.PrintMore
set_option linter.unusedVariables false
set_option linter.unusedSimpArgs false

theorem quiet_drawn {P : Program} {f : FuncId} {args : Array Value} {w : World} {n : Nat} {v : Value}
    (h : Calls P f args (w.drewN n) fun e w' => e = .returned v ∧ Drawn0 (w.drewN n) w') : Calls P f args (w.drewN n) fun e w'' => e = .returned v ∧ ∃ m, w'' = w.drewN m :=
  h.mono fun _ _ ⟨he, ⟨m, hm⟩⟩ => ⟨he, n + m, by rw [hm, World.drewN_drewN]⟩

theorem l02At_q {g : Nat} {bus : Int} {n : Nat} {A4 : Option Addr} {c4 : Nat} {w : World} (d3 : w.cell? ⟨g, 3, none⟩ = some (.slice A4 n c4)) (hn : n ≤ 1000000) {b : Bool} (hb : inB bus 0 (n - 1) = b) (m : Nat) :
    Calls Try.prog 82 #[.pointer (some ⟨g, 0, none⟩), .int .i64 bus] (w.drewN m) fun e w' => e = .returned (.bool b) ∧ ∃ m', w' = w.drewN m' := by
  rw [← hb]; exact quiet_drawn (l02At_any g bus n A4 c4 (w.drewN m) d3 hn)
theorem in83_q (n lo hi : Int) (w : World) (m : Nat) : Calls Try.prog 83 #[.int .i64 n, .int .i64 lo, .int .i64 hi] (w.drewN m) fun e w' => e = .returned (.bool (inB n lo hi)) ∧ ∃ m', w' = w.drewN m' :=
  quiet_drawn (in83 n lo hi (w.drewN m))
/-- A tie in memory, from an address on. -/
structure TieAt (w : World) (q : Addr) (x : S72) : Prop where
  c0 : w.cell? q = some (.int .i64 x.f0)
  c1 : w.cell? ⟨q.block, q.off + 1, none⟩ = some (.int .i64 x.f1)
  c2 : w.cell? ⟨q.block, q.off + 2, none⟩ = some (.complex .f32 x.f2.re x.f2.im)
  c3 : w.cell? ⟨q.block, q.off + 3, none⟩ = some (.complex .f32 x.f3.re x.f3.im)
  c4 : w.cell? ⟨q.block, q.off + 4, none⟩ = some (.int .i64 x.f4)
theorem tieAt_of {w : World} {ad : Addr} {l : List S72} (hC : Kd.C k72 w (some ad) l.length l) (i : Int) (h0 : 0 ≤ i) (h1 : i < l.length) : TieAt w (ad.add (i.toNat * 5)) (rd_T72 l i) := by
  obtain ⟨ad', e, h⟩ := at_T72 hC i h0 h1
  obtain rfl := Option.some.inj e
  obtain ⟨a0, a1, a2, a3, a4⟩ := h
  exact ⟨a0, a1, a2, a3, a4⟩
/-- Whether a tie is right for so many buses. -/
def tieB (x : S72) (n : Nat) : Bool := inB x.f0 0 (n - 1) && (inB x.f1 0 (n - 1) && ((x.f0 != x.f1) && inB x.f4 0 16000000))

set_option maxHeartbeats 1000000 in
theorem l08Tie_any (g : Nat) (q : Addr) (x : S72) (n : Nat) (A4 : Option Addr) (c4 : Nat) (w : World) (d3 : w.cell? ⟨g, 3, none⟩ = some (.slice A4 n c4)) (hq : TieAt w q x) (hn : n ≤ 1000000) :
    Calls Try.prog 60 #[.pointer (some ⟨g, 0, none⟩), .pointer (some q)] w fun e w' => e = .returned (.bool (tieB x n)) ∧ Drawn0 w w' := by
  obtain ⟨q0, q1, q2, q3, q4⟩ := hq
  generalize hr : tieB x n = r
  unfold tieB at hr
  cases g0 : inB x.f0 0 (n - 1) with
  | false =>
    obtain rfl : false = r := by rw [← hr, g0]; rfl
    clear hr
    go_enter Try.func60, Try.ntmps60
    go_wp2
    go_quiet (((go_at_call 82; with_reducible exact l02At_q d3 hn g0 _)))
    go_wp2
    go_ret
    exact ⟨rfl, by repeat (first | exact Drawn0.refl _ | apply Drawn0.step)⟩
  | true =>
    rw [g0] at hr
    cases g1 : inB x.f1 0 (n - 1) with
    | false =>
      obtain rfl : false = r := by rw [← hr, g1]; rfl
      clear hr
      go_enter Try.func60, Try.ntmps60
      go_wp2
      go_quiet ((first | (go_at_call 82; with_reducible exact l02At_q d3 hn g0 _) | (go_at_call 82; with_reducible exact l02At_q d3 hn g1 _)))
      go_wp2
      go_ret
      exact ⟨rfl, by repeat (first | exact Drawn0.refl _ | apply Drawn0.step)⟩
    | true =>
      rw [g1] at hr
      cases g2 : (x.f0 != x.f1) with
      | false =>
        obtain rfl : false = r := by rw [← hr, g2]; rfl
        clear hr
        go_enter Try.func60, Try.ntmps60
        go_wp2
        go_quiet ((first | (go_at_call 82; with_reducible exact l02At_q d3 hn g0 _) | (go_at_call 82; with_reducible exact l02At_q d3 hn g1 _)))
        go_wp2
        go_ret
        exact ⟨rfl, by repeat (first | exact Drawn0.refl _ | apply Drawn0.step)⟩
      | true =>
        rw [g2] at hr
        have HR := Lib.hid hr
        clear hr
        go_enter Try.func60, Try.ntmps60
        go_wp2
        go_quiet ((first | (go_at_call 82; with_reducible exact l02At_q d3 hn g0 _) | (go_at_call 82; with_reducible exact l02At_q d3 hn g1 _) | (go_at_call 83; with_reducible exact in83_q _ _ _ _ _)))
        go_wp2
        go_ret
        exact ⟨by rw [← HR.out]; simp, by repeat (first | exact Drawn0.refl _ | apply Drawn0.step)⟩
end Go.Proofs.Ytkkokkmhldceiaa.M
