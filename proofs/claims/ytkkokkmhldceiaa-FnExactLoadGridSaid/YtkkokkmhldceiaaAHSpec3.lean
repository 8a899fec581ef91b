/- The reference's look at a grid. -/
import Derived.Test.YtkkokkmhldceiaaAHSpec2
namespace Go.Proofs.Ytkkokkmhldceiaa.M
open Go.RowKit Go.Proofs.YtkkokkmhldceiaaW.PrintWords Go.Proofs.YtkkokkmhldceiaaW.PrintLast Go.Proofs.YtkkokkmhldceiaaW.PrintMore
set_option linter.unusedVariables false
set_option linter.unusedSimpArgs false

def tiesB (l : List S72) (n : Nat) : Bool := (List.range l.length).all fun i => tieB (rd_T72 l (i : Int)) n
/-- Whether a grid is right. -/
def gridB (l4 : List S69) (l5 : List S72) : Bool := feederB l4 && (decide (l5.length ≤ 6) && tiesB l5 l4.length)

theorem l08Tie_q {g : Nat} {q : Addr} {x : S72} {n : Nat} {A4 : Option Addr} {c4 : Nat} {w : World} (d3 : w.cell? ⟨g, 3, none⟩ = some (.slice A4 n c4)) (hq : TieAt w q x) (hn : n ≤ 1000000) {b : Bool} (hb : tieB x n = b) (m : Nat) :
    Calls Try.prog 60 #[.pointer (some ⟨g, 0, none⟩), .pointer (some q)] (w.drewN m) fun e w' => e = .returned (.bool b) ∧ ∃ m', w' = w.drewN m' := by
  rw [← hb]
  exact quiet_drawn (l08Tie_any g q x n A4 c4 (w.drewN m) d3 ⟨hq.c0, hq.c1, hq.c2, hq.c3, hq.c4⟩ hn)

set_option maxHeartbeats 2000000 in
theorem l08Is_any (g : Nat) (A4 : Option Addr) (c4 : Nat) (l4 : List S69) (A5 : Option Addr) (c5 : Nat) (l5 : List S72) (w : World)
    (d3 : w.cell? ⟨g, 3, none⟩ = some (.slice A4 l4.length c4)) (d4 : w.cell? ⟨g, 4, none⟩ = some (.slice A5 l5.length c5)) (hC4 : Kd.C k69 w A4 l4.length l4) (hC5 : Kd.C k72 w A5 l5.length l5) (hn4 : l4.length ≤ 1000000) (hn5 : l5.length ≤ 1000000) :
    Calls Try.prog 37 #[.pointer (some ⟨g, 0, none⟩)] w fun e w' => e = .returned (.bool (gridB l4 l5)) ∧ Drawn0 w w' := by
  generalize hr : gridB l4 l5 = r
  unfold gridB at hr
  have HC4 := Aside0.mk hC4
  have HC5 := Aside0.mk hC5
  clear hC4 hC5
  cases gf : feederB l4 with
  | false =>
    have GF := Lib.hid gf
    obtain rfl : false = r := by rw [← hr, gf]; rfl
    clear hr gf
    go_enter Try.func37, Try.ntmps37
    go_wp2_with fail
    refine (l02Is_any g l4 A4 c4 _ d3 HC4.out hn4).mono ?_
    rintro e w' ⟨rfl, ⟨nd, rfl⟩⟩
    rw [GF.out]
    go_wp2_with fail
    go_ret
    exact ⟨rfl, by repeat (first | exact Drawn0.refl _ | apply Drawn0.step)⟩
  | true =>
    have GF := Lib.hid gf
    rw [gf] at hr
    clear gf
    by_cases h6 : l5.length ≤ 6
    · have e2 : decide ((6 : Int) < (l5.length : Int)) = false := decide_eq_false (by omega)
      have e2n : decide (6 < l5.length) = false := decide_eq_false (by omega)
      rw [decide_eq_true h6] at hr
      have HR := Lib.hid hr
      clear hr
      go_enter Try.func37, Try.ntmps37
      go_wp2_with fail
      refine (l02Is_any g l4 A4 c4 _ d3 HC4.out hn4).mono ?_
      rintro e w' ⟨rfl, ⟨nd, rfl⟩⟩
      rw [GF.out]
      go_wp2_with fail
      go_loopw [3] (fun v3 wr => ∃ k : Nat, k ≤ l5.length ∧ v3 = .int .i64 k ∧ Aside0 (∀ i, i < k → tieB (rd_T72 l5 (i : Int)) l4.length = true) ∧ Aside0 (Drawn0 w wr)) (fun v3 _ => l5.length - (intOf v3).toNat)
      case atStart => exact ⟨0, by omega, rfl, ⟨fun i hi => absurd hi (by omega)⟩, ⟨by repeat (first | exact Drawn0.refl _ | apply Drawn0.step)⟩⟩
      case round =>
        obtain ⟨k, hk, rfl, HA, HD⟩ := hrel
        rename_i wr
        have d3r : wr.cell? ⟨g, 3, none⟩ = some (.slice A4 l4.length c4) := by obtain ⟨n, rfl⟩ := HD.out; exact d3
        have d4r : wr.cell? ⟨g, 4, none⟩ = some (.slice A5 l5.length c5) := by obtain ⟨n, rfl⟩ := HD.out; exact d4
        have HC5r : Aside0 (Kd.C k72 wr A5 l5.length l5) := ⟨by obtain ⟨n, rfl⟩ := HD.out; exact HC5.out⟩
        clear d3 d4 HC5
        by_cases hlt : k < l5.length
        · have f1 : decide ((k : Int) < (l5.length : Int)) = true := decide_eq_true (by omega)
          have f1n : decide (k < l5.length) = true := decide_eq_true hlt
          have p0 : 0 ≤ (k : Int) := by omega
          have p1 : (k : Int) < (l5.length : Int) := by omega
          obtain ⟨ad, rfl, _⟩ := at_T72 HC5r.out (k : Int) p0 p1
          have TA : Aside0 (TieAt wr (ad.add (k * 5)) (rd_T72 l5 (k : Int))) := ⟨tieAt_of HC5r.out (k : Int) p0 p1⟩
          cases hb : tieB (rd_T72 l5 (k : Int)) l4.length with
          | false =>
            have HBf := Lib.hid hb
            obtain rfl : false = r := by
              rw [← HR.out, Bool.true_and, Bool.true_and]
              exact (List.all_eq_false.2 ⟨k, List.mem_range.2 hlt, by rw [hb]; decide⟩).symm
            clear hb HA
            go_wp2
            go_quiet ((go_at_call 60; with_reducible exact l08Tie_q d3r TA.out hn4 HBf.out _))
            go_wp2
            go_ret
            exact ⟨rfl, by repeat (first | exact HD.out | apply Drawn0.step)⟩
          | true =>
            have HA2 := Aside0.mk (upto_step (f := fun i => tieB (rd_T72 l5 (i : Int)) l4.length) HA.out hb)
            have HBf := Lib.hid hb
            clear hb HA
            go_wp2
            go_quiet ((go_at_call 60; with_reducible exact l08Tie_q d3r TA.out hn4 HBf.out _))
            go_wp2
            go_roundw
            case rel => exact ⟨k + 1, by omega, by go_num, HA2, ⟨by repeat (first | exact HD.out | apply Drawn0.step)⟩⟩
            case measure => simp [intOf]; omega
        · have f1 : decide ((k : Int) < (l5.length : Int)) = false := decide_eq_false (by omega)
          have f1n : decide (k < l5.length) = false := decide_eq_false hlt
          obtain rfl : true = r := by
            rw [← HR.out, Bool.true_and, Bool.true_and]
            exact (List.all_eq_true.2 fun i hi => HA.out i (by have := List.mem_range.1 hi; omega)).symm
          clear HA
          go_wp2_with fail
          go_ret
          exact ⟨rfl, by repeat (exact HD.out)⟩
    · have e2 : decide ((6 : Int) < (l5.length : Int)) = true := decide_eq_true (by omega)
      have e2n : decide (6 < l5.length) = true := decide_eq_true (by omega)
      obtain rfl : false = r := by rw [← hr, decide_eq_false h6]; rfl
      clear hr
      go_enter Try.func37, Try.ntmps37
      go_wp2_with fail
      refine (l02Is_any g l4 A4 c4 _ d3 HC4.out hn4).mono ?_
      rintro e w' ⟨rfl, ⟨nd, rfl⟩⟩
      rw [GF.out]
      go_wp2_with fail
      go_ret
      exact ⟨rfl, by repeat (first | exact Drawn0.refl _ | apply Drawn0.step)⟩
end Go.Proofs.Ytkkokkmhldceiaa.M
