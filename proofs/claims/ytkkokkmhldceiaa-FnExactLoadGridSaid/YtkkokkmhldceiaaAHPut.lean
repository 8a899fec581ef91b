/- The closure that puts texts into the program's builder. -/
import Derived.Test.YtkkokkmhldceiaaAHBuild
import Derived.Test.YtkkokkmhldceiaaAM0
import Derived.Deep.LoopGhost
namespace Go.Proofs.Ytkkokkmhldceiaa.M
open Go.RowKit Go.Proofs.YtkkokkmhldceiaaW.PrintWords Go.Proofs.YtkkokkmhldceiaaW.PrintLast Go.Proofs.YtkkokkmhldceiaaW.PrintMore
set_option linter.unusedVariables false
set_option linter.unusedSimpArgs false

def cellsOf (parts : List ByteArray) : List Value := parts.flatMap Lib.strCells
def sizesOf (parts : List ByteArray) : Nat := (cellsOf parts).length
theorem cellsOf_take_succ (parts : List ByteArray) (k : Nat) (h : k < parts.length) : cellsOf (parts.take (k + 1)) = cellsOf (parts.take k) ++ Lib.strCells parts[k] := by
  unfold cellsOf
  rw [List.take_succ_eq_append_getElem h, List.flatMap_append]
  simp
theorem sizes_take (parts : List ByteArray) (k : Nat) (h : k < parts.length) : (cellsOf (parts.take k)).length + parts[k].size ≤ sizesOf parts := by
  have h1 := cellsOf_take_succ parts k h
  have h2 : cellsOf parts = cellsOf (parts.take (k + 1)) ++ cellsOf (parts.drop (k + 1)) := by
    unfold cellsOf; rw [← List.flatMap_append, List.take_append_drop]
  unfold sizesOf
  rw [h2, h1]
  simp only [List.length_append, Lib.strCells_length]
  omega

set_option maxHeartbeats 1000000 in
theorem put_any (B b g : Nat) (c : Nat) (parts : List ByteArray) (bs : List Value) (w : World) (h : Lib.IsBuilder 112 5 B b bs w) (hg : w.heap[g]? = some (.cells (parts.map Value.string).toArray 9 (0, 0))) (hgb : g ≠ b)
    (hl : parts.length ≤ 1000) (hs : bs.length + sizesOf parts ≤ 1000000) (hBw : B ≤ w.heap.size) :
    Calls Try.prog 70 #[.slice (some ⟨g, 0, none⟩) parts.length c, .pointer (some ⟨b, 0, none⟩)] w fun e w' => e = .returned (.tuple #[]) ∧ Lib.IsBuilder 112 5 B b (bs ++ cellsOf parts) w' ∧ Below B w w' ∧ Lib.OthersKept 5 (some b) w w' := by
  have H0 := Aside0.mk h
  have HG := Aside0.mk hg
  clear h hg
  go_enter Try.func70, Try.ntmps70
  go_wp2
  go_loopw [4, 7] (fun _ v7 wr => ∃ k : Nat, k ≤ parts.length ∧ v7 = .int .i64 k ∧ Aside0 (Lib.IsBuilder 112 5 B b (bs ++ cellsOf (parts.take k)) wr) ∧ Aside0 (Below B w wr) ∧ Aside0 (Lib.OthersKept 5 (some b) w wr) ∧ Aside0 (B ≤ wr.heap.size)) (fun _ v7 _ => parts.length - (intOf v7).toNat)
  case atStart => exact ⟨0, by omega, rfl, ⟨by simpa [cellsOf] using H0.out⟩, ⟨Below.refl _ _⟩, ⟨Lib.OthersKept.refl _ _ _⟩, ⟨hBw⟩⟩
  case round =>
    clear H0
    obtain ⟨k, hk, rfl, HI, HB, HO, HS⟩ := hrel
    rename_i wr
    by_cases hlt : k < parts.length
    · have f1 : decide ((k : Int) < (parts.length : Int)) = true := decide_eq_true (by omega)
      have f1n : decide (k < parts.length) = true := decide_eq_true hlt
      have hgr : wr.heap[g]? = some (.cells (parts.map Value.string).toArray 9 (0, 0)) := HO.out g _ HG.out (fun e => hgb (by injection e)) (fun c fz e => by injection e with _ e2; exact absurd e2 (by decide))
      have hc : wr.cell? ⟨g, k, none⟩ = some (.string parts[k]) := by
        rw [Lib.cell_of_heap hgr]; simp [hlt]
      have hz := sizes_take parts k hlt
      have HT := Lib.hid (cellsOf_take_succ parts k hlt)
      clear hgr
      generalize parts[k] = x at *
      go_wp2_with fail
      refine (writeString_any B b _ x _ HI.out ?_ HS.out).mono ?_
      · rw [List.length_append]; omega
      rintro e w2 ⟨rfl, h1, h2, h3⟩
      have HI2 : Aside0 (Lib.IsBuilder 112 5 B b (bs ++ cellsOf (parts.take (k + 1))) w2) := ⟨by
        rw [HT.out, ← List.append_assoc]; exact Or.inr h1⟩
      have HB2 := Aside0.mk (HB.out.trans h2)
      have HO2 := Aside0.mk (HO.out.trans h3)
      have HS2 : Aside0 (B ≤ w2.heap.size) := ⟨Nat.le_trans HS.out h2.size⟩
      clear h1 h2 h3 HI HB HO HS
      go_wp2_with fail
      go_roundw
      case rel => exact ⟨k + 1, by omega, by go_num, HI2, HB2, HO2, HS2⟩
      case measure => simp [intOf]; omega
    · have f1 : decide ((k : Int) < (parts.length : Int)) = false := decide_eq_false (by omega)
      have f1n : decide (k < parts.length) = false := decide_eq_false hlt
      obtain rfl : k = parts.length := by omega
      go_wp2_with fail
      go_end0
      refine ⟨rfl, ?_, HB.out, HO.out⟩
      have := HI.out
      rwa [List.take_length] at this
end Go.Proofs.Ytkkokkmhldceiaa.M
