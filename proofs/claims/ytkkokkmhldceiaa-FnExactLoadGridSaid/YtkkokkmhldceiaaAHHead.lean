/- The bytes of a grid, as the reference writes them. -/
import Derived.Test.YtkkokkmhldceiaaAHText
import Derived.Test.YtkkokkmhldceiaaAHSpec3
import Derived.Test.YtkkokkmhldceiaaAHEq
import Derived.Deep.RegionHeld3
import Derived.Outline
import Derived.IntWalk
namespace Go.Proofs.Ytkkokkmhldceiaa.M
open Go.RowKit Go.Proofs.YtkkokkmhldceiaaW.PrintWords Go.Proofs.YtkkokkmhldceiaaW.PrintLast Go.Proofs.YtkkokkmhldceiaaW.PrintMore
set_option linter.unusedVariables false
set_option linter.unusedSimpArgs false

def busT1 (b : S69) : ByteArray := ((wordB (b.f0 + 1) 1 ++ cxB b.f1) ++ cxB b.f2) ++ wordB b.f3 1
def busT2 (b : S69) : ByteArray := phB b.f4.f0 b.f4.f1 b.f4.f2 ++ wordB b.f5 4
def tieT (t : S72) : ByteArray := (((wordB t.f0 1 ++ wordB t.f1 1) ++ cxB t.f2) ++ cxB t.f3) ++ wordB t.f4 4
def mark4 : ByteArray := ⟨#[70, 68, 82, 49]⟩
def headT0 (s0 s1 s2 : Cx) (n : Nat) : ByteArray := (mark4 ++ phB s0 s1 s2) ++ wordB n 1
def busesT (base : ByteArray) (l : List S69) (k : Nat) : ByteArray := (List.range k).foldl (fun out (i : Nat) => (out ++ busT1 (rd_T69 l (i : Int))) ++ busT2 (rd_T69 l (i : Int))) base
def tiesT (base : ByteArray) (l : List S72) (k : Nat) : ByteArray := (List.range k).foldl (fun out (i : Nat) => out ++ tieT (rd_T72 l (i : Int))) base
/-- The bytes of a grid. -/
def headT (s0 s1 s2 : Cx) (l4 : List S69) (l5 : List S72) : ByteArray :=
  tiesT (busesT (headT0 s0 s1 s2 l4.length) l4 l4.length ++ wordB l5.length 1) l5 l5.length

theorem busesT_succ (base : ByteArray) (l : List S69) (k : Nat) : busesT base l (k + 1) = (busesT base l k ++ busT1 (rd_T69 l (k : Int))) ++ busT2 (rd_T69 l (k : Int)) := by
  unfold busesT; rw [List.range_succ, List.foldl_append]; rfl
theorem tiesT_succ (base : ByteArray) (l : List S72) (k : Nat) : tiesT base l (k + 1) = tiesT base l k ++ tieT (rd_T72 l (k : Int)) := by
  unfold tiesT; rw [List.range_succ, List.foldl_append]; rfl
theorem busT1_size (b : S69) : (busT1 b).size = 18 := by unfold busT1; simp only [ByteArray.size_append, wordB_size, cxB_size]
theorem busT2_size (b : S69) : (busT2 b).size = 28 := by unfold busT2; simp only [ByteArray.size_append, wordB_size, phB_size]
theorem tieT_size (t : S72) : (tieT t).size = 22 := by unfold tieT; simp only [ByteArray.size_append, wordB_size, cxB_size]
theorem headT0_size (s0 s1 s2 : Cx) (n : Nat) : (headT0 s0 s1 s2 n).size = 29 := by unfold headT0; simp only [ByteArray.size_append, wordB_size, phB_size]; rfl
theorem busesT_size (base : ByteArray) (l : List S69) (k : Nat) : (busesT base l k).size = base.size + 46 * k := by
  induction k with
  | zero => simp [busesT]
  | succ k ih => rw [busesT_succ, ByteArray.size_append, ByteArray.size_append, ih, busT1_size, busT2_size]; omega
theorem tiesT_size (base : ByteArray) (l : List S72) (k : Nat) : (tiesT base l k).size = base.size + 22 * k := by
  induction k with
  | zero => simp [tiesT]
  | succ k ih => rw [tiesT_succ, ByteArray.size_append, ih, tieT_size]; omega

/-- What a call that only makes memory leaves: old cells, and more room. -/
theorem left_ {W w1 : World} (hb : Below W.heap.size W w1) : (∀ p : Addr, p.block < W.heap.size → w1.cell? p = W.cell? p) ∧ W.heap.size ≤ w1.heap.size := ⟨fun _ h => hb.cell h, hb.size⟩
theorem below_undrew {w w1 : World} (h : Below w.drew.heap.size w.drew w1) : Below w.heap.size w w1 := ⟨h.os, h.tape, h.output, h.size, h.block⟩

attribute [local go_sem] cxB_size wordB_size phB_size

set_option maxHeartbeats 4000000 in
set_option maxRecDepth 100000 in
theorem l10Head_any (g : Nat) (s0 s1 s2 : Cx) (A4 : Option Addr) (c4 : Nat) (l4 : List S69) (A5 : Option Addr) (c5 : Nat) (l5 : List S72) (w : World)
    (hG : GridAt w g s0 s1 s2 A4 c4 l4 A5 c5 l5) (hC4 : Kd.C k69 w A4 l4.length l4) (hC5 : Kd.C k72 w A5 l5.length l5) (hn4 : l4.length ≤ 100) (hn5 : l5.length ≤ 100)
    (hb4 : ∀ i : Nat, i < l4.length → -1 ≤ (rd_T69 l4 i).f0 ∧ (rd_T69 l4 i).f0 ≤ 1000 ∧ in64 (rd_T69 l4 i).f3 ∧ in64 (rd_T69 l4 i).f5)
    (hb5 : ∀ i : Nat, i < l5.length → in64 (rd_T72 l5 i).f0 ∧ in64 (rd_T72 l5 i).f1 ∧ in64 (rd_T72 l5 i).f4) :
    Calls Try.prog 38 #[.pointer (some ⟨g, 0, none⟩)] w fun e w' => e = .returned (.string (headT s0 s1 s2 l4 l5)) ∧ Below w.heap.size w w' := by
  obtain ⟨d0, d1, d2, d3, d4⟩ := hG
  have hg : g < w.heap.size := World.block_lt_of_cell? w _ d0
  generalize hr : headT s0 s1 s2 l4 l5 = r
  have HR := Lib.hid hr
  have HC4 := Aside0.mk hC4
  have HC5 := Aside0.mk hC5
  have HB4 := Aside0.mk hb4
  have HB5 := Aside0.mk hb5
  have HX := Aside0.mk (Below.refl w.heap.size w)
  clear hr hC4 hC5 hb4 hb5
  go_enter Try.func38, Try.ntmps38
  go_wp2
  go_region_held3 (fun w' => w'.cell? ⟨g, 0, none⟩ = some (.complex .f32 s0.re s0.im) ∧ w'.cell? ⟨g, 1, none⟩ = some (.complex .f32 s1.re s1.im) ∧ w'.cell? ⟨g, 2, none⟩ = some (.complex .f32 s2.re s2.im) ∧ w'.cell? ⟨g, 3, none⟩ = some (.slice A4 l4.length c4))
    ((refine ⟨?_, ?_, ?_, ?_⟩ <;> exact pw_cell_below HX.out (by assumption)))
    (first | (go_at_call 61; (with_reducible refine (ph_any _ _ _ _).mono ?_); rintro e wz ⟨rfl, hbz⟩; (have HX := Aside0.mk (below_then (below_drew1 HX.out) (below_drew1 HX.out).size hbz))) | (go_at_call 62; (with_reducible refine (word_any1 (l4.length : Int) (by unfold in64; omega) _).mono ?_); rintro e wz ⟨rfl, hbz⟩; (have HX := Aside0.mk (below_then HX.out HX.out.size hbz))))
  rename_i hh
  clear hh
  clear hbz
  go_wp2
  go_loopw [4, 5, 6] (fun v4 v5 _ wr => ∃ k : Nat, k ≤ l4.length ∧ v5 = .int .i64 k ∧ v4 = .string (busesT (headT0 s0 s1 s2 l4.length) l4 k) ∧ Aside0 (Below w.heap.size w wr)) (fun _ v5 _ _ => l4.length - (intOf v5).toNat)
  case atStart => exact ⟨0, by omega, rfl, rfl, HX⟩
  case round =>
    clear HX
    obtain ⟨k, hk, rfl, rfl, HB⟩ := hrel
    rename_i wr
    have e3 : wr.cell? ⟨g, 3, none⟩ = some (.slice A4 l4.length c4) := pw_cell_below HB.out d3
    have e4 : wr.cell? ⟨g, 4, none⟩ = some (.slice A5 l5.length c5) := pw_cell_below HB.out d4
    have HX := Aside0.mk (Below.refl wr.heap.size wr)
    by_cases hlt : k < l4.length
    · clear d0 d1 d2 d3 d4
      have f1 : decide ((k : Int) < (l4.length : Int)) = true := decide_eq_true (by omega)
      have f1n : decide (k < l4.length) = true := decide_eq_true hlt
      have p0 : 0 ≤ (k : Int) := by omega
      have p1 : (k : Int) < (l4.length : Int) := by omega
      have HC4r := Aside0.mk (Kd.C_below HC4.out HB.out)
      obtain ⟨ad, rfl, -⟩ := at_T69 HC4r.out (k : Int) p0 p1
      have BA : BusAt wr (ad.add (k * 8)) (rd_T69 l4 (k : Int)) := busAt_of HC4r.out (k : Int) p0 p1
      have hs := busesT_size (headT0 s0 s1 s2 l4.length) l4 k
      have hb4k := HB4.out k hlt
      have HSU := Lib.hid (busesT_succ (headT0 s0 s1 s2 l4.length) l4 k)
      rw [headT0_size] at hs
      clear HC4r
      generalize rd_T69 l4 (k : Int) = x at *
      generalize busesT (headT0 s0 s1 s2 l4.length) l4 k = out at *
      obtain ⟨x0a, x0b, x3, x5⟩ := hb4k
      have i0 : in64 (x.f0 + 1) := by unfold in64; omega
      have i0w : IntKind.i64.wrap (x.f0 + 1) = x.f0 + 1 := IntWalk.i64_in _ (by omega)
      have hso : out.size ≤ 10000 := by omega
      clear hs
      have z1 : (9223372036854775807 < out.size + 18) = False := eq_false (by omega)
      have z2 : (9223372036854775807 < out.size + (1 + 8 + 8 + 1)) = False := eq_false (by omega)
      have z3 : (9223372036854775807 < out.size + 18 + 28) = False := eq_false (by omega)
      have z4 : (9223372036854775807 < out.size + (1 + 8 + 8 + 1) + (24 + 4)) = False := eq_false (by omega)
      have z5 : (9223372036854775807 < out.size + 46) = False := eq_false (by omega)
      obtain ⟨t0, t1, t2, t3, t4, t5, t6, t7⟩ := BA
      go_wp2
      generalize ad.add (k * 8) = q at *
      have hq := World.block_lt_of_cell? wr q t0
      go_region_held3 (fun w' => w'.cell? q = some (.int .i64 x.f0) ∧ w'.cell? ⟨q.block, q.off + 1, none⟩ = some (.complex .f32 x.f1.re x.f1.im) ∧ w'.cell? ⟨q.block, q.off + 2, none⟩ = some (.complex .f32 x.f2.re x.f2.im) ∧ w'.cell? ⟨q.block, q.off + 3, none⟩ = some (.int .i64 x.f3))
        ((refine ⟨?_, ?_, ?_, ?_⟩ <;> exact pw_cell_below HX.out (by assumption)))
        (first | (go_at_call 62; (with_reducible refine (word_any1 (x.f0 + 1) i0 _).mono ?_); rintro e wz ⟨rfl, hbz⟩; (have HX := Aside0.mk (below_then (below_drew1 HX.out) (below_drew1 HX.out).size hbz))) | (go_at_call 62; (with_reducible refine (word_any1 x.f3 x3 _).mono ?_); rintro e wz ⟨rfl, hbz⟩; (have HX := Aside0.mk (below_then HX.out HX.out.size hbz))) | (go_at_call 63; (with_reducible refine (cx_any _ _).mono ?_); rintro e wz ⟨rfl, hbz⟩; (have HX := Aside0.mk (below_then HX.out HX.out.size hbz))))
      rename_i hh
      clear hh
      clear t0 t1 t2 t3 i0 i0w
      replace t4 := pw_cell_below HX.out t4
      replace t5 := pw_cell_below HX.out t5
      replace t6 := pw_cell_below HX.out t6
      replace t7 := pw_cell_below HX.out t7
      have HB := Aside0.mk (below_then HB.out HB.out.size HX.out)
      clear HX hbz
      have HX := Aside0.mk (Below.refl wz.heap.size wz)
      go_wp2
      go_region_held3 (fun w' => w'.cell? ⟨q.block, q.off + 4, none⟩ = some (.complex .f32 x.f4.f0.re x.f4.f0.im) ∧ w'.cell? ⟨q.block, q.off + 5, none⟩ = some (.complex .f32 x.f4.f1.re x.f4.f1.im) ∧ w'.cell? ⟨q.block, q.off + 6, none⟩ = some (.complex .f32 x.f4.f2.re x.f4.f2.im) ∧ w'.cell? ⟨q.block, q.off + 7, none⟩ = some (.int .i64 x.f5))
        ((refine ⟨?_, ?_, ?_, ?_⟩ <;> exact pw_cell_below HX.out (by assumption)))
        (first | (go_at_call 61; (with_reducible refine (ph_any _ _ _ _).mono ?_); rintro e wz ⟨rfl, hbz⟩; (have HX := Aside0.mk (below_then (below_drew1 HX.out) (below_drew1 HX.out).size hbz))) | (go_at_call 62; (with_reducible refine (word_any4 x.f5 x5 _).mono ?_); rintro e wz ⟨rfl, hbz⟩; (have HX := Aside0.mk (below_then HX.out HX.out.size hbz))))
      rename_i hh
      clear hh
      have HB := Aside0.mk (below_then HB.out HB.out.size HX.out)
      clear HX hbz
      go_wp2
      go_roundw
      case rel => exact ⟨k + 1, by omega, by go_num, by rw [HSU.out]; rfl, HB⟩
      case measure => simp [intOf]; omega
    · have f1 : decide ((k : Int) < (l4.length : Int)) = false := decide_eq_false (by omega)
      have f1n : decide (k < l4.length) = false := decide_eq_false hlt
      obtain rfl : k = l4.length := by omega
      have hs := busesT_size (headT0 s0 s1 s2 l4.length) l4 l4.length
      rw [headT0_size] at hs
      have HR2 : Hid (tiesT (busesT (headT0 s0 s1 s2 l4.length) l4 l4.length ++ wordB l5.length 1) l5 l5.length = r) := Lib.hid HR.out
      clear HR
      generalize busesT (headT0 s0 s1 s2 l4.length) l4 l4.length = out at *
      have hso : out.size ≤ 10000 := by omega
      clear hs d0 d1 d2 d3 HX
      have z1 : (9223372036854775807 < out.size + 1) = False := eq_false (by omega)
      go_wp2_with fail
      refine (word_any1 (l5.length : Int) (by unfold in64; omega) _).mono ?_
      rintro e wz ⟨rfl, hbz⟩
      have HB := Aside0.mk (below_then HB.out HB.out.size hbz)
      clear hbz e3 e4
      have hbs : (out ++ wordB (l5.length : Int) 1).size ≤ 10001 := by rw [ByteArray.size_append, wordB_size]; omega
      have e4 : wz.cell? ⟨g, 4, none⟩ = some (.slice A5 l5.length c5) := pw_cell_below HB.out d4
      go_wp2
      generalize out ++ wordB (l5.length : Int) 1 = base at *
      go_loopw [4, 7, 8] (fun v4 v7 _ wr => ∃ k : Nat, k ≤ l5.length ∧ v7 = .int .i64 k ∧ v4 = .string (tiesT base l5 k) ∧ Aside0 (Below w.heap.size w wr)) (fun _ v7 _ _ => l5.length - (intOf v7).toNat)
      case atStart => exact ⟨0, by omega, rfl, rfl, HB⟩
      case round =>
        clear HB e4
        obtain ⟨k, hk, rfl, rfl, HB⟩ := hrel
        rename_i wr
        have e4 : wr.cell? ⟨g, 4, none⟩ = some (.slice A5 l5.length c5) := pw_cell_below HB.out d4
        clear d4
        have HX := Aside0.mk (Below.refl wr.heap.size wr)
        by_cases hlt : k < l5.length
        · have f1 : decide ((k : Int) < (l5.length : Int)) = true := decide_eq_true (by omega)
          have f1n : decide (k < l5.length) = true := decide_eq_true hlt
          have p0 : 0 ≤ (k : Int) := by omega
          have p1 : (k : Int) < (l5.length : Int) := by omega
          have HC5r := Aside0.mk (Kd.C_below HC5.out HB.out)
          obtain ⟨ad, rfl, -⟩ := at_T72 HC5r.out (k : Int) p0 p1
          have TA : TieAt wr (ad.add (k * 5)) (rd_T72 l5 (k : Int)) := tieAt_of HC5r.out (k : Int) p0 p1
          have hs := tiesT_size base l5 k
          have hb5k := HB5.out k hlt
          have HSU := Lib.hid (tiesT_succ base l5 k)
          clear HC5r
          generalize rd_T72 l5 (k : Int) = x at *
          generalize tiesT base l5 k = out at *
          obtain ⟨x0, x1, x4⟩ := hb5k
          have hso : out.size ≤ 20000 := by omega
          clear hs
          have z1 : (9223372036854775807 < out.size + 22) = False := eq_false (by omega)
          have z2 : (9223372036854775807 < out.size + (1 + 1 + 8 + 8 + 4)) = False := eq_false (by omega)
          obtain ⟨t0, t1, t2, t3, t4⟩ := TA
          go_wp2
          generalize ad.add (k * 5) = q at *
          go_region_held3 (fun w' => w'.cell? q = some (.int .i64 x.f0) ∧ w'.cell? ⟨q.block, q.off + 1, none⟩ = some (.int .i64 x.f1) ∧ w'.cell? ⟨q.block, q.off + 2, none⟩ = some (.complex .f32 x.f2.re x.f2.im) ∧ w'.cell? ⟨q.block, q.off + 3, none⟩ = some (.complex .f32 x.f3.re x.f3.im) ∧ w'.cell? ⟨q.block, q.off + 4, none⟩ = some (.int .i64 x.f4))
            ((refine ⟨?_, ?_, ?_, ?_, ?_⟩ <;> exact pw_cell_below HX.out (by assumption)))
            (first | (go_at_call 62; (with_reducible refine (word_any1 x.f0 x0 _).mono ?_); rintro e wz ⟨rfl, hbz⟩; (have HX := Aside0.mk (below_then (below_drew1 HX.out) (below_drew1 HX.out).size hbz))) | (go_at_call 62; (with_reducible refine (word_any1 x.f1 x1 _).mono ?_); rintro e wz ⟨rfl, hbz⟩; (have HX := Aside0.mk (below_then HX.out HX.out.size hbz))) | (go_at_call 62; (with_reducible refine (word_any4 x.f4 x4 _).mono ?_); rintro e wz ⟨rfl, hbz⟩; (have HX := Aside0.mk (below_then HX.out HX.out.size hbz))) | (go_at_call 63; (with_reducible refine (cx_any _ _).mono ?_); rintro e wz ⟨rfl, hbz⟩; (have HX := Aside0.mk (below_then HX.out HX.out.size hbz))))
          rename_i hh
          clear hh
          have HB := Aside0.mk (below_then HB.out HB.out.size HX.out)
          clear HX hbz
          go_wp2
          go_roundw
          case rel => exact ⟨k + 1, by omega, by go_num, by rw [HSU.out]; rfl, HB⟩
          case measure => simp [intOf]; omega
        · have f1 : decide ((k : Int) < (l5.length : Int)) = false := decide_eq_false (by omega)
          have f1n : decide (k < l5.length) = false := decide_eq_false hlt
          obtain rfl : k = l5.length := by omega
          clear HX
          go_wp2
          go_ret
          exact ⟨by rw [HR2.out]; rfl, HB.out⟩
end Go.Proofs.Ytkkokkmhldceiaa.M
