/- Written by a program of this session (wip/patch_print.py over the kit's printer). -/
import Derived.Test.YtkkokkmhldceiaaProg
import Derived.Below
import Derived.Deep.Draws
import Derived.Deep.AppendLies
import Derived.Maps.AppendAt
import Derived.OwnWalk
import Derived.Laws.BytesArg
import Derived.Laws.MakeOwn
import Derived.Laws.OwnMore
import Derived.Deep.OwnRows
import Derived.Tactics
import Derived.Lib.ConvBytes
import Derived.Laws.Slices
import Derived.WalkKit
import Derived.KernelRfl
import Derived.RowKit3
import Derived.Deep.LoopGhost
import Derived.Deep.QuietTactic
import Derived.BigQuiet
import Derived.WideLaws
import Derived.Deep.DeepCutAuto
import Derived.Deep.CutBlock
import Derived.Deep.RegionHeld3
import Derived.Laws.Rows
import Derived.Lib.AppendStr
import Derived.ArgAppend
import Derived.Laws.IdiomCopy
import Derived.OrdersHeld
import Derived.Laws.BitsLemmas
import Derived.RowKit
import Derived.Test.YtkkokkmhldceiaaAV0
import Derived.Test.YtkkokkmhldceiaaAXFl
namespace Go.Proofs.Ytkkokkmhldceiaa.M
open Go.RowKit Go.Proofs.YtkkokkmhldceiaaW.PrintWords Go.Proofs.YtkkokkmhldceiaaW.PrintLast Go.Proofs.YtkkokkmhldceiaaW.PrintMore
attribute [local go_sem] max2_int min2_int max_two min_two max_three min_three max_four min_four   -- for this text's walks alone
set_option linter.unusedVariables false
set_option linter.unusedSimpArgs false



def errW : Option Int → Value
  | none => .nilIface
  | some c => .iface 0 (.int .i64 c)
theorem errW_none : errW none = .nilIface := rfl
theorem errW_some (c : Int) : errW (some c) = .iface 0 (.int .i64 c) := rfl

theorem info5 : (Try.prog.info? 5).map (fun i => (i.zero, i.size, i.bytes)) = some (some (.int .u8 0), 1, 1) := by kernel_rfl
-- the values' own types
/-! #### struct type 24 -/
structure S24 where
  f0 : Cx
  f1 : Cx
  f2 : Cx
def z24 : S24 := ⟨(⟨0, 0⟩ : Cx), (⟨0, 0⟩ : Cx), (⟨0, 0⟩ : Cx)⟩
def k24 : Kd S24 := Kd.iso (Kd.pair Kd.c64 (Kd.pair Kd.c64 Kd.c64)) (fun x : S24 => (x.f0, x.f1, x.f2))
theorem k24_open {w : World} {x : S24} {cs : List Value} (h : k24.K w x cs) : cs = [.complex .f32 (x.f0).re (x.f0).im, .complex .f32 (x.f1).re (x.f1).im, .complex .f32 (x.f2).re (x.f2).im] := by
  obtain ⟨_, _, rfl, rfl, ⟨_, _, rfl, rfl, rfl⟩⟩ := h
  exact rfl
theorem k24_openM {w : World} {base : Nat} {ok : Nat → Prop} {x : S24} {cs : List Value} (h : k24.M w base ok x cs) : cs = [.complex .f32 (x.f0).re (x.f0).im, .complex .f32 (x.f1).re (x.f1).im, .complex .f32 (x.f2).re (x.f2).im] := by
  obtain ⟨_, _, rfl, rfl, ⟨_, _, rfl, rfl, rfl⟩⟩ := h
  exact rfl
theorem k24_mk (w : World) (x : S24)  : k24.K w x [.complex .f32 (x.f0).re (x.f0).im, .complex .f32 (x.f1).re (x.f1).im, .complex .f32 (x.f2).re (x.f2).im] := ⟨[.complex .f32 (x.f0).re (x.f0).im], [.complex .f32 (x.f1).re (x.f1).im, .complex .f32 (x.f2).re (x.f2).im], rfl, rfl, ⟨[.complex .f32 (x.f1).re (x.f1).im], [.complex .f32 (x.f2).re (x.f2).im], rfl, rfl, rfl⟩⟩
theorem k24_mkM (w : World) (base : Nat) (ok : Nat → Prop) (x : S24)  : k24.M w base ok x [.complex .f32 (x.f0).re (x.f0).im, .complex .f32 (x.f1).re (x.f1).im, .complex .f32 (x.f2).re (x.f2).im] := ⟨[.complex .f32 (x.f0).re (x.f0).im], [.complex .f32 (x.f1).re (x.f1).im, .complex .f32 (x.f2).re (x.f2).im], rfl, rfl, ⟨[.complex .f32 (x.f1).re (x.f1).im], [.complex .f32 (x.f2).re (x.f2).im], rfl, rfl, rfl⟩⟩
def rd_T24 (xs : List S24) (i : Int) : S24 := xs.getD i.toNat z24
theorem at_T24 {w : World} {A : Option Addr} {n : Nat} {xs : List S24} (h : Kd.C k24 w A n xs) (i : Int) (h0 : 0 ≤ i) (h1 : i < n) : ∃ ad , A = some ad ∧ w.cell? (ad.add (i.toNat * 3)) = some (.complex .f32 ((rd_T24 xs i).f0).re ((rd_T24 xs i).f0).im) ∧ w.cell? ⟨(ad.add (i.toNat * 3)).block, (ad.add (i.toNat * 3)).off + 1, none⟩ = some (.complex .f32 ((rd_T24 xs i).f1).re ((rd_T24 xs i).f1).im) ∧ w.cell? ⟨(ad.add (i.toNat * 3)).block, (ad.add (i.toNat * 3)).off + 2, none⟩ = some (.complex .f32 ((rd_T24 xs i).f2).re ((rd_T24 xs i).f2).im) := by
  obtain ⟨ad, c, e, _, hK, hc0⟩ := Kd.C_get h z24 i h0 h1
  have hc : ∀ j u, c[j]? = some u → w.cell? (ad.add (i.toNat * 3 + j)) = some u := hc0
  obtain rfl := k24_open hK
  exact ⟨ad, e, hc 0 _ rfl, by rw [← add_field _ _ 1 (by omega)]; exact hc 1 _ rfl, by rw [← add_field _ _ 2 (by omega)]; exact hc 2 _ rfl⟩

/-! #### struct type 69 -/
structure S69 where
  f0 : Int
  f1 : Cx
  f2 : Cx
  f3 : Int
  f4 : S24
  f5 : Int
def z69 : S69 := ⟨(0 : Int), (⟨0, 0⟩ : Cx), (⟨0, 0⟩ : Cx), (0 : Int), z24, (0 : Int)⟩
def k69 : Kd S69 := Kd.iso (Kd.pair (Kd.int .i64) (Kd.pair Kd.c64 (Kd.pair Kd.c64 (Kd.pair (Kd.int .i64) (Kd.pair k24 (Kd.int .i64)))))) (fun x : S69 => (x.f0, x.f1, x.f2, x.f3, x.f4, x.f5))
theorem k69_open {w : World} {x : S69} {cs : List Value} (h : k69.K w x cs) : cs = [.int .i64 x.f0, .complex .f32 (x.f1).re (x.f1).im, .complex .f32 (x.f2).re (x.f2).im, .int .i64 x.f3, .complex .f32 (x.f4.f0).re (x.f4.f0).im, .complex .f32 (x.f4.f1).re (x.f4.f1).im, .complex .f32 (x.f4.f2).re (x.f4.f2).im, .int .i64 x.f5] := by
  obtain ⟨_, _, rfl, rfl, ⟨_, _, rfl, rfl, ⟨_, _, rfl, rfl, ⟨_, _, rfl, rfl, ⟨_, _, rfl, s4, rfl⟩⟩⟩⟩⟩ := h
  obtain rfl := k24_open s4
  exact rfl
theorem k69_openM {w : World} {base : Nat} {ok : Nat → Prop} {x : S69} {cs : List Value} (h : k69.M w base ok x cs) : cs = [.int .i64 x.f0, .complex .f32 (x.f1).re (x.f1).im, .complex .f32 (x.f2).re (x.f2).im, .int .i64 x.f3, .complex .f32 (x.f4.f0).re (x.f4.f0).im, .complex .f32 (x.f4.f1).re (x.f4.f1).im, .complex .f32 (x.f4.f2).re (x.f4.f2).im, .int .i64 x.f5] := by
  obtain ⟨_, _, rfl, rfl, ⟨_, _, rfl, rfl, ⟨_, _, rfl, rfl, ⟨_, _, rfl, rfl, ⟨_, _, rfl, s4, rfl⟩⟩⟩⟩⟩ := h
  obtain rfl := k24_openM s4
  exact rfl
theorem k69_mk (w : World) (x : S69)  : k69.K w x [.int .i64 x.f0, .complex .f32 (x.f1).re (x.f1).im, .complex .f32 (x.f2).re (x.f2).im, .int .i64 x.f3, .complex .f32 (x.f4.f0).re (x.f4.f0).im, .complex .f32 (x.f4.f1).re (x.f4.f1).im, .complex .f32 (x.f4.f2).re (x.f4.f2).im, .int .i64 x.f5] := ⟨[.int .i64 x.f0], [.complex .f32 (x.f1).re (x.f1).im, .complex .f32 (x.f2).re (x.f2).im, .int .i64 x.f3, .complex .f32 (x.f4.f0).re (x.f4.f0).im, .complex .f32 (x.f4.f1).re (x.f4.f1).im, .complex .f32 (x.f4.f2).re (x.f4.f2).im, .int .i64 x.f5], rfl, rfl, ⟨[.complex .f32 (x.f1).re (x.f1).im], [.complex .f32 (x.f2).re (x.f2).im, .int .i64 x.f3, .complex .f32 (x.f4.f0).re (x.f4.f0).im, .complex .f32 (x.f4.f1).re (x.f4.f1).im, .complex .f32 (x.f4.f2).re (x.f4.f2).im, .int .i64 x.f5], rfl, rfl, ⟨[.complex .f32 (x.f2).re (x.f2).im], [.int .i64 x.f3, .complex .f32 (x.f4.f0).re (x.f4.f0).im, .complex .f32 (x.f4.f1).re (x.f4.f1).im, .complex .f32 (x.f4.f2).re (x.f4.f2).im, .int .i64 x.f5], rfl, rfl, ⟨[.int .i64 x.f3], [.complex .f32 (x.f4.f0).re (x.f4.f0).im, .complex .f32 (x.f4.f1).re (x.f4.f1).im, .complex .f32 (x.f4.f2).re (x.f4.f2).im, .int .i64 x.f5], rfl, rfl, ⟨[.complex .f32 (x.f4.f0).re (x.f4.f0).im, .complex .f32 (x.f4.f1).re (x.f4.f1).im, .complex .f32 (x.f4.f2).re (x.f4.f2).im], [.int .i64 x.f5], rfl, (k24_mk w x.f4 ), rfl⟩⟩⟩⟩⟩
theorem k69_mkM (w : World) (base : Nat) (ok : Nat → Prop) (x : S69)  : k69.M w base ok x [.int .i64 x.f0, .complex .f32 (x.f1).re (x.f1).im, .complex .f32 (x.f2).re (x.f2).im, .int .i64 x.f3, .complex .f32 (x.f4.f0).re (x.f4.f0).im, .complex .f32 (x.f4.f1).re (x.f4.f1).im, .complex .f32 (x.f4.f2).re (x.f4.f2).im, .int .i64 x.f5] := ⟨[.int .i64 x.f0], [.complex .f32 (x.f1).re (x.f1).im, .complex .f32 (x.f2).re (x.f2).im, .int .i64 x.f3, .complex .f32 (x.f4.f0).re (x.f4.f0).im, .complex .f32 (x.f4.f1).re (x.f4.f1).im, .complex .f32 (x.f4.f2).re (x.f4.f2).im, .int .i64 x.f5], rfl, rfl, ⟨[.complex .f32 (x.f1).re (x.f1).im], [.complex .f32 (x.f2).re (x.f2).im, .int .i64 x.f3, .complex .f32 (x.f4.f0).re (x.f4.f0).im, .complex .f32 (x.f4.f1).re (x.f4.f1).im, .complex .f32 (x.f4.f2).re (x.f4.f2).im, .int .i64 x.f5], rfl, rfl, ⟨[.complex .f32 (x.f2).re (x.f2).im], [.int .i64 x.f3, .complex .f32 (x.f4.f0).re (x.f4.f0).im, .complex .f32 (x.f4.f1).re (x.f4.f1).im, .complex .f32 (x.f4.f2).re (x.f4.f2).im, .int .i64 x.f5], rfl, rfl, ⟨[.int .i64 x.f3], [.complex .f32 (x.f4.f0).re (x.f4.f0).im, .complex .f32 (x.f4.f1).re (x.f4.f1).im, .complex .f32 (x.f4.f2).re (x.f4.f2).im, .int .i64 x.f5], rfl, rfl, ⟨[.complex .f32 (x.f4.f0).re (x.f4.f0).im, .complex .f32 (x.f4.f1).re (x.f4.f1).im, .complex .f32 (x.f4.f2).re (x.f4.f2).im], [.int .i64 x.f5], rfl, (k24_mkM w base ok x.f4 ), rfl⟩⟩⟩⟩⟩
def rd_T69 (xs : List S69) (i : Int) : S69 := xs.getD i.toNat z69
theorem at_T69 {w : World} {A : Option Addr} {n : Nat} {xs : List S69} (h : Kd.C k69 w A n xs) (i : Int) (h0 : 0 ≤ i) (h1 : i < n) : ∃ ad , A = some ad ∧ w.cell? (ad.add (i.toNat * 8)) = some (.int .i64 (rd_T69 xs i).f0) ∧ w.cell? ⟨(ad.add (i.toNat * 8)).block, (ad.add (i.toNat * 8)).off + 1, none⟩ = some (.complex .f32 ((rd_T69 xs i).f1).re ((rd_T69 xs i).f1).im) ∧ w.cell? ⟨(ad.add (i.toNat * 8)).block, (ad.add (i.toNat * 8)).off + 2, none⟩ = some (.complex .f32 ((rd_T69 xs i).f2).re ((rd_T69 xs i).f2).im) ∧ w.cell? ⟨(ad.add (i.toNat * 8)).block, (ad.add (i.toNat * 8)).off + 3, none⟩ = some (.int .i64 (rd_T69 xs i).f3) ∧ w.cell? ⟨(ad.add (i.toNat * 8)).block, (ad.add (i.toNat * 8)).off + 4, none⟩ = some (.complex .f32 ((rd_T69 xs i).f4.f0).re ((rd_T69 xs i).f4.f0).im) ∧ w.cell? ⟨(ad.add (i.toNat * 8)).block, (ad.add (i.toNat * 8)).off + 5, none⟩ = some (.complex .f32 ((rd_T69 xs i).f4.f1).re ((rd_T69 xs i).f4.f1).im) ∧ w.cell? ⟨(ad.add (i.toNat * 8)).block, (ad.add (i.toNat * 8)).off + 6, none⟩ = some (.complex .f32 ((rd_T69 xs i).f4.f2).re ((rd_T69 xs i).f4.f2).im) ∧ w.cell? ⟨(ad.add (i.toNat * 8)).block, (ad.add (i.toNat * 8)).off + 7, none⟩ = some (.int .i64 (rd_T69 xs i).f5) := by
  obtain ⟨ad, c, e, _, hK, hc0⟩ := Kd.C_get h z69 i h0 h1
  have hc : ∀ j u, c[j]? = some u → w.cell? (ad.add (i.toNat * 8 + j)) = some u := hc0
  obtain rfl := k69_open hK
  exact ⟨ad, e, hc 0 _ rfl, by rw [← add_field _ _ 1 (by omega)]; exact hc 1 _ rfl, by rw [← add_field _ _ 2 (by omega)]; exact hc 2 _ rfl, by rw [← add_field _ _ 3 (by omega)]; exact hc 3 _ rfl, by rw [← add_field _ _ 4 (by omega)]; exact hc 4 _ rfl, by rw [← add_field _ _ 5 (by omega)]; exact hc 5 _ rfl, by rw [← add_field _ _ 6 (by omega)]; exact hc 6 _ rfl, by rw [← add_field _ _ 7 (by omega)]; exact hc 7 _ rfl⟩

def rd_L6 (xs : List (List S69)) (i : Int) : (List S69) := xs.getD i.toNat ([] : List S69)
theorem at_L6 {w : World} {A : Option Addr} {n : Nat} {xs : List (List S69)} (h : Kd.C (Kd.slice 69 k69) w A n xs) (i : Int) (h0 : 0 ≤ i) (h1 : i < n) : ∃ ad A0 c0, A = some ad ∧ w.cell? (ad.add i.toNat) = some (.slice A0 (rd_L6 xs i).length c0) ∧ (rd_L6 xs i).length ≤ c0 ∧ k69.C w A0 (rd_L6 xs i).length (rd_L6 xs i) := by
  obtain ⟨ad, c, e, _, hK, hc0⟩ := Kd.C_get h ([] : List S69) i h0 h1
  have hc : ∀ j u, c[j]? = some u → w.cell? (ad.add (i.toNat * 1 + j)) = some u := hc0
  obtain ⟨A0, c0, rfl, l0, g0⟩ := hK
  exact ⟨ad, A0, c0, e, by have hq := hc 0 _ rfl; rwa [Nat.mul_one, Nat.add_zero] at hq, l0, g0⟩

/-! #### struct type 72 -/
structure S72 where
  f0 : Int
  f1 : Int
  f2 : Cx
  f3 : Cx
  f4 : Int
def z72 : S72 := ⟨(0 : Int), (0 : Int), (⟨0, 0⟩ : Cx), (⟨0, 0⟩ : Cx), (0 : Int)⟩
def k72 : Kd S72 := Kd.iso (Kd.pair (Kd.int .i64) (Kd.pair (Kd.int .i64) (Kd.pair Kd.c64 (Kd.pair Kd.c64 (Kd.int .i64))))) (fun x : S72 => (x.f0, x.f1, x.f2, x.f3, x.f4))
theorem k72_open {w : World} {x : S72} {cs : List Value} (h : k72.K w x cs) : cs = [.int .i64 x.f0, .int .i64 x.f1, .complex .f32 (x.f2).re (x.f2).im, .complex .f32 (x.f3).re (x.f3).im, .int .i64 x.f4] := by
  obtain ⟨_, _, rfl, rfl, ⟨_, _, rfl, rfl, ⟨_, _, rfl, rfl, ⟨_, _, rfl, rfl, rfl⟩⟩⟩⟩ := h
  exact rfl
theorem k72_openM {w : World} {base : Nat} {ok : Nat → Prop} {x : S72} {cs : List Value} (h : k72.M w base ok x cs) : cs = [.int .i64 x.f0, .int .i64 x.f1, .complex .f32 (x.f2).re (x.f2).im, .complex .f32 (x.f3).re (x.f3).im, .int .i64 x.f4] := by
  obtain ⟨_, _, rfl, rfl, ⟨_, _, rfl, rfl, ⟨_, _, rfl, rfl, ⟨_, _, rfl, rfl, rfl⟩⟩⟩⟩ := h
  exact rfl
theorem k72_mk (w : World) (x : S72)  : k72.K w x [.int .i64 x.f0, .int .i64 x.f1, .complex .f32 (x.f2).re (x.f2).im, .complex .f32 (x.f3).re (x.f3).im, .int .i64 x.f4] := ⟨[.int .i64 x.f0], [.int .i64 x.f1, .complex .f32 (x.f2).re (x.f2).im, .complex .f32 (x.f3).re (x.f3).im, .int .i64 x.f4], rfl, rfl, ⟨[.int .i64 x.f1], [.complex .f32 (x.f2).re (x.f2).im, .complex .f32 (x.f3).re (x.f3).im, .int .i64 x.f4], rfl, rfl, ⟨[.complex .f32 (x.f2).re (x.f2).im], [.complex .f32 (x.f3).re (x.f3).im, .int .i64 x.f4], rfl, rfl, ⟨[.complex .f32 (x.f3).re (x.f3).im], [.int .i64 x.f4], rfl, rfl, rfl⟩⟩⟩⟩
theorem k72_mkM (w : World) (base : Nat) (ok : Nat → Prop) (x : S72)  : k72.M w base ok x [.int .i64 x.f0, .int .i64 x.f1, .complex .f32 (x.f2).re (x.f2).im, .complex .f32 (x.f3).re (x.f3).im, .int .i64 x.f4] := ⟨[.int .i64 x.f0], [.int .i64 x.f1, .complex .f32 (x.f2).re (x.f2).im, .complex .f32 (x.f3).re (x.f3).im, .int .i64 x.f4], rfl, rfl, ⟨[.int .i64 x.f1], [.complex .f32 (x.f2).re (x.f2).im, .complex .f32 (x.f3).re (x.f3).im, .int .i64 x.f4], rfl, rfl, ⟨[.complex .f32 (x.f2).re (x.f2).im], [.complex .f32 (x.f3).re (x.f3).im, .int .i64 x.f4], rfl, rfl, ⟨[.complex .f32 (x.f3).re (x.f3).im], [.int .i64 x.f4], rfl, rfl, rfl⟩⟩⟩⟩
def rd_T72 (xs : List S72) (i : Int) : S72 := xs.getD i.toNat z72
theorem at_T72 {w : World} {A : Option Addr} {n : Nat} {xs : List S72} (h : Kd.C k72 w A n xs) (i : Int) (h0 : 0 ≤ i) (h1 : i < n) : ∃ ad , A = some ad ∧ w.cell? (ad.add (i.toNat * 5)) = some (.int .i64 (rd_T72 xs i).f0) ∧ w.cell? ⟨(ad.add (i.toNat * 5)).block, (ad.add (i.toNat * 5)).off + 1, none⟩ = some (.int .i64 (rd_T72 xs i).f1) ∧ w.cell? ⟨(ad.add (i.toNat * 5)).block, (ad.add (i.toNat * 5)).off + 2, none⟩ = some (.complex .f32 ((rd_T72 xs i).f2).re ((rd_T72 xs i).f2).im) ∧ w.cell? ⟨(ad.add (i.toNat * 5)).block, (ad.add (i.toNat * 5)).off + 3, none⟩ = some (.complex .f32 ((rd_T72 xs i).f3).re ((rd_T72 xs i).f3).im) ∧ w.cell? ⟨(ad.add (i.toNat * 5)).block, (ad.add (i.toNat * 5)).off + 4, none⟩ = some (.int .i64 (rd_T72 xs i).f4) := by
  obtain ⟨ad, c, e, _, hK, hc0⟩ := Kd.C_get h z72 i h0 h1
  have hc : ∀ j u, c[j]? = some u → w.cell? (ad.add (i.toNat * 5 + j)) = some u := hc0
  obtain rfl := k72_open hK
  exact ⟨ad, e, hc 0 _ rfl, by rw [← add_field _ _ 1 (by omega)]; exact hc 1 _ rfl, by rw [← add_field _ _ 2 (by omega)]; exact hc 2 _ rfl, by rw [← add_field _ _ 3 (by omega)]; exact hc 3 _ rfl, by rw [← add_field _ _ 4 (by omega)]; exact hc 4 _ rfl⟩

def rd_L8 (xs : List (List S72)) (i : Int) : (List S72) := xs.getD i.toNat ([] : List S72)
theorem at_L8 {w : World} {A : Option Addr} {n : Nat} {xs : List (List S72)} (h : Kd.C (Kd.slice 72 k72) w A n xs) (i : Int) (h0 : 0 ≤ i) (h1 : i < n) : ∃ ad A0 c0, A = some ad ∧ w.cell? (ad.add i.toNat) = some (.slice A0 (rd_L8 xs i).length c0) ∧ (rd_L8 xs i).length ≤ c0 ∧ k72.C w A0 (rd_L8 xs i).length (rd_L8 xs i) := by
  obtain ⟨ad, c, e, _, hK, hc0⟩ := Kd.C_get h ([] : List S72) i h0 h1
  have hc : ∀ j u, c[j]? = some u → w.cell? (ad.add (i.toNat * 1 + j)) = some u := hc0
  obtain ⟨A0, c0, rfl, l0, g0⟩ := hK
  exact ⟨ad, A0, c0, e, by have hq := hc 0 _ rfl; rwa [Nat.mul_one, Nat.add_zero] at hq, l0, g0⟩

/-! #### struct type 27 -/
structure S27 where
  f0 : S24
  f1 : (List S69)
def z27 : S27 := ⟨z24, ([] : List S69)⟩
def k27 : Kd S27 := Kd.iso (Kd.pair k24 (Kd.slice 69 k69)) (fun x : S27 => (x.f0, x.f1))
theorem k27_open {w : World} {x : S27} {cs : List Value} (h : k27.K w x cs) : ∃ A3 c3, cs = [.complex .f32 (x.f0.f0).re (x.f0.f0).im, .complex .f32 (x.f0.f1).re (x.f0.f1).im, .complex .f32 (x.f0.f2).re (x.f0.f2).im, .slice A3 x.f1.length c3] ∧ x.f1.length ≤ c3 ∧ k69.C w A3 x.f1.length x.f1 := by
  obtain ⟨_, _, rfl, s0, ⟨A3, c3, rfl, l3, g3⟩⟩ := h
  obtain rfl := k24_open s0
  exact ⟨A3, c3, rfl, l3, g3⟩
theorem k27_openM {w : World} {base : Nat} {ok : Nat → Prop} {x : S27} {cs : List Value} (h : k27.M w base ok x cs) : ∃ v3, cs = [.complex .f32 (x.f0.f0).re (x.f0.f0).im, .complex .f32 (x.f0.f1).re (x.f0.f1).im, .complex .f32 (x.f0.f2).re (x.f0.f2).im, v3] ∧ k69.R 69 w base ok v3 x.f1 := by
  obtain ⟨_, _, rfl, s0, ⟨v3, rfl, g3⟩⟩ := h
  obtain rfl := k24_openM s0
  exact ⟨v3, rfl, g3⟩
theorem k27_mk (w : World) (x : S27) {A3 : Option Addr} {c3 : Nat} (l3 : x.f1.length ≤ c3) (g3 : k69.C w A3 x.f1.length x.f1) : k27.K w x [.complex .f32 (x.f0.f0).re (x.f0.f0).im, .complex .f32 (x.f0.f1).re (x.f0.f1).im, .complex .f32 (x.f0.f2).re (x.f0.f2).im, .slice A3 x.f1.length c3] := ⟨[.complex .f32 (x.f0.f0).re (x.f0.f0).im, .complex .f32 (x.f0.f1).re (x.f0.f1).im, .complex .f32 (x.f0.f2).re (x.f0.f2).im], [.slice A3 x.f1.length c3], rfl, (k24_mk w x.f0 ), ⟨A3, c3, rfl, l3, g3⟩⟩
theorem k27_mkM (w : World) (base : Nat) (ok : Nat → Prop) (x : S27) {v3 : Value} (g3 : k69.R 69 w base ok v3 x.f1) : k27.M w base ok x [.complex .f32 (x.f0.f0).re (x.f0.f0).im, .complex .f32 (x.f0.f1).re (x.f0.f1).im, .complex .f32 (x.f0.f2).re (x.f0.f2).im, v3] := ⟨[.complex .f32 (x.f0.f0).re (x.f0.f0).im, .complex .f32 (x.f0.f1).re (x.f0.f1).im, .complex .f32 (x.f0.f2).re (x.f0.f2).im], [v3], rfl, (k24_mkM w base ok x.f0 ), ⟨v3, rfl, g3⟩⟩
def rd_T27 (xs : List S27) (i : Int) : S27 := xs.getD i.toNat z27
theorem at_T27 {w : World} {A : Option Addr} {n : Nat} {xs : List S27} (h : Kd.C k27 w A n xs) (i : Int) (h0 : 0 ≤ i) (h1 : i < n) : ∃ ad A3 c3, A = some ad ∧ w.cell? (ad.add (i.toNat * 4)) = some (.complex .f32 ((rd_T27 xs i).f0.f0).re ((rd_T27 xs i).f0.f0).im) ∧ w.cell? ⟨(ad.add (i.toNat * 4)).block, (ad.add (i.toNat * 4)).off + 1, none⟩ = some (.complex .f32 ((rd_T27 xs i).f0.f1).re ((rd_T27 xs i).f0.f1).im) ∧ w.cell? ⟨(ad.add (i.toNat * 4)).block, (ad.add (i.toNat * 4)).off + 2, none⟩ = some (.complex .f32 ((rd_T27 xs i).f0.f2).re ((rd_T27 xs i).f0.f2).im) ∧ w.cell? ⟨(ad.add (i.toNat * 4)).block, (ad.add (i.toNat * 4)).off + 3, none⟩ = some (.slice A3 (rd_T27 xs i).f1.length c3) ∧ (rd_T27 xs i).f1.length ≤ c3 ∧ k69.C w A3 (rd_T27 xs i).f1.length (rd_T27 xs i).f1 := by
  obtain ⟨ad, c, e, _, hK, hc0⟩ := Kd.C_get h z27 i h0 h1
  have hc : ∀ j u, c[j]? = some u → w.cell? (ad.add (i.toNat * 4 + j)) = some u := hc0
  obtain ⟨A3, c3, rfl, l3, g3⟩ := k27_open hK
  exact ⟨ad, A3, c3, e, hc 0 _ rfl, by rw [← add_field _ _ 1 (by omega)]; exact hc 1 _ rfl, by rw [← add_field _ _ 2 (by omega)]; exact hc 2 _ rfl, by rw [← add_field _ _ 3 (by omega)]; exact hc 3 _ rfl, l3, g3⟩

/-! #### struct type 30 -/
structure S30 where
  f0 : S27
  f1 : (List S72)
def z30 : S30 := ⟨z27, ([] : List S72)⟩
def k30 : Kd S30 := Kd.iso (Kd.pair k27 (Kd.slice 72 k72)) (fun x : S30 => (x.f0, x.f1))
theorem k30_open {w : World} {x : S30} {cs : List Value} (h : k30.K w x cs) : ∃ A3 c3 A4 c4, cs = [.complex .f32 (x.f0.f0.f0).re (x.f0.f0.f0).im, .complex .f32 (x.f0.f0.f1).re (x.f0.f0.f1).im, .complex .f32 (x.f0.f0.f2).re (x.f0.f0.f2).im, .slice A3 x.f0.f1.length c3, .slice A4 x.f1.length c4] ∧ x.f0.f1.length ≤ c3 ∧ k69.C w A3 x.f0.f1.length x.f0.f1 ∧ x.f1.length ≤ c4 ∧ k72.C w A4 x.f1.length x.f1 := by
  obtain ⟨_, _, rfl, s0, ⟨A4, c4, rfl, l4, g4⟩⟩ := h
  obtain ⟨A3, c3, rfl, l3, g3⟩ := k27_open s0
  exact ⟨A3, c3, A4, c4, rfl, l3, g3, l4, g4⟩
theorem k30_openM {w : World} {base : Nat} {ok : Nat → Prop} {x : S30} {cs : List Value} (h : k30.M w base ok x cs) : ∃ v3 v4, cs = [.complex .f32 (x.f0.f0.f0).re (x.f0.f0.f0).im, .complex .f32 (x.f0.f0.f1).re (x.f0.f0.f1).im, .complex .f32 (x.f0.f0.f2).re (x.f0.f0.f2).im, v3, v4] ∧ k69.R 69 w base ok v3 x.f0.f1 ∧ k72.R 72 w base ok v4 x.f1 := by
  obtain ⟨_, _, rfl, s0, ⟨v4, rfl, g4⟩⟩ := h
  obtain ⟨v3, rfl, g3⟩ := k27_openM s0
  exact ⟨v3, v4, rfl, g3, g4⟩
theorem k30_mk (w : World) (x : S30) {A3 : Option Addr} {c3 : Nat} (l3 : x.f0.f1.length ≤ c3) (g3 : k69.C w A3 x.f0.f1.length x.f0.f1) {A4 : Option Addr} {c4 : Nat} (l4 : x.f1.length ≤ c4) (g4 : k72.C w A4 x.f1.length x.f1) : k30.K w x [.complex .f32 (x.f0.f0.f0).re (x.f0.f0.f0).im, .complex .f32 (x.f0.f0.f1).re (x.f0.f0.f1).im, .complex .f32 (x.f0.f0.f2).re (x.f0.f0.f2).im, .slice A3 x.f0.f1.length c3, .slice A4 x.f1.length c4] := ⟨[.complex .f32 (x.f0.f0.f0).re (x.f0.f0.f0).im, .complex .f32 (x.f0.f0.f1).re (x.f0.f0.f1).im, .complex .f32 (x.f0.f0.f2).re (x.f0.f0.f2).im, .slice A3 x.f0.f1.length c3], [.slice A4 x.f1.length c4], rfl, (k27_mk w x.f0 l3 g3), ⟨A4, c4, rfl, l4, g4⟩⟩
theorem k30_mkM (w : World) (base : Nat) (ok : Nat → Prop) (x : S30) {v3 : Value} (g3 : k69.R 69 w base ok v3 x.f0.f1) {v4 : Value} (g4 : k72.R 72 w base ok v4 x.f1) : k30.M w base ok x [.complex .f32 (x.f0.f0.f0).re (x.f0.f0.f0).im, .complex .f32 (x.f0.f0.f1).re (x.f0.f0.f1).im, .complex .f32 (x.f0.f0.f2).re (x.f0.f0.f2).im, v3, v4] := ⟨[.complex .f32 (x.f0.f0.f0).re (x.f0.f0.f0).im, .complex .f32 (x.f0.f0.f1).re (x.f0.f0.f1).im, .complex .f32 (x.f0.f0.f2).re (x.f0.f0.f2).im, v3], [v4], rfl, (k27_mkM w base ok x.f0 g3), ⟨v4, rfl, g4⟩⟩
def rd_T30 (xs : List S30) (i : Int) : S30 := xs.getD i.toNat z30
theorem at_T30 {w : World} {A : Option Addr} {n : Nat} {xs : List S30} (h : Kd.C k30 w A n xs) (i : Int) (h0 : 0 ≤ i) (h1 : i < n) : ∃ ad A3 c3 A4 c4, A = some ad ∧ w.cell? (ad.add (i.toNat * 5)) = some (.complex .f32 ((rd_T30 xs i).f0.f0.f0).re ((rd_T30 xs i).f0.f0.f0).im) ∧ w.cell? ⟨(ad.add (i.toNat * 5)).block, (ad.add (i.toNat * 5)).off + 1, none⟩ = some (.complex .f32 ((rd_T30 xs i).f0.f0.f1).re ((rd_T30 xs i).f0.f0.f1).im) ∧ w.cell? ⟨(ad.add (i.toNat * 5)).block, (ad.add (i.toNat * 5)).off + 2, none⟩ = some (.complex .f32 ((rd_T30 xs i).f0.f0.f2).re ((rd_T30 xs i).f0.f0.f2).im) ∧ w.cell? ⟨(ad.add (i.toNat * 5)).block, (ad.add (i.toNat * 5)).off + 3, none⟩ = some (.slice A3 (rd_T30 xs i).f0.f1.length c3) ∧ w.cell? ⟨(ad.add (i.toNat * 5)).block, (ad.add (i.toNat * 5)).off + 4, none⟩ = some (.slice A4 (rd_T30 xs i).f1.length c4) ∧ (rd_T30 xs i).f0.f1.length ≤ c3 ∧ k69.C w A3 (rd_T30 xs i).f0.f1.length (rd_T30 xs i).f0.f1 ∧ (rd_T30 xs i).f1.length ≤ c4 ∧ k72.C w A4 (rd_T30 xs i).f1.length (rd_T30 xs i).f1 := by
  obtain ⟨ad, c, e, _, hK, hc0⟩ := Kd.C_get h z30 i h0 h1
  have hc : ∀ j u, c[j]? = some u → w.cell? (ad.add (i.toNat * 5 + j)) = some u := hc0
  obtain ⟨A3, c3, A4, c4, rfl, l3, g3, l4, g4⟩ := k30_open hK
  exact ⟨ad, A3, c3, A4, c4, e, hc 0 _ rfl, by rw [← add_field _ _ 1 (by omega)]; exact hc 1 _ rfl, by rw [← add_field _ _ 2 (by omega)]; exact hc 2 _ rfl, by rw [← add_field _ _ 3 (by omega)]; exact hc 3 _ rfl, by rw [← add_field _ _ 4 (by omega)]; exact hc 4 _ rfl, l3, g3, l4, g4⟩

def rd_L12 (xs : List (List S24)) (i : Int) : (List S24) := xs.getD i.toNat ([] : List S24)
theorem at_L12 {w : World} {A : Option Addr} {n : Nat} {xs : List (List S24)} (h : Kd.C (Kd.slice 24 k24) w A n xs) (i : Int) (h0 : 0 ≤ i) (h1 : i < n) : ∃ ad A0 c0, A = some ad ∧ w.cell? (ad.add i.toNat) = some (.slice A0 (rd_L12 xs i).length c0) ∧ (rd_L12 xs i).length ≤ c0 ∧ k24.C w A0 (rd_L12 xs i).length (rd_L12 xs i) := by
  obtain ⟨ad, c, e, _, hK, hc0⟩ := Kd.C_get h ([] : List S24) i h0 h1
  have hc : ∀ j u, c[j]? = some u → w.cell? (ad.add (i.toNat * 1 + j)) = some u := hc0
  obtain ⟨A0, c0, rfl, l0, g0⟩ := hK
  exact ⟨ad, A0, c0, e, by have hq := hc 0 _ rfl; rwa [Nat.mul_one, Nat.add_zero] at hq, l0, g0⟩

/-! #### struct type 55 -/
structure S55 where
  f0 : (List S24)
  f1 : (List S24)
  f2 : Int
  f3 : Bool
def z55 : S55 := ⟨([] : List S24), ([] : List S24), (0 : Int), false⟩
def k55 : Kd S55 := Kd.iso (Kd.pair (Kd.slice 24 k24) (Kd.pair (Kd.slice 24 k24) (Kd.pair (Kd.int .i64) Kd.bool))) (fun x : S55 => (x.f0, x.f1, x.f2, x.f3))
theorem k55_open {w : World} {x : S55} {cs : List Value} (h : k55.K w x cs) : ∃ A0 c0 A1 c1, cs = [.slice A0 x.f0.length c0, .slice A1 x.f1.length c1, .int .i64 x.f2, .bool x.f3] ∧ x.f0.length ≤ c0 ∧ k24.C w A0 x.f0.length x.f0 ∧ x.f1.length ≤ c1 ∧ k24.C w A1 x.f1.length x.f1 := by
  obtain ⟨_, _, rfl, ⟨A0, c0, rfl, l0, g0⟩, ⟨_, _, rfl, ⟨A1, c1, rfl, l1, g1⟩, ⟨_, _, rfl, rfl, rfl⟩⟩⟩ := h
  exact ⟨A0, c0, A1, c1, rfl, l0, g0, l1, g1⟩
theorem k55_openM {w : World} {base : Nat} {ok : Nat → Prop} {x : S55} {cs : List Value} (h : k55.M w base ok x cs) : ∃ v0 v1, cs = [v0, v1, .int .i64 x.f2, .bool x.f3] ∧ k24.R 24 w base ok v0 x.f0 ∧ k24.R 24 w base ok v1 x.f1 := by
  obtain ⟨_, _, rfl, ⟨v0, rfl, g0⟩, ⟨_, _, rfl, ⟨v1, rfl, g1⟩, ⟨_, _, rfl, rfl, rfl⟩⟩⟩ := h
  exact ⟨v0, v1, rfl, g0, g1⟩
theorem k55_mk (w : World) (x : S55) {A0 : Option Addr} {c0 : Nat} (l0 : x.f0.length ≤ c0) (g0 : k24.C w A0 x.f0.length x.f0) {A1 : Option Addr} {c1 : Nat} (l1 : x.f1.length ≤ c1) (g1 : k24.C w A1 x.f1.length x.f1) : k55.K w x [.slice A0 x.f0.length c0, .slice A1 x.f1.length c1, .int .i64 x.f2, .bool x.f3] := ⟨[.slice A0 x.f0.length c0], [.slice A1 x.f1.length c1, .int .i64 x.f2, .bool x.f3], rfl, ⟨A0, c0, rfl, l0, g0⟩, ⟨[.slice A1 x.f1.length c1], [.int .i64 x.f2, .bool x.f3], rfl, ⟨A1, c1, rfl, l1, g1⟩, ⟨[.int .i64 x.f2], [.bool x.f3], rfl, rfl, rfl⟩⟩⟩
theorem k55_mkM (w : World) (base : Nat) (ok : Nat → Prop) (x : S55) {v0 : Value} (g0 : k24.R 24 w base ok v0 x.f0) {v1 : Value} (g1 : k24.R 24 w base ok v1 x.f1) : k55.M w base ok x [v0, v1, .int .i64 x.f2, .bool x.f3] := ⟨[v0], [v1, .int .i64 x.f2, .bool x.f3], rfl, ⟨v0, rfl, g0⟩, ⟨[v1], [.int .i64 x.f2, .bool x.f3], rfl, ⟨v1, rfl, g1⟩, ⟨[.int .i64 x.f2], [.bool x.f3], rfl, rfl, rfl⟩⟩⟩
def rd_T55 (xs : List S55) (i : Int) : S55 := xs.getD i.toNat z55
theorem at_T55 {w : World} {A : Option Addr} {n : Nat} {xs : List S55} (h : Kd.C k55 w A n xs) (i : Int) (h0 : 0 ≤ i) (h1 : i < n) : ∃ ad A0 c0 A1 c1, A = some ad ∧ w.cell? (ad.add (i.toNat * 4)) = some (.slice A0 (rd_T55 xs i).f0.length c0) ∧ w.cell? ⟨(ad.add (i.toNat * 4)).block, (ad.add (i.toNat * 4)).off + 1, none⟩ = some (.slice A1 (rd_T55 xs i).f1.length c1) ∧ w.cell? ⟨(ad.add (i.toNat * 4)).block, (ad.add (i.toNat * 4)).off + 2, none⟩ = some (.int .i64 (rd_T55 xs i).f2) ∧ w.cell? ⟨(ad.add (i.toNat * 4)).block, (ad.add (i.toNat * 4)).off + 3, none⟩ = some (.bool (rd_T55 xs i).f3) ∧ (rd_T55 xs i).f0.length ≤ c0 ∧ k24.C w A0 (rd_T55 xs i).f0.length (rd_T55 xs i).f0 ∧ (rd_T55 xs i).f1.length ≤ c1 ∧ k24.C w A1 (rd_T55 xs i).f1.length (rd_T55 xs i).f1 := by
  obtain ⟨ad, c, e, _, hK, hc0⟩ := Kd.C_get h z55 i h0 h1
  have hc : ∀ j u, c[j]? = some u → w.cell? (ad.add (i.toNat * 4 + j)) = some u := hc0
  obtain ⟨A0, c0, A1, c1, rfl, l0, g0, l1, g1⟩ := k55_open hK
  exact ⟨ad, A0, c0, A1, c1, e, hc 0 _ rfl, by rw [← add_field _ _ 1 (by omega)]; exact hc 1 _ rfl, by rw [← add_field _ _ 2 (by omega)]; exact hc 2 _ rfl, by rw [← add_field _ _ 3 (by omega)]; exact hc 3 _ rfl, l0, g0, l1, g1⟩

end Go.Proofs.Ytkkokkmhldceiaa.M
