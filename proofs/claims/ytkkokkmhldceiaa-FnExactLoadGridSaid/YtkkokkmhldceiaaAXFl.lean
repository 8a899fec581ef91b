/- Floats and complex numbers as kinds of values: words beside the printed ones. -/
import Derived.Test.YtkkokkmhldceiaaProg
import Derived.Test.YtkkokkmhldceiaaAV0
import Derived.WalkLawsBesides
import Derived.WalkKit
import Derived.KernelRfl
import Derived.Laws.Externs
namespace Go.Proofs.YtkkokkmhldceiaaW.PrintWords
open Go.RowKit
structure Cx where
  re : Nat
  im : Nat
  deriving DecidableEq
namespace Kd
def f32 : Kd Nat := scalar (Value.float .f32) (fun _ => rfl)
def f64 : Kd Nat := scalar (Value.float .f64) (fun _ => rfl)
def c64 : Kd Cx := scalar (fun x => Value.complex .f32 x.re x.im) (fun _ => rfl)
def c128 : Kd Cx := scalar (fun x => Value.complex .f64 x.re x.im) (fun _ => rfl)
theorem heap_f32 : Heap Kd.f32 := ⟨fun _ h => h⟩
theorem heap_f64 : Heap Kd.f64 := ⟨fun _ h => h⟩
theorem heap_c64 : Heap Kd.c64 := ⟨fun _ h => h⟩
theorem heap_c128 : Heap Kd.c128 := ⟨fun _ h => h⟩
end Kd
@[go_sem] theorem run_store_float {P : Program} {w : World} {a : Addr} {m : Mode} (k : FloatKind) (b : Nat) : (store a (.float k b) m).run P w = stored P w a (.float k b) m := run_store P w a _ m rfl
@[go_sem] theorem run_store_complex {P : Program} {w : World} {a : Addr} {m : Mode} (k : FloatKind) (b c : Nat) : (store a (.complex k b c) m).run P w = stored P w a (.complex k b c) m := run_store P w a _ m rfl
/-- float32(float64(n)) -/
def mk32 (n : Int) : Nat := (floatToFloatBits .f64 (floatOfInt .f64 n) .f32).getD 0
def markOk (n : Nat) : Bool := (floatToFloatBits .f64 (floatOfInt .f64 (n : Int)) .f32).isSome && (FloatKind.f32.format.order (mk32 (n : Int)) (mk32 (n : Int)) == some .eq)
theorem marks_ok : (List.range 4097).all markOk = true := by kernel_rfl
theorem mark_ok (n : Int) (h0 : 0 ≤ n) (h1 : n ≤ 4096) : (floatToFloatBits .f64 (floatOfInt .f64 n) .f32) = some (mk32 n) ∧ (FloatKind.f32.format.order (mk32 n) (mk32 n) == some .eq) = true := by
  obtain ⟨m, rfl⟩ := Int.eq_ofNat_of_zero_le h0
  have h := List.all_eq_true.1 marks_ok m (List.mem_range.2 (by omega))
  unfold markOk at h
  rw [Bool.and_eq_true] at h
  obtain ⟨h2, h3⟩ := h
  refine ⟨?_, h3⟩
  unfold mk32
  obtain ⟨r, hr⟩ := Option.isSome_iff_exists.1 h2
  rw [hr]; rfl
theorem one_conv : floatToFloatBits .f64 4607182418800017408 .f32 = some 1065353216 := by kernel_rfl
theorem one_eq : (FloatKind.f32.format.order 1065353216 1065353216 == some .eq) = true := by kernel_rfl
@[go_sem] theorem run_conv_mark (n : Int) (w : World) (h0 : 0 ≤ n) (h1 : n ≤ 4096) : (convert 86 22 (.complex .f64 (floatOfInt .f64 n) 4607182418800017408)).run Try.prog w = .ok (.complex .f32 (mk32 n) 1065353216) w :=
  run_convert_complex w 86 22 .f64 .f32 _ _ _ _ (by rw [Try.underlying86]; rfl) Try.underlying22 (by simp [cConvBits, (mark_ok n h0 h1).1, one_conv])
@[go_sem] theorem run_frombits (n : Int) (w : World) : (callFunc 91 #[.int .u32 n]).run Try.prog w = .ok (.value (.float .f32 n.toNat)) w := by
  rw [run_callFunc_extern Try.func91 (by kernel_rfl) (by kernel_rfl) (by kernel_rfl) (e := Extern.MathFloatBits.float32frombits) (by kernel_rfl)]; rfl
@[go_sem] theorem run_tobits (b : Nat) (w : World) : (callFunc 92 #[.float .f32 b]).run Try.prog w = .ok (.value (.int .u32 (b : Int))) w := by
  rw [run_callFunc_extern Try.func92 (by kernel_rfl) (by kernel_rfl) (by kernel_rfl) (e := Extern.MathFloatBits.float32bits) (by kernel_rfl)]; rfl
end Go.Proofs.YtkkokkmhldceiaaW.PrintWords
