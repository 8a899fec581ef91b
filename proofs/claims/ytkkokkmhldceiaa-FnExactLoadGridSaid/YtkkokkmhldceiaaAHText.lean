/- The bytes of numbers, of complex numbers, of phases: plain functions, and that both sides write them. -/
import Derived.Test.YtkkokkmhldceiaaAJMf62
import Derived.Test.YtkkokkmhldceiaaAJMf89
namespace Go.Proofs.Ytkkokkmhldceiaa.M
open Go.RowKit Go.Proofs.YtkkokkmhldceiaaW.PrintWords Go.Proofs.YtkkokkmhldceiaaW.PrintLast Go.Proofs.YtkkokkmhldceiaaW.PrintMore
set_option linter.unusedVariables false
set_option linter.unusedSimpArgs false

def in64 (n : Int) : Prop := -9223372036854775808 ≤ n ∧ n ≤ 9223372036854775807
def byteAt (n : Int) (i : Nat) : Int := n / 256 ^ i % 256
def wordB (n : Int) (s : Nat) : ByteArray := strOfNums ((List.range s).map (byteAt n))

theorem and255 (x : Int) (h : in64 x) : (Go.bits .and .i64 x 255) % 256 = x % 256 := by
  unfold in64 at h
  have e : Go.bits .and .i64 x 255 = x % 256 := by
    show IntKind.i64.wrap (((BitVec.ofInt 64 x &&& BitVec.ofInt 64 255 : BitVec 64).toNat : Nat) : Int) = x % 256
    rw [BitVec.toNat_and, BitVec.toNat_ofInt, BitVec.toNat_ofInt]
    have h2 : ((255 : Int) % ((2 ^ 64 : Nat) : Int)).toNat = 2 ^ 8 - 1 := by decide
    rw [h2, Nat.and_two_pow_sub_one_eq_mod]
    have h3 : (((x % ((2 ^ 64 : Nat) : Int)).toNat % 2 ^ 8 : Nat) : Int) = x % 256 := by omega
    rw [h3, IntKind.wrap_i64]
    omega
  rw [e]; omega

theorem word_step (k : Nat) (n s : Int) (xs : List Int) (i : Nat) (hn : in64 n) (h1 : (i : Int) < s) (h2 : i ≤ 3) (hl : xs.length ≤ 4) :
    spec_l10Word.l0 (k + 1) n s xs i = spec_l10Word.l0 k n s (xs ++ [byteAt n i]) ((i + 1 : Nat) : Int) := by
  have e1 : wrap64 (8 * (i : Int)) = 8 * i := by unfold wrap64; omega
  have e2 : IntKind.u64.wrap (8 * (i : Int)) = 8 * i := by simp [IntKind.wrap, IntKind.bits, IntKind.signed]; omega
  have e3 : wrap64 ((i : Int) + 1) = ((i + 1 : Nat) : Int) := by unfold wrap64; omega
  have e4 : shr .i64 n (8 * (i : Int)) = n / 256 ^ i := by
    unfold shr
    have : min ((8 * (i : Int)).toNat) IntKind.i64.bits = 8 * i := by simp [IntKind.bits]; omega
    rw [this, Int.pow_mul]; rfl
  have e5 : in64 (n / 256 ^ i) := by
    unfold in64 at hn ⊢
    match i, h2 with
    | 0, _ => omega
    | 1, _ => omega
    | 2, _ => omega
    | 3, _ => omega
  simp only [spec_l10Word.l0]
  rw [if_pos h1, e1, e2, if_pos (by omega), if_pos (by omega), e3, e4, and255 _ e5]
  rfl
theorem word_end (k : Nat) (n s : Int) (xs : List Int) : spec_l10Word.l0 (k + 1) n s xs s = some (strOfNums xs) := by
  simp only [spec_l10Word.l0]
  rw [if_neg (by omega)]

theorem word1 (n : Int) (hn : in64 n) : spec_l10Word.f 5 n 1 = some (wordB n 1) := by
  unfold spec_l10Word.f
  exact (word_step 4 n 1 [] 0 hn (by omega) (by omega) (by simp)).trans (word_end 3 n 1 _)
theorem word2 (n : Int) (hn : in64 n) : spec_l10Word.f 5 n 2 = some (wordB n 2) := by
  unfold spec_l10Word.f
  exact ((word_step 4 n 2 [] 0 hn (by omega) (by omega) (by simp)).trans (word_step 3 n 2 _ 1 hn (by omega) (by omega) (by simp))).trans (word_end 2 n 2 _)
theorem word4 (n : Int) (hn : in64 n) : spec_l10Word.f 5 n 4 = some (wordB n 4) := by
  unfold spec_l10Word.f
  exact ((((word_step 4 n 4 [] 0 hn (by omega) (by omega) (by simp)).trans (word_step 3 n 4 _ 1 hn (by omega) (by omega) (by simp))).trans (word_step 2 n 4 _ 2 hn (by omega) (by omega) (by simp))).trans (word_step 1 n 4 _ 3 hn (by omega) (by omega) (by simp))).trans (word_end 0 n 4 _)

theorem bytes_step (k : Nat) (n s : Int) (xs : List Int) (i : Nat) (h1 : (i : Int) < s) (h2 : i ≤ 3) (hl : xs.length ≤ 4) :
    impl_bytesOf.l0 (k + 1) (n / 256 ^ i) xs s i = impl_bytesOf.l0 k (n / 256 ^ (i + 1)) (xs ++ [byteAt n i]) s ((i + 1 : Nat) : Int) := by
  have e3 : wrap64 ((i : Int) + 1) = ((i + 1 : Nat) : Int) := by unfold wrap64; omega
  simp only [impl_bytesOf.l0]
  rw [if_pos h1, if_pos (by omega), e3, Int.pow_succ, Int.ediv_ediv_of_nonneg (by exact Int.pow_nonneg (by decide))]
  rfl
theorem bytes_end (k : Nat) (n s : Int) (xs : List Int) : impl_bytesOf.l0 (k + 1) n xs s s = some (strOfNums xs) := by
  simp only [impl_bytesOf.l0]
  rw [if_neg (by omega)]
theorem bytes_start (k : Nat) (n s : Int) : impl_bytesOf.f k n s = impl_bytesOf.l0 k (n / 256 ^ 0) [] s ((0 : Nat) : Int) := by
  unfold impl_bytesOf.f
  rw [Int.pow_zero, Int.ediv_one]; rfl
theorem bytes1 (n : Int) : impl_bytesOf.f 5 n 1 = some (wordB n 1) := by
  rw [bytes_start]
  exact (bytes_step 4 n 1 [] 0 (by omega) (by omega) (by simp)).trans (bytes_end 3 _ 1 _)
theorem bytes2 (n : Int) : impl_bytesOf.f 5 n 2 = some (wordB n 2) := by
  rw [bytes_start]
  exact ((bytes_step 4 n 2 [] 0 (by omega) (by omega) (by simp)).trans (bytes_step 3 n 2 _ 1 (by omega) (by omega) (by simp))).trans (bytes_end 2 _ 2 _)
theorem bytes4 (n : Int) : impl_bytesOf.f 5 n 4 = some (wordB n 4) := by
  rw [bytes_start]
  exact ((((bytes_step 4 n 4 [] 0 (by omega) (by omega) (by simp)).trans (bytes_step 3 n 4 _ 1 (by omega) (by omega) (by simp))).trans (bytes_step 2 n 4 _ 2 (by omega) (by omega) (by simp))).trans (bytes_step 1 n 4 _ 3 (by omega) (by omega) (by simp))).trans (bytes_end 0 _ 4 _)

theorem wordB_size (n : Int) (s : Nat) : (wordB n s).size = s := by
  unfold wordB strOfNums
  simp [ByteArray.size]

/-- The bits of a number as both sides write them. -/
def bits32 (b : Nat) : Int := if (FloatKind.f32.format.order b b != some .eq) = true then 2143289344 else wrap64 (b : Int)
theorem bits32_in (b : Nat) : in64 (bits32 b) := by
  unfold bits32 in64
  split
  · omega
  · unfold wrap64; omega
theorem specBits (b : Nat) : spec_l01Bits.f b = some (bits32 b) := by
  unfold spec_l01Bits.f bits32
  split <;> rfl
theorem implBits (b : Nat) : impl_BitsOf.f b = some (bits32 b) := by
  unfold impl_BitsOf.f impl_isNaN.f bits32
  simp only [Option.bind_some]
  split <;> rfl
def cxB (x : Cx) : ByteArray := wordB (bits32 x.re) 4 ++ wordB (bits32 x.im) 4
theorem cxB_size (x : Cx) : (cxB x).size = 8 := by
  unfold cxB
  rw [ByteArray.size_append, wordB_size, wordB_size]
theorem specCx (x : Cx) : spec_l10Complex.f 5 x = some (cxB x) := by
  unfold spec_l10Complex.f
  rw [specBits]; simp only [Option.bind_some]
  rw [word4 _ (bits32_in _)]; simp only [Option.bind_some]
  rw [specBits]; simp only [Option.bind_some]
  rw [word4 _ (bits32_in _)]; simp only [Option.bind_some]
  rw [if_pos (by rw [wordB_size, wordB_size]; omega)]; rfl
theorem implCx (x : Cx) : impl_pairOf.f 5 x = some (cxB x) := by
  unfold impl_pairOf.f
  rw [implBits]; simp only [Option.bind_some]
  rw [bytes4]; simp only [Option.bind_some]
  rw [implBits]; simp only [Option.bind_some]
  rw [bytes4]; simp only [Option.bind_some]
  rw [if_pos (by rw [wordB_size, wordB_size]; omega)]; rfl
def phB (a b c : Cx) : ByteArray := (cxB a ++ cxB b) ++ cxB c
theorem phB_size (a b c : Cx) : (phB a b c).size = 24 := by
  unfold phB
  rw [ByteArray.size_append, ByteArray.size_append, cxB_size, cxB_size, cxB_size]
theorem specPh (a b c : Cx) : spec_l10Phases.f 5 a b c = some (phB a b c) := by
  unfold spec_l10Phases.f
  rw [specCx]; simp only [Option.bind_some]
  rw [specCx]; simp only [Option.bind_some]
  rw [if_pos (by rw [cxB_size, cxB_size]; omega), specCx]; simp only [Option.bind_some]
  rw [if_pos (by simp only [ByteArray.size_append, cxB_size]; omega)]; rfl
theorem implPh (a b c : Cx) : impl_phasesOf.f 5 a b c = some (phB a b c) := by
  unfold impl_phasesOf.f
  rw [implCx]; simp only [Option.bind_some]
  rw [implCx]; simp only [Option.bind_some]
  rw [if_pos (by rw [cxB_size, cxB_size]; omega), implCx]; simp only [Option.bind_some]
  rw [if_pos (by simp only [ByteArray.size_append, cxB_size]; omega)]; rfl

/- The contracts, with these functions. -/
theorem word_any1 (n : Int) (hn : in64 n) (w : World) : Calls Try.prog 62 #[.int .i64 n, .int .i64 1] w fun e w' => e = .returned (.string (wordB n 1)) ∧ Below w.heap.size w w' := spec_l10Word.calls 5 n 1 _ w (word1 n hn)
theorem word_any2 (n : Int) (hn : in64 n) (w : World) : Calls Try.prog 62 #[.int .i64 n, .int .i64 2] w fun e w' => e = .returned (.string (wordB n 2)) ∧ Below w.heap.size w w' := spec_l10Word.calls 5 n 2 _ w (word2 n hn)
theorem word_any4 (n : Int) (hn : in64 n) (w : World) : Calls Try.prog 62 #[.int .i64 n, .int .i64 4] w fun e w' => e = .returned (.string (wordB n 4)) ∧ Below w.heap.size w w' := spec_l10Word.calls 5 n 4 _ w (word4 n hn)
theorem bytes_any1 (n : Int) (w : World) : Calls Try.prog 29 #[.int .i64 n, .int .i64 1] w fun e w' => e = .returned (.string (wordB n 1)) ∧ Below w.heap.size w w' := impl_bytesOf.calls 5 n 1 _ w (bytes1 n)
theorem bytes_any2 (n : Int) (w : World) : Calls Try.prog 29 #[.int .i64 n, .int .i64 2] w fun e w' => e = .returned (.string (wordB n 2)) ∧ Below w.heap.size w w' := impl_bytesOf.calls 5 n 2 _ w (bytes2 n)
theorem bytes_any4 (n : Int) (w : World) : Calls Try.prog 29 #[.int .i64 n, .int .i64 4] w fun e w' => e = .returned (.string (wordB n 4)) ∧ Below w.heap.size w w' := impl_bytesOf.calls 5 n 4 _ w (bytes4 n)
theorem cx_any (x : Cx) (w : World) : Calls Try.prog 63 #[.complex .f32 x.re x.im] w fun e w' => e = .returned (.string (cxB x)) ∧ Below w.heap.size w w' := spec_l10Complex.calls 5 x _ w (specCx x)
theorem pair_any (x : Cx) (w : World) : Calls Try.prog 73 #[.complex .f32 x.re x.im] w fun e w' => e = .returned (.string (cxB x)) ∧ Below w.heap.size w w' := impl_pairOf.calls 5 x _ w (implCx x)
theorem ph_any (a b c : Cx) (w : World) : Calls Try.prog 61 #[.agg #[.complex .f32 a.re a.im, .complex .f32 b.re b.im, .complex .f32 c.re c.im]] w fun e w' => e = .returned (.string (phB a b c)) ∧ Below w.heap.size w w' := spec_l10Phases.calls 5 a b c _ w (specPh a b c)
theorem phi_any (a b c : Cx) (w : World) : Calls Try.prog 72 #[.agg #[.complex .f32 a.re a.im, .complex .f32 b.re b.im, .complex .f32 c.re c.im]] w fun e w' => e = .returned (.string (phB a b c)) ∧ Below w.heap.size w w' := impl_phasesOf.calls 5 a b c _ w (implPh a b c)
end Go.Proofs.Ytkkokkmhldceiaa.M
