/- A 32-bit number widened: only a number that is none has no bits of its own. -/
import Derived.Test.YtkkokkmhldceiaaAHFloat
namespace Go.Proofs.Ytkkokkmhldceiaa.M
open Go.RowKit Go.Proofs.YtkkokkmhldceiaaW.PrintWords Go.Proofs.YtkkokkmhldceiaaW.PrintLast Go.Proofs.YtkkokkmhldceiaaW.PrintMore

theorem read_single {x : Nat} {s : Bool} {m : Nat} {e : Int} (h : Ieee.single.read x = .number s m e) : m < 16777216 ∧ -149 ≤ e ∧ e ≤ 104 := by
  unfold Ieee.Format.read at h
  have hb : Ieee.single.binade = 8388608 := by decide
  have hi : Ieee.single.infRung = 2139095040 := by decide
  have hl : Ieee.single.leastPlace = -149 := by decide
  simp only [hb, hi, hl] at h
  generalize x % Ieee.single.signWeight = r at h
  split at h
  · injection h with _ h1 h2
    subst h1 h2
    omega
  · split at h
    · injection h with _ h1 h2
      subst h1 h2
      omega
    · split at h <;> cases h

theorem read_word_fin {neg : Bool} {g : Nat} (h : g < Ieee.double.infRung) : (Ieee.double.read (Ieee.double.word neg g)).isInfinity = false := by
  have hb : Ieee.double.binade = 4503599627370496 := by decide
  have hi : Ieee.double.infRung = 9218868437227405312 := by decide
  have hs : Ieee.double.signWeight = 9223372036854775808 := by decide
  have hm : Ieee.double.word neg g % Ieee.double.signWeight = g := by
    unfold Ieee.Format.word
    rw [hs]
    rw [hi] at h
    split <;> omega
  unfold Ieee.Format.read
  simp only [hm]
  split
  · rfl
  · rfl

theorem nearest_fin {s : Bool} {m : Nat} {e : Int} (hm : m < 16777216) (h1 : -149 ≤ e) (h2 : e ≤ 104) : (Ieee.double.read (Ieee.double.nearest s m e)).isInfinity = false := by
  have hi : Ieee.double.infRung = 9218868437227405312 := by decide
  have hb : Ieee.double.binade = 4503599627370496 := by decide
  have hl : Ieee.double.leastPlace = -1074 := by decide
  have hf : Ieee.double.fractionBits = 52 := rfl
  unfold Ieee.Format.nearest
  split
  · exact read_word_fin (by rw [hi]; omega)
  · rename_i h0
    have hlog : m.log2 < 24 := (Nat.log2_lt h0).2 (by omega)
    have hlt : m < 2 ^ (m.log2 + 1) := Nat.lt_log2_self
    generalize hL : m.log2 = L at *
    dsimp only
    rw [hl, hf]
    have hmax : max (e + (L : Int) - ((52 : Nat) : Int)) (-1074) = e + L - 52 := by omega
    rw [hmax]
    have e1 : (e - (e + (L : Int) - 52)).toNat = 52 - L := by omega
    have e2 : (e + (L : Int) - 52 - e).toNat = 0 := by omega
    rw [e1, e2]
    have hcut : ∀ n, Ieee.Toward.even.cut s n 0 = n := by
      intro n
      unfold Ieee.Toward.cut
      simp
      omega
    rw [hcut]
    refine read_word_fin ?_
    rw [hi, hb]
    have hk : m <<< (52 - L) < 2 ^ 53 := by
      rw [Nat.shiftLeft_eq]
      calc m * 2 ^ (52 - L) < 2 ^ (L + 1) * 2 ^ (52 - L) := Nat.mul_lt_mul_of_pos_right hlt (Nat.two_pow_pos _)
        _ = 2 ^ 53 := by rw [← Nat.pow_add, show L + 1 + (52 - L) = 53 from by omega]
    have : (e + (L : Int) - 52 - (-1074)).toNat ≤ 1149 := by omega
    refine Nat.lt_of_le_of_lt (Nat.min_le_left _ _) ?_
    refine Nat.lt_of_lt_of_le (Nat.add_lt_add_of_le_of_lt (Nat.mul_le_mul_right 4503599627370496 this) hk) ?_
    decide

theorem widen_none {x : Nat} (h : floatToFloatBits .f32 x .f64 = none) : ∃ s t, FloatKind.f32.decode x = .nan s t := by
  unfold floatToFloatBits at h
  rw [if_neg (by decide)] at h
  cases hd : FloatKind.f32.decode x with
  | nan s t => exact ⟨s, t, rfl⟩
  | infinity s => rw [hd] at h; cases h
  | number s m e =>
    rw [hd] at h
    obtain ⟨a, b, c⟩ := read_single (x := x) hd
    have := nearest_fin (s := s) a b c
    have h2 : (FloatKind.f64.decode (FloatKind.f64.encode (.number s m e))).isInfinity = false := this
    simp only [h2] at h
    cases h

/-- What widening gives in a world: the same number, or a no-number that the world picks. -/
def wa (x : Nat) (w : World) : Nat := match floatToFloatBits .f32 x .f64 with
  | some r => r
  | none => (Question.nanConv .f64 x).cut (w.tape w.drawn (.nanConv .f64 x))
def wn (x : Nat) : Nat := if (floatToFloatBits .f32 x .f64).isSome then 0 else 1
theorem run_widen {P : Program} (x : Nat) (w : World) : (Conv.floatToFloat .f32 x .f64).run P w = .ok (.float .f64 (wa x w)) (w.drewN (wn x)) := by
  unfold wa wn
  cases h : floatToFloatBits .f32 x .f64 with
  | some r => simpa [World.drewN] using run_floatToFloat w h
  | none =>
    obtain ⟨s, t, hd⟩ := widen_none h
    simp [Conv.floatToFloat, hd, Question.forced]
    rfl
@[go_sem] theorem run_widen_complex (x y : Nat) (w : World) :
    (convert 22 86 (.complex .f32 x y)).run Try.prog w = .ok (.complex .f64 (wa x w) (wa y (w.drewN (wn x)))) (w.drewN (wn x + wn y)) := by
  simp [convert, run_underlying Try.underlying22, run_underlying Try.underlying86, Conv.complexToComplex, run_widen]

/-- The same value of two 32-bit numbers, as the laws ask it. -/
def same32 (x y : Nat) : Bool :=
  match floatToFloatBits .f32 x .f64, floatToFloatBits .f32 y .f64 with
  | some a, some b => same64 a b
  | some a, none => nan64 a
  | none, some b => nan64 b
  | none, none => true
theorem same64_refl (a : Nat) : same64 a a = true := by
  unfold same64
  by_cases h : nan64 a = true
  · simp [h]
  · have h2 : feq64 a a = true := by simpa [nan64, feq64] using h
    simp [h, h2]
theorem same32_refl (x : Nat) : same32 x x = true := by
  unfold same32
  cases floatToFloatBits .f32 x .f64 with
  | none => rfl
  | some a => exact same64_refl a
theorem nan_cut (x t : Nat) : nan64 ((Question.nanConv .f64 x).cut t) = true := by
  have hr : ∃ s q, FloatKind.f64.format.read ((Question.nanConv .f64 x).cut t) = .nan s q := by
    have hb : FloatKind.f64.format.binade = 4503599627370496 := by decide
    have hi : FloatKind.f64.format.infRung = 9218868437227405312 := by decide
    have hs : FloatKind.f64.format.signWeight = 9223372036854775808 := by decide
    have hc : (Question.nanConv .f64 x).cut t = (t % 2) * 9223372036854775808 + 9218868437227405312 + 1 + (t / 2) % 4503599627370495 := rfl
    have hm : (Question.nanConv .f64 x).cut t % FloatKind.f64.format.signWeight = 9218868437227405313 + (t / 2) % 4503599627370495 := by
      rw [hc, hs]; omega
    unfold Ieee.Format.read
    simp only [hm, hb, hi]
    rw [if_neg (by omega), if_neg (by omega), if_neg (by omega)]
    exact ⟨_, _, rfl⟩
  obtain ⟨s, q, h⟩ := hr
  unfold nan64 Ieee.Format.order
  rw [h]
  rfl
theorem same_wide (x y : Nat) (w1 w2 : World) : same64 (wa x w1) (wa y w2) = same32 x y := by
  unfold same32 wa
  cases floatToFloatBits .f32 x .f64 with
  | some a =>
    cases floatToFloatBits .f32 y .f64 with
    | some b => rfl
    | none => simp [same64, nan_cut]
  | none =>
    cases floatToFloatBits .f32 y .f64 with
    | some b => simp [same64, nan_cut]
    | none => simp [same64, nan_cut]
def sameCx (x y : Cx) : Bool := same32 x.re y.re && same32 x.im y.im
theorem sameCx_refl (x : Cx) : sameCx x x = true := by simp [sameCx, same32_refl]
end Go.Proofs.Ytkkokkmhldceiaa.M
