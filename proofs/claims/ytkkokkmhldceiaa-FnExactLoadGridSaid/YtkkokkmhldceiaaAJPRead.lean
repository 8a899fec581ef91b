/- The two readers of bytes read the same: plain laws of the printed functions. -/
import Derived.Test.YtkkokkmhldceiaaAHBegin
import Derived.Test.YtkkokkmhldceiaaAHLoad
import Derived.Test.YtkkokkmhldceiaaAJMf7
import Derived.Test.YtkkokkmhldceiaaAJMf22
import Derived.Test.YtkkokkmhldceiaaAJMf24
namespace Go.Proofs.Ytkkokkmhldceiaa.Pure
open Go.RowKit Go.Proofs.Ytkkokkmhldceiaa.M Go.Proofs.YtkkokkmhldceiaaW.PrintWords Go.Proofs.YtkkokkmhldceiaaW.PrintLast

theorem w64 (n : Int) (h : -9223372036854775808 ≤ n) (h2 : n ≤ 9223372036854775807) : wrap64 n = n := by unfold wrap64; omega
theorem or_join (x b : Int) (hx : 0 ≤ x) (hx2 : x < 4294967296) (hb0 : 0 ≤ b) (hb : b ≤ 255) : Go.bits .or .i64 (x * 256) b = x * 256 + b :=
  bits_join .i64 62 (by decide) (fun n h0 h1 => by rw [IntKind.wrap_i64]; have : n < 4611686018427387904 := h1; omega) 8 _ _ (by omega) (by show x * 256 % 256 = 0; omega) (by show x * 256 < 4611686018427387904; omega) hb0 (by show b < 256; omega) (by show b < 4611686018427387904; omega)

theorem pow_one (j : Nat) : 1 ≤ (256 : Int) ^ j := Int.pow_pos (by decide)
/-- From a place on, both loops read the same number. -/
theorem word_loop (s : ByteArray) (p m : Int) (hp : 0 ≤ p) (hs : p + m ≤ s.size) (hz : s.size ≤ 140737488351232) (M : Int) (hM : M ≤ 4294967296) : ∀ (j : Nat) (x : Int), (j : Int) ≤ m → 0 ≤ x → (x + 1) * 256 ^ j ≤ M →
    ∃ v : Int, 0 ≤ v ∧ v < M ∧ ∀ f, Ev (fun k => spec_l10Eyes_word.l0 k m x ((j : Int) - 1) s p f) (v, s, p + m, f) ∧ Ev (fun k => impl_reader_number.l0 k m x ((j : Int) - 1) s p f) (v, s, p + m, f)
  | 0, x, hj, hx, hb => by
    have hw := w64 (p + m) (by omega) (by omega)
    refine ⟨x, hx, by omega, fun f => ⟨Ev.step (f := fun _ => some (x, s, p + m, f)) (fun k => ?_) (Ev.now _), Ev.step (f := fun _ => some (x, s, p + m, f)) (fun k => ?_) (Ev.now _)⟩⟩
    · simp only [spec_l10Eyes_word.l0]
      rw [if_neg (by omega), hw]
    · simp only [impl_reader_number.l0]
      rw [if_neg (by omega), hw]
  | j + 1, x, hj, hx, hb => by
    have p1 := pow_one j
    have hb' : (x + 1) * 256 * 256 ^ j ≤ M := by rw [Int.pow_succ, Int.mul_comm ((256 : Int) ^ j) 256, ← Int.mul_assoc] at hb; exact hb
    have hx4 : x < 4294967296 := by
      have := Int.mul_le_mul_of_nonneg_left p1 (show 0 ≤ (x + 1) * 256 by omega)
      omega
    obtain ⟨b0, b1⟩ := bt_range s (p + j)
    have hbn : (x * 256 + bt s (p + j) + 1) * 256 ^ j ≤ M := by
      have := Int.mul_le_mul_of_nonneg_right (show x * 256 + bt s (p + j) + 1 ≤ (x + 1) * 256 by omega) (show 0 ≤ (256 : Int) ^ j by omega)
      omega
    have hx6 : x * 256 + bt s (p + j) < 4294967296 := by
      have := Int.mul_le_mul_of_nonneg_left p1 (show 0 ≤ x * 256 + bt s (p + j) + 1 by omega)
      omega
    obtain ⟨v, v0, v1, hv⟩ := word_loop s p m hp hs hz M hM j (x * 256 + bt s (p + j)) (by omega) (by omega) hbn
    have e1 : (((j + 1 : Nat) : Int) - 1) = j := by omega
    have hj1 : (j : Int) + 1 ≤ m := by omega
    have hw := w64 (p + j) (by omega) (by omega)
    have hwx := w64 (x * 256) (by omega) (by omega)
    have hwb := w64 (bt s (p + j)) (by omega) (by omega)
    have hwj := w64 ((j : Int) - 1) (by omega) (by omega)
    have hws := w64 (x * 256 + bt s (p + j)) (by omega) (by omega)
    refine ⟨v, v0, v1, fun f => ⟨Ev.step (fun k => ?_) (hv f).1, Ev.step (fun k => ?_) (hv f).2⟩⟩
    · simp only [spec_l10Eyes_word.l0]
      rw [e1, if_pos (by omega), hw, if_pos (by omega), if_pos (by omega), hwx, hwb, or_join x _ hx hx4 b0 b1, hwj]
    · simp only [impl_reader_number.l0]
      rw [e1, if_pos (by omega), hw, if_pos (by omega), if_pos (by omega), hwx, hwb, hws, hwj]

/-- The eyes at p, fine or not, beside the reader at q, short or not. -/
structure St (s : ByteArray) (p : Int) (f : Bool) (q : Int) (g : Bool) : Prop where
  p0 : 0 ≤ p
  ps : p ≤ s.size
  q0 : 0 ≤ q
  qs : q ≤ s.size
  yes : f = true → g = false ∧ q = p
  no : f = false → g = true

theorem sim_word {s : ByteArray} (hz : s.size ≤ 140737488351232) {p q : Int} {f g : Bool} (h : St s p f q g) (m : Nat) (hm : (m : Int) ≤ 4) (hm1 : 1 ≤ (m : Int)) (M : Int) (hM0 : 256 ^ m = M) (hM : M ≤ 4294967296) :
    ∃ v p' f' u q' g', Ev (fun k => spec_l10Eyes_word.f k s p f m) (v, s, p', f') ∧ Ev (fun k => impl_reader_number.f k s q g m) (u, s, q', g') ∧ St s p' f' q' g' ∧ (f' = true → f = true ∧ u = v) ∧ 0 ≤ v ∧ v < M ∧ 0 ≤ u ∧ u < M := by
  have hM1 : 0 < M := by rw [← hM0]; exact Int.pow_pos (by decide)
  have p0 := h.p0
  have ps := h.ps
  have q0 := h.q0
  have qs := h.qs
  have hwp := w64 (p + m) (by omega) (by omega)
  have hwm := w64 ((m : Int) - 1) (by omega) (by omega)
  have short : g = true → Ev (fun k => impl_reader_number.f k s q g m) (0, s, q, true) := by
    rintro rfl
    unfold impl_reader_number.f
    simp only [if_true]
    exact Ev.step (f := fun _ => some (0, s, q, true)) (fun k => by simp only [impl_reader_number.j0, if_true]) (Ev.now _)
  by_cases c : p + m > s.size
  · have e1 : Ev (fun k => spec_l10Eyes_word.f k s p f m) (0, s, p, false) := by
      refine Ev.congr (f := fun _ => some (0, s, p, false)) (fun k => ?_) (Ev.now _)
      unfold spec_l10Eyes_word.f
      rw [hwp, if_pos c]
    cases hg : g with
    | true => subst hg; exact ⟨0, p, false, 0, q, true, e1, short rfl, ⟨p0, ps, q0, qs, fun h => by simp at h, fun _ => rfl⟩, fun h => by simp at h, by omega, by omega, by omega, by omega⟩
    | false =>
      subst hg
      have hf : f = true := by
        cases hf : f with
        | true => rfl
        | false => have := h.no hf; simp at this
      obtain ⟨_, rfl⟩ := h.yes hf
      refine ⟨0, q, false, 0, q, true, e1, ?_, ⟨p0, ps, q0, qs, fun h => by simp at h, fun _ => rfl⟩, fun h => by simp at h, by omega, by omega, by omega, by omega⟩
      unfold impl_reader_number.f
      rw [hwp]
      simp only [Bool.false_eq_true, if_false]
      have hd : decide (q + (m : Int) > (s.size : Int)) = true := decide_eq_true c
      rw [hd]
      exact Ev.step (f := fun _ => some (0, s, q, true)) (fun k => by simp only [impl_reader_number.j0, if_true]) (Ev.now _)
  · obtain ⟨v, v0, v1, hv⟩ := word_loop s p m p0 (by omega) hz M hM m 0 (by omega) (by omega) (by rw [← hM0]; omega)
    have e1 : Ev (fun k => spec_l10Eyes_word.f k s p f m) (v, s, p + m, f) := by
      refine Ev.congr (fun k => ?_) (hv f).1
      unfold spec_l10Eyes_word.f
      rw [hwp, if_neg c, hwm]
    cases hg : g with
    | true =>
      subst hg
      have hf : f = false := by
        cases hf : f with
        | false => rfl
        | true => have := (h.yes hf).1; simp at this
      exact ⟨v, p + m, f, 0, q, true, e1, short rfl, ⟨by omega, by omega, q0, qs, fun h => by rw [hf] at h; simp at h, fun _ => rfl⟩, fun h => by rw [hf] at h; simp at h, v0, v1, by omega, by omega⟩
    | false =>
      subst hg
      have hf : f = true := by
        cases hf : f with
        | true => rfl
        | false => have := h.no hf; simp at this
      obtain ⟨_, rfl⟩ := h.yes hf
      refine ⟨v, q + m, f, v, q + m, false, e1, ?_, ⟨by omega, by omega, by omega, by omega, fun _ => ⟨rfl, rfl⟩, fun h => by rw [hf] at h; simp at h⟩, fun h => ⟨hf, rfl⟩, v0, v1, v0, v1⟩
      unfold impl_reader_number.f
      rw [hwp]
      simp only [Bool.false_eq_true, if_false]
      have hd : decide (q + (m : Int) > (s.size : Int)) = false := decide_eq_false c
      rw [hd]
      refine Ev.step (f := fun k => impl_reader_number.l0 k m 0 ((m : Int) - 1) s q false) (fun k => ?_) (hv false).2
      simp only [impl_reader_number.j0]
      rw [if_neg (by simp), hwm]

theorem sim_w1 {s : ByteArray} (hz : s.size ≤ 140737488351232) {p q : Int} {f g : Bool} (h : St s p f q g) :
    ∃ v p' f' u q' g', Ev (fun k => spec_l10Eyes_word.f k s p f 1) (v, s, p', f') ∧ Ev (fun k => impl_reader_number.f k s q g 1) (u, s, q', g') ∧ St s p' f' q' g' ∧ (f' = true → f = true ∧ u = v) ∧ 0 ≤ v ∧ v < 256 ∧ 0 ≤ u ∧ u < 256 :=
  sim_word hz h 1 (by decide) (by decide) 256 (by decide) (by decide)
theorem sim_w4 {s : ByteArray} (hz : s.size ≤ 140737488351232) {p q : Int} {f g : Bool} (h : St s p f q g) :
    ∃ v p' f' u q' g', Ev (fun k => spec_l10Eyes_word.f k s p f 4) (v, s, p', f') ∧ Ev (fun k => impl_reader_number.f k s q g 4) (u, s, q', g') ∧ St s p' f' q' g' ∧ (f' = true → f = true ∧ u = v) ∧ 0 ≤ v ∧ v < 4294967296 ∧ 0 ≤ u ∧ u < 4294967296 :=
  sim_word hz h 4 (by decide) (by decide) 4294967296 (by decide) (by decide)

theorem fromBits_eq (u : Int) (h0 : 0 ≤ u) (h1 : u < 4294967296) : impl_FromBits.f u = some (u.toNat, true) := by
  unfold impl_FromBits.f
  rw [in53_eq]
  have : inB u 0 4294967295 = true := by unfold inB; simp; omega
  rw [this]
  simp only [Option.bind_some, if_true]
  rw [Int.emod_eq_of_lt h0 h1]
theorem from_eq (u : Int) (h0 : 0 ≤ u) (h1 : u < 4294967296) : spec_l01From.f u = some u.toNat := by
  unfold spec_l01From.f
  rw [Int.emod_eq_of_lt h0 h1]

/-- A complex number. -/
theorem sim_cx {s : ByteArray} (hz : s.size ≤ 140737488351232) {p q : Int} {f g : Bool} (h : St s p f q g) :
    ∃ v p' f' u q' g', Ev (fun k => spec_l10Eyes_number.f k s p f) (v, s, p', f') ∧ Ev (fun k => impl_reader_pair.f k s q g) (u, s, q', g') ∧ St s p' f' q' g' ∧ (f' = true → f = true ∧ u = v) := by
  obtain ⟨v1, p1, f1, u1, q1, g1, a1, b1, h1, i1, v10, v11, u10, u11⟩ := sim_w4 hz h
  obtain ⟨v2, p2, f2, u2, q2, g2, a2, b2, h2, i2, v20, v21, u20, u21⟩ := sim_w4 hz h1
  refine ⟨⟨v1.toNat, v2.toNat⟩, p2, f2, ⟨u1.toNat, u2.toNat⟩, q2, g2, ?_, ?_, h2, fun h => ?_⟩
  · unfold spec_l10Eyes_number.f
    refine Ev.bind a1 (Ev.bind a2 ?_)
    simp only [from_eq v1 v10 v11, from_eq v2 v20 v21, Option.bind_some]
    exact Ev.now _
  · unfold impl_reader_pair.f impl_reader_float.f
    refine Ev.bind (a := (u1.toNat, s, q1, g1)) (Ev.bind b1 ?_) (Ev.bind (a := (u2.toNat, s, q2, g2)) (Ev.bind b2 ?_) (Ev.now _))
    · simp only [fromBits_eq u1 u10 u11, Option.bind_some]
      exact Ev.now _
    · simp only [fromBits_eq u2 u20 u21, Option.bind_some]
      exact Ev.now _
  · obtain ⟨hf1, e2⟩ := i2 h
    obtain ⟨hf, e1⟩ := i1 hf1
    exact ⟨hf, by rw [e1, e2]⟩

theorem sim_ph {s : ByteArray} (hz : s.size ≤ 140737488351232) {p q : Int} {f g : Bool} (h : St s p f q g) :
    ∃ v1 v2 v3 p' f' u1 u2 u3 q' g', Ev (fun k => spec_l10Eyes_phases.f k s p f) (v1, v2, v3, s, p', f') ∧ Ev (fun k => impl_reader_phases.f k s q g) (u1, u2, u3, s, q', g') ∧ St s p' f' q' g' ∧ (f' = true → f = true ∧ u1 = v1 ∧ u2 = v2 ∧ u3 = v3) := by
  obtain ⟨v1, p1, f1, u1, q1, g1, a1, b1, h1, i1⟩ := sim_cx hz h
  obtain ⟨v2, p2, f2, u2, q2, g2, a2, b2, h2, i2⟩ := sim_cx hz h1
  obtain ⟨v3, p3, f3, u3, q3, g3, a3, b3, h3, i3⟩ := sim_cx hz h2
  refine ⟨v1, v2, v3, p3, f3, u1, u2, u3, q3, g3, ?_, ?_, h3, fun h => ?_⟩
  · unfold spec_l10Eyes_phases.f
    exact Ev.bind a1 (Ev.bind a2 (Ev.bind a3 (Ev.now _)))
  · unfold impl_reader_phases.f
    exact Ev.bind b1 (Ev.bind b2 (Ev.bind b3 (Ev.now _)))
  · obtain ⟨hf2, e3⟩ := i3 h
    obtain ⟨hf1, e2⟩ := i2 hf2
    obtain ⟨hf, e1⟩ := i1 hf1
    exact ⟨hf, e1, e2, e3⟩

def busOf (b : Int × Cx × Cx × Int × Cx × Cx × Cx × Int × ByteArray × Int × Bool) : S69 := ⟨b.1, b.2.1, b.2.2.1, b.2.2.2.1, ⟨b.2.2.2.2.1, b.2.2.2.2.2.1, b.2.2.2.2.2.2.1⟩, b.2.2.2.2.2.2.2.1⟩
theorem sim_bus {s : ByteArray} (hz : s.size ≤ 140737488351232) {p q : Int} {f g : Bool} (h : St s p f q g) :
    ∃ v1 v2 v3 v4 v5 v6 v7 v8 p' f' u1 u2 u3 u4 u5 u6 u7 u8 q' g', Ev (fun k => spec_l10Eyes_bus.f k s p f) (v1, v2, v3, v4, v5, v6, v7, v8, s, p', f') ∧ Ev (fun k => impl_reader_bus.f k s q g) (u1, u2, u3, u4, u5, u6, u7, u8, s, q', g') ∧ St s p' f' q' g' ∧
      (f' = true → f = true ∧ u1 = v1 ∧ u2 = v2 ∧ u3 = v3 ∧ u4 = v4 ∧ u5 = v5 ∧ u6 = v6 ∧ u7 = v7 ∧ u8 = v8) ∧ -1 ≤ u1 ∧ u1 ≤ 255 := by
  obtain ⟨v1, p1, f1, u1, q1, g1, a1, b1, h1, i1, _, _, u10, u11⟩ := sim_w1 hz h
  obtain ⟨v2, p2, f2, u2, q2, g2, a2, b2, h2, i2⟩ := sim_cx hz h1
  obtain ⟨v3, p3, f3, u3, q3, g3, a3, b3, h3, i3⟩ := sim_cx hz h2
  obtain ⟨v4, p4, f4, u4, q4, g4, a4, b4, h4, i4, _⟩ := sim_w1 hz h3
  obtain ⟨v5, v6, v7, p5, f5, u5, u6, u7, q5, g5, a5, b5, h5, i5⟩ := sim_ph hz h4
  obtain ⟨v8, p6, f6, u8, q6, g6, a6, b6, h6, i6, _⟩ := sim_w4 hz h5
  have hw := w64 (u1 - 1) (by omega) (by omega)
  refine ⟨wrap64 (v1 - 1), v2, v3, v4, v5, v6, v7, v8, p6, f6, wrap64 (u1 - 1), u2, u3, u4, u5, u6, u7, u8, q6, g6, ?_, ?_, h6, fun h => ?_, by omega, by omega⟩
  · unfold spec_l10Eyes_bus.f
    exact Ev.bind a1 (Ev.bind a2 (Ev.bind a3 (Ev.bind a4 (Ev.bind a5 (Ev.bind a6 (Ev.now _))))))
  · unfold impl_reader_bus.f
    exact Ev.bind b1 (Ev.bind b2 (Ev.bind b3 (Ev.bind b4 (Ev.bind b5 (Ev.bind b6 (Ev.now _))))))
  · obtain ⟨hf5, e8⟩ := i6 h
    obtain ⟨hf4, e5, e6, e7⟩ := i5 hf5
    obtain ⟨hf3, e4⟩ := i4 hf4
    obtain ⟨hf2, e3⟩ := i3 hf3
    obtain ⟨hf1, e2⟩ := i2 hf2
    obtain ⟨hf, e1⟩ := i1 hf1
    exact ⟨hf, by rw [e1], e2, e3, e4, e5, e6, e7, e8⟩
theorem sim_tie {s : ByteArray} (hz : s.size ≤ 140737488351232) {p q : Int} {f g : Bool} (h : St s p f q g) :
    ∃ v1 v2 v3 v4 v5 p' f' u1 u2 u3 u4 u5 q' g', Ev (fun k => spec_l10Eyes_tie.f k s p f) (v1, v2, v3, v4, v5, s, p', f') ∧ Ev (fun k => impl_reader_tie.f k s q g) (u1, u2, u3, u4, u5, s, q', g') ∧ St s p' f' q' g' ∧
      (f' = true → f = true ∧ u1 = v1 ∧ u2 = v2 ∧ u3 = v3 ∧ u4 = v4 ∧ u5 = v5) := by
  obtain ⟨v1, p1, f1, u1, q1, g1, a1, b1, h1, i1, _⟩ := sim_w1 hz h
  obtain ⟨v2, p2, f2, u2, q2, g2, a2, b2, h2, i2, _⟩ := sim_w1 hz h1
  obtain ⟨v3, p3, f3, u3, q3, g3, a3, b3, h3, i3⟩ := sim_cx hz h2
  obtain ⟨v4, p4, f4, u4, q4, g4, a4, b4, h4, i4⟩ := sim_cx hz h3
  obtain ⟨v5, p5, f5, u5, q5, g5, a5, b5, h5, i5, _⟩ := sim_w4 hz h4
  refine ⟨v1, v2, v3, v4, v5, p5, f5, u1, u2, u3, u4, u5, q5, g5, ?_, ?_, h5, fun h => ?_⟩
  · unfold spec_l10Eyes_tie.f
    exact Ev.bind a1 (Ev.bind a2 (Ev.bind a3 (Ev.bind a4 (Ev.bind a5 (Ev.now _)))))
  · unfold impl_reader_tie.f
    exact Ev.bind b1 (Ev.bind b2 (Ev.bind b3 (Ev.bind b4 (Ev.bind b5 (Ev.now _)))))
  · obtain ⟨hf4, e5⟩ := i5 h
    obtain ⟨hf3, e4⟩ := i4 hf4
    obtain ⟨hf2, e3⟩ := i3 hf3
    obtain ⟨hf1, e2⟩ := i2 hf2
    obtain ⟨hf, e1⟩ := i1 hf1
    exact ⟨hf, e1, e2, e3, e4, e5⟩
end Go.Proofs.Ytkkokkmhldceiaa.Pure
/- Both sides read the same grid of a text: plain laws of the printed functions. -/
namespace Go.Proofs.Ytkkokkmhldceiaa.Pure
open Go.RowKit Go.Proofs.Ytkkokkmhldceiaa.M Go.Proofs.YtkkokkmhldceiaaW.PrintWords Go.Proofs.YtkkokkmhldceiaaW.PrintLast
set_option linter.unusedVariables false

/-! The program's look at a feeder is the reference's. -/
theorem vf_round (B : List S69) (i : Nat) (hi : i < B.length) (hl : B.length ≤ 1000) (c1 c2 c3 : Cx) (r : Bool)
    (hN : busB (rd_T69 B i) i = true → Ev (fun k => impl_ValidFeeder.l0 k B B.length ((i + 1 : Nat) : Int) c1 c2 c3 B) r) (hF : busB (rd_T69 B i) i = false → r = false) :
    Ev (fun k => impl_ValidFeeder.l0 k B B.length i c1 c2 c3 B) r := by
  obtain ⟨x, hx⟩ : ∃ x, rd_T69 B i = x := ⟨_, rfl⟩
  rw [hx] at hN hF
  have hw := w64 ((i : Int) + 1) (by omega) (by omega)
  have hwm := w64 ((i : Int) - 1) (by omega) (by omega)
  have e1 : (i : Int) + 1 = ((i + 1 : Nat) : Int) := by omega
  -- the last part
  have j2 : ∀ b : Bool, (b = false → (0 < i → inB x.f0 0 ((i : Int) - 1) = true) → Ev (fun k => impl_ValidFeeder.l0 k B B.length ((i + 1 : Nat) : Int) c1 c2 c3 B) r) → ((b = true ∨ (0 < i ∧ inB x.f0 0 ((i : Int) - 1) = false)) → r = false) →
      Ev (fun k => impl_ValidFeeder.j2 k i B B.length i b c1 c2 c3 B x.f0 x.f1 x.f2 x.f3 x.f4.f0 x.f4.f1 x.f4.f2 x.f5) r := by
    intro b hy hn
    cases b with
    | true =>
      have := hn (Or.inl rfl)
      subst this
      exact Ev.step (f := fun _ => some false) (fun k => by simp only [impl_ValidFeeder.j2, if_true]) (Ev.now _)
    | false =>
      by_cases c : 0 < i
      · cases hb : inB x.f0 0 ((i : Int) - 1) with
        | true =>
          refine Ev.step (fun k => ?_) (hy rfl (fun _ => hb))
          simp only [impl_ValidFeeder.j2]
          rw [if_neg (by simp), if_pos (by omega), hwm, in53_eq, hb]
          simp only [Option.bind_some, if_true]
          rw [hw, e1]
        | false =>
          have := hn (Or.inr ⟨c, hb⟩)
          subst this
          refine Ev.step (f := fun _ => some false) (fun k => ?_) (Ev.now _)
          simp only [impl_ValidFeeder.j2]
          rw [if_neg (by simp), if_pos (by omega), hwm, in53_eq, hb]
          simp only [Option.bind_some]
          rw [if_neg (by simp)]
      · refine Ev.step (fun k => ?_) (hy rfl (fun h => absurd h c))
        simp only [impl_ValidFeeder.j2]
        rw [if_neg (by simp), if_neg (by omega), hw, e1]
  have j1 : ∀ b : Bool, b = (!(inB x.f3 0 2 && inB x.f5 0 1000000)) → Ev (fun k => impl_ValidFeeder.j1 k i B B.length i b c1 c2 c3 B x.f0 x.f1 x.f2 x.f3 x.f4.f0 x.f4.f1 x.f4.f2 x.f5) r := by
    intro b hb
    cases h35 : (inB x.f3 0 2 && inB x.f5 0 1000000) with
    | false =>
      rw [h35] at hb
      subst hb
      have : r = false := hF (by unfold busB; rw [← Bool.and_assoc, h35]; rfl)
      subst this
      exact Ev.step (f := fun _ => some false) (fun k => by simp only [impl_ValidFeeder.j1, Bool.not_false, if_true]) (Ev.now _)
    | true =>
      rw [h35] at hb
      subst hb
      have eb : busB x i = (if (i : Int) = 0 then x.f0 == -1 && (isZ x.f1 && isZ x.f2) else inB x.f0 0 ((i : Int) - 1)) := by
        unfold busB; rw [← Bool.and_assoc, h35, Bool.true_and]
      by_cases c : i = 0
      · subst c
        rw [if_pos (show ((0 : Nat) : Int) = 0 from rfl)] at eb
        have all : ∀ b : Bool, b = (!(x.f0 == -1 && (isZ x.f1 && isZ x.f2))) → Ev (fun k => impl_ValidFeeder.j2 k (0 : Nat) B B.length (0 : Nat) b c1 c2 c3 B x.f0 x.f1 x.f2 x.f3 x.f4.f0 x.f4.f1 x.f4.f2 x.f5) r := by
          intro b hb
          refine j2 b (fun h1 h2 => hN (by rw [eb]; rw [h1] at hb; simpa using hb)) (fun h1 => hF (by
            rw [eb]
            rcases h1 with h1 | h1
            · rw [h1] at hb
              cases hq : (x.f0 == -1 && (isZ x.f1 && isZ x.f2)) with
              | false => rfl
              | true => rw [hq] at hb; cases hb
            · omega))
        by_cases z0 : x.f0 = -1
        · by_cases z1 : isZ x.f1 = true
          · refine Ev.step (fun k => ?_) (all (!isZ x.f2) (by rw [z0, z1]; simp))
            simp only [impl_ValidFeeder.j1]
            unfold isZ at z1
            rw [if_neg (by simp), if_pos (by rfl), if_pos z0, if_pos z1]
            rfl
          · refine Ev.step (fun k => ?_) (all true (by rw [Bool.eq_false_iff.mpr z1]; simp))
            simp only [impl_ValidFeeder.j1]
            unfold isZ at z1
            rw [if_neg (by simp), if_pos (by rfl), if_pos z0, if_neg z1]
        · refine Ev.step (fun k => ?_) (all true (by rw [beq_eq_false_iff_ne.mpr z0]; simp))
          simp only [impl_ValidFeeder.j1]
          rw [if_neg (by simp), if_pos (by rfl), if_neg z0]
      · rw [if_neg (by omega)] at eb
        refine Ev.step (fun k => ?_) (j2 false (fun _ h2 => hN (by rw [eb]; exact h2 (by omega))) (fun h1 => hF (by
          rw [eb]
          rcases h1 with h1 | h1
          · cases h1
          · exact h1.2)))
        simp only [impl_ValidFeeder.j1]
        rw [if_neg (by simp), if_neg (by omega)]
  refine Ev.step (fun k => ?_) (j1 _ rfl)
  simp only [impl_ValidFeeder.l0, hx]
  rw [if_pos (by omega), if_pos (by omega), if_pos (by omega)]
  unfold impl_kindOk.f
  rw [in53_eq, in53_eq]
  cases inB x.f3 0 2 with
  | true => simp
  | false => simp
theorem vf_loop (B : List S69) (hl : B.length ≤ 1000) (c1 c2 c3 : Cx) : ∀ (d i : Nat), i + d = B.length →
    ∃ r : Bool, Ev (fun k => impl_ValidFeeder.l0 k B B.length i c1 c2 c3 B) r ∧ (r = true ↔ (∀ j : Nat, i ≤ j → j < B.length → busB (rd_T69 B j) j = true) ∧ inB B.length 1 16 = true)
  | 0, i, h => by
    refine ⟨inB B.length 1 16, Ev.step (f := fun _ => some (inB B.length 1 16)) (fun k => ?_) (Ev.now _), ⟨fun h => ⟨fun j h1 h2 => by omega, h⟩, fun h => h.2⟩⟩
    simp only [impl_ValidFeeder.l0]
    rw [if_neg (by omega), in53_eq]
    rfl
  | d + 1, i, h => by
    obtain ⟨r, hr, hiff⟩ := vf_loop B hl c1 c2 c3 d (i + 1) (by omega)
    cases hb : busB (rd_T69 B i) i with
    | true =>
      refine ⟨r, vf_round B i (by omega) hl c1 c2 c3 r (fun _ => hr) (fun h => by rw [hb] at h; cases h), ?_⟩
      rw [hiff]
      constructor
      · intro h
        refine ⟨fun j h1 h2 => ?_, h.2⟩
        by_cases e : j = i
        · rw [e]; exact hb
        · exact h.1 j (by omega) h2
      · exact fun h => ⟨fun j h1 h2 => h.1 j (by omega) h2, h.2⟩
    | false =>
      refine ⟨false, vf_round B i (by omega) hl c1 c2 c3 false (fun h => by rw [hb] at h; cases h) (fun _ => rfl), ?_⟩
      constructor
      · intro h; cases h
      · intro h; have := h.1 i (Nat.le_refl _) (by omega); rw [hb] at this; cases this
theorem vf_ev (B : List S69) (hl : B.length ≤ 1000) (c1 c2 c3 : Cx) : Ev (fun k => impl_ValidFeeder.f k c1 c2 c3 B) (feederB B) := by
  obtain ⟨r, hr, hiff⟩ := vf_loop B hl c1 c2 c3 B.length 0 (by omega)
  have e : r = feederB B := by
    rw [Bool.eq_iff_iff, hiff]
    unfold feederB busesB inB
    simp only [Bool.and_eq_true, decide_eq_true_eq, List.all_eq_true, List.mem_range]
    constructor
    · rintro ⟨h1, h2, h3⟩; exact ⟨by omega, by omega, fun j hj => h1 j (by omega) hj⟩
    · rintro ⟨h1, h2, h3⟩; exact ⟨fun j _ hj => h3 j hj, by omega, by omega⟩
  rw [← e]
  exact hr

/-! The loops over buses and ties. -/
section
variable {s : ByteArray} (hz : s.size ≤ 140737488351232)
include hz
theorem lodB_short : ∀ (d : Nat) (N : Int) (l : List S69) (q : Int), 0 ≤ q → q ≤ s.size → (d : Int) ≤ N → N ≤ 255 → l.length + d ≤ 1000 →
    ∃ l' q', Ev (fun k => lodB k (N - d) N l s q true) (l', s, q', true) ∧ 0 ≤ q' ∧ q' ≤ s.size ∧ l'.length ≤ 1000
  | 0, N, l, q, q0, qs, hd, hN, hl => ⟨l, q, Ev.step (f := fun _ => some (l, s, q, true)) (fun k => by simp only [lodB]; rw [if_neg (by omega)]) (Ev.now _), q0, qs, by omega⟩
  | d + 1, N, l, q, q0, qs, hd, hN, hl => by
    obtain ⟨v1, v2, v3, v4, v5, v6, v7, v8, p', f', u1, u2, u3, u4, u5, u6, u7, u8, q', g', _, hb, hs, hi, _⟩ := sim_bus hz (p := q) (f := false) (g := true) ⟨q0, qs, q0, qs, (fun h => by cases h), fun _ => rfl⟩
    have hf : f' = false := by
      cases hf : f' with
      | false => rfl
      | true => have := (hi hf).1; cases this
    obtain rfl := hs.no hf
    obtain ⟨l', q2, h1, h2, h3, h4⟩ := lodB_short d N (l ++ [busOf (u1, u2, u3, u4, u5, u6, u7, u8, s, q', true)]) q' hs.q0 hs.qs (by omega) hN (by simp; omega)
    refine ⟨l', q2, Ev.step (fun k => ?_) (Ev.bind hb (f := fun k b => lodB k (N - d) N (l ++ [busOf b]) b.2.2.2.2.2.2.2.2.1 b.2.2.2.2.2.2.2.2.2.1 b.2.2.2.2.2.2.2.2.2.2) h1), h2, h3, h4⟩
    simp only [lodB]
    have e : wrap64 (N - ((d + 1 : Nat) : Int) + 1) = N - d := by unfold wrap64; omega
    rw [if_pos (by omega), if_pos (by omega), e]
    rfl
theorem buses_both : ∀ (d : Nat) (N : Int) (l : List S69) (p : Int), 0 ≤ p → p ≤ s.size → (d : Int) ≤ N → N ≤ 255 → l.length + d ≤ 1000 →
    ∃ lE p' f' lI q' g', Ev (fun k => begB k d l s p true) (lE, s, p', f') ∧ Ev (fun k => lodB k (N - d) N l s p false) (lI, s, q', g') ∧ St s p' f' q' g' ∧ (f' = true → lE = lI) ∧ lE.length ≤ 1000 ∧ lI.length ≤ 1000
  | 0, N, l, p, p0, ps, hd, hN, hl => ⟨l, p, true, l, p, false, Ev.step (f := fun _ => some (l, s, p, true)) (fun k => by simp only [begB]; rw [if_neg (by omega)]) (Ev.now _),
      Ev.step (f := fun _ => some (l, s, p, false)) (fun k => by simp only [lodB]; rw [if_neg (by omega)]) (Ev.now _), ⟨p0, ps, p0, ps, fun _ => ⟨rfl, rfl⟩, (fun h => by cases h)⟩, fun _ => rfl, by omega, by omega⟩
  | d + 1, N, l, p, p0, ps, hd, hN, hl => by
    obtain ⟨v1, v2, v3, v4, v5, v6, v7, v8, p', f', u1, u2, u3, u4, u5, u6, u7, u8, q', g', ha, hb, hs, hi, _⟩ := sim_bus hz (p := p) (q := p) (f := true) (g := false) ⟨p0, ps, p0, ps, fun _ => ⟨rfl, rfl⟩, (fun h => by cases h)⟩
    have eI : wrap64 (N - ((d + 1 : Nat) : Int) + 1) = N - d := by unfold wrap64; omega
    have eE : wrap64 (((d + 1 : Nat) : Int) - 1) = d := by unfold wrap64; omega
    cases hf : f' with
    | true =>
      subst hf
      obtain ⟨_, rfl, rfl, rfl, rfl, rfl, rfl, rfl, rfl⟩ := hi rfl
      obtain ⟨rfl, rfl⟩ := hs.yes rfl
      obtain ⟨lE, p2, f2, lI, q2, g2, h1, h2, h3⟩ := buses_both d N (l ++ [busOf (u1, u2, u3, u4, u5, u6, u7, u8, s, q', true)]) q' hs.q0 hs.qs (by omega) hN (by simp; omega)
      refine ⟨lE, p2, f2, lI, q2, g2, Ev.step (fun k => ?_) (Ev.bind ha (f := fun k b => begB k d (l ++ [busOf b]) b.2.2.2.2.2.2.2.2.1 b.2.2.2.2.2.2.2.2.2.1 b.2.2.2.2.2.2.2.2.2.2) h1), Ev.step (fun k => ?_) (Ev.bind hb (f := fun k b => lodB k (N - d) N (l ++ [busOf b]) b.2.2.2.2.2.2.2.2.1 b.2.2.2.2.2.2.2.2.2.1 b.2.2.2.2.2.2.2.2.2.2) h2), h3⟩
      · simp only [begB, if_true]
        rw [if_pos (by omega), if_pos (by omega), eE]
        rfl
      · simp only [lodB]
        rw [if_pos (by omega), if_pos (by omega), eI]
        rfl
    | false =>
      subst hf
      obtain rfl := hs.no rfl
      obtain ⟨l', q2, h1, h2, h3, h4⟩ := lodB_short hz d N (l ++ [busOf (u1, u2, u3, u4, u5, u6, u7, u8, s, q', true)]) q' hs.q0 hs.qs (by omega) hN (by simp; omega)
      refine ⟨l ++ [busOf (v1, v2, v3, v4, v5, v6, v7, v8, s, p', false)], p', false, l', q2, true, Ev.step (fun k => ?_) (Ev.bind ha (f := fun k b => begB k d (l ++ [busOf b]) b.2.2.2.2.2.2.2.2.1 b.2.2.2.2.2.2.2.2.2.1 b.2.2.2.2.2.2.2.2.2.2) ?_), Ev.step (fun k => ?_) (Ev.bind hb (f := fun k b => lodB k (N - d) N (l ++ [busOf b]) b.2.2.2.2.2.2.2.2.1 b.2.2.2.2.2.2.2.2.2.1 b.2.2.2.2.2.2.2.2.2.2) h1), ⟨hs.p0, hs.ps, h2, h3, (fun h => by cases h), fun _ => rfl⟩, (fun h => by cases h), by simp; omega, h4⟩
      · simp only [begB, if_true]
        rw [if_pos (by omega), if_pos (by omega), eE]
        rfl
      · refine Ev.step (f := fun _ => some (l ++ [busOf (v1, v2, v3, v4, v5, v6, v7, v8, s, p', false)], s, p', false)) (fun k => ?_) (Ev.now _)
        simp only [begB]
        by_cases c : 0 < (d : Int)
        · rw [if_pos c, if_neg (by simp)]
        · rw [if_neg c]
      · simp only [lodB]
        rw [if_pos (by omega), if_pos (by omega), eI]
        rfl
def tieOf (b : Int × Int × Cx × Cx × Int × ByteArray × Int × Bool) : S72 := ⟨b.1, b.2.1, b.2.2.1, b.2.2.2.1, b.2.2.2.2.1⟩
theorem lodT_short : ∀ (d : Nat) (N : Int) (l : List S72) (q : Int), 0 ≤ q → q ≤ s.size → (d : Int) ≤ N → N ≤ 255 → l.length + d ≤ 1000 →
    ∃ l' q', Ev (fun k => lodT k (N - d) N l s q true) (l', s, q', true) ∧ 0 ≤ q' ∧ q' ≤ s.size ∧ l'.length ≤ 1000
  | 0, N, l, q, q0, qs, hd, hN, hl => ⟨l, q, Ev.step (f := fun _ => some (l, s, q, true)) (fun k => by simp only [lodT]; rw [if_neg (by omega)]) (Ev.now _), q0, qs, by omega⟩
  | d + 1, N, l, q, q0, qs, hd, hN, hl => by
    obtain ⟨v1, v2, v3, v4, v5, p', f', u1, u2, u3, u4, u5, q', g', _, hb, hs, hi⟩ := sim_tie hz (p := q) (f := false) (g := true) ⟨q0, qs, q0, qs, (fun h => by cases h), fun _ => rfl⟩
    have hf : f' = false := by
      cases hf : f' with
      | false => rfl
      | true => have := (hi hf).1; cases this
    obtain rfl := hs.no hf
    obtain ⟨l', q2, h1, h2, h3, h4⟩ := lodT_short d N (l ++ [tieOf (u1, u2, u3, u4, u5, s, q', true)]) q' hs.q0 hs.qs (by omega) hN (by simp; omega)
    refine ⟨l', q2, Ev.step (fun k => ?_) (Ev.bind hb (f := fun k b => lodT k (N - d) N (l ++ [tieOf b]) b.2.2.2.2.2.1 b.2.2.2.2.2.2.1 b.2.2.2.2.2.2.2) h1), h2, h3, h4⟩
    simp only [lodT]
    have e : wrap64 (N - ((d + 1 : Nat) : Int) + 1) = N - d := by unfold wrap64; omega
    rw [if_pos (by omega), if_pos (by omega), e]
    rfl
theorem ties_both : ∀ (d : Nat) (N : Int) (l : List S72) (p : Int), 0 ≤ p → p ≤ s.size → (d : Int) ≤ N → N ≤ 255 → l.length + d ≤ 1000 →
    ∃ lE p' f' lI q' g', Ev (fun k => begT k d l s p true) (lE, s, p', f') ∧ Ev (fun k => lodT k (N - d) N l s p false) (lI, s, q', g') ∧ St s p' f' q' g' ∧ (f' = true → lE = lI) ∧ lE.length ≤ 1000 ∧ lI.length ≤ 1000
  | 0, N, l, p, p0, ps, hd, hN, hl => ⟨l, p, true, l, p, false, Ev.step (f := fun _ => some (l, s, p, true)) (fun k => by simp only [begT]; rw [if_neg (by omega)]) (Ev.now _),
      Ev.step (f := fun _ => some (l, s, p, false)) (fun k => by simp only [lodT]; rw [if_neg (by omega)]) (Ev.now _), ⟨p0, ps, p0, ps, fun _ => ⟨rfl, rfl⟩, (fun h => by cases h)⟩, fun _ => rfl, by omega, by omega⟩
  | d + 1, N, l, p, p0, ps, hd, hN, hl => by
    obtain ⟨v1, v2, v3, v4, v5, p', f', u1, u2, u3, u4, u5, q', g', ha, hb, hs, hi⟩ := sim_tie hz (p := p) (q := p) (f := true) (g := false) ⟨p0, ps, p0, ps, fun _ => ⟨rfl, rfl⟩, (fun h => by cases h)⟩
    have eI : wrap64 (N - ((d + 1 : Nat) : Int) + 1) = N - d := by unfold wrap64; omega
    have eE : wrap64 (((d + 1 : Nat) : Int) - 1) = d := by unfold wrap64; omega
    cases hf : f' with
    | true =>
      subst hf
      obtain ⟨_, rfl, rfl, rfl, rfl, rfl⟩ := hi rfl
      obtain ⟨rfl, rfl⟩ := hs.yes rfl
      obtain ⟨lE, p2, f2, lI, q2, g2, h1, h2, h3⟩ := ties_both d N (l ++ [tieOf (u1, u2, u3, u4, u5, s, q', true)]) q' hs.q0 hs.qs (by omega) hN (by simp; omega)
      refine ⟨lE, p2, f2, lI, q2, g2, Ev.step (fun k => ?_) (Ev.bind ha (f := fun k b => begT k d (l ++ [tieOf b]) b.2.2.2.2.2.1 b.2.2.2.2.2.2.1 b.2.2.2.2.2.2.2) h1), Ev.step (fun k => ?_) (Ev.bind hb (f := fun k b => lodT k (N - d) N (l ++ [tieOf b]) b.2.2.2.2.2.1 b.2.2.2.2.2.2.1 b.2.2.2.2.2.2.2) h2), h3⟩
      · simp only [begT, if_true]
        rw [if_pos (by omega), if_pos (by omega), eE]
        rfl
      · simp only [lodT]
        rw [if_pos (by omega), if_pos (by omega), eI]
        rfl
    | false =>
      subst hf
      obtain rfl := hs.no rfl
      obtain ⟨l', q2, h1, h2, h3, h4⟩ := lodT_short hz d N (l ++ [tieOf (u1, u2, u3, u4, u5, s, q', true)]) q' hs.q0 hs.qs (by omega) hN (by simp; omega)
      refine ⟨l ++ [tieOf (v1, v2, v3, v4, v5, s, p', false)], p', false, l', q2, true, Ev.step (fun k => ?_) (Ev.bind ha (f := fun k b => begT k d (l ++ [tieOf b]) b.2.2.2.2.2.1 b.2.2.2.2.2.2.1 b.2.2.2.2.2.2.2) ?_), Ev.step (fun k => ?_) (Ev.bind hb (f := fun k b => lodT k (N - d) N (l ++ [tieOf b]) b.2.2.2.2.2.1 b.2.2.2.2.2.2.1 b.2.2.2.2.2.2.2) h1), ⟨hs.p0, hs.ps, h2, h3, (fun h => by cases h), fun _ => rfl⟩, (fun h => by cases h), by simp; omega, h4⟩
      · simp only [begT, if_true]
        rw [if_pos (by omega), if_pos (by omega), eE]
        rfl
      · refine Ev.step (f := fun _ => some (l ++ [tieOf (v1, v2, v3, v4, v5, s, p', false)], s, p', false)) (fun k => ?_) (Ev.now _)
        simp only [begT]
        by_cases c : 0 < (d : Int)
        · rw [if_pos c, if_neg (by simp)]
        · rw [if_neg c]
      · simp only [lodT]
        rw [if_pos (by omega), if_pos (by omega), eI]
        rfl
end
end Go.Proofs.Ytkkokkmhldceiaa.Pure
/- The grid with which a text begins: both sides tell the same. -/
namespace Go.Proofs.Ytkkokkmhldceiaa.Pure
open Go.RowKit Go.Proofs.Ytkkokkmhldceiaa.M Go.Proofs.YtkkokkmhldceiaaW.PrintWords Go.Proofs.YtkkokkmhldceiaaW.PrintLast
set_option linter.unusedVariables false

theorem prefix_eq (a : ByteArray) (h : 4 ≤ a.size) : strings_HasPrefix.f a mark4 = some ((a.extract 0 4).toList == mark4.toList) := by
  have e : ((mark4.size : Nat) : Int) = 4 := by decide
  unfold strings_HasPrefix.f stringslite_HasPrefix.f
  rw [e, if_pos (by omega), if_pos (by omega), if_pos (by omega)]
  rfl
theorem prefix_short (a : ByteArray) (h : ¬ 4 ≤ a.size) : strings_HasPrefix.f a mark4 = some false := by
  have e : ((mark4.size : Nat) : Int) = 4 := by decide
  unfold strings_HasPrefix.f stringslite_HasPrefix.f
  rw [e, if_neg (by omega)]
  rfl
theorem toList_inj {a b : ByteArray} (h : a.toList = b.toList) : a = b := by
  rw [ByteArray.toList_eq, ByteArray.toList_eq] at h
  exact ByteArray.ext (Array.toList_inj.1 h)

theorem okB_all (T : List S72) (n : Nat) : ((List.range T.length).all fun i => okB (rd_T72 T (i : Int)) n) = tiesB T n := by
  unfold tiesB
  congr 1
  funext i
  exact okB_eq _ _
theorem tiesOk_grid (B : List S69) (T : List S72) : tiesOk (feederB B) B T = gridB B T := by
  unfold tiesOk gridB
  rw [okB_all]

/-- What is known of the two answers. -/
def Same (a : ByteArray) (x y : Grd) : Prop :=
  (x.2.2.2.2.2.2 = true ∧ y = x ∧ gridB x.2.2.2.1 x.2.2.2.2.1 = true ∧ 0 ≤ x.2.2.2.2.2.1 ∧ x.2.2.2.2.2.1 ≤ a.size) ∨ (x.2.2.2.2.2.2 = false ∧ y = noGrd)

theorem end_fine (a : ByteArray) (p1 p2 p3 : Cx) (B : List S69) (T : List S72) (p : Int) (hp0 : 0 ≤ p) (hp1 : p ≤ a.size) (hB : B.length ≤ 1000) (hT : T.length ≤ 1000) :
    ∃ x y : Grd, begEnd a p1 p2 p3 B T p true = some x ∧ Ev (fun k => lodEnd k a p1 p2 p3 B T p false) y ∧ Same a x y := by
  have hv := vf_ev B hB p1 p2 p3
  cases hg : gridB B T with
  | true =>
    obtain ⟨b1, b2, b3, b4⟩ := gridB_bounds hg
    have hs : smallB B = true := by
      unfold smallB
      simp only [List.all_eq_true, List.mem_range, Bool.and_eq_true, decide_eq_true_eq]
      exact fun i hi => ⟨(b3 i hi).1, (b3 i hi).2.1⟩
    by_cases c : headT p1 p2 p3 B T = a.extract 0 p.toNat
    · refine ⟨(p1, p2, p3, B, T, p, true), (p1, p2, p3, B, T, p, true), ?_, ?_, Or.inl ⟨rfl, rfl, hg, hp0, hp1⟩⟩
      · unfold begEnd
        rw [if_pos ⟨by omega, by omega⟩, if_pos rfl, if_pos hg, if_pos ⟨hp0, hp1⟩, c, beq_toListBytes]
        simp
      · refine Ev.congr (fun k => ?_) (Ev.bind hv (f := fun _ b => if tiesOk b B T = true then some (p1, p2, p3, B, T, p, true) else some noGrd) (by simp only [tiesOk_grid, hg, if_true]; exact Ev.now _))
        unfold lodEnd
        rw [if_pos ⟨by omega, by omega⟩, if_neg (by simp)]
        congr 1
        funext b
        rw [if_pos (⟨hs, by omega, by omega, hp0, hp1⟩ : smallB B = true ∧ B.length ≤ 100 ∧ T.length ≤ 100 ∧ 0 ≤ p ∧ p ≤ (a.size : Int)), if_pos c]
    · refine ⟨(p1, p2, p3, B, T, p, false), noGrd, ?_, ?_, Or.inr ⟨rfl, rfl⟩⟩
      · unfold begEnd
        rw [if_pos ⟨by omega, by omega⟩, if_pos rfl, if_pos hg, if_pos ⟨hp0, hp1⟩, beq_toListBytes, beq_eq_false_iff_ne.mpr (fun h => c (toList_inj h))]
      · refine Ev.congr (fun k => ?_) (Ev.bind hv (f := fun _ b => if tiesOk b B T = true then some noGrd else some noGrd) (by simp only [ite_self]; exact Ev.now _))
        unfold lodEnd
        rw [if_pos ⟨by omega, by omega⟩, if_neg (by simp)]
        congr 1
        funext b
        rw [if_pos (⟨hs, by omega, by omega, hp0, hp1⟩ : smallB B = true ∧ B.length ≤ 100 ∧ T.length ≤ 100 ∧ 0 ≤ p ∧ p ≤ (a.size : Int)), if_neg c]
  | false =>
    refine ⟨(p1, p2, p3, B, T, p, false), noGrd, ?_, ?_, Or.inr ⟨rfl, rfl⟩⟩
    · unfold begEnd
      rw [if_pos ⟨by omega, by omega⟩, if_pos rfl, if_neg (by rw [hg]; simp)]
    · have e : ∀ k, lodEnd k a p1 p2 p3 B T p false = (impl_ValidFeeder.f k p1 p2 p3 B).bind fun b => if tiesOk b B T = true then
          if smallB B = true ∧ B.length ≤ 100 ∧ T.length ≤ 100 ∧ 0 ≤ p ∧ p ≤ (a.size : Int) then
            if headT p1 p2 p3 B T = a.extract 0 p.toNat then some (p1, p2, p3, B, T, p, true) else some noGrd
          else none
        else some noGrd := fun k => by
        unfold lodEnd
        rw [if_pos ⟨by omega, by omega⟩, if_neg (by simp)]
      refine Ev.congr e (Ev.bind hv ?_)
      simp only [tiesOk_grid, hg]
      exact Ev.now _

theorem load_both (a : ByteArray) (hz : a.size ≤ 140737488351232) : ∃ x y : Grd, Ev (fun k => spec_l10Begin.f k a) x ∧ Ev (fun k => impl_loadGrid.f k a) y ∧ Same a x y := by
  by_cases c0 : (a.size : Int) < 4
  · refine ⟨(⟨0, 0⟩, ⟨0, 0⟩, ⟨0, 0⟩, [], [], 0, false), noGrd, ?_, ?_, Or.inr ⟨rfl, rfl⟩⟩
    · refine Ev.congr (fun k => ?_) (Ev.now _)
      unfold spec_l10Begin.f
      rw [if_pos c0]
    · refine Ev.congr (fun k => ?_) (Ev.now _)
      unfold impl_loadGrid.f
      rw [prefix_short a (by omega)]
      simp only [Option.bind_some]
      rw [if_neg (by simp)]
  · by_cases c1 : a.extract 0 4 = mark4
    · obtain ⟨v1, v2, v3, p1, f1, u1, u2, u3, q1, g1, a1, b1, h1, i1⟩ := sim_ph hz (s := a) (p := 4) (q := 4) (f := true) (g := false) ⟨by omega, by omega, by omega, by omega, fun _ => ⟨rfl, rfl⟩, (fun h => by cases h)⟩
      obtain ⟨v4, p2, f2, u4, q2, g2, a2, b2, h2, i2, v40, v41, u40, u41⟩ := sim_w1 hz h1
      have hpre : strings_HasPrefix.f a mark4 = some true := by
        rw [prefix_eq a (by omega), c1]
        simp
      have eS : ∀ k, spec_l10Begin.f k a = (spec_l10Eyes_phases.f k a 4 true).bind fun bp =>
          (spec_l10Eyes_word.f k bp.2.2.2.1 bp.2.2.2.2.1 bp.2.2.2.2.2 1).bind fun bn =>
          (begB k bn.1 [] bn.2.1 bn.2.2.1 bn.2.2.2).bind fun bb =>
          (spec_l10Eyes_word.f k bb.2.1 bb.2.2.1 bb.2.2.2 1).bind fun bm =>
          (begT k bm.1 [] bm.2.1 bm.2.2.1 bm.2.2.2).bind fun bt =>
          begEnd a bp.1 bp.2.1 bp.2.2.1 bb.1 bt.1 bt.2.2.1 bt.2.2.2 := fun k => by
        unfold spec_l10Begin.f
        rw [if_neg c0, if_pos c1]
      have eI : ∀ k, impl_loadGrid.f k a = (impl_reader_phases.f k a 4 false).bind fun bp =>
          (impl_reader_number.f k bp.2.2.2.1 bp.2.2.2.2.1 bp.2.2.2.2.2 1).bind fun bn =>
          (lodB k 0 bn.1 [] bn.2.1 bn.2.2.1 bn.2.2.2).bind fun bb =>
          (impl_reader_number.f k bb.2.1 bb.2.2.1 bb.2.2.2 1).bind fun bm =>
          (lodT k 0 bm.1 [] bm.2.1 bm.2.2.1 bm.2.2.2).bind fun bt =>
          lodEnd k a bp.1 bp.2.1 bp.2.2.1 bb.1 bt.1 bt.2.2.1 bt.2.2.2 := fun k => by
        unfold impl_loadGrid.f
        rw [hpre]
        simp only [Option.bind_some, if_true]
      -- a text that ends too early: what the two come to
      have badS : ∀ (x : Option Grd) (B : List S69) (T : List S72) (p : Int), B.length ≤ 1000 → T.length ≤ 1000 → begEnd a v1 v2 v3 B T p false = some (v1, v2, v3, B, T, p, false) := by
        intro x B T p hB hT
        unfold begEnd
        rw [if_pos ⟨by omega, by omega⟩, if_neg (by simp)]
      have badI : ∀ (B : List S69) (T : List S72) (p : Int), Ev (fun k => lodEnd k a u1 u2 u3 B T p true) noGrd := by
        intro B T p
        refine Ev.congr (fun k => ?_) (Ev.now _)
        unfold lodEnd
        simp
      have wv : ∀ n : Int, 0 ≤ n → ((n.toNat : Nat) : Int) = n := fun n h => Int.toNat_of_nonneg h
      -- the first loop
      have L1 : ∃ lE p3 f3 lI q3 g3, Ev (fun k => begB k v4 [] a p2 f2) (lE, a, p3, f3) ∧ Ev (fun k => lodB k 0 u4 [] a q2 g2) (lI, a, q3, g3) ∧ St a p3 f3 q3 g3 ∧ (f3 = true → f2 = true ∧ lE = lI) ∧ lE.length ≤ 1000 ∧ lI.length ≤ 1000 := by
        cases hf : f2 with
        | true =>
          subst hf
          obtain ⟨hf1, rfl⟩ := i2 rfl
          obtain ⟨rfl, rfl⟩ := h2.yes rfl
          obtain ⟨lE, p3, f3, lI, q3, g3, x1, x2, x3, x4, x5, x6⟩ := buses_both hz u4.toNat u4 [] q2 h2.q0 h2.qs (by omega) (by omega) (by simp; omega)
          rw [wv u4 u40] at x1 x2
          rw [Int.sub_self] at x2
          exact ⟨lE, p3, f3, lI, q3, g3, x1, x2, x3, fun h => ⟨rfl, x4 h⟩, x5, x6⟩
        | false =>
          subst hf
          obtain rfl := h2.no rfl
          obtain ⟨lI, q3, x1, x2, x3, x4⟩ := lodB_short hz u4.toNat u4 [] q2 h2.q0 h2.qs (by omega) (by omega) (by simp; omega)
          rw [wv u4 u40, Int.sub_self] at x1
          refine ⟨[], p2, false, lI, q3, true, Ev.step (f := fun _ => some ([], a, p2, false)) (fun k => ?_) (Ev.now _), x1, ⟨h2.p0, h2.ps, x2, x3, (fun h => by cases h), fun _ => rfl⟩, (fun h => by cases h), by simp, x4⟩
          simp only [begB]
          by_cases c : 0 < v4
          · rw [if_pos c, if_neg (by simp)]
          · rw [if_neg c]
      obtain ⟨lE, p3, f3, lI, q3, g3, a3, b3, h3, i3, n3E, n3I⟩ := L1
      obtain ⟨v5, p4, f4, u5, q4, g4, a4, b4, h4, i4, v50, v51, u50, u51⟩ := sim_w1 hz h3
      have L2 : ∃ tE p5 f5 tI q5 g5, Ev (fun k => begT k v5 [] a p4 f4) (tE, a, p5, f5) ∧ Ev (fun k => lodT k 0 u5 [] a q4 g4) (tI, a, q5, g5) ∧ St a p5 f5 q5 g5 ∧ (f5 = true → f4 = true ∧ tE = tI) ∧ tE.length ≤ 1000 ∧ tI.length ≤ 1000 := by
        cases hf : f4 with
        | true =>
          subst hf
          obtain ⟨hf1, rfl⟩ := i4 rfl
          obtain ⟨rfl, rfl⟩ := h4.yes rfl
          obtain ⟨tE, p5, f5, tI, q5, g5, x1, x2, x3, x4, x5, x6⟩ := ties_both hz u5.toNat u5 [] q4 h4.q0 h4.qs (by omega) (by omega) (by simp; omega)
          rw [wv u5 u50] at x1 x2
          rw [Int.sub_self] at x2
          exact ⟨tE, p5, f5, tI, q5, g5, x1, x2, x3, fun h => ⟨rfl, x4 h⟩, x5, x6⟩
        | false =>
          subst hf
          obtain rfl := h4.no rfl
          obtain ⟨tI, q5, x1, x2, x3, x4⟩ := lodT_short hz u5.toNat u5 [] q4 h4.q0 h4.qs (by omega) (by omega) (by simp; omega)
          rw [wv u5 u50, Int.sub_self] at x1
          refine ⟨[], p4, false, tI, q5, true, Ev.step (f := fun _ => some ([], a, p4, false)) (fun k => ?_) (Ev.now _), x1, ⟨h4.p0, h4.ps, x2, x3, (fun h => by cases h), fun _ => rfl⟩, (fun h => by cases h), by simp, x4⟩
          simp only [begT]
          by_cases c : 0 < v5
          · rw [if_pos c, if_neg (by simp)]
          · rw [if_neg c]
      obtain ⟨tE, p5, f5, tI, q5, g5, a5, b5, h5, i5, n5E, n5I⟩ := L2
      cases hf : f5 with
      | true =>
        subst hf
        obtain ⟨hf4, rfl⟩ := i5 rfl
        obtain ⟨hf3, _⟩ := i4 hf4
        obtain ⟨hf2, rfl⟩ := i3 hf3
        obtain ⟨hf1, _⟩ := i2 hf2
        obtain ⟨_, rfl, rfl, rfl⟩ := i1 hf1
        obtain ⟨rfl, rfl⟩ := h5.yes rfl
        obtain ⟨x, y, hx, hy, hsm⟩ := end_fine a u1 u2 u3 lE tE q5 h5.q0 h5.qs n3E n5E
        exact ⟨x, y, Ev.congr eS (Ev.bind a1 (Ev.bind a2 (Ev.bind a3 (Ev.bind a4 (Ev.bind a5 (Ev.congr (fun _ => hx) (Ev.now _))))))), Ev.congr eI (Ev.bind b1 (Ev.bind b2 (Ev.bind b3 (Ev.bind b4 (Ev.bind b5 hy))))), hsm⟩
      | false =>
        subst hf
        obtain rfl := h5.no rfl
        exact ⟨(v1, v2, v3, lE, tE, p5, false), noGrd, Ev.congr eS (Ev.bind a1 (Ev.bind a2 (Ev.bind a3 (Ev.bind a4 (Ev.bind a5 (Ev.congr (fun _ => badS none lE tE p5 n3E n5E) (Ev.now _))))))), Ev.congr eI (Ev.bind b1 (Ev.bind b2 (Ev.bind b3 (Ev.bind b4 (Ev.bind b5 (badI lI tI q5)))))), Or.inr ⟨rfl, rfl⟩⟩
    · refine ⟨(⟨0, 0⟩, ⟨0, 0⟩, ⟨0, 0⟩, [], [], 0, false), noGrd, ?_, ?_, Or.inr ⟨rfl, rfl⟩⟩
      · refine Ev.congr (fun k => ?_) (Ev.now _)
        unfold spec_l10Begin.f
        rw [if_neg c0, if_neg c1]
      · refine Ev.congr (fun k => ?_) (Ev.now _)
        have e : ((a.extract 0 4).toList == mark4.toList) = false := by
          rw [beq_eq_false_iff_ne]
          exact fun h => c1 (toList_inj h)
        unfold impl_loadGrid.f
        rw [prefix_eq a (by omega), e]
        simp only [Option.bind_some]
        rw [if_neg (by simp)]
end Go.Proofs.Ytkkokkmhldceiaa.Pure
/- Grids are the same as themselves, and what is marked is held: plain laws of the printed functions. -/
namespace Go.Proofs.Ytkkokkmhldceiaa.Pure
open Go.RowKit Go.Proofs.Ytkkokkmhldceiaa.M Go.Proofs.YtkkokkmhldceiaaW.PrintWords Go.Proofs.YtkkokkmhldceiaaW.PrintLast
set_option linter.unusedVariables false
set_option linter.unusedSimpArgs false

theorem eqPhases_refl (a b c : Cx) : laws_eqPhases.f a b c a b c = some true := by unfold laws_eqPhases.f; simp [sameCx_refl]
theorem eqBusS_loop (B : List S69) (hl : B.length ≤ 1000000) : ∀ (d i : Nat), i + d = B.length → Ev (fun k => laws_eqBusS.l0 k B B i) true
  | 0, i, h => Ev.step (f := fun _ => some true) (fun k => by simp only [laws_eqBusS.l0]; rw [if_neg (by omega)]) (Ev.now _)
  | d + 1, i, h => by
    have hw := w64 ((i : Int) + 1) (by omega) (by omega)
    refine Ev.step (fun k => ?_) (eqBusS_loop B hl d (i + 1) (by omega))
    simp only [laws_eqBusS.l0]
    rw [if_pos (by omega), if_pos (by omega), if_pos (by omega), hw]
    unfold laws_eqBus.f
    simp [sameCx_refl]
theorem eqTieS_loop (T : List S72) (hl : T.length ≤ 1000000) : ∀ (d i : Nat), i + d = T.length → Ev (fun k => laws_eqTieS.l0 k T T i) true
  | 0, i, h => Ev.step (f := fun _ => some true) (fun k => by simp only [laws_eqTieS.l0]; rw [if_neg (by omega)]) (Ev.now _)
  | d + 1, i, h => by
    have hw := w64 ((i : Int) + 1) (by omega) (by omega)
    refine Ev.step (fun k => ?_) (eqTieS_loop T hl d (i + 1) (by omega))
    simp only [laws_eqTieS.l0]
    rw [if_pos (by omega), if_pos (by omega), if_pos (by omega), hw]
    unfold laws_eqTie.f
    simp [sameCx_refl]
theorem eqGrid_refl (p1 p2 p3 : Cx) (B : List S69) (T : List S72) (hB : B.length ≤ 1000000) (hT : T.length ≤ 1000000) : Ev (fun k => laws_eqGrid.f k p1 p2 p3 B T p1 p2 p3 B T) true := by
  have h1 : Ev (fun k => laws_eqBusS.f k B B) true := Ev.congr (fun k => by unfold laws_eqBusS.f; rw [if_pos rfl]; rfl) (eqBusS_loop B hB B.length 0 (by omega))
  have h2 : Ev (fun k => laws_eqTieS.f k T T) true := Ev.congr (fun k => by unfold laws_eqTieS.f; rw [if_pos rfl]; rfl) (eqTieS_loop T hT T.length 0 (by omega))
  have h3 : Ev (fun k => laws_eqFeeder.f k p1 p2 p3 B p1 p2 p3 B) true := by
    refine Ev.congr (fun k => ?_) (Ev.bind h1 (f := fun _ t => if t = true then some true else some false) (Ev.now _))
    unfold laws_eqFeeder.f
    rw [eqPhases_refl]
    rfl
  unfold laws_eqGrid.f
  exact Ev.bind h3 (Ev.bind h2 (Ev.now _))

def mk (n : Int) : Cx := ⟨mk32 n, 1065353216⟩
def mkBus (m : Int) : S69 := ⟨m, mk (m + 1), mk (m + 2), m + 3, ⟨mk (m + 4), mk (m + 5), mk (m + 6)⟩, m + 7⟩
def mkTie (m : Int) : S72 := ⟨m, m + 1, mk (m + 2), mk (m + 3), m + 4⟩
theorem rd69_set (l : List S69) (i : Nat) (v : S69) (h : i < l.length) : rd_T69 (l.set i v) (i : Int) = v := by
  unfold rd_T69
  rw [Int.toNat_natCast, List.getD_eq_getElem?_getD, List.getElem?_set_self h]
  rfl
theorem rd69_far (l : List S69) (i j : Nat) (v : S69) (h : i ≠ j) : rd_T69 (l.set i v) (j : Int) = rd_T69 l j := by
  unfold rd_T69
  rw [Int.toNat_natCast, List.getD_eq_getElem?_getD, List.getElem?_set_ne h, List.getD_eq_getElem?_getD]
theorem rd72_set (l : List S72) (i : Nat) (v : S72) (h : i < l.length) : rd_T72 (l.set i v) (i : Int) = v := by
  unfold rd_T72
  rw [Int.toNat_natCast, List.getD_eq_getElem?_getD, List.getElem?_set_self h]
  rfl
theorem rd72_far (l : List S72) (i j : Nat) (v : S72) (h : i ≠ j) : rd_T72 (l.set i v) (j : Int) = rd_T72 l j := by
  unfold rd_T72
  rw [Int.toNat_natCast, List.getD_eq_getElem?_getD, List.getElem?_set_ne h, List.getD_eq_getElem?_getD]

theorem wadd (m : Int) (c : Int) (h0 : 0 ≤ m) (h1 : m ≤ 100000) (c0 : 0 ≤ c) (c1 : c ≤ 100) : wrap64 (m + c) = m + c := w64 _ (by omega) (by omega)
theorem mark_round (k : Nat) (l : List S69) (m : Int) (i : Nat) (hi : i < l.length) (hm0 : 0 ≤ m) (hm1 : m ≤ 4000) (hl : l.length ≤ 1000000) :
    laws_markBusS.l0 (k + 1) l m i = laws_markBusS.l0 k (l.set i (mkBus m)) (m + 8) ((i + 1 : Nat) : Int) := by
  have hw := w64 ((i : Int) + 1) (by omega) (by omega)
  have e : ∀ c : Int, 0 ≤ c → c ≤ 100 → wrap64 (m + c) = m + c := fun c c0 c1 => wadd m c hm0 (by omega) c0 c1
  simp only [laws_markBusS.l0, e 1 (by decide) (by decide), Int.add_assoc, Int.reduceAdd, e 2 (by decide) (by decide), e 3 (by decide) (by decide), e 4 (by decide) (by decide), e 5 (by decide) (by decide), e 6 (by decide) (by decide), e 7 (by decide) (by decide), e 8 (by decide) (by decide), hw, Option.bind_some, Int.toNat_natCast,
    rd69_set l i _ hi, List.set_set]
  rw [if_pos (by omega), if_pos (by omega), if_pos (by omega), if_pos (by omega), if_pos (by omega), if_pos (by omega), if_pos (by omega), if_pos (by omega), if_pos (by omega), if_pos (by omega), if_pos (by omega), if_pos (by omega)]
  rfl
theorem markTie_round (k : Nat) (l : List S72) (m : Int) (i : Nat) (hi : i < l.length) (hm0 : 0 ≤ m) (hm1 : m ≤ 4000) (hl : l.length ≤ 1000000) :
    laws_markTieS.l0 (k + 1) l m i = laws_markTieS.l0 k (l.set i (mkTie m)) (m + 5) ((i + 1 : Nat) : Int) := by
  have hw := w64 ((i : Int) + 1) (by omega) (by omega)
  have e : ∀ c : Int, 0 ≤ c → c ≤ 100 → wrap64 (m + c) = m + c := fun c c0 c1 => wadd m c hm0 (by omega) c0 c1
  simp only [laws_markTieS.l0, e 1 (by decide) (by decide), Int.add_assoc, Int.reduceAdd, e 2 (by decide) (by decide), e 3 (by decide) (by decide), e 4 (by decide) (by decide), e 5 (by decide) (by decide), hw, Option.bind_some, Int.toNat_natCast,
    rd72_set l i _ hi, List.set_set]
  rw [if_pos (by omega), if_pos (by omega), if_pos (by omega), if_pos (by omega), if_pos (by omega), if_pos (by omega)]
  rfl
/-- Marking buses from an index on. -/
theorem mark_loop : ∀ (d : Nat) (l : List S69) (m : Int) (i : Nat), i + d = l.length → 0 ≤ m → m + 8 * (d : Int) ≤ 4000 → l.length ≤ 1000000 →
    ∃ y : List S69, Ev (fun k => laws_markBusS.l0 k l m i) (m + 8 * d, y) ∧ y.length = l.length ∧ (∀ j : Nat, j < i → rd_T69 y j = rd_T69 l j) ∧ ∀ j : Nat, i ≤ j → j < l.length → rd_T69 y j = mkBus (m + 8 * ((j : Int) - i))
  | 0, l, m, i, h, hm0, hm1, hl => by
    refine ⟨l, Ev.step (f := fun _ => some (m + 8 * ((0 : Nat) : Int), l)) (fun k => ?_) (Ev.now _), rfl, fun j _ => rfl, fun j h1 h2 => by omega⟩
    simp only [laws_markBusS.l0]
    rw [if_neg (by omega)]
    simp
  | d + 1, l, m, i, h, hm0, hm1, hl => by
    obtain ⟨y, hy, hn, hb, ha⟩ := mark_loop d (l.set i (mkBus m)) (m + 8) (i + 1) (by rw [List.length_set]; omega) (by omega) (by omega) (by rw [List.length_set]; exact hl)
    rw [List.length_set] at hn ha
    refine ⟨y, Ev.step (fun k => mark_round k l m i (by omega) hm0 (by omega) hl) ?_, hn, fun j hj => ?_, fun j h1 h2 => ?_⟩
    · have e : m + 8 + 8 * (d : Int) = m + 8 * ((d + 1 : Nat) : Int) := by omega
      rw [← e]
      exact hy
    · rw [hb j (by omega), rd69_far _ _ _ _ (by omega)]
    · by_cases e : j = i
      · subst e
        rw [hb j (by omega), rd69_set _ _ _ h2]
        congr 1
        omega
      · rw [ha j (by omega) h2]
        congr 1
        omega
theorem markTie_loop : ∀ (d : Nat) (l : List S72) (m : Int) (i : Nat), i + d = l.length → 0 ≤ m → m + 5 * (d : Int) ≤ 4000 → l.length ≤ 1000000 →
    ∃ y : List S72, Ev (fun k => laws_markTieS.l0 k l m i) (m + 5 * d, y) ∧ y.length = l.length ∧ (∀ j : Nat, j < i → rd_T72 y j = rd_T72 l j) ∧ ∀ j : Nat, i ≤ j → j < l.length → rd_T72 y j = mkTie (m + 5 * ((j : Int) - i))
  | 0, l, m, i, h, hm0, hm1, hl => by
    refine ⟨l, Ev.step (f := fun _ => some (m + 5 * ((0 : Nat) : Int), l)) (fun k => ?_) (Ev.now _), rfl, fun j _ => rfl, fun j h1 h2 => by omega⟩
    simp only [laws_markTieS.l0]
    rw [if_neg (by omega)]
    simp
  | d + 1, l, m, i, h, hm0, hm1, hl => by
    obtain ⟨y, hy, hn, hb, ha⟩ := markTie_loop d (l.set i (mkTie m)) (m + 5) (i + 1) (by rw [List.length_set]; omega) (by omega) (by omega) (by rw [List.length_set]; exact hl)
    rw [List.length_set] at hn ha
    refine ⟨y, Ev.step (fun k => markTie_round k l m i (by omega) hm0 (by omega) hl) ?_, hn, fun j hj => ?_, fun j h1 h2 => ?_⟩
    · have e : m + 5 + 5 * (d : Int) = m + 5 * ((d + 1 : Nat) : Int) := by omega
      rw [← e]
      exact hy
    · rw [hb j (by omega), rd72_far _ _ _ _ (by omega)]
    · by_cases e : j = i
      · subst e
        rw [hb j (by omega), rd72_set _ _ _ h2]
        congr 1
        omega
      · rw [ha j (by omega) h2]
        congr 1
        omega

theorem mk_eq (n : Int) (h0 : 0 ≤ n) (h1 : n ≤ 4096) : ((FloatKind.f32.format.order (mk n).re (mk32 n) == some .eq) && (FloatKind.f32.format.order (mk n).im 1065353216 == some .eq)) = true := by
  unfold mk
  rw [(mark_ok n h0 h1).2, one_eq]
  rfl
theorem held_round (k : Nat) (l : List S69) (m : Int) (i : Nat) (hi : i < l.length) (hm0 : 0 ≤ m) (hm1 : m ≤ 4000) (hl : l.length ≤ 1000000) (h : rd_T69 l i = mkBus m) :
    laws_heldBusS.l0 (k + 1) l m i = laws_heldBusS.l0 k l (m + 8) ((i + 1 : Nat) : Int) := by
  have hw := w64 ((i : Int) + 1) (by omega) (by omega)
  have e : ∀ c : Int, 0 ≤ c → c ≤ 100 → wrap64 (m + c) = m + c := fun c c0 c1 => wadd m c hm0 (by omega) c0 c1
  simp only [laws_heldBusS.l0, h, e 1 (by decide) (by decide), Int.add_assoc, Int.reduceAdd, e 2 (by decide) (by decide), e 3 (by decide) (by decide), e 4 (by decide) (by decide), e 5 (by decide) (by decide), e 6 (by decide) (by decide), e 7 (by decide) (by decide), e 8 (by decide) (by decide), hw, mkBus,
    mk_eq (m + 1) (by omega) (by omega), mk_eq (m + 2) (by omega) (by omega), mk_eq (m + 4) (by omega) (by omega), mk_eq (m + 5) (by omega) (by omega), mk_eq (m + 6) (by omega) (by omega), if_true]
  rw [if_pos (by omega), if_pos (by omega), if_pos (by omega), if_pos (by omega), if_pos (by omega), if_pos (by omega), if_pos (by omega), if_pos (by omega), if_pos (by omega), if_pos (by omega), if_pos (by omega), if_pos (by omega)]
  rfl
theorem heldTie_round (k : Nat) (l : List S72) (m : Int) (i : Nat) (hi : i < l.length) (hm0 : 0 ≤ m) (hm1 : m ≤ 4000) (hl : l.length ≤ 1000000) (h : rd_T72 l i = mkTie m) :
    laws_heldTieS.l0 (k + 1) l m i = laws_heldTieS.l0 k l (m + 5) ((i + 1 : Nat) : Int) := by
  have hw := w64 ((i : Int) + 1) (by omega) (by omega)
  have e : ∀ c : Int, 0 ≤ c → c ≤ 100 → wrap64 (m + c) = m + c := fun c c0 c1 => wadd m c hm0 (by omega) c0 c1
  simp only [laws_heldTieS.l0, h, e 1 (by decide) (by decide), Int.add_assoc, Int.reduceAdd, e 2 (by decide) (by decide), e 3 (by decide) (by decide), e 4 (by decide) (by decide), e 5 (by decide) (by decide), hw, mkTie,
    mk_eq (m + 2) (by omega) (by omega), mk_eq (m + 3) (by omega) (by omega), if_true]
  rw [if_pos (by omega), if_pos (by omega), if_pos (by omega), if_pos (by omega), if_pos (by omega), if_pos (by omega)]
  rfl
theorem held_loop (l : List S69) (a : Int) (hl : l.length ≤ 1000000) (h : ∀ j : Nat, j < l.length → rd_T69 l j = mkBus (a + 8 * (j : Int))) : ∀ (d : Nat) (i : Nat), i + d = l.length → 0 ≤ a → a + 8 * (l.length : Int) ≤ 4000 →
    Ev (fun k => laws_heldBusS.l0 k l (a + 8 * i) i) (a + 8 * l.length)
  | 0, i, hd, h0, h1 => by
    refine Ev.step (f := fun _ => some (a + 8 * (l.length : Int))) (fun k => ?_) (Ev.now _)
    simp only [laws_heldBusS.l0]
    rw [if_neg (by omega)]
    congr 1
    omega
  | d + 1, i, hd, h0, h1 => by
    have ih := held_loop l a hl h d (i + 1) (by omega) h0 h1
    refine Ev.step (fun k => held_round k l (a + 8 * i) i (by omega) (by omega) (by omega) hl (h i (by omega))) ?_
    have e : a + 8 * (i : Int) + 8 = a + 8 * ((i + 1 : Nat) : Int) := by omega
    rw [e]
    exact ih
theorem heldTie_loop (l : List S72) (a : Int) (hl : l.length ≤ 1000000) (h : ∀ j : Nat, j < l.length → rd_T72 l j = mkTie (a + 5 * (j : Int))) : ∀ (d : Nat) (i : Nat), i + d = l.length → 0 ≤ a → a + 5 * (l.length : Int) ≤ 4000 →
    Ev (fun k => laws_heldTieS.l0 k l (a + 5 * i) i) (a + 5 * l.length)
  | 0, i, hd, h0, h1 => by
    refine Ev.step (f := fun _ => some (a + 5 * (l.length : Int))) (fun k => ?_) (Ev.now _)
    simp only [laws_heldTieS.l0]
    rw [if_neg (by omega)]
    congr 1
    omega
  | d + 1, i, hd, h0, h1 => by
    have ih := heldTie_loop l a hl h d (i + 1) (by omega) h0 h1
    refine Ev.step (fun k => heldTie_round k l (a + 5 * i) i (by omega) (by omega) (by omega) hl (h i (by omega))) ?_
    have e : a + 5 * (i : Int) + 5 = a + 5 * ((i + 1 : Nat) : Int) := by omega
    rw [e]
    exact ih

/-- A grid that is marked holds its marks. -/
theorem marks (p1 p2 p3 : Cx) (B : List S69) (T : List S72) (m : Int) (h0 : 0 ≤ m) (hB : B.length ≤ 16) (hT : T.length ≤ 6) (h1 : m ≤ 2000) :
    ∃ (B' : List S69) (T' : List S72), Ev (fun k => laws_markGrid.f k p1 p2 p3 B T m) (m + 8 * B.length + 5 * T.length, B', T') ∧ Ev (fun k => laws_heldGrid.f k p1 p2 p3 B' T' m) (m + 8 * B.length + 5 * T.length) := by
  obtain ⟨B', hb, nb, _, mb⟩ := mark_loop B.length B m 0 (by omega) h0 (by omega) (by omega)
  obtain ⟨T', ht, nt, _, mt⟩ := markTie_loop T.length T (m + 8 * B.length) 0 (by omega) (by omega) (by omega) (by omega)
  have gb := held_loop B' m (by omega) (fun j hj => by rw [mb j (by omega) (by omega)]; congr 1; first | done | omega) B'.length 0 (by omega) h0 (by omega)
  have gt := heldTie_loop T' (m + 8 * B.length) (by omega) (fun j hj => by rw [mt j (by omega) (by omega)]; congr 1; first | done | omega) T'.length 0 (by omega) (by omega) (by omega)
  rw [nb] at gb
  rw [nt] at gt
  have z8 : m + 8 * ((0 : Nat) : Int) = m := by omega
  have z5 : m + 8 * (B.length : Int) + 5 * ((0 : Nat) : Int) = m + 8 * B.length := by omega
  rw [z8] at gb
  rw [z5] at gt
  refine ⟨B', T', ?_, ?_⟩
  · unfold laws_markGrid.f laws_markFeeder.f laws_markBusS.f laws_markTieS.f
    exact Ev.bind (a := (m + 8 * (B.length : Int), B')) (Ev.bind hb (Ev.now _)) (Ev.bind ht (Ev.now _))
  · unfold laws_heldGrid.f laws_heldFeeder.f laws_heldBusS.f laws_heldTieS.f
    refine Ev.bind (a := m + 8 * (B.length : Int)) (Ev.bind gb (Ev.congr (fun k => ?_) (Ev.now _))) ?_
    · rw [if_neg (by omega)]
    · refine Ev.congr (fun k => ?_) (Ev.bind gt (f := fun _ t => if t < 0 then some (-1) else some t) (Ev.congr (fun k => ?_) (Ev.now _)))
      · rw [if_neg (by omega)]
        rfl
      · rw [if_neg (by omega)]
end Go.Proofs.Ytkkokkmhldceiaa.Pure
