/- A grid that is being read: the result's cell at w.heap.size, the grid itself in a box at gO, its rows its own. -/
import Derived.Test.YtkkokkmhldceiaaAHHead
namespace Go.Proofs.Ytkkokkmhldceiaa.M
open Go.RowKit Go.Proofs.YtkkokkmhldceiaaW.PrintWords Go.Proofs.YtkkokkmhldceiaaW.PrintLast Go.Proofs.YtkkokkmhldceiaaW.PrintMore
set_option linter.unusedVariables false
set_option linter.unusedSimpArgs false

theorem info69 : (Try.prog.info? 69).map (fun i => (i.zero, i.size, i.bytes)) = some (some (.agg #[.int .i64 0, .complex .f32 0 0, .complex .f32 0 0, .int .i64 0, .complex .f32 0 0, .complex .f32 0 0, .complex .f32 0 0, .int .i64 0]), 8, 64) := by kernel_rfl
theorem info72 : (Try.prog.info? 72).map (fun i => (i.zero, i.size, i.bytes)) = some (some (.agg #[.int .i64 0, .int .i64 0, .complex .f32 0 0, .complex .f32 0 0, .int .i64 0]), 5, 40) := by kernel_rfl

theorem pos69 : 0 < k69.sz := by decide
theorem pos72 : 0 < k72.sz := by decide
structure GB (w W : World) (gO : Nat) (c1 c2 c3 : Cx) (v3 v4 : Value) (l4 : List S69) (l5 : List S72) : Prop where
  res : W.heap[w.heap.size]? = some (.cells #[.complex .f32 0 0, .complex .f32 0 0, .complex .f32 0 0, .slice none 0 0, .slice none 0 0] 30 (0, 0))
  out : W.heap[gO]? = some (.cells #[.complex .f32 c1.re c1.im, .complex .f32 c2.re c2.im, .complex .f32 c3.re c3.im, v3, v4] 30 (0, 0))
  lt : w.heap.size < gO
  row4 : Kd.R k69 69 W w.heap.size (fun _ => True) v3 l4
  row5 : Kd.R k72 72 W w.heap.size (fun _ => True) v4 l5
  below : Below w.heap.size w W

section
variable {w W W' : World} {gO : Nat} {c1 c2 c3 : Cx} {v3 v4 : Value} {l4 : List S69} {l5 : List S72}
theorem only69 {t : Nat} (h : t ≠ 69) : ∀ q, q ∈ 69 :: k69.E → q ≠ t := fun q hq => by
  have hq2 : q ∈ [69] := hq
  simp at hq2
  omega
theorem only72 {t : Nat} (h : t ≠ 72) : ∀ q, q ∈ 72 :: k72.E → q ≠ t := fun q hq => by
  have hq2 : q ∈ [72] := hq
  simp at hq2
  omega
theorem GB.keep (h : GB w W gO c1 c2 c3 v3 v4 l4 l5) {gE t : Nat} {cs : Array Value} (hE : W.heap[gE]? = some (.cells cs t (0, 0))) (h3 : t ≠ 30) (h4 : t ≠ 69) (h5 : t ≠ 72) (hk : KeepBut W W' gE none) (hb : Below w.heap.size w W') : GB w W' gO c1 c2 c3 v3 v4 l4 l5 :=
  ⟨hk.blk h.res (blk_ne h.res hE (fun e => h3 e.symm)) (by simp), hk.blk h.out (blk_ne h.out hE (fun e => h3 e.symm)) (by simp), h.lt,
   Kd.R_drop (Kd.R_keep (Kd.R_types h.row4 hE (only69 h4)) hk (fun k hk => hk.2)), Kd.R_drop (Kd.R_keep (Kd.R_types h.row5 hE (only72 h5)) hk (fun k hk => hk.2)), hb⟩
theorem GB.step (h : GB w W gO c1 c2 c3 v3 v4 l4 l5) (hb : Below W.heap.size W W') : GB w W' gO c1 c2 c3 v3 v4 l4 l5 :=
  ⟨blk_below h.res hb, blk_below h.out hb, h.lt, Kd.R_below h.row4 hb, Kd.R_below h.row5 hb, below_then h.below h.below.size hb⟩
theorem GB.alloc (h : GB w W gO c1 c2 c3 v3 v4 l4 l5) (o : Obj) : GB w (W.alloc o) gO c1 c2 c3 v3 v4 l4 l5 := h.step (below_alloc (Below.refl _ _) o)
theorem GB.drew (h : GB w W gO c1 c2 c3 v3 v4 l4 l5) : GB w W.drew gO c1 c2 c3 v3 v4 l4 l5 := h.step (below_drew1 (Below.refl _ _))
theorem GB.ne4 (h : GB w W gO c1 c2 c3 v3 v4 l4 l5) {g t : Nat} {cs : Array Value} (hE : W.heap[g]? = some (.cells cs t (0, 0))) (ht : 69 ≠ t) : some g ≠ v3.ownBlock := Kd.R_ne h.row4 hE ht
theorem GB.ne5 (h : GB w W gO c1 c2 c3 v3 v4 l4 l5) {g t : Nat} {cs : Array Value} (hE : W.heap[g]? = some (.cells cs t (0, 0))) (ht : 72 ≠ t) : some g ≠ v4.ownBlock := Kd.R_ne h.row5 hE ht
theorem GB.grow4 (h : GB w W gO c1 c2 c3 v3 v4 l4 l5) {w1 : World} {v1 : Value} {x : S69} (hR : Kd.R k69 69 w1 w.heap.size (fun _ => True) v1 (l4 ++ [x])) (hb : Below w.heap.size w w1) (hg : W.grownBy w1 v3.ownBlock) :
    GB w (w1.setCell ⟨gO, 3, none⟩ v1) gO c1 c2 c3 v1 v4 (l4 ++ [x]) l5 := by
  have ho := blk_grown h.out hg (h.ne4 h.out (by decide))
  have hr := blk_grown h.res hg (h.ne4 h.res (by decide))
  exact ⟨blk_far hr (p := ⟨gO, 3, none⟩) (Nat.ne_of_lt h.lt) v1, blk_put ho 3 v1 rfl, h.lt, Kd.R_set hR ho (only69 (by decide)) 3 v1, Kd.R_set (Kd.R_over h.row5 h.row4 (only72 (by decide)) hg) ho (only72 (by decide)) 3 v1, below_set hb (Nat.le_of_lt h.lt)⟩
theorem GB.grow5 (h : GB w W gO c1 c2 c3 v3 v4 l4 l5) {w1 : World} {v1 : Value} {x : S72} (hR : Kd.R k72 72 w1 w.heap.size (fun _ => True) v1 (l5 ++ [x])) (hb : Below w.heap.size w w1) (hg : W.grownBy w1 v4.ownBlock) :
    GB w (w1.setCell ⟨gO, 4, none⟩ v1) gO c1 c2 c3 v3 v1 l4 (l5 ++ [x]) := by
  have ho := blk_grown h.out hg (h.ne5 h.out (by decide))
  have hr := blk_grown h.res hg (h.ne5 h.res (by decide))
  exact ⟨blk_far hr (p := ⟨gO, 4, none⟩) (Nat.ne_of_lt h.lt) v1, blk_put ho 4 v1 rfl, h.lt, Kd.R_set (Kd.R_over h.row4 h.row5 (only69 (by decide)) hg) ho (only69 (by decide)) 4 v1, Kd.R_set hR ho (only72 (by decide)) 4 v1, below_set hb (Nat.le_of_lt h.lt)⟩
theorem GB.set_ (h : GB w W gO c1 c2 c3 v3 v4 l4 l5) (j : Nat) (u : Value) {d1 d2 d3 : Cx} (e : (#[Value.complex .f32 c1.re c1.im, .complex .f32 c2.re c2.im, .complex .f32 c3.re c3.im, v3, v4] : Array Value).setIfInBounds j u = #[.complex .f32 d1.re d1.im, .complex .f32 d2.re d2.im, .complex .f32 d3.re d3.im, v3, v4]) :
    GB w (W.setCell ⟨gO, j, none⟩ u) gO d1 d2 d3 v3 v4 l4 l5 :=
  ⟨blk_far h.res (p := ⟨gO, j, none⟩) (Nat.ne_of_lt h.lt) u, blk_put h.out j u e, h.lt, Kd.R_set h.row4 h.out (only69 (by decide)) j u, Kd.R_set h.row5 h.out (only72 (by decide)) j u, below_set h.below (Nat.le_of_lt h.lt)⟩
theorem GB.src (h : GB w W gO c1 c2 c3 v3 v4 l4 l5) (d1 d2 d3 : Cx) : GB w (((W.setCell ⟨gO, 0, none⟩ (.complex .f32 d1.re d1.im)).setCell ⟨gO, 1, none⟩ (.complex .f32 d2.re d2.im)).setCell ⟨gO, 2, none⟩ (.complex .f32 d3.re d3.im)) gO d1 d2 d3 v3 v4 l4 l5 :=
  ((h.set_ 0 _ (d1 := d1) (d2 := c2) (d3 := c3) rfl).set_ 1 _ (d1 := d1) (d2 := d2) (d3 := c3) rfl).set_ 2 _ rfl
theorem GB.e3 (h : GB w W gO c1 c2 c3 v3 v4 l4 l5) : W.cell? ⟨gO, 3, none⟩ = some v3 := (blk_cell h.out 3).trans rfl
theorem GB.e4 (h : GB w W gO c1 c2 c3 v3 v4 l4 l5) : W.cell? ⟨gO, 4, none⟩ = some v4 := (blk_cell h.out 4).trans rfl
theorem GB.fz (h : GB w W gO c1 c2 c3 v3 v4 l4 l5) (j : Nat) : W.frozen? ⟨gO, j, none⟩ = false := blk_frozen h.out j
end
/-- The grid's value put into the result's cell. -/
theorem GB.five {w W : World} {gO : Nat} {c1 c2 c3 : Cx} {v3 v4 : Value} {l4 : List S69} {l5 : List S72} (h : GB w W gO c1 c2 c3 v3 v4 l4 l5) (a b c d e : Value) {W' : World}
    (hW : ((((W.setCell ⟨w.heap.size, 0, none⟩ a).setCell ⟨w.heap.size, 1, none⟩ b).setCell ⟨w.heap.size, 2, none⟩ c).setCell ⟨w.heap.size, 3, none⟩ d).setCell ⟨w.heap.size, 4, none⟩ e = W') :
    W'.heap[w.heap.size]? = some (.cells #[a, b, c, d, e] 30 (0, 0)) ∧ Kd.R k69 69 W' w.heap.size (fun _ => True) v3 l4 ∧ Kd.R k72 72 W' w.heap.size (fun _ => True) v4 l5 ∧ Below w.heap.size w W' := by
  subst hW
  have h0 := blk_put h.res 0 a rfl
  have h1 := blk_put h0 1 b rfl
  have h2 := blk_put h1 2 c rfl
  have h3 := blk_put h2 3 d rfl
  have h4 := blk_put h3 4 e rfl
  have o9 : ∀ q, q ∈ 69 :: k69.E → q ≠ 30 := only69 (by decide)
  have o2 : ∀ q, q ∈ 72 :: k72.E → q ≠ 30 := only72 (by decide)
  have b0 : w.heap.size ≤ w.heap.size := Nat.le_refl _
  exact ⟨h4, Kd.R_set (Kd.R_set (Kd.R_set (Kd.R_set (Kd.R_set h.row4 h.res o9 0 a) h0 o9 1 b) h1 o9 2 c) h2 o9 3 d) h3 o9 4 e,
    Kd.R_set (Kd.R_set (Kd.R_set (Kd.R_set (Kd.R_set h.row5 h.res o2 0 a) h0 o2 1 b) h1 o2 2 c) h2 o2 3 d) h3 o2 4 e,
    below_set (below_set (below_set (below_set (below_set h.below b0) b0) b0) b0) b0⟩
theorem GB.r0 {w W : World} {gO : Nat} {c1 c2 c3 : Cx} {v3 v4 : Value} {l4 : List S69} {l5 : List S72} (h : GB w W gO c1 c2 c3 v3 v4 l4 l5) :
    W.cell? ⟨w.heap.size, 0, none⟩ = some (.complex .f32 0 0) ∧ W.cell? ⟨w.heap.size, 1, none⟩ = some (.complex .f32 0 0) ∧ W.cell? ⟨w.heap.size, 2, none⟩ = some (.complex .f32 0 0) ∧ W.cell? ⟨w.heap.size, 3, none⟩ = some (.slice none 0 0) ∧ W.cell? ⟨w.heap.size, 4, none⟩ = some (.slice none 0 0) :=
  ⟨(blk_cell h.res 0).trans rfl, (blk_cell h.res 1).trans rfl, (blk_cell h.res 2).trans rfl, (blk_cell h.res 3).trans rfl, (blk_cell h.res 4).trans rfl⟩
theorem GB.rz {w W : World} {gO : Nat} {c1 c2 c3 : Cx} {v3 v4 : Value} {l4 : List S69} {l5 : List S72} (h : GB w W gO c1 c2 c3 v3 v4 l4 l5) :
    W.frozen? ⟨w.heap.size, 0, none⟩ = false ∧ W.frozen? ⟨w.heap.size, 1, none⟩ = false ∧ W.frozen? ⟨w.heap.size, 2, none⟩ = false ∧ W.frozen? ⟨w.heap.size, 3, none⟩ = false ∧ W.frozen? ⟨w.heap.size, 4, none⟩ = false :=
  ⟨blk_frozen h.res 0, blk_frozen h.res 1, blk_frozen h.res 2, blk_frozen h.res 3, blk_frozen h.res 4⟩
theorem GB.o5 {w W : World} {gO : Nat} {c1 c2 c3 : Cx} {v3 v4 : Value} {l4 : List S69} {l5 : List S72} (h : GB w W gO c1 c2 c3 v3 v4 l4 l5) :
    W.cell? ⟨gO, 0, none⟩ = some (.complex .f32 c1.re c1.im) ∧ W.cell? ⟨gO, 1, none⟩ = some (.complex .f32 c2.re c2.im) ∧ W.cell? ⟨gO, 2, none⟩ = some (.complex .f32 c3.re c3.im) ∧ W.cell? ⟨gO, 3, none⟩ = some v3 ∧ W.cell? ⟨gO, 4, none⟩ = some v4 :=
  ⟨(blk_cell h.out 0).trans rfl, (blk_cell h.out 1).trans rfl, (blk_cell h.out 2).trans rfl, (blk_cell h.out 3).trans rfl, (blk_cell h.out 4).trans rfl⟩
theorem GB.grid {w W : World} {gO : Nat} {c1 c2 c3 : Cx} {A4 A5 : Option Addr} {k4 k5 : Nat} {l4 : List S69} {l5 : List S72} (h : GB w W gO c1 c2 c3 (.slice A4 l4.length k4) (.slice A5 l5.length k5) l4 l5) : GridAt W gO c1 c2 c3 A4 k4 l4 A5 k5 l5 := by
  obtain ⟨a, b, c, d, e⟩ := h.o5
  exact ⟨a, b, c, d, e⟩
theorem far5 {W : World} {g h j : Nat} (hne : g ≠ h) (a b c d e : Value) : (((((W.setCell ⟨h, 0, none⟩ a).setCell ⟨h, 1, none⟩ b).setCell ⟨h, 2, none⟩ c).setCell ⟨h, 3, none⟩ d).setCell ⟨h, 4, none⟩ e).cell? ⟨g, j, none⟩ = W.cell? ⟨g, j, none⟩ := by
  have one : ∀ (V : World) (i : Nat) (u : Value), (V.setCell ⟨h, i, none⟩ u).cell? ⟨g, j, none⟩ = V.cell? ⟨g, j, none⟩ := fun V i u => World.cell?_setCell_far V ⟨h, i, none⟩ ⟨g, j, none⟩ u (Ne.symm hne)
  rw [one, one, one, one, one]
theorem below_of_drawn0 {w w' : World} (h : Drawn0 w w') : Below w.heap.size w w' := by
  obtain ⟨n, rfl⟩ := h
  exact pw_below_drewN (Below.refl _ _) n
/-- What a right grid's numbers are. -/
theorem gridB_bounds {l4 : List S69} {l5 : List S72} (h : gridB l4 l5 = true) : l4.length ≤ 16 ∧ l5.length ≤ 6 ∧
    (∀ i : Nat, i < l4.length → -1 ≤ (rd_T69 l4 i).f0 ∧ (rd_T69 l4 i).f0 ≤ 1000 ∧ in64 (rd_T69 l4 i).f3 ∧ in64 (rd_T69 l4 i).f5) ∧
    (∀ i : Nat, i < l5.length → in64 (rd_T72 l5 i).f0 ∧ in64 (rd_T72 l5 i).f1 ∧ in64 (rd_T72 l5 i).f4) := by
  unfold gridB feederB busesB tiesB at h
  simp only [Bool.and_eq_true, decide_eq_true_eq, List.all_eq_true, List.mem_range] at h
  obtain ⟨⟨h1, h2, h3⟩, h4, h5⟩ := h
  refine ⟨h2, h4, fun i hi => ?_, fun i hi => ?_⟩
  · have hb := h3 i hi
    unfold busB inB at hb
    unfold in64
    simp only [Bool.and_eq_true, decide_eq_true_eq] at hb
    obtain ⟨b1, b2, b3⟩ := hb
    split at b3
    · simp only [Bool.and_eq_true, beq_iff_eq] at b3
      omega
    · simp only [Bool.and_eq_true, decide_eq_true_eq] at b3
      omega
  · have hb := h5 i hi
    unfold tieB inB at hb
    unfold in64
    simp only [Bool.and_eq_true, decide_eq_true_eq] at hb
    omega
theorem R_none69 (W : World) (b g : Nat) (ok : Nat → Prop) (h : W.heap[g]? = some (.cells #[] 69 (0, 0))) (hb : b ≤ g) (hok : ok g) : Kd.R k69 69 W b ok (.slice (some ⟨g, 0, none⟩) 0 0) [] :=
  ⟨fun k hk => by simp [Value.ownBlock] at hk; subst hk; exact hok, [], ⟨by simp, .inr ⟨g, 0, #[], rfl, hb, h, by simp, by simp, by simp, by simp⟩⟩, by constructor <;> simp⟩
theorem R_none72 (W : World) (b g : Nat) (ok : Nat → Prop) (h : W.heap[g]? = some (.cells #[] 72 (0, 0))) (hb : b ≤ g) (hok : ok g) : Kd.R k72 72 W b ok (.slice (some ⟨g, 0, none⟩) 0 0) [] :=
  ⟨fun k hk => by simp [Value.ownBlock] at hk; subst hk; exact hok, [], ⟨by simp, .inr ⟨g, 0, #[], rfl, hb, h, by simp, by simp, by simp, by simp⟩⟩, by constructor <;> simp⟩
end Go.Proofs.Ytkkokkmhldceiaa.M
