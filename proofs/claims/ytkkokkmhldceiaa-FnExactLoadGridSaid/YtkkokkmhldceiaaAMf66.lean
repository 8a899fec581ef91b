/- Written by a program of this session (wip/patch_print.py over the kit's printer). -/
import Derived.Test.YtkkokkmhldceiaaAM0
import Derived.Test.YtkkokkmhldceiaaAJMf89
import Derived.Test.YtkkokkmhldceiaaAJMf85
namespace Go.Proofs.Ytkkokkmhldceiaa.M
open Go.RowKit Go.Proofs.YtkkokkmhldceiaaW.PrintWords Go.Proofs.YtkkokkmhldceiaaW.PrintLast Go.Proofs.YtkkokkmhldceiaaW.PrintMore
attribute [local go_sem] max2_int min2_int max_two min_two max_three min_three max_four min_four   -- for this text's walks alone
set_option linter.unusedVariables false
set_option linter.unusedSimpArgs false

/-! ### impl_ValidFeeder: function 66 -/
mutual
def impl_ValidFeeder.l0 : Nat → List (S69) → Int → Int → Cx → Cx → Cx → List (S69) → Option (Bool)
  | 0, _, _, _, _, _, _, _ => none
  | k + 1, x6, x7, x8, x288000, x288001, x288002, x288003 => if x8 < x7 then (if 0 ≤ x8 then (if x8 < (x6.length : Int) then ((impl_kindOk.f ((rd_T69 x6 x8).f3)).bind fun t291 => (if t291 = true then ((impl_in.f ((rd_T69 x6 x8).f5) 0 1000000).bind fun t292 => (impl_ValidFeeder.j1 k x8 x6 x7 x8 (!t292) x288000 x288001 x288002 x288003 ((rd_T69 x6 x8).f0) ((rd_T69 x6 x8).f1) ((rd_T69 x6 x8).f2) ((rd_T69 x6 x8).f3) ((rd_T69 x6 x8).f4.f0) ((rd_T69 x6 x8).f4.f1) ((rd_T69 x6 x8).f4.f2) ((rd_T69 x6 x8).f5))) else (impl_ValidFeeder.j1 k x8 x6 x7 x8 true x288000 x288001 x288002 x288003 ((rd_T69 x6 x8).f0) ((rd_T69 x6 x8).f1) ((rd_T69 x6 x8).f2) ((rd_T69 x6 x8).f3) ((rd_T69 x6 x8).f4.f0) ((rd_T69 x6 x8).f4.f1) ((rd_T69 x6 x8).f4.f2) ((rd_T69 x6 x8).f5)))) else (none)) else (none)) else ((impl_in.f (x288003.length : Int) 1 16).bind fun t288 => (some t288))
def impl_ValidFeeder.j1 : Nat → Int → List (S69) → Int → Int → Bool → Cx → Cx → Cx → List (S69) → Int → Cx → Cx → Int → Cx → Cx → Cx → Int → Option (Bool)
  | 0, _, _, _, _, _, _, _, _, _, _, _, _, _, _, _, _, _ => none
  | k + 1, x3, x6, x7, x8, x13, x288000, x288001, x288002, x288003, x291000, x291001, x291002, x291003, x291004, x291005, x291006, x291007 => if x13 = true then (some false) else (if x3 = 0 then (if x291000 = (-1) then (if (((FloatKind.f32.format.order x291001.re 0 == some .eq) && (FloatKind.f32.format.order x291001.im 0 == some .eq)) = true) then (impl_ValidFeeder.j2 k x3 x6 x7 x8 (!((FloatKind.f32.format.order x291002.re 0 == some .eq) && (FloatKind.f32.format.order x291002.im 0 == some .eq))) x288000 x288001 x288002 x288003 x291000 x291001 x291002 x291003 x291004 x291005 x291006 x291007) else (impl_ValidFeeder.j2 k x3 x6 x7 x8 true x288000 x288001 x288002 x288003 x291000 x291001 x291002 x291003 x291004 x291005 x291006 x291007)) else (impl_ValidFeeder.j2 k x3 x6 x7 x8 true x288000 x288001 x288002 x288003 x291000 x291001 x291002 x291003 x291004 x291005 x291006 x291007)) else (impl_ValidFeeder.j2 k x3 x6 x7 x8 false x288000 x288001 x288002 x288003 x291000 x291001 x291002 x291003 x291004 x291005 x291006 x291007))
def impl_ValidFeeder.j2 : Nat → Int → List (S69) → Int → Int → Bool → Cx → Cx → Cx → List (S69) → Int → Cx → Cx → Int → Cx → Cx → Cx → Int → Option (Bool)
  | 0, _, _, _, _, _, _, _, _, _, _, _, _, _, _, _, _, _ => none
  | k + 1, x3, x6, x7, x8, x24, x288000, x288001, x288002, x288003, x291000, x291001, x291002, x291003, x291004, x291005, x291006, x291007 => if x24 = true then (some false) else (if x3 > 0 then ((impl_in.f x291000 0 (wrap64 (x3 - 1))).bind fun t293 => (if t293 = true then (impl_ValidFeeder.l0 k x6 x7 (wrap64 (x8 + 1)) x288000 x288001 x288002 x288003) else (some false))) else (impl_ValidFeeder.l0 k x6 x7 (wrap64 (x8 + 1)) x288000 x288001 x288002 x288003))
end
def impl_ValidFeeder.f (k : Nat) (a0_0 : Cx) (a0_1 : Cx) (a0_2 : Cx) (l0_3 : List (S69)) : Option (Bool) := impl_ValidFeeder.l0 k l0_3 (l0_3.length : Int) 0 a0_0 a0_1 a0_2 l0_3
theorem impl_ValidFeeder.mono_l : ∀ k, (∀ y0 y1 y2 y3 y4 y5 y6, LeO (impl_ValidFeeder.l0 k y0 y1 y2 y3 y4 y5 y6) (impl_ValidFeeder.l0 (k + 1) y0 y1 y2 y3 y4 y5 y6)) ∧ (∀ y0 y1 y2 y3 y4 y5 y6 y7 y8 y9 y10 y11 y12 y13 y14 y15 y16, LeO (impl_ValidFeeder.j1 k y0 y1 y2 y3 y4 y5 y6 y7 y8 y9 y10 y11 y12 y13 y14 y15 y16) (impl_ValidFeeder.j1 (k + 1) y0 y1 y2 y3 y4 y5 y6 y7 y8 y9 y10 y11 y12 y13 y14 y15 y16)) ∧ (∀ y0 y1 y2 y3 y4 y5 y6 y7 y8 y9 y10 y11 y12 y13 y14 y15 y16, LeO (impl_ValidFeeder.j2 k y0 y1 y2 y3 y4 y5 y6 y7 y8 y9 y10 y11 y12 y13 y14 y15 y16) (impl_ValidFeeder.j2 (k + 1) y0 y1 y2 y3 y4 y5 y6 y7 y8 y9 y10 y11 y12 y13 y14 y15 y16))
  | 0 => ⟨fun _ _ _ _ _ _ _ r h => by simp [impl_ValidFeeder.l0] at h, fun _ _ _ _ _ _ _ _ _ _ _ _ _ _ _ _ _ r h => by simp [impl_ValidFeeder.j1] at h, fun _ _ _ _ _ _ _ _ _ _ _ _ _ _ _ _ _ r h => by simp [impl_ValidFeeder.j2] at h⟩
  | k + 1 => by
    obtain ⟨ih0, ih1, ih2⟩ := impl_ValidFeeder.mono_l k
    refine ⟨?_, ?_, ?_⟩
    · intro y0 y1 y2 y3 y4 y5 y6
      unfold impl_ValidFeeder.l0
      repeat' first
      | (with_reducible exact ih1 _ _ _ _ _ _ _ _ _ _ _ _ _ _ _ _ _)
      | (with_reducible exact LeO.refl _)
      | (with_reducible refine LeO.ite ?_ ?_)
      | (with_reducible refine LeO.bind ?_ (fun _ => ?_))
    · intro y0 y1 y2 y3 y4 y5 y6 y7 y8 y9 y10 y11 y12 y13 y14 y15 y16
      unfold impl_ValidFeeder.j1
      repeat' first
      | (with_reducible exact ih2 _ _ _ _ _ _ _ _ _ _ _ _ _ _ _ _ _)
      | (with_reducible exact LeO.refl _)
      | (with_reducible refine LeO.ite ?_ ?_)
    · intro y0 y1 y2 y3 y4 y5 y6 y7 y8 y9 y10 y11 y12 y13 y14 y15 y16
      unfold impl_ValidFeeder.j2
      repeat' first
      | (with_reducible exact ih0 _ _ _ _ _ _ _)
      | (with_reducible exact LeO.refl _)
      | (with_reducible refine LeO.ite ?_ ?_)
      | (with_reducible refine LeO.bind ?_ (fun _ => ?_))
theorem impl_ValidFeeder.mono : ∀ a0 a1 a2 a3 k, LeO (impl_ValidFeeder.f k a0 a1 a2 a3) (impl_ValidFeeder.f (k + 1) a0 a1 a2 a3) := by
  intro a0 a1 a2 a3 k
  obtain ⟨ih0, ih1, ih2⟩ := impl_ValidFeeder.mono_l k
  unfold impl_ValidFeeder.f
  repeat' first
      | (with_reducible exact ih0 _ _ _ _ _ _ _)
set_option maxHeartbeats 8000000 in
set_option maxRecDepth 100000 in
theorem impl_ValidFeeder.calls (k : Nat) (a0_0 : Cx) (a0_1 : Cx) (a0_2 : Cx) (A0_3 : Option Addr) (c0_3 : Nat) (l0_3 : List (S69)) (r : Bool) (w : World) (hr0_3 : Kd.C k69 w A0_3 l0_3.length l0_3) (hc0_3 : l0_3.length ≤ c0_3) (h : impl_ValidFeeder.f k a0_0 a0_1 a0_2 l0_3 = some r) :
    Calls Try.prog 66 #[.agg #[.complex .f32 a0_0.re a0_0.im, .complex .f32 a0_1.re a0_1.im, .complex .f32 a0_2.re a0_2.im, .slice A0_3 l0_3.length c0_3]] w fun e w' => e = .returned (.bool r) ∧ Below w.heap.size w w' := by
  have hu27 := Try.underlying27
  have hu69 := Try.underlying69
  have HR0_3 := Aside0.mk hr0_3
  have HC0_3 := Aside0.mk hc0_3
  clear hr0_3 hc0_3
  have HB := Aside0.mk (Below.refl w.heap.size w)
  have H : (impl_ValidFeeder.l0 k l0_3 (l0_3.length : Int) 0 a0_0 a0_1 a0_2 l0_3) = some r := h
  clear h
  have H' := Aside0.mk H
  clear H
  go_enter Try.func66, Try.ntmps66
  go_wp2_with (((with_reducible refine gate_dst (N := 1) rfl ?_); refine box_event ?hg (N := 1) ?hd (cs := #[.complex .f32 a0_0.re a0_0.im, .complex .f32 a0_1.re a0_1.im, .complex .f32 a0_2.re a0_2.im, .slice A0_3 l0_3.length c0_3]) (t := 27) ?hr ?_; (case hd => rfl); (case hg => rfl); (case hr => (go_simp; done)); intro gb287 hg w2 hbox hb; have n0_ := Aside0.mk (below_step (by with_reducible exact HB.out) hb); have n1_ := Aside0.mk (hbox); have n2_ := Aside0.mk ((by rw [hg]; exact (below_size (by with_reducible exact HB.out)) : w.heap.size ≤ gb287)); have n3_ := Aside0.mk ((by rw [hg]; exact (below_size (by with_reducible exact HB.out)) : w.heap.size ≤ gb287)); clear HB; have HB := n0_; have BK287 := n1_; have GW287 := n2_; have GE287 := n3_; clear n0_ n1_ n2_ n3_; clear hb hbox hg; have hcz3_0 : w2.cell? ⟨gb287, 0, none⟩ = some (.complex .f32 a0_0.re a0_0.im) := (blk_cell BK287.out 0).trans rfl; have hcz3_1 : w2.cell? ⟨gb287, 1, none⟩ = some (.complex .f32 a0_1.re a0_1.im) := (blk_cell BK287.out 1).trans rfl; have hcz3_2 : w2.cell? ⟨gb287, 2, none⟩ = some (.complex .f32 a0_2.re a0_2.im) := (blk_cell BK287.out 2).trans rfl; have hcz3_3 : w2.cell? ⟨gb287, 3, none⟩ = some (.slice A0_3 l0_3.length c0_3) := (blk_cell BK287.out 3).trans rfl; have hfz3_0 := blk_frozen BK287.out 0; have hfz3_1 := blk_frozen BK287.out 1; have hfz3_2 := blk_frozen BK287.out 2; have hfz3_3 := blk_frozen BK287.out 3))
  go_loopg [8] k (fun kq v8 w' => ∃ (x8_1 : Int), v8 = .int .i64 x8_1 ∧ Aside0 (impl_ValidFeeder.l0 kq l0_3 (l0_3.length : Int) x8_1 a0_0 a0_1 a0_2 l0_3 = some r) ∧ Aside0 (kq ≤ k) ∧ Aside0 (w'.heap[gb287]? = some (.cells #[.complex .f32 a0_0.re a0_0.im, .complex .f32 a0_1.re a0_1.im, .complex .f32 a0_2.re a0_2.im, (.slice A0_3 l0_3.length c0_3)] 27 (0, 0))) ∧ Aside0 (Below w.heap.size w w'))
  case atStart => exact ⟨(0), (by rfl), H', ⟨Nat.le_refl _⟩, ⟨by exact BK287.out⟩, ⟨by with_reducible exact HB.out⟩⟩
  case round =>
    clear H'
    try clear hcz3_0
    try clear hcz3_1
    try clear hcz3_2
    try clear hcz3_3
    try clear hfz3_0
    try clear hfz3_1
    try clear hfz3_2
    try clear hfz3_3
    obtain ⟨x8_1, rfl, HA, HK1, BK287, HB⟩ := hrel
    cases gk with
    | zero => exact absurd HA.out (by simp [impl_ValidFeeder.l0])
    | succ k1 =>
      have H := HA.out
      clear HA
      simp only [impl_ValidFeeder.l0] at H
      by_cases c4 : x8_1 < (l0_3.length : Int)
      · rw [if_pos c4] at H
        have c4b0 : decide (x8_1 < (l0_3.length : Int)) = true := decide_eq_true c4
        clear c4
        by_cases c5 : 0 ≤ x8_1
        · rw [if_pos c5] at H
          have c5b0 : decide (0 ≤ x8_1) = true := decide_eq_true c5
          clear c5
          by_cases c6 : x8_1 < (l0_3.length : Int)
          · rw [if_pos c6] at H
            have c6b0 : decide (x8_1 < (l0_3.length : Int)) = true := decide_eq_true c6
            clear c6
            have HC7 := Aside0.mk H
            clear H
            have p289 : 0 ≤ (x8_1 : Int) := of_decide_eq_true (by (with_reducible assumption))
            have q289 : x8_1 < (l0_3.length : Int) := of_decide_eq_true (by (with_reducible assumption))
            obtain ⟨ad289, e289, hx289_0, hx289_1, hx289_2, hx289_3, hx289_4, hx289_5, hx289_6, hx289_7⟩ := at_T69 HR0_3.out x8_1 p289 q289
            cases e289
            replace hx289_0 := (HB.out.cell (World.block_lt_of_cell? w _ hx289_0)).trans hx289_0
            replace hx289_1 := (HB.out.cell (World.block_lt_of_cell? w _ hx289_1)).trans hx289_1
            replace hx289_2 := (HB.out.cell (World.block_lt_of_cell? w _ hx289_2)).trans hx289_2
            replace hx289_3 := (HB.out.cell (World.block_lt_of_cell? w _ hx289_3)).trans hx289_3
            replace hx289_4 := (HB.out.cell (World.block_lt_of_cell? w _ hx289_4)).trans hx289_4
            replace hx289_5 := (HB.out.cell (World.block_lt_of_cell? w _ hx289_5)).trans hx289_5
            replace hx289_6 := (HB.out.cell (World.block_lt_of_cell? w _ hx289_6)).trans hx289_6
            replace hx289_7 := (HB.out.cell (World.block_lt_of_cell? w _ hx289_7)).trans hx289_7
            replace p289 := eq_true p289
            replace q289 := eq_true q289
            go_upto_region 4 with (((with_reducible refine gate_dst (N := 4) rfl ?_); refine box_event ?hg (N := 4) ?hd (cs := #[.int .i64 0, .complex .f32 0 0, .complex .f32 0 0, .int .i64 0, .complex .f32 0 0, .complex .f32 0 0, .complex .f32 0 0, .int .i64 0]) (t := 69) ?hr ?_; (case hd => rfl); (case hg => rfl); (case hr => (go_simp; done)); intro gb290 hg w8 hbox hb; have n0_ := Aside0.mk (blk_below (g := gb287) (o := .cells #[.complex .f32 a0_0.re a0_0.im, .complex .f32 a0_1.re a0_1.im, .complex .f32 a0_2.re a0_2.im, .slice (some ad289) l0_3.length c0_3] 27 (0, 0)) (by exact BK287.out) hb); have n1_ := Aside0.mk (below_step (by with_reducible exact HB.out) hb); have n2_ := Aside0.mk (hbox); have n3_ := Aside0.mk ((by rw [hg]; exact (below_size (by with_reducible exact HB.out)) : w.heap.size ≤ gb290)); have n4_ := Aside0.mk ((by rw [hg]; exact (below_size (by with_reducible exact HB.out)) : w.heap.size ≤ gb290)); have n5_ := Aside0.mk ((by rw [hg]; exact Nat.ne_of_lt (blk_lt (g := gb287) (o := .cells #[.complex .f32 a0_0.re a0_0.im, .complex .f32 a0_1.re a0_1.im, .complex .f32 a0_2.re a0_2.im, .slice (some ad289) l0_3.length c0_3] 27 (0, 0)) (by exact BK287.out)) : gb287 ≠ gb290)); have n6_ := Aside0.mk ((by rw [hg]; exact Nat.ne_of_gt (blk_lt (g := gb287) (o := .cells #[.complex .f32 a0_0.re a0_0.im, .complex .f32 a0_1.re a0_1.im, .complex .f32 a0_2.re a0_2.im, .slice (some ad289) l0_3.length c0_3] 27 (0, 0)) (by exact BK287.out)) : gb290 ≠ gb287)); clear BK287; clear HB; have BK287 := n0_; have HB := n1_; have BK290 := n2_; have GW290 := n3_; have GE290 := n4_; have NB287_290 := n5_; have NB290_287 := n6_; clear n0_ n1_ n2_ n3_ n4_ n5_ n6_; clear hb hbox hg; have hnb9 := NB290_287.out; have hnc9 := NB287_290.out; have hcz10_0 : w8.cell? ⟨gb290, 0, none⟩ = some (.int .i64 0) := (blk_cell BK290.out 0).trans rfl; have hcz10_1 : w8.cell? ⟨gb290, 1, none⟩ = some (.complex .f32 0 0) := (blk_cell BK290.out 1).trans rfl; have hcz10_2 : w8.cell? ⟨gb290, 2, none⟩ = some (.complex .f32 0 0) := (blk_cell BK290.out 2).trans rfl; have hcz10_3 : w8.cell? ⟨gb290, 3, none⟩ = some (.int .i64 0) := (blk_cell BK290.out 3).trans rfl; have hcz10_4 : w8.cell? ⟨gb290, 4, none⟩ = some (.complex .f32 0 0) := (blk_cell BK290.out 4).trans rfl; have hcz10_5 : w8.cell? ⟨gb290, 5, none⟩ = some (.complex .f32 0 0) := (blk_cell BK290.out 5).trans rfl; have hcz10_6 : w8.cell? ⟨gb290, 6, none⟩ = some (.complex .f32 0 0) := (blk_cell BK290.out 6).trans rfl; have hcz10_7 : w8.cell? ⟨gb290, 7, none⟩ = some (.int .i64 0) := (blk_cell BK290.out 7).trans rfl; have hfz10_0 := blk_frozen BK290.out 0; have hfz10_1 := blk_frozen BK290.out 1; have hfz10_2 := blk_frozen BK290.out 2; have hfz10_3 := blk_frozen BK290.out 3; have hfz10_4 := blk_frozen BK290.out 4; have hfz10_5 := blk_frozen BK290.out 5; have hfz10_6 := blk_frozen BK290.out 6; have hfz10_7 := blk_frozen BK290.out 7))
            (try simp only [Act.put, List.setIfInBounds_toArray, List.set_cons_zero, List.set_cons_succ])
            go_cut [13] (fun v13 wc => ∃ (kq : Nat) (x13_6 : Bool), v13 = .bool x13_6 ∧ Aside0 (impl_ValidFeeder.j1 kq x8_1 l0_3 (l0_3.length : Int) x8_1 x13_6 a0_0 a0_1 a0_2 l0_3 ((rd_T69 l0_3 x8_1).f0) ((rd_T69 l0_3 x8_1).f1) ((rd_T69 l0_3 x8_1).f2) ((rd_T69 l0_3 x8_1).f3) ((rd_T69 l0_3 x8_1).f4.f0) ((rd_T69 l0_3 x8_1).f4.f1) ((rd_T69 l0_3 x8_1).f4.f2) ((rd_T69 l0_3 x8_1).f5) = some r) ∧ Aside0 (kq ≤ k1) ∧ Aside0 (wc.heap[gb287]? = some (.cells #[.complex .f32 a0_0.re a0_0.im, .complex .f32 a0_1.re a0_1.im, .complex .f32 a0_2.re a0_2.im, (.slice (some ad289) l0_3.length c0_3)] 27 (0, 0))) ∧ Aside0 (wc.heap[gb290]? = some (.cells #[.int .i64 ((rd_T69 l0_3 x8_1).f0), .complex .f32 ((rd_T69 l0_3 x8_1).f1).re ((rd_T69 l0_3 x8_1).f1).im, .complex .f32 ((rd_T69 l0_3 x8_1).f2).re ((rd_T69 l0_3 x8_1).f2).im, .int .i64 ((rd_T69 l0_3 x8_1).f3), .complex .f32 ((rd_T69 l0_3 x8_1).f4.f0).re ((rd_T69 l0_3 x8_1).f4.f0).im, .complex .f32 ((rd_T69 l0_3 x8_1).f4.f1).re ((rd_T69 l0_3 x8_1).f4.f1).im, .complex .f32 ((rd_T69 l0_3 x8_1).f4.f2).re ((rd_T69 l0_3 x8_1).f4.f2).im, .int .i64 ((rd_T69 l0_3 x8_1).f5)] 69 (0, 0))) ∧ Aside0 (Below w.heap.size w wc))
            case first =>
              have H := HC7.out
              clear HC7
              replace H := Option.bind_eq_some_iff.mp H
              obtain ⟨t291, A110, H⟩ := H
              replace H : (if t291 = true then ((impl_in.f ((rd_T69 l0_3 x8_1).f5) 0 1000000).bind fun t292 => (impl_ValidFeeder.j1 k1 x8_1 l0_3 (l0_3.length : Int) x8_1 (!t292) a0_0 a0_1 a0_2 l0_3 ((rd_T69 l0_3 x8_1).f0) ((rd_T69 l0_3 x8_1).f1) ((rd_T69 l0_3 x8_1).f2) ((rd_T69 l0_3 x8_1).f3) ((rd_T69 l0_3 x8_1).f4.f0) ((rd_T69 l0_3 x8_1).f4.f1) ((rd_T69 l0_3 x8_1).f4.f2) ((rd_T69 l0_3 x8_1).f5))) else (impl_ValidFeeder.j1 k1 x8_1 l0_3 (l0_3.length : Int) x8_1 true a0_0 a0_1 a0_2 l0_3 ((rd_T69 l0_3 x8_1).f0) ((rd_T69 l0_3 x8_1).f1) ((rd_T69 l0_3 x8_1).f2) ((rd_T69 l0_3 x8_1).f3) ((rd_T69 l0_3 x8_1).f4.f0) ((rd_T69 l0_3 x8_1).f4.f1) ((rd_T69 l0_3 x8_1).f4.f2) ((rd_T69 l0_3 x8_1).f5))) = some r := H
              have A11 := Aside0.mk A110
              clear A110
              by_cases c12 : t291 = true
              · subst c12
                have H1 : ((impl_in.f ((rd_T69 l0_3 x8_1).f5) 0 1000000).bind fun t292 => (impl_ValidFeeder.j1 k1 x8_1 l0_3 (l0_3.length : Int) x8_1 (!t292) a0_0 a0_1 a0_2 l0_3 ((rd_T69 l0_3 x8_1).f0) ((rd_T69 l0_3 x8_1).f1) ((rd_T69 l0_3 x8_1).f2) ((rd_T69 l0_3 x8_1).f3) ((rd_T69 l0_3 x8_1).f4.f0) ((rd_T69 l0_3 x8_1).f4.f1) ((rd_T69 l0_3 x8_1).f4.f2) ((rd_T69 l0_3 x8_1).f5))) = some r := by rw [if_pos rfl] at H; exact H
                clear H
                have H := H1
                clear H1
                replace H := Option.bind_eq_some_iff.mp H
                obtain ⟨t292, A130, H⟩ := H
                replace H : (impl_ValidFeeder.j1 k1 x8_1 l0_3 (l0_3.length : Int) x8_1 (!t292) a0_0 a0_1 a0_2 l0_3 ((rd_T69 l0_3 x8_1).f0) ((rd_T69 l0_3 x8_1).f1) ((rd_T69 l0_3 x8_1).f2) ((rd_T69 l0_3 x8_1).f3) ((rd_T69 l0_3 x8_1).f4.f0) ((rd_T69 l0_3 x8_1).f4.f1) ((rd_T69 l0_3 x8_1).f4.f2) ((rd_T69 l0_3 x8_1).f5)) = some r := H
                have A13 := Aside0.mk A130
                clear A130
                have H' := Aside0.mk H
                clear H
                have hnb14 := NB290_287.out
                have hnc14 := NB287_290.out
                have hcz15_0 : w8.cell? ⟨gb290, 0, none⟩ = some (.int .i64 0) := (blk_cell BK290.out 0).trans rfl
                have hcz15_1 : w8.cell? ⟨gb290, 1, none⟩ = some (.complex .f32 0 0) := (blk_cell BK290.out 1).trans rfl
                have hcz15_2 : w8.cell? ⟨gb290, 2, none⟩ = some (.complex .f32 0 0) := (blk_cell BK290.out 2).trans rfl
                have hcz15_3 : w8.cell? ⟨gb290, 3, none⟩ = some (.int .i64 0) := (blk_cell BK290.out 3).trans rfl
                have hcz15_4 : w8.cell? ⟨gb290, 4, none⟩ = some (.complex .f32 0 0) := (blk_cell BK290.out 4).trans rfl
                have hcz15_5 : w8.cell? ⟨gb290, 5, none⟩ = some (.complex .f32 0 0) := (blk_cell BK290.out 5).trans rfl
                have hcz15_6 : w8.cell? ⟨gb290, 6, none⟩ = some (.complex .f32 0 0) := (blk_cell BK290.out 6).trans rfl
                have hcz15_7 : w8.cell? ⟨gb290, 7, none⟩ = some (.int .i64 0) := (blk_cell BK290.out 7).trans rfl
                have hfz15_0 := blk_frozen BK290.out 0
                have hfz15_1 := blk_frozen BK290.out 1
                have hfz15_2 := blk_frozen BK290.out 2
                have hfz15_3 := blk_frozen BK290.out 3
                have hfz15_4 := blk_frozen BK290.out 4
                have hfz15_5 := blk_frozen BK290.out 5
                have hfz15_6 := blk_frozen BK290.out 6
                have hfz15_7 := blk_frozen BK290.out 7
                go_wp2_with (first | ((with_reducible refine gate_callee (f := 86) rfl ?_); refine goesL_ (some 16) rfl rfl Try.func86 (by kernel_rfl) rfl #[.int .i64 ((rd_T69 l0_3 x8_1).f3)] rfl (by (try simp only [List.map_toArray, List.map_cons, List.map_nil]); rfl) ?_; (with_reducible refine (impl_kindOk.calls ((rd_T69 l0_3 x8_1).f3) true _ A11.out).mono ?_); rintro e w' ⟨rfl, ⟨nd, rfl⟩⟩; refine ⟨_, rfl, ?_⟩) | (go_at_call 53; (with_reducible refine (impl_in.calls ((rd_T69 l0_3 x8_1).f5) 0 1000000 t292 _ A13.out).mono ?_); rintro e w' ⟨rfl, ⟨nd, rfl⟩⟩))
                go_meet
                case rel => exact ⟨_, (!t292), (by rfl), H', ⟨by have := HK1.out; omega⟩, ⟨by (with_reducible repeat (refine blk_drewN ?_ _)); refine blk_far ?_ NB287_290.out _; refine blk_far ?_ NB287_290.out _; refine blk_far ?_ NB287_290.out _; refine blk_far ?_ NB287_290.out _; refine blk_far ?_ NB287_290.out _; refine blk_far ?_ NB287_290.out _; refine blk_far ?_ NB287_290.out _; refine blk_far ?_ NB287_290.out _; exact BK287.out⟩, ⟨by (with_reducible repeat (refine blk_drewN ?_ _)); refine blk_put (cs := #[.int .i64 ((rd_T69 l0_3 x8_1).f0), .complex .f32 ((rd_T69 l0_3 x8_1).f1).re ((rd_T69 l0_3 x8_1).f1).im, .complex .f32 ((rd_T69 l0_3 x8_1).f2).re ((rd_T69 l0_3 x8_1).f2).im, .int .i64 ((rd_T69 l0_3 x8_1).f3), .complex .f32 ((rd_T69 l0_3 x8_1).f4.f0).re ((rd_T69 l0_3 x8_1).f4.f0).im, .complex .f32 ((rd_T69 l0_3 x8_1).f4.f1).re ((rd_T69 l0_3 x8_1).f4.f1).im, .complex .f32 ((rd_T69 l0_3 x8_1).f4.f2).re ((rd_T69 l0_3 x8_1).f4.f2).im, .int .i64 0]) ?_ 7 _ rfl; refine blk_put (cs := #[.int .i64 ((rd_T69 l0_3 x8_1).f0), .complex .f32 ((rd_T69 l0_3 x8_1).f1).re ((rd_T69 l0_3 x8_1).f1).im, .complex .f32 ((rd_T69 l0_3 x8_1).f2).re ((rd_T69 l0_3 x8_1).f2).im, .int .i64 ((rd_T69 l0_3 x8_1).f3), .complex .f32 ((rd_T69 l0_3 x8_1).f4.f0).re ((rd_T69 l0_3 x8_1).f4.f0).im, .complex .f32 ((rd_T69 l0_3 x8_1).f4.f1).re ((rd_T69 l0_3 x8_1).f4.f1).im, .complex .f32 0 0, .int .i64 0]) ?_ 6 _ rfl; refine blk_put (cs := #[.int .i64 ((rd_T69 l0_3 x8_1).f0), .complex .f32 ((rd_T69 l0_3 x8_1).f1).re ((rd_T69 l0_3 x8_1).f1).im, .complex .f32 ((rd_T69 l0_3 x8_1).f2).re ((rd_T69 l0_3 x8_1).f2).im, .int .i64 ((rd_T69 l0_3 x8_1).f3), .complex .f32 ((rd_T69 l0_3 x8_1).f4.f0).re ((rd_T69 l0_3 x8_1).f4.f0).im, .complex .f32 0 0, .complex .f32 0 0, .int .i64 0]) ?_ 5 _ rfl; refine blk_put (cs := #[.int .i64 ((rd_T69 l0_3 x8_1).f0), .complex .f32 ((rd_T69 l0_3 x8_1).f1).re ((rd_T69 l0_3 x8_1).f1).im, .complex .f32 ((rd_T69 l0_3 x8_1).f2).re ((rd_T69 l0_3 x8_1).f2).im, .int .i64 ((rd_T69 l0_3 x8_1).f3), .complex .f32 0 0, .complex .f32 0 0, .complex .f32 0 0, .int .i64 0]) ?_ 4 _ rfl; refine blk_put (cs := #[.int .i64 ((rd_T69 l0_3 x8_1).f0), .complex .f32 ((rd_T69 l0_3 x8_1).f1).re ((rd_T69 l0_3 x8_1).f1).im, .complex .f32 ((rd_T69 l0_3 x8_1).f2).re ((rd_T69 l0_3 x8_1).f2).im, .int .i64 0, .complex .f32 0 0, .complex .f32 0 0, .complex .f32 0 0, .int .i64 0]) ?_ 3 _ rfl; refine blk_put (cs := #[.int .i64 ((rd_T69 l0_3 x8_1).f0), .complex .f32 ((rd_T69 l0_3 x8_1).f1).re ((rd_T69 l0_3 x8_1).f1).im, .complex .f32 0 0, .int .i64 0, .complex .f32 0 0, .complex .f32 0 0, .complex .f32 0 0, .int .i64 0]) ?_ 2 _ rfl; refine blk_put (cs := #[.int .i64 ((rd_T69 l0_3 x8_1).f0), .complex .f32 0 0, .complex .f32 0 0, .int .i64 0, .complex .f32 0 0, .complex .f32 0 0, .complex .f32 0 0, .int .i64 0]) ?_ 1 _ rfl; refine blk_put (cs := #[.int .i64 0, .complex .f32 0 0, .complex .f32 0 0, .int .i64 0, .complex .f32 0 0, .complex .f32 0 0, .complex .f32 0 0, .int .i64 0]) ?_ 0 _ rfl; exact BK290.out⟩, ⟨by repeat ((with_reducible first | exact HB.out | apply pw_below_drewN | refine below_set ?_ GE290.out))⟩⟩
              · replace c12 := Bool.eq_false_iff.mpr c12
                subst c12
                have H1 : (impl_ValidFeeder.j1 k1 x8_1 l0_3 (l0_3.length : Int) x8_1 true a0_0 a0_1 a0_2 l0_3 ((rd_T69 l0_3 x8_1).f0) ((rd_T69 l0_3 x8_1).f1) ((rd_T69 l0_3 x8_1).f2) ((rd_T69 l0_3 x8_1).f3) ((rd_T69 l0_3 x8_1).f4.f0) ((rd_T69 l0_3 x8_1).f4.f1) ((rd_T69 l0_3 x8_1).f4.f2) ((rd_T69 l0_3 x8_1).f5)) = some r := by rw [if_neg (show ¬ (false = true) by decide)] at H; exact H
                clear H
                have H := H1
                clear H1
                have H' := Aside0.mk H
                clear H
                have hnb16 := NB290_287.out
                have hnc16 := NB287_290.out
                have hcz17_0 : w8.cell? ⟨gb290, 0, none⟩ = some (.int .i64 0) := (blk_cell BK290.out 0).trans rfl
                have hcz17_1 : w8.cell? ⟨gb290, 1, none⟩ = some (.complex .f32 0 0) := (blk_cell BK290.out 1).trans rfl
                have hcz17_2 : w8.cell? ⟨gb290, 2, none⟩ = some (.complex .f32 0 0) := (blk_cell BK290.out 2).trans rfl
                have hcz17_3 : w8.cell? ⟨gb290, 3, none⟩ = some (.int .i64 0) := (blk_cell BK290.out 3).trans rfl
                have hcz17_4 : w8.cell? ⟨gb290, 4, none⟩ = some (.complex .f32 0 0) := (blk_cell BK290.out 4).trans rfl
                have hcz17_5 : w8.cell? ⟨gb290, 5, none⟩ = some (.complex .f32 0 0) := (blk_cell BK290.out 5).trans rfl
                have hcz17_6 : w8.cell? ⟨gb290, 6, none⟩ = some (.complex .f32 0 0) := (blk_cell BK290.out 6).trans rfl
                have hcz17_7 : w8.cell? ⟨gb290, 7, none⟩ = some (.int .i64 0) := (blk_cell BK290.out 7).trans rfl
                have hfz17_0 := blk_frozen BK290.out 0
                have hfz17_1 := blk_frozen BK290.out 1
                have hfz17_2 := blk_frozen BK290.out 2
                have hfz17_3 := blk_frozen BK290.out 3
                have hfz17_4 := blk_frozen BK290.out 4
                have hfz17_5 := blk_frozen BK290.out 5
                have hfz17_6 := blk_frozen BK290.out 6
                have hfz17_7 := blk_frozen BK290.out 7
                go_wp2_with (((with_reducible refine gate_callee (f := 86) rfl ?_); refine goesL_ (some 16) rfl rfl Try.func86 (by kernel_rfl) rfl #[.int .i64 ((rd_T69 l0_3 x8_1).f3)] rfl (by (try simp only [List.map_toArray, List.map_cons, List.map_nil]); rfl) ?_; (with_reducible refine (impl_kindOk.calls ((rd_T69 l0_3 x8_1).f3) false _ A11.out).mono ?_); rintro e w' ⟨rfl, ⟨nd, rfl⟩⟩; refine ⟨_, rfl, ?_⟩))
                go_meet
                case rel => exact ⟨_, (true), (by rfl), H', ⟨by have := HK1.out; omega⟩, ⟨by (with_reducible repeat (refine blk_drewN ?_ _)); refine blk_far ?_ NB287_290.out _; refine blk_far ?_ NB287_290.out _; refine blk_far ?_ NB287_290.out _; refine blk_far ?_ NB287_290.out _; refine blk_far ?_ NB287_290.out _; refine blk_far ?_ NB287_290.out _; refine blk_far ?_ NB287_290.out _; refine blk_far ?_ NB287_290.out _; exact BK287.out⟩, ⟨by (with_reducible repeat (refine blk_drewN ?_ _)); refine blk_put (cs := #[.int .i64 ((rd_T69 l0_3 x8_1).f0), .complex .f32 ((rd_T69 l0_3 x8_1).f1).re ((rd_T69 l0_3 x8_1).f1).im, .complex .f32 ((rd_T69 l0_3 x8_1).f2).re ((rd_T69 l0_3 x8_1).f2).im, .int .i64 ((rd_T69 l0_3 x8_1).f3), .complex .f32 ((rd_T69 l0_3 x8_1).f4.f0).re ((rd_T69 l0_3 x8_1).f4.f0).im, .complex .f32 ((rd_T69 l0_3 x8_1).f4.f1).re ((rd_T69 l0_3 x8_1).f4.f1).im, .complex .f32 ((rd_T69 l0_3 x8_1).f4.f2).re ((rd_T69 l0_3 x8_1).f4.f2).im, .int .i64 0]) ?_ 7 _ rfl; refine blk_put (cs := #[.int .i64 ((rd_T69 l0_3 x8_1).f0), .complex .f32 ((rd_T69 l0_3 x8_1).f1).re ((rd_T69 l0_3 x8_1).f1).im, .complex .f32 ((rd_T69 l0_3 x8_1).f2).re ((rd_T69 l0_3 x8_1).f2).im, .int .i64 ((rd_T69 l0_3 x8_1).f3), .complex .f32 ((rd_T69 l0_3 x8_1).f4.f0).re ((rd_T69 l0_3 x8_1).f4.f0).im, .complex .f32 ((rd_T69 l0_3 x8_1).f4.f1).re ((rd_T69 l0_3 x8_1).f4.f1).im, .complex .f32 0 0, .int .i64 0]) ?_ 6 _ rfl; refine blk_put (cs := #[.int .i64 ((rd_T69 l0_3 x8_1).f0), .complex .f32 ((rd_T69 l0_3 x8_1).f1).re ((rd_T69 l0_3 x8_1).f1).im, .complex .f32 ((rd_T69 l0_3 x8_1).f2).re ((rd_T69 l0_3 x8_1).f2).im, .int .i64 ((rd_T69 l0_3 x8_1).f3), .complex .f32 ((rd_T69 l0_3 x8_1).f4.f0).re ((rd_T69 l0_3 x8_1).f4.f0).im, .complex .f32 0 0, .complex .f32 0 0, .int .i64 0]) ?_ 5 _ rfl; refine blk_put (cs := #[.int .i64 ((rd_T69 l0_3 x8_1).f0), .complex .f32 ((rd_T69 l0_3 x8_1).f1).re ((rd_T69 l0_3 x8_1).f1).im, .complex .f32 ((rd_T69 l0_3 x8_1).f2).re ((rd_T69 l0_3 x8_1).f2).im, .int .i64 ((rd_T69 l0_3 x8_1).f3), .complex .f32 0 0, .complex .f32 0 0, .complex .f32 0 0, .int .i64 0]) ?_ 4 _ rfl; refine blk_put (cs := #[.int .i64 ((rd_T69 l0_3 x8_1).f0), .complex .f32 ((rd_T69 l0_3 x8_1).f1).re ((rd_T69 l0_3 x8_1).f1).im, .complex .f32 ((rd_T69 l0_3 x8_1).f2).re ((rd_T69 l0_3 x8_1).f2).im, .int .i64 0, .complex .f32 0 0, .complex .f32 0 0, .complex .f32 0 0, .int .i64 0]) ?_ 3 _ rfl; refine blk_put (cs := #[.int .i64 ((rd_T69 l0_3 x8_1).f0), .complex .f32 ((rd_T69 l0_3 x8_1).f1).re ((rd_T69 l0_3 x8_1).f1).im, .complex .f32 0 0, .int .i64 0, .complex .f32 0 0, .complex .f32 0 0, .complex .f32 0 0, .int .i64 0]) ?_ 2 _ rfl; refine blk_put (cs := #[.int .i64 ((rd_T69 l0_3 x8_1).f0), .complex .f32 0 0, .complex .f32 0 0, .int .i64 0, .complex .f32 0 0, .complex .f32 0 0, .complex .f32 0 0, .int .i64 0]) ?_ 1 _ rfl; refine blk_put (cs := #[.int .i64 0, .complex .f32 0 0, .complex .f32 0 0, .int .i64 0, .complex .f32 0 0, .complex .f32 0 0, .complex .f32 0 0, .int .i64 0]) ?_ 0 _ rfl; exact BK290.out⟩, ⟨by repeat ((with_reducible first | exact HB.out | apply pw_below_drewN | refine below_set ?_ GE290.out))⟩⟩
            case rest =>
              clear HC7
              try clear c4b0
              try clear c5b0
              try clear c6b0
              try clear hcz10_0
              try clear hcz10_1
              try clear hcz10_2
              try clear hcz10_3
              try clear hcz10_4
              try clear hcz10_5
              try clear hcz10_6
              try clear hcz10_7
              try clear hcz3_0
              try clear hcz3_1
              try clear hcz3_2
              try clear hcz3_3
              try clear hfz10_0
              try clear hfz10_1
              try clear hfz10_2
              try clear hfz10_3
              try clear hfz10_4
              try clear hfz10_5
              try clear hfz10_6
              try clear hfz10_7
              try clear hfz3_0
              try clear hfz3_1
              try clear hfz3_2
              try clear hfz3_3
              try clear hx289_0
              try clear hx289_1
              try clear hx289_2
              try clear hx289_3
              try clear hx289_4
              try clear hx289_5
              try clear hx289_6
              try clear hx289_7
              try clear p289
              try clear q289
              obtain ⟨kq, x13_6, rfl, HA, HJ6, BK287, BK290, HB⟩ := hcut
              cases kq with
              | zero => exact absurd HA.out (by simp [impl_ValidFeeder.j1])
              | succ kj6 =>
                have H := HA.out
                clear HA
                simp only [impl_ValidFeeder.j1] at H
                by_cases c18 : x13_6 = true
                · subst c18
                  have H1 : (some false) = some r := by rw [if_pos rfl] at H; exact H
                  clear H
                  have H := H1
                  clear H1
                  obtain rfl := Option.some.inj H
                  go_wp2
                  go_ret
                  exact ⟨by rfl, by with_reducible exact HB.out⟩
                · replace c18 := Bool.eq_false_iff.mpr c18
                  subst c18
                  have H1 : (if x8_1 = 0 then (if ((rd_T69 l0_3 x8_1).f0) = (-1) then (if (((FloatKind.f32.format.order ((rd_T69 l0_3 x8_1).f1).re 0 == some .eq) && (FloatKind.f32.format.order ((rd_T69 l0_3 x8_1).f1).im 0 == some .eq)) = true) then (impl_ValidFeeder.j2 kj6 x8_1 l0_3 (l0_3.length : Int) x8_1 (!((FloatKind.f32.format.order ((rd_T69 l0_3 x8_1).f2).re 0 == some .eq) && (FloatKind.f32.format.order ((rd_T69 l0_3 x8_1).f2).im 0 == some .eq))) a0_0 a0_1 a0_2 l0_3 ((rd_T69 l0_3 x8_1).f0) ((rd_T69 l0_3 x8_1).f1) ((rd_T69 l0_3 x8_1).f2) ((rd_T69 l0_3 x8_1).f3) ((rd_T69 l0_3 x8_1).f4.f0) ((rd_T69 l0_3 x8_1).f4.f1) ((rd_T69 l0_3 x8_1).f4.f2) ((rd_T69 l0_3 x8_1).f5)) else (impl_ValidFeeder.j2 kj6 x8_1 l0_3 (l0_3.length : Int) x8_1 true a0_0 a0_1 a0_2 l0_3 ((rd_T69 l0_3 x8_1).f0) ((rd_T69 l0_3 x8_1).f1) ((rd_T69 l0_3 x8_1).f2) ((rd_T69 l0_3 x8_1).f3) ((rd_T69 l0_3 x8_1).f4.f0) ((rd_T69 l0_3 x8_1).f4.f1) ((rd_T69 l0_3 x8_1).f4.f2) ((rd_T69 l0_3 x8_1).f5))) else (impl_ValidFeeder.j2 kj6 x8_1 l0_3 (l0_3.length : Int) x8_1 true a0_0 a0_1 a0_2 l0_3 ((rd_T69 l0_3 x8_1).f0) ((rd_T69 l0_3 x8_1).f1) ((rd_T69 l0_3 x8_1).f2) ((rd_T69 l0_3 x8_1).f3) ((rd_T69 l0_3 x8_1).f4.f0) ((rd_T69 l0_3 x8_1).f4.f1) ((rd_T69 l0_3 x8_1).f4.f2) ((rd_T69 l0_3 x8_1).f5))) else (impl_ValidFeeder.j2 kj6 x8_1 l0_3 (l0_3.length : Int) x8_1 false a0_0 a0_1 a0_2 l0_3 ((rd_T69 l0_3 x8_1).f0) ((rd_T69 l0_3 x8_1).f1) ((rd_T69 l0_3 x8_1).f2) ((rd_T69 l0_3 x8_1).f3) ((rd_T69 l0_3 x8_1).f4.f0) ((rd_T69 l0_3 x8_1).f4.f1) ((rd_T69 l0_3 x8_1).f4.f2) ((rd_T69 l0_3 x8_1).f5))) = some r := by rw [if_neg (show ¬ (false = true) by decide)] at H; exact H
                  clear H
                  have H := H1
                  clear H1
                  have HC19 := Aside0.mk H
                  clear H
                  go_upto_region 6 with (fail)
                  go_cut [24] (fun v24 wc => ∃ (kq : Nat) (x24_18 : Bool), v24 = .bool x24_18 ∧ Aside0 (impl_ValidFeeder.j2 kq x8_1 l0_3 (l0_3.length : Int) x8_1 x24_18 a0_0 a0_1 a0_2 l0_3 ((rd_T69 l0_3 x8_1).f0) ((rd_T69 l0_3 x8_1).f1) ((rd_T69 l0_3 x8_1).f2) ((rd_T69 l0_3 x8_1).f3) ((rd_T69 l0_3 x8_1).f4.f0) ((rd_T69 l0_3 x8_1).f4.f1) ((rd_T69 l0_3 x8_1).f4.f2) ((rd_T69 l0_3 x8_1).f5) = some r) ∧ Aside0 (kq ≤ kj6) ∧ Aside0 (wc.heap[gb287]? = some (.cells #[.complex .f32 a0_0.re a0_0.im, .complex .f32 a0_1.re a0_1.im, .complex .f32 a0_2.re a0_2.im, (.slice (some ad289) l0_3.length c0_3)] 27 (0, 0))) ∧ Aside0 (wc.heap[gb290]? = some (.cells #[.int .i64 ((rd_T69 l0_3 x8_1).f0), .complex .f32 ((rd_T69 l0_3 x8_1).f1).re ((rd_T69 l0_3 x8_1).f1).im, .complex .f32 ((rd_T69 l0_3 x8_1).f2).re ((rd_T69 l0_3 x8_1).f2).im, .int .i64 ((rd_T69 l0_3 x8_1).f3), .complex .f32 ((rd_T69 l0_3 x8_1).f4.f0).re ((rd_T69 l0_3 x8_1).f4.f0).im, .complex .f32 ((rd_T69 l0_3 x8_1).f4.f1).re ((rd_T69 l0_3 x8_1).f4.f1).im, .complex .f32 ((rd_T69 l0_3 x8_1).f4.f2).re ((rd_T69 l0_3 x8_1).f4.f2).im, .int .i64 ((rd_T69 l0_3 x8_1).f5)] 69 (0, 0))) ∧ Aside0 (Below w.heap.size w wc))
                  case first =>
                    have H := HC19.out
                    clear HC19
                    by_cases c20 : x8_1 = 0
                    · rw [if_pos c20] at H
                      have c20b0 : (x8_1 == 0) = true := beq_iff_eq.mpr c20
                      have c20b1 : (x8_1 != 0) = false := bne_eq_false_iff_eq.mpr c20
                      clear c20
                      (skip)
                      by_cases c21 : ((rd_T69 l0_3 x8_1).f0) = (-1)
                      · rw [if_pos c21] at H
                        have c21b0 : (((rd_T69 l0_3 x8_1).f0) == (-1)) = true := beq_iff_eq.mpr c21
                        have c21b1 : (((rd_T69 l0_3 x8_1).f0) != (-1)) = false := bne_eq_false_iff_eq.mpr c21
                        clear c21
                        by_cases c22 : (((FloatKind.f32.format.order ((rd_T69 l0_3 x8_1).f1).re 0 == some .eq) && (FloatKind.f32.format.order ((rd_T69 l0_3 x8_1).f1).im 0 == some .eq)) = true)
                        · rw [if_pos c22] at H
                          have c22b0 : ((FloatKind.f32.format.order ((rd_T69 l0_3 x8_1).f1).re 0 == some .eq) && (FloatKind.f32.format.order ((rd_T69 l0_3 x8_1).f1).im 0 == some .eq)) = true := c22
                          clear c22
                          have H' := Aside0.mk H
                          clear H
                          have hnb23 := NB290_287.out
                          have hnc23 := NB287_290.out
                          have hcz24_0 : wc.cell? ⟨gb290, 0, none⟩ = some (.int .i64 ((rd_T69 l0_3 x8_1).f0)) := (blk_cell BK290.out 0).trans rfl
                          have hcz24_1 : wc.cell? ⟨gb290, 1, none⟩ = some (.complex .f32 ((rd_T69 l0_3 x8_1).f1).re ((rd_T69 l0_3 x8_1).f1).im) := (blk_cell BK290.out 1).trans rfl
                          have hcz24_2 : wc.cell? ⟨gb290, 2, none⟩ = some (.complex .f32 ((rd_T69 l0_3 x8_1).f2).re ((rd_T69 l0_3 x8_1).f2).im) := (blk_cell BK290.out 2).trans rfl
                          have hcz24_3 : wc.cell? ⟨gb290, 3, none⟩ = some (.int .i64 ((rd_T69 l0_3 x8_1).f3)) := (blk_cell BK290.out 3).trans rfl
                          have hcz24_4 : wc.cell? ⟨gb290, 4, none⟩ = some (.complex .f32 ((rd_T69 l0_3 x8_1).f4.f0).re ((rd_T69 l0_3 x8_1).f4.f0).im) := (blk_cell BK290.out 4).trans rfl
                          have hcz24_5 : wc.cell? ⟨gb290, 5, none⟩ = some (.complex .f32 ((rd_T69 l0_3 x8_1).f4.f1).re ((rd_T69 l0_3 x8_1).f4.f1).im) := (blk_cell BK290.out 5).trans rfl
                          have hcz24_6 : wc.cell? ⟨gb290, 6, none⟩ = some (.complex .f32 ((rd_T69 l0_3 x8_1).f4.f2).re ((rd_T69 l0_3 x8_1).f4.f2).im) := (blk_cell BK290.out 6).trans rfl
                          have hcz24_7 : wc.cell? ⟨gb290, 7, none⟩ = some (.int .i64 ((rd_T69 l0_3 x8_1).f5)) := (blk_cell BK290.out 7).trans rfl
                          have hfz24_0 := blk_frozen BK290.out 0
                          have hfz24_1 := blk_frozen BK290.out 1
                          have hfz24_2 := blk_frozen BK290.out 2
                          have hfz24_3 := blk_frozen BK290.out 3
                          have hfz24_4 := blk_frozen BK290.out 4
                          have hfz24_5 := blk_frozen BK290.out 5
                          have hfz24_6 := blk_frozen BK290.out 6
                          have hfz24_7 := blk_frozen BK290.out 7
                          go_wp2
                          go_meet
                          case rel => exact ⟨_, ((!((FloatKind.f32.format.order ((rd_T69 l0_3 x8_1).f2).re 0 == some .eq) && (FloatKind.f32.format.order ((rd_T69 l0_3 x8_1).f2).im 0 == some .eq)))), (by (simp; done)), H', ⟨by have := HK1.out; have := HJ6.out; omega⟩, ⟨by exact BK287.out⟩, ⟨by exact BK290.out⟩, ⟨by with_reducible exact HB.out⟩⟩
                        · rw [if_neg c22] at H
                          have c22b0 : ((FloatKind.f32.format.order ((rd_T69 l0_3 x8_1).f1).re 0 == some .eq) && (FloatKind.f32.format.order ((rd_T69 l0_3 x8_1).f1).im 0 == some .eq)) = false := by simpa using c22
                          clear c22
                          have H' := Aside0.mk H
                          clear H
                          have hnb25 := NB290_287.out
                          have hnc25 := NB287_290.out
                          have hcz26_0 : wc.cell? ⟨gb290, 0, none⟩ = some (.int .i64 ((rd_T69 l0_3 x8_1).f0)) := (blk_cell BK290.out 0).trans rfl
                          have hcz26_1 : wc.cell? ⟨gb290, 1, none⟩ = some (.complex .f32 ((rd_T69 l0_3 x8_1).f1).re ((rd_T69 l0_3 x8_1).f1).im) := (blk_cell BK290.out 1).trans rfl
                          have hcz26_2 : wc.cell? ⟨gb290, 2, none⟩ = some (.complex .f32 ((rd_T69 l0_3 x8_1).f2).re ((rd_T69 l0_3 x8_1).f2).im) := (blk_cell BK290.out 2).trans rfl
                          have hcz26_3 : wc.cell? ⟨gb290, 3, none⟩ = some (.int .i64 ((rd_T69 l0_3 x8_1).f3)) := (blk_cell BK290.out 3).trans rfl
                          have hcz26_4 : wc.cell? ⟨gb290, 4, none⟩ = some (.complex .f32 ((rd_T69 l0_3 x8_1).f4.f0).re ((rd_T69 l0_3 x8_1).f4.f0).im) := (blk_cell BK290.out 4).trans rfl
                          have hcz26_5 : wc.cell? ⟨gb290, 5, none⟩ = some (.complex .f32 ((rd_T69 l0_3 x8_1).f4.f1).re ((rd_T69 l0_3 x8_1).f4.f1).im) := (blk_cell BK290.out 5).trans rfl
                          have hcz26_6 : wc.cell? ⟨gb290, 6, none⟩ = some (.complex .f32 ((rd_T69 l0_3 x8_1).f4.f2).re ((rd_T69 l0_3 x8_1).f4.f2).im) := (blk_cell BK290.out 6).trans rfl
                          have hcz26_7 : wc.cell? ⟨gb290, 7, none⟩ = some (.int .i64 ((rd_T69 l0_3 x8_1).f5)) := (blk_cell BK290.out 7).trans rfl
                          have hfz26_0 := blk_frozen BK290.out 0
                          have hfz26_1 := blk_frozen BK290.out 1
                          have hfz26_2 := blk_frozen BK290.out 2
                          have hfz26_3 := blk_frozen BK290.out 3
                          have hfz26_4 := blk_frozen BK290.out 4
                          have hfz26_5 := blk_frozen BK290.out 5
                          have hfz26_6 := blk_frozen BK290.out 6
                          have hfz26_7 := blk_frozen BK290.out 7
                          go_wp2
                          go_meet
                          case rel => exact ⟨_, (true), (by rfl), H', ⟨by have := HK1.out; have := HJ6.out; omega⟩, ⟨by exact BK287.out⟩, ⟨by exact BK290.out⟩, ⟨by with_reducible exact HB.out⟩⟩
                      · rw [if_neg c21] at H
                        have c21b0 : (((rd_T69 l0_3 x8_1).f0) == (-1)) = false := beq_eq_false_iff_ne.mpr c21
                        have c21b1 : (((rd_T69 l0_3 x8_1).f0) != (-1)) = true := bne_iff_ne.mpr c21
                        have H' := Aside0.mk H
                        clear H
                        have hnb27 := NB290_287.out
                        have hnc27 := NB287_290.out
                        have hcz28_0 : wc.cell? ⟨gb290, 0, none⟩ = some (.int .i64 ((rd_T69 l0_3 x8_1).f0)) := (blk_cell BK290.out 0).trans rfl
                        have hcz28_1 : wc.cell? ⟨gb290, 1, none⟩ = some (.complex .f32 ((rd_T69 l0_3 x8_1).f1).re ((rd_T69 l0_3 x8_1).f1).im) := (blk_cell BK290.out 1).trans rfl
                        have hcz28_2 : wc.cell? ⟨gb290, 2, none⟩ = some (.complex .f32 ((rd_T69 l0_3 x8_1).f2).re ((rd_T69 l0_3 x8_1).f2).im) := (blk_cell BK290.out 2).trans rfl
                        have hcz28_3 : wc.cell? ⟨gb290, 3, none⟩ = some (.int .i64 ((rd_T69 l0_3 x8_1).f3)) := (blk_cell BK290.out 3).trans rfl
                        have hcz28_4 : wc.cell? ⟨gb290, 4, none⟩ = some (.complex .f32 ((rd_T69 l0_3 x8_1).f4.f0).re ((rd_T69 l0_3 x8_1).f4.f0).im) := (blk_cell BK290.out 4).trans rfl
                        have hcz28_5 : wc.cell? ⟨gb290, 5, none⟩ = some (.complex .f32 ((rd_T69 l0_3 x8_1).f4.f1).re ((rd_T69 l0_3 x8_1).f4.f1).im) := (blk_cell BK290.out 5).trans rfl
                        have hcz28_6 : wc.cell? ⟨gb290, 6, none⟩ = some (.complex .f32 ((rd_T69 l0_3 x8_1).f4.f2).re ((rd_T69 l0_3 x8_1).f4.f2).im) := (blk_cell BK290.out 6).trans rfl
                        have hcz28_7 : wc.cell? ⟨gb290, 7, none⟩ = some (.int .i64 ((rd_T69 l0_3 x8_1).f5)) := (blk_cell BK290.out 7).trans rfl
                        have hfz28_0 := blk_frozen BK290.out 0
                        have hfz28_1 := blk_frozen BK290.out 1
                        have hfz28_2 := blk_frozen BK290.out 2
                        have hfz28_3 := blk_frozen BK290.out 3
                        have hfz28_4 := blk_frozen BK290.out 4
                        have hfz28_5 := blk_frozen BK290.out 5
                        have hfz28_6 := blk_frozen BK290.out 6
                        have hfz28_7 := blk_frozen BK290.out 7
                        go_wp2
                        go_meet
                        case rel => exact ⟨_, (true), (by rfl), H', ⟨by have := HK1.out; have := HJ6.out; omega⟩, ⟨by exact BK287.out⟩, ⟨by exact BK290.out⟩, ⟨by with_reducible exact HB.out⟩⟩
                    · rw [if_neg c20] at H
                      have c20b0 : (x8_1 == 0) = false := beq_eq_false_iff_ne.mpr c20
                      have c20b1 : (x8_1 != 0) = true := bne_iff_ne.mpr c20
                      (skip)
                      have H' := Aside0.mk H
                      clear H
                      go_wp2
                      go_meet
                      case rel => exact ⟨_, (false), (by rfl), H', ⟨by have := HK1.out; have := HJ6.out; omega⟩, ⟨by exact BK287.out⟩, ⟨by exact BK290.out⟩, ⟨by with_reducible exact HB.out⟩⟩
                  case rest =>
                    clear HC19
                    try clear c4b0
                    try clear c5b0
                    try clear c6b0
                    try clear hcz10_0
                    try clear hcz10_1
                    try clear hcz10_2
                    try clear hcz10_3
                    try clear hcz10_4
                    try clear hcz10_5
                    try clear hcz10_6
                    try clear hcz10_7
                    try clear hcz3_0
                    try clear hcz3_1
                    try clear hcz3_2
                    try clear hcz3_3
                    try clear hfz10_0
                    try clear hfz10_1
                    try clear hfz10_2
                    try clear hfz10_3
                    try clear hfz10_4
                    try clear hfz10_5
                    try clear hfz10_6
                    try clear hfz10_7
                    try clear hfz3_0
                    try clear hfz3_1
                    try clear hfz3_2
                    try clear hfz3_3
                    try clear hx289_0
                    try clear hx289_1
                    try clear hx289_2
                    try clear hx289_3
                    try clear hx289_4
                    try clear hx289_5
                    try clear hx289_6
                    try clear hx289_7
                    try clear p289
                    try clear q289
                    obtain ⟨kq, x24_18, rfl, HA, HJ18, BK287, BK290, HB⟩ := hcut
                    cases kq with
                    | zero => exact absurd HA.out (by simp [impl_ValidFeeder.j2])
                    | succ kj18 =>
                      have H := HA.out
                      clear HA
                      simp only [impl_ValidFeeder.j2] at H
                      by_cases c29 : x24_18 = true
                      · subst c29
                        have H1 : (some false) = some r := by rw [if_pos rfl] at H; exact H
                        clear H
                        have H := H1
                        clear H1
                        obtain rfl := Option.some.inj H
                        go_wp2
                        go_ret
                        exact ⟨by rfl, by with_reducible exact HB.out⟩
                      · replace c29 := Bool.eq_false_iff.mpr c29
                        subst c29
                        have H1 : (if x8_1 > 0 then ((impl_in.f ((rd_T69 l0_3 x8_1).f0) 0 (wrap64 (x8_1 - 1))).bind fun t293 => (if t293 = true then (impl_ValidFeeder.l0 kj18 l0_3 (l0_3.length : Int) (wrap64 (x8_1 + 1)) a0_0 a0_1 a0_2 l0_3) else (some false))) else (impl_ValidFeeder.l0 kj18 l0_3 (l0_3.length : Int) (wrap64 (x8_1 + 1)) a0_0 a0_1 a0_2 l0_3)) = some r := by rw [if_neg (show ¬ (false = true) by decide)] at H; exact H
                        clear H
                        have H := H1
                        clear H1
                        by_cases c30 : x8_1 > 0
                        · rw [if_pos c30] at H
                          have c30b0 : decide (0 < x8_1) = true := decide_eq_true c30
                          clear c30
                          replace H := Option.bind_eq_some_iff.mp H
                          obtain ⟨t293, A310, H⟩ := H
                          replace H : (if t293 = true then (impl_ValidFeeder.l0 kj18 l0_3 (l0_3.length : Int) (wrap64 (x8_1 + 1)) a0_0 a0_1 a0_2 l0_3) else (some false)) = some r := H
                          have A31 := Aside0.mk A310
                          clear A310
                          by_cases c32 : t293 = true
                          · subst c32
                            have H1 : (impl_ValidFeeder.l0 kj18 l0_3 (l0_3.length : Int) (wrap64 (x8_1 + 1)) a0_0 a0_1 a0_2 l0_3) = some r := by rw [if_pos rfl] at H; exact H
                            clear H
                            have H := H1
                            clear H1
                            have H' := Aside0.mk H
                            clear H
                            have hnb33 := NB290_287.out
                            have hnc33 := NB287_290.out
                            have hcz34_0 : wc.cell? ⟨gb290, 0, none⟩ = some (.int .i64 ((rd_T69 l0_3 x8_1).f0)) := (blk_cell BK290.out 0).trans rfl
                            have hcz34_1 : wc.cell? ⟨gb290, 1, none⟩ = some (.complex .f32 ((rd_T69 l0_3 x8_1).f1).re ((rd_T69 l0_3 x8_1).f1).im) := (blk_cell BK290.out 1).trans rfl
                            have hcz34_2 : wc.cell? ⟨gb290, 2, none⟩ = some (.complex .f32 ((rd_T69 l0_3 x8_1).f2).re ((rd_T69 l0_3 x8_1).f2).im) := (blk_cell BK290.out 2).trans rfl
                            have hcz34_3 : wc.cell? ⟨gb290, 3, none⟩ = some (.int .i64 ((rd_T69 l0_3 x8_1).f3)) := (blk_cell BK290.out 3).trans rfl
                            have hcz34_4 : wc.cell? ⟨gb290, 4, none⟩ = some (.complex .f32 ((rd_T69 l0_3 x8_1).f4.f0).re ((rd_T69 l0_3 x8_1).f4.f0).im) := (blk_cell BK290.out 4).trans rfl
                            have hcz34_5 : wc.cell? ⟨gb290, 5, none⟩ = some (.complex .f32 ((rd_T69 l0_3 x8_1).f4.f1).re ((rd_T69 l0_3 x8_1).f4.f1).im) := (blk_cell BK290.out 5).trans rfl
                            have hcz34_6 : wc.cell? ⟨gb290, 6, none⟩ = some (.complex .f32 ((rd_T69 l0_3 x8_1).f4.f2).re ((rd_T69 l0_3 x8_1).f4.f2).im) := (blk_cell BK290.out 6).trans rfl
                            have hcz34_7 : wc.cell? ⟨gb290, 7, none⟩ = some (.int .i64 ((rd_T69 l0_3 x8_1).f5)) := (blk_cell BK290.out 7).trans rfl
                            have hfz34_0 := blk_frozen BK290.out 0
                            have hfz34_1 := blk_frozen BK290.out 1
                            have hfz34_2 := blk_frozen BK290.out 2
                            have hfz34_3 := blk_frozen BK290.out 3
                            have hfz34_4 := blk_frozen BK290.out 4
                            have hfz34_5 := blk_frozen BK290.out 5
                            have hfz34_6 := blk_frozen BK290.out 6
                            have hfz34_7 := blk_frozen BK290.out 7
                            go_wp2_with ((go_at_call 53; (with_reducible refine (impl_in.calls ((rd_T69 l0_3 x8_1).f0) 0 (wrap64 (x8_1 - 1)) true _ A31.out).mono ?_); rintro e w' ⟨rfl, ⟨nd, rfl⟩⟩))
                            go_roundg kj18
                            case measure => have := HK1.out; have := HJ6.out; have := HJ18.out; omega
                            case rel => exact ⟨(wrap64 (x8_1 + 1)), (by rfl), H', ⟨by have := HK1.out; have := HJ6.out; have := HJ18.out; omega⟩, ⟨by (with_reducible repeat (refine blk_drewN ?_ _)); exact BK287.out⟩, ⟨by repeat ((with_reducible first | exact HB.out | apply pw_below_drewN))⟩⟩
                          · replace c32 := Bool.eq_false_iff.mpr c32
                            subst c32
                            have H1 : (some false) = some r := by rw [if_neg (show ¬ (false = true) by decide)] at H; exact H
                            clear H
                            have H := H1
                            clear H1
                            obtain rfl := Option.some.inj H
                            have hnb35 := NB290_287.out
                            have hnc35 := NB287_290.out
                            have hcz36_0 : wc.cell? ⟨gb290, 0, none⟩ = some (.int .i64 ((rd_T69 l0_3 x8_1).f0)) := (blk_cell BK290.out 0).trans rfl
                            have hcz36_1 : wc.cell? ⟨gb290, 1, none⟩ = some (.complex .f32 ((rd_T69 l0_3 x8_1).f1).re ((rd_T69 l0_3 x8_1).f1).im) := (blk_cell BK290.out 1).trans rfl
                            have hcz36_2 : wc.cell? ⟨gb290, 2, none⟩ = some (.complex .f32 ((rd_T69 l0_3 x8_1).f2).re ((rd_T69 l0_3 x8_1).f2).im) := (blk_cell BK290.out 2).trans rfl
                            have hcz36_3 : wc.cell? ⟨gb290, 3, none⟩ = some (.int .i64 ((rd_T69 l0_3 x8_1).f3)) := (blk_cell BK290.out 3).trans rfl
                            have hcz36_4 : wc.cell? ⟨gb290, 4, none⟩ = some (.complex .f32 ((rd_T69 l0_3 x8_1).f4.f0).re ((rd_T69 l0_3 x8_1).f4.f0).im) := (blk_cell BK290.out 4).trans rfl
                            have hcz36_5 : wc.cell? ⟨gb290, 5, none⟩ = some (.complex .f32 ((rd_T69 l0_3 x8_1).f4.f1).re ((rd_T69 l0_3 x8_1).f4.f1).im) := (blk_cell BK290.out 5).trans rfl
                            have hcz36_6 : wc.cell? ⟨gb290, 6, none⟩ = some (.complex .f32 ((rd_T69 l0_3 x8_1).f4.f2).re ((rd_T69 l0_3 x8_1).f4.f2).im) := (blk_cell BK290.out 6).trans rfl
                            have hcz36_7 : wc.cell? ⟨gb290, 7, none⟩ = some (.int .i64 ((rd_T69 l0_3 x8_1).f5)) := (blk_cell BK290.out 7).trans rfl
                            have hfz36_0 := blk_frozen BK290.out 0
                            have hfz36_1 := blk_frozen BK290.out 1
                            have hfz36_2 := blk_frozen BK290.out 2
                            have hfz36_3 := blk_frozen BK290.out 3
                            have hfz36_4 := blk_frozen BK290.out 4
                            have hfz36_5 := blk_frozen BK290.out 5
                            have hfz36_6 := blk_frozen BK290.out 6
                            have hfz36_7 := blk_frozen BK290.out 7
                            go_wp2_with ((go_at_call 53; (with_reducible refine (impl_in.calls ((rd_T69 l0_3 x8_1).f0) 0 (wrap64 (x8_1 - 1)) false _ A31.out).mono ?_); rintro e w' ⟨rfl, ⟨nd, rfl⟩⟩))
                            go_ret
                            exact ⟨by rfl, by repeat ((with_reducible first | exact HB.out | apply pw_below_drewN))⟩
                        · rw [if_neg c30] at H
                          have c30b0 : decide (0 < x8_1) = false := decide_eq_false c30
                          clear c30
                          have H' := Aside0.mk H
                          clear H
                          go_wp2
                          go_roundg kj18
                          case measure => have := HK1.out; have := HJ6.out; have := HJ18.out; omega
                          case rel => exact ⟨(wrap64 (x8_1 + 1)), (by rfl), H', ⟨by have := HK1.out; have := HJ6.out; have := HJ18.out; omega⟩, ⟨by exact BK287.out⟩, ⟨by with_reducible exact HB.out⟩⟩
          · rw [if_neg c6] at H
            exact absurd H (by simp)
        · rw [if_neg c5] at H
          exact absurd H (by simp)
      · rw [if_neg c4] at H
        have c4b0 : decide (x8_1 < (l0_3.length : Int)) = false := decide_eq_false c4
        clear c4
        replace H := Option.bind_eq_some_iff.mp H
        obtain ⟨t288, A370, H⟩ := H
        replace H : (some t288) = some r := H
        have A37 := Aside0.mk A370
        clear A370
        obtain rfl := Option.some.inj H
        have hcz38_0 : wr.cell? ⟨gb287, 0, none⟩ = some (.complex .f32 a0_0.re a0_0.im) := (blk_cell BK287.out 0).trans rfl
        have hcz38_1 : wr.cell? ⟨gb287, 1, none⟩ = some (.complex .f32 a0_1.re a0_1.im) := (blk_cell BK287.out 1).trans rfl
        have hcz38_2 : wr.cell? ⟨gb287, 2, none⟩ = some (.complex .f32 a0_2.re a0_2.im) := (blk_cell BK287.out 2).trans rfl
        have hcz38_3 : wr.cell? ⟨gb287, 3, none⟩ = some (.slice A0_3 l0_3.length c0_3) := (blk_cell BK287.out 3).trans rfl
        have hfz38_0 := blk_frozen BK287.out 0
        have hfz38_1 := blk_frozen BK287.out 1
        have hfz38_2 := blk_frozen BK287.out 2
        have hfz38_3 := blk_frozen BK287.out 3
        go_wp2_with (((with_reducible refine gate_callee (f := 53) rfl ?_); refine goesL_ (some 57) rfl rfl Try.func53 (by kernel_rfl) rfl #[.int .i64 (l0_3.length : Int), .int .i64 1, .int .i64 16] rfl (by (try simp only [List.map_toArray, List.map_cons, List.map_nil]); rfl) ?_; (with_reducible refine (impl_in.calls (l0_3.length : Int) 1 16 t288 _ A37.out).mono ?_); rintro e w' ⟨rfl, ⟨nd, rfl⟩⟩; refine ⟨_, rfl, ?_⟩))
        go_ret
        exact ⟨by rfl, by repeat ((with_reducible first | exact HB.out | apply pw_below_drewN))⟩

end Go.Proofs.Ytkkokkmhldceiaa.M
