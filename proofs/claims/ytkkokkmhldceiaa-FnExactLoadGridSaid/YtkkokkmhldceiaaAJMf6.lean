/- Written by a program of this session (wip/patch_print.py over the kit's printer). -/
import Derived.Test.YtkkokkmhldceiaaAM0
import Derived.Test.YtkkokkmhldceiaaAHBegin
import Derived.Test.YtkkokkmhldceiaaAJMf89
namespace Go.Proofs.Ytkkokkmhldceiaa.M
open Go.RowKit Go.Proofs.YtkkokkmhldceiaaW.PrintWords Go.Proofs.YtkkokkmhldceiaaW.PrintLast Go.Proofs.YtkkokkmhldceiaaW.PrintMore
attribute [local go_sem] max2_int min2_int max_two min_two max_three min_three max_four min_four   -- for this text's walks alone
set_option linter.unusedVariables false
set_option linter.unusedSimpArgs false

/-! ### spec_LoadGrid: function 6 -/
def spec_LoadGrid.f (k : Nat) (a0 : ByteArray) : Option (Cx × Cx × Cx × (List (S69)) × (List (S72)) × Bool) := (spec_l10Begin.f k a0).bind fun bt195 => (if bt195.2.2.2.2.2.2 = true then (if bt195.2.2.2.2.2.1 = (a0.size : Int) then (some (bt195.1, bt195.2.1, bt195.2.2.1, bt195.2.2.2.1, bt195.2.2.2.2.1, true)) else (some ((⟨0, 0⟩ : Cx), (⟨0, 0⟩ : Cx), (⟨0, 0⟩ : Cx), ([] : List (S69)), ([] : List (S72)), false))) else (some ((⟨0, 0⟩ : Cx), (⟨0, 0⟩ : Cx), (⟨0, 0⟩ : Cx), ([] : List (S69)), ([] : List (S72)), false)))
theorem spec_LoadGrid.mono : ∀ a0 k, LeO (spec_LoadGrid.f k a0) (spec_LoadGrid.f (k + 1) a0) := by
  intro a0 k
  unfold spec_LoadGrid.f
  repeat' first
      | (with_reducible exact spec_l10Begin.mono _ _)
      | (with_reducible exact LeO.refl _)
      | (with_reducible refine LeO.bind ?_ (fun _ => ?_))
set_option maxHeartbeats 8000000 in
set_option maxRecDepth 100000 in
theorem spec_LoadGrid.calls (k : Nat) (a0 : ByteArray) (r1 : Cx) (r2 : Cx) (r3 : Cx) (r4 : List (S69)) (r5 : List (S72)) (r6 : Bool) (w : World) (h : spec_LoadGrid.f k a0 = some (r1, r2, r3, r4, r5, r6)) :
    Calls Try.prog 6 #[.string a0] w fun e w' => ∃ v3_ v4_ : Value, e = .returned (.tuple #[.agg #[.complex .f32 r1.re r1.im, .complex .f32 r2.re r2.im, .complex .f32 r3.re r3.im, v3_, v4_], .bool r6]) ∧ Kd.R k69 69 w' w.heap.size (fun _ => True) v3_ r4 ∧ Kd.R k72 72 w' w.heap.size (fun _ => True) v4_ r5 ∧ Below w.heap.size w w' := by
  have hu30 := Try.underlying30
  have HB := Aside0.mk (Below.refl w.heap.size w)
  have H : ((spec_l10Begin.f k a0).bind fun bt195 => (if bt195.2.2.2.2.2.2 = true then (if bt195.2.2.2.2.2.1 = (a0.size : Int) then (some (bt195.1, bt195.2.1, bt195.2.2.1, bt195.2.2.2.1, bt195.2.2.2.2.1, true)) else (some ((⟨0, 0⟩ : Cx), (⟨0, 0⟩ : Cx), (⟨0, 0⟩ : Cx), ([] : List (S69)), ([] : List (S72)), false))) else (some ((⟨0, 0⟩ : Cx), (⟨0, 0⟩ : Cx), (⟨0, 0⟩ : Cx), ([] : List (S69)), ([] : List (S72)), false)))) = some (r1, r2, r3, r4, r5, r6) := h
  clear h
  replace H := Option.bind_eq_some_iff.mp H
  obtain ⟨⟨t195, t196, t197, t198, t201, t204, t205⟩, A20, H⟩ := H
  replace H : (if t205 = true then (if t204 = (a0.size : Int) then (some (t195, t196, t197, t198, t201, true)) else (some ((⟨0, 0⟩ : Cx), (⟨0, 0⟩ : Cx), (⟨0, 0⟩ : Cx), ([] : List (S69)), ([] : List (S72)), false))) else (some ((⟨0, 0⟩ : Cx), (⟨0, 0⟩ : Cx), (⟨0, 0⟩ : Cx), ([] : List (S69)), ([] : List (S72)), false))) = some (r1, r2, r3, r4, r5, r6) := H
  have A2 := Aside0.mk A20
  clear A20
  by_cases c3 : t205 = true
  · subst c3
    have H1 : (if t204 = (a0.size : Int) then (some (t195, t196, t197, t198, t201, true)) else (some ((⟨0, 0⟩ : Cx), (⟨0, 0⟩ : Cx), (⟨0, 0⟩ : Cx), ([] : List (S69)), ([] : List (S72)), false))) = some (r1, r2, r3, r4, r5, r6) := by rw [if_pos rfl] at H; exact H
    clear H
    have H := H1
    clear H1
    by_cases c4 : t204 = (a0.size : Int)
    · rw [if_pos c4] at H
      have c4b0 : (t204 == (a0.size : Int)) = true := beq_iff_eq.mpr c4
      have c4b1 : (t204 != (a0.size : Int)) = false := bne_eq_false_iff_eq.mpr c4
      clear c4
      simp only [Option.some.injEq, Prod.mk.injEq] at H
      obtain ⟨rfl, rfl, rfl, rfl, rfl, rfl⟩ := H
      go_enter Try.func6, Try.ntmps6
      go_wp2_with (first | ((with_reducible refine gate_dst (N := 2) rfl ?_); (try (refine gate_guard (by rfl) ?_; dsimp only)); refine box_event ?hg (N := 2) ?hd (cs := #[.complex .f32 0 0, .complex .f32 0 0, .complex .f32 0 0, .slice none 0 0, .slice none 0 0]) (t := 30) ?hr ?_; (case hd => rfl); (case hg => rfl); (case hr => (go_simp; done)); intro gb194 hg w5 hbox hb; have n0_ := Aside0.mk (below_step (by with_reducible exact HB.out) hb); have n1_ := Aside0.mk (hbox); have n2_ := Aside0.mk ((by rw [hg]; exact (below_size (by with_reducible exact HB.out)) : w.heap.size ≤ gb194)); have n3_ := Aside0.mk ((by rw [hg]; exact (below_size (by with_reducible exact HB.out)) : w.heap.size ≤ gb194)); clear HB; have HB := n0_; have BK194 := n1_; have GW194 := n2_; have GE194 := n3_; clear n0_ n1_ n2_ n3_; clear hb hbox hg) | ((with_reducible refine gate_callee (f := 18) rfl ?_); refine goesL_ (some 9) rfl rfl Try.func18 (by kernel_rfl) rfl #[.string a0] rfl (by (try simp only [List.map_toArray, List.map_cons, List.map_nil]); rfl) ?_; (with_reducible refine (spec_l10Begin.calls k a0 t195 t196 t197 t198 t201 t204 true _ A2.out).mono ?_); rintro e w6 ⟨v199, v202, rfl, ho0, ho1, hb⟩; refine ⟨_, rfl, ?_⟩; have n0_ := Aside0.mk (Kd.R_lower ho0 (below_size (by with_reducible exact HB.out))); have n1_ := Aside0.mk (Kd.R_lower ho1 (below_size (by with_reducible exact HB.out))); have n2_ := Aside0.mk (blk_below (g := gb194) (o := .cells #[.complex .f32 0 0, .complex .f32 0 0, .complex .f32 0 0, .slice none 0 0, .slice none 0 0] 30 (0, 0)) (by exact BK194.out) hb); have n3_ := Aside0.mk (below_step (by with_reducible exact HB.out) hb); clear BK194; clear HB; have HO200 := n0_; have HO203 := n1_; have BK194 := n2_; have HB := n3_; clear n0_ n1_ n2_ n3_; (try clear hb); (try clear hb2); (try clear hk); (try clear hi); (try clear ho0); (try clear ho1)) | ((with_reducible refine gate_dst (N := 4) rfl ?_); (try (refine gate_guard (by rfl) ?_; dsimp only)); refine box_event ?hg (N := 4) ?hd (cs := #[.complex .f32 0 0, .complex .f32 0 0, .complex .f32 0 0, .slice none 0 0, .slice none 0 0]) (t := 30) ?hr ?_; (case hd => rfl); (case hg => rfl); (case hr => (go_simp; done)); intro gb206 hg w7 hbox hb; have n0_ := Aside0.mk (Kd.R_below (by exact HO200.out) hb); have n1_ := Aside0.mk (Kd.R_below (by exact HO203.out) hb); have n2_ := Aside0.mk (blk_below (g := gb194) (o := .cells #[.complex .f32 0 0, .complex .f32 0 0, .complex .f32 0 0, .slice none 0 0, .slice none 0 0] 30 (0, 0)) (by exact BK194.out) hb); have n3_ := Aside0.mk (below_step (by with_reducible exact HB.out) hb); have n4_ := Aside0.mk (hbox); have n5_ := Aside0.mk ((by rw [hg]; exact (below_size (by with_reducible exact HB.out)) : w.heap.size ≤ gb206)); have n6_ := Aside0.mk ((by rw [hg]; exact (below_size (by with_reducible exact HB.out)) : w.heap.size ≤ gb206)); have n7_ := Aside0.mk ((by rw [hg]; exact Nat.ne_of_lt (blk_lt (g := gb194) (o := .cells #[.complex .f32 0 0, .complex .f32 0 0, .complex .f32 0 0, .slice none 0 0, .slice none 0 0] 30 (0, 0)) (by exact BK194.out)) : gb194 ≠ gb206)); have n8_ := Aside0.mk ((by rw [hg]; exact Nat.ne_of_gt (blk_lt (g := gb194) (o := .cells #[.complex .f32 0 0, .complex .f32 0 0, .complex .f32 0 0, .slice none 0 0, .slice none 0 0] 30 (0, 0)) (by exact BK194.out)) : gb206 ≠ gb194)); clear HO200; clear HO203; clear BK194; clear HB; have HO200 := n0_; have HO203 := n1_; have BK194 := n2_; have HB := n3_; have BK206 := n4_; have GW206 := n5_; have GE206 := n6_; have NB194_206 := n7_; have NB206_194 := n8_; clear n0_ n1_ n2_ n3_ n4_ n5_ n6_ n7_ n8_; clear hb hbox hg; have hnb8 := NB206_194.out; have hnc8 := NB194_206.out; have hcz9_0 : w7.cell? ⟨gb206, 0, none⟩ = some (.complex .f32 0 0) := (blk_cell BK206.out 0).trans rfl; have hcz9_1 : w7.cell? ⟨gb206, 1, none⟩ = some (.complex .f32 0 0) := (blk_cell BK206.out 1).trans rfl; have hcz9_2 : w7.cell? ⟨gb206, 2, none⟩ = some (.complex .f32 0 0) := (blk_cell BK206.out 2).trans rfl; have hcz9_3 : w7.cell? ⟨gb206, 3, none⟩ = some (.slice none 0 0) := (blk_cell BK206.out 3).trans rfl; have hcz9_4 : w7.cell? ⟨gb206, 4, none⟩ = some (.slice none 0 0) := (blk_cell BK206.out 4).trans rfl; have hfz9_0 := blk_frozen BK206.out 0; have hfz9_1 := blk_frozen BK206.out 1; have hfz9_2 := blk_frozen BK206.out 2; have hfz9_3 := blk_frozen BK206.out 3; have hfz9_4 := blk_frozen BK206.out 4; obtain ⟨Ao10, co10, eo10⟩ := Kd.R_slice HO200.out; subst eo10; obtain ⟨Ao11, co11, eo11⟩ := Kd.R_slice HO203.out; subst eo11; have hcz12_0 : w7.cell? ⟨gb194, 0, none⟩ = some (.complex .f32 0 0) := (blk_cell BK194.out 0).trans rfl; have hcz12_1 : w7.cell? ⟨gb194, 1, none⟩ = some (.complex .f32 0 0) := (blk_cell BK194.out 1).trans rfl; have hcz12_2 : w7.cell? ⟨gb194, 2, none⟩ = some (.complex .f32 0 0) := (blk_cell BK194.out 2).trans rfl; have hcz12_3 : w7.cell? ⟨gb194, 3, none⟩ = some (.slice none 0 0) := (blk_cell BK194.out 3).trans rfl; have hcz12_4 : w7.cell? ⟨gb194, 4, none⟩ = some (.slice none 0 0) := (blk_cell BK194.out 4).trans rfl; have hfz12_0 := blk_frozen BK194.out 0; have hfz12_1 := blk_frozen BK194.out 1; have hfz12_2 := blk_frozen BK194.out 2; have hfz12_3 := blk_frozen BK194.out 3; have hfz12_4 := blk_frozen BK194.out 4))
      refine bodyPost_ret (results_ct rfl _ _ gb194 30 #[.complex .f32 t195.re t195.im, .complex .f32 t196.re t196.im, .complex .f32 t197.re t197.im, .slice Ao10 t198.length co10, .slice Ao11 t201.length co11] (0, 0) _ rfl (by refine blk_put (cs := #[.complex .f32 t195.re t195.im, .complex .f32 t196.re t196.im, .complex .f32 t197.re t197.im, .slice Ao10 t198.length co10, .slice none 0 0]) ?_ 4 _ rfl; refine blk_put (cs := #[.complex .f32 t195.re t195.im, .complex .f32 t196.re t196.im, .complex .f32 t197.re t197.im, .slice none 0 0, .slice none 0 0]) ?_ 3 _ rfl; refine blk_put (cs := #[.complex .f32 t195.re t195.im, .complex .f32 t196.re t196.im, .complex .f32 0 0, .slice none 0 0, .slice none 0 0]) ?_ 2 _ rfl; refine blk_put (cs := #[.complex .f32 t195.re t195.im, .complex .f32 0 0, .complex .f32 0 0, .slice none 0 0, .slice none 0 0]) ?_ 1 _ rfl; refine blk_put (cs := #[.complex .f32 0 0, .complex .f32 0 0, .complex .f32 0 0, .slice none 0 0, .slice none 0 0]) ?_ 0 _ rfl; refine blk_far ?_ NB194_206.out _; refine blk_far ?_ NB194_206.out _; refine blk_far ?_ NB194_206.out _; refine blk_far ?_ NB194_206.out _; refine blk_far ?_ NB194_206.out _; exact BK194.out) Try.underlying30 rfl (by kernel_rfl)) rfl ?_
      exact ⟨_, _, by rfl, by exact Kd.R_mono (Kd.R_far (p := ⟨gb194, 4, none⟩) (Kd.R_far (p := ⟨gb194, 3, none⟩) (Kd.R_far (p := ⟨gb194, 2, none⟩) (Kd.R_far (p := ⟨gb194, 1, none⟩) (Kd.R_far (p := ⟨gb194, 0, none⟩) (Kd.R_far (p := ⟨gb206, 4, none⟩) (Kd.R_far (p := ⟨gb206, 3, none⟩) (Kd.R_far (p := ⟨gb206, 2, none⟩) (Kd.R_far (p := ⟨gb206, 1, none⟩) (Kd.R_far (p := ⟨gb206, 0, none⟩) (Kd.R_types (Kd.R_types HO200.out BK206.out (by decide)) BK194.out (by decide)) (fun _ hk => hk.1.2) (.complex .f32 t195.re t195.im)) (fun _ hk => hk.1.2) (.complex .f32 t196.re t196.im)) (fun _ hk => hk.1.2) (.complex .f32 t197.re t197.im)) (fun _ hk => hk.1.2) (.slice Ao10 t198.length co10)) (fun _ hk => hk.1.2) (.slice Ao11 t201.length co11)) (fun _ hk => hk.2) (.complex .f32 t195.re t195.im)) (fun _ hk => hk.2) (.complex .f32 t196.re t196.im)) (fun _ hk => hk.2) (.complex .f32 t197.re t197.im)) (fun _ hk => hk.2) (.slice Ao10 t198.length co10)) (fun _ hk => hk.2) (.slice Ao11 t201.length co11)) (fun _ hk => trivial), by exact Kd.R_mono (Kd.R_far (p := ⟨gb194, 4, none⟩) (Kd.R_far (p := ⟨gb194, 3, none⟩) (Kd.R_far (p := ⟨gb194, 2, none⟩) (Kd.R_far (p := ⟨gb194, 1, none⟩) (Kd.R_far (p := ⟨gb194, 0, none⟩) (Kd.R_far (p := ⟨gb206, 4, none⟩) (Kd.R_far (p := ⟨gb206, 3, none⟩) (Kd.R_far (p := ⟨gb206, 2, none⟩) (Kd.R_far (p := ⟨gb206, 1, none⟩) (Kd.R_far (p := ⟨gb206, 0, none⟩) (Kd.R_types (Kd.R_types HO203.out BK206.out (by decide)) BK194.out (by decide)) (fun _ hk => hk.1.2) (.complex .f32 t195.re t195.im)) (fun _ hk => hk.1.2) (.complex .f32 t196.re t196.im)) (fun _ hk => hk.1.2) (.complex .f32 t197.re t197.im)) (fun _ hk => hk.1.2) (.slice Ao10 t198.length co10)) (fun _ hk => hk.1.2) (.slice Ao11 t201.length co11)) (fun _ hk => hk.2) (.complex .f32 t195.re t195.im)) (fun _ hk => hk.2) (.complex .f32 t196.re t196.im)) (fun _ hk => hk.2) (.complex .f32 t197.re t197.im)) (fun _ hk => hk.2) (.slice Ao10 t198.length co10)) (fun _ hk => hk.2) (.slice Ao11 t201.length co11)) (fun _ hk => trivial), by repeat ((with_reducible first | exact HB.out | refine below_set ?_ GE194.out | refine below_set ?_ GE206.out))⟩
    · rw [if_neg c4] at H
      have c4b0 : (t204 == (a0.size : Int)) = false := beq_eq_false_iff_ne.mpr c4
      have c4b1 : (t204 != (a0.size : Int)) = true := bne_iff_ne.mpr c4
      simp only [Option.some.injEq, Prod.mk.injEq] at H
      obtain ⟨rfl, rfl, rfl, rfl, rfl, rfl⟩ := H
      go_enter Try.func6, Try.ntmps6
      go_wp2_with (first | ((with_reducible refine gate_dst (N := 2) rfl ?_); (try (refine gate_guard (by rfl) ?_; dsimp only)); refine box_event ?hg (N := 2) ?hd (cs := #[.complex .f32 0 0, .complex .f32 0 0, .complex .f32 0 0, .slice none 0 0, .slice none 0 0]) (t := 30) ?hr ?_; (case hd => rfl); (case hg => rfl); (case hr => (go_simp; done)); intro gb194 hg w13 hbox hb; have n0_ := Aside0.mk (below_step (by with_reducible exact HB.out) hb); have n1_ := Aside0.mk (hbox); have n2_ := Aside0.mk ((by rw [hg]; exact (below_size (by with_reducible exact HB.out)) : w.heap.size ≤ gb194)); have n3_ := Aside0.mk ((by rw [hg]; exact (below_size (by with_reducible exact HB.out)) : w.heap.size ≤ gb194)); clear HB; have HB := n0_; have BK194 := n1_; have GW194 := n2_; have GE194 := n3_; clear n0_ n1_ n2_ n3_; clear hb hbox hg) | ((with_reducible refine gate_callee (f := 18) rfl ?_); refine goesL_ (some 9) rfl rfl Try.func18 (by kernel_rfl) rfl #[.string a0] rfl (by (try simp only [List.map_toArray, List.map_cons, List.map_nil]); rfl) ?_; (with_reducible refine (spec_l10Begin.calls k a0 t195 t196 t197 t198 t201 t204 true _ A2.out).mono ?_); rintro e w14 ⟨v199, v202, rfl, ho0, ho1, hb⟩; refine ⟨_, rfl, ?_⟩; have n0_ := Aside0.mk (Kd.R_lower ho0 (below_size (by with_reducible exact HB.out))); have n1_ := Aside0.mk (Kd.R_lower ho1 (below_size (by with_reducible exact HB.out))); have n2_ := Aside0.mk (blk_below (g := gb194) (o := .cells #[.complex .f32 0 0, .complex .f32 0 0, .complex .f32 0 0, .slice none 0 0, .slice none 0 0] 30 (0, 0)) (by exact BK194.out) hb); have n3_ := Aside0.mk (below_step (by with_reducible exact HB.out) hb); clear BK194; clear HB; have HO200 := n0_; have HO203 := n1_; have BK194 := n2_; have HB := n3_; clear n0_ n1_ n2_ n3_; (try clear hb); (try clear hb2); (try clear hk); (try clear hi); (try clear ho0); (try clear ho1)) | ((with_reducible refine gate_dst (N := 4) rfl ?_); (try (refine gate_guard (by rfl) ?_; dsimp only)); refine box_event ?hg (N := 4) ?hd (cs := #[.complex .f32 0 0, .complex .f32 0 0, .complex .f32 0 0, .slice none 0 0, .slice none 0 0]) (t := 30) ?hr ?_; (case hd => rfl); (case hg => rfl); (case hr => (go_simp; done)); intro gb206 hg w15 hbox hb; have n0_ := Aside0.mk (Kd.R_below (by exact HO200.out) hb); have n1_ := Aside0.mk (Kd.R_below (by exact HO203.out) hb); have n2_ := Aside0.mk (blk_below (g := gb194) (o := .cells #[.complex .f32 0 0, .complex .f32 0 0, .complex .f32 0 0, .slice none 0 0, .slice none 0 0] 30 (0, 0)) (by exact BK194.out) hb); have n3_ := Aside0.mk (below_step (by with_reducible exact HB.out) hb); have n4_ := Aside0.mk (hbox); have n5_ := Aside0.mk ((by rw [hg]; exact (below_size (by with_reducible exact HB.out)) : w.heap.size ≤ gb206)); have n6_ := Aside0.mk ((by rw [hg]; exact (below_size (by with_reducible exact HB.out)) : w.heap.size ≤ gb206)); have n7_ := Aside0.mk ((by rw [hg]; exact Nat.ne_of_lt (blk_lt (g := gb194) (o := .cells #[.complex .f32 0 0, .complex .f32 0 0, .complex .f32 0 0, .slice none 0 0, .slice none 0 0] 30 (0, 0)) (by exact BK194.out)) : gb194 ≠ gb206)); have n8_ := Aside0.mk ((by rw [hg]; exact Nat.ne_of_gt (blk_lt (g := gb194) (o := .cells #[.complex .f32 0 0, .complex .f32 0 0, .complex .f32 0 0, .slice none 0 0, .slice none 0 0] 30 (0, 0)) (by exact BK194.out)) : gb206 ≠ gb194)); clear HO200; clear HO203; clear BK194; clear HB; have HO200 := n0_; have HO203 := n1_; have BK194 := n2_; have HB := n3_; have BK206 := n4_; have GW206 := n5_; have GE206 := n6_; have NB194_206 := n7_; have NB206_194 := n8_; clear n0_ n1_ n2_ n3_ n4_ n5_ n6_ n7_ n8_; clear hb hbox hg; have hnb16 := NB206_194.out; have hnc16 := NB194_206.out; have hcz17_0 : w15.cell? ⟨gb206, 0, none⟩ = some (.complex .f32 0 0) := (blk_cell BK206.out 0).trans rfl; have hcz17_1 : w15.cell? ⟨gb206, 1, none⟩ = some (.complex .f32 0 0) := (blk_cell BK206.out 1).trans rfl; have hcz17_2 : w15.cell? ⟨gb206, 2, none⟩ = some (.complex .f32 0 0) := (blk_cell BK206.out 2).trans rfl; have hcz17_3 : w15.cell? ⟨gb206, 3, none⟩ = some (.slice none 0 0) := (blk_cell BK206.out 3).trans rfl; have hcz17_4 : w15.cell? ⟨gb206, 4, none⟩ = some (.slice none 0 0) := (blk_cell BK206.out 4).trans rfl; have hfz17_0 := blk_frozen BK206.out 0; have hfz17_1 := blk_frozen BK206.out 1; have hfz17_2 := blk_frozen BK206.out 2; have hfz17_3 := blk_frozen BK206.out 3; have hfz17_4 := blk_frozen BK206.out 4; obtain ⟨Ao18, co18, eo18⟩ := Kd.R_slice HO200.out; subst eo18; obtain ⟨Ao19, co19, eo19⟩ := Kd.R_slice HO203.out; subst eo19; have hcz20_0 : w15.cell? ⟨gb194, 0, none⟩ = some (.complex .f32 0 0) := (blk_cell BK194.out 0).trans rfl; have hcz20_1 : w15.cell? ⟨gb194, 1, none⟩ = some (.complex .f32 0 0) := (blk_cell BK194.out 1).trans rfl; have hcz20_2 : w15.cell? ⟨gb194, 2, none⟩ = some (.complex .f32 0 0) := (blk_cell BK194.out 2).trans rfl; have hcz20_3 : w15.cell? ⟨gb194, 3, none⟩ = some (.slice none 0 0) := (blk_cell BK194.out 3).trans rfl; have hcz20_4 : w15.cell? ⟨gb194, 4, none⟩ = some (.slice none 0 0) := (blk_cell BK194.out 4).trans rfl; have hfz20_0 := blk_frozen BK194.out 0; have hfz20_1 := blk_frozen BK194.out 1; have hfz20_2 := blk_frozen BK194.out 2; have hfz20_3 := blk_frozen BK194.out 3; have hfz20_4 := blk_frozen BK194.out 4))
      refine bodyPost_ret (results_ct rfl _ _ gb194 30 #[.complex .f32 0 0, .complex .f32 0 0, .complex .f32 0 0, .slice none 0 0, .slice none 0 0] (0, 0) _ rfl (by refine blk_put (cs := #[.complex .f32 0 0, .complex .f32 0 0, .complex .f32 0 0, .slice none 0 0, .slice none 0 0]) ?_ 4 _ rfl; refine blk_put (cs := #[.complex .f32 0 0, .complex .f32 0 0, .complex .f32 0 0, .slice none 0 0, .slice none 0 0]) ?_ 3 _ rfl; refine blk_put (cs := #[.complex .f32 0 0, .complex .f32 0 0, .complex .f32 0 0, .slice none 0 0, .slice none 0 0]) ?_ 2 _ rfl; refine blk_put (cs := #[.complex .f32 0 0, .complex .f32 0 0, .complex .f32 0 0, .slice none 0 0, .slice none 0 0]) ?_ 1 _ rfl; refine blk_put (cs := #[.complex .f32 0 0, .complex .f32 0 0, .complex .f32 0 0, .slice none 0 0, .slice none 0 0]) ?_ 0 _ rfl; refine blk_far ?_ NB194_206.out _; refine blk_far ?_ NB194_206.out _; refine blk_far ?_ NB194_206.out _; refine blk_far ?_ NB194_206.out _; refine blk_far ?_ NB194_206.out _; exact BK194.out) Try.underlying30 rfl (by kernel_rfl)) rfl ?_
      exact ⟨_, _, by rfl, by exact Kd.R_nil _ _ _ _ _, by exact Kd.R_nil _ _ _ _ _, by repeat ((with_reducible first | exact HB.out | refine below_set ?_ GE194.out | refine below_set ?_ GE206.out))⟩
  · replace c3 := Bool.eq_false_iff.mpr c3
    subst c3
    have H1 : (some ((⟨0, 0⟩ : Cx), (⟨0, 0⟩ : Cx), (⟨0, 0⟩ : Cx), ([] : List (S69)), ([] : List (S72)), false)) = some (r1, r2, r3, r4, r5, r6) := by rw [if_neg (show ¬ (false = true) by decide)] at H; exact H
    clear H
    have H := H1
    clear H1
    simp only [Option.some.injEq, Prod.mk.injEq] at H
    obtain ⟨rfl, rfl, rfl, rfl, rfl, rfl⟩ := H
    go_enter Try.func6, Try.ntmps6
    go_wp2_with (first | ((with_reducible refine gate_dst (N := 2) rfl ?_); (try (refine gate_guard (by rfl) ?_; dsimp only)); refine box_event ?hg (N := 2) ?hd (cs := #[.complex .f32 0 0, .complex .f32 0 0, .complex .f32 0 0, .slice none 0 0, .slice none 0 0]) (t := 30) ?hr ?_; (case hd => rfl); (case hg => rfl); (case hr => (go_simp; done)); intro gb194 hg w21 hbox hb; have n0_ := Aside0.mk (below_step (by with_reducible exact HB.out) hb); have n1_ := Aside0.mk (hbox); have n2_ := Aside0.mk ((by rw [hg]; exact (below_size (by with_reducible exact HB.out)) : w.heap.size ≤ gb194)); have n3_ := Aside0.mk ((by rw [hg]; exact (below_size (by with_reducible exact HB.out)) : w.heap.size ≤ gb194)); clear HB; have HB := n0_; have BK194 := n1_; have GW194 := n2_; have GE194 := n3_; clear n0_ n1_ n2_ n3_; clear hb hbox hg) | ((with_reducible refine gate_callee (f := 18) rfl ?_); refine goesL_ (some 9) rfl rfl Try.func18 (by kernel_rfl) rfl #[.string a0] rfl (by (try simp only [List.map_toArray, List.map_cons, List.map_nil]); rfl) ?_; (with_reducible refine (spec_l10Begin.calls k a0 t195 t196 t197 t198 t201 t204 false _ A2.out).mono ?_); rintro e w22 ⟨v199, v202, rfl, ho0, ho1, hb⟩; refine ⟨_, rfl, ?_⟩; have n0_ := Aside0.mk (Kd.R_lower ho0 (below_size (by with_reducible exact HB.out))); have n1_ := Aside0.mk (Kd.R_lower ho1 (below_size (by with_reducible exact HB.out))); have n2_ := Aside0.mk (blk_below (g := gb194) (o := .cells #[.complex .f32 0 0, .complex .f32 0 0, .complex .f32 0 0, .slice none 0 0, .slice none 0 0] 30 (0, 0)) (by exact BK194.out) hb); have n3_ := Aside0.mk (below_step (by with_reducible exact HB.out) hb); clear BK194; clear HB; have HO200 := n0_; have HO203 := n1_; have BK194 := n2_; have HB := n3_; clear n0_ n1_ n2_ n3_; (try clear hb); (try clear hb2); (try clear hk); (try clear hi); (try clear ho0); (try clear ho1)) | ((with_reducible refine gate_dst (N := 4) rfl ?_); (try (refine gate_guard (by rfl) ?_; dsimp only)); refine box_event ?hg (N := 4) ?hd (cs := #[.complex .f32 0 0, .complex .f32 0 0, .complex .f32 0 0, .slice none 0 0, .slice none 0 0]) (t := 30) ?hr ?_; (case hd => rfl); (case hg => rfl); (case hr => (go_simp; done)); intro gb206 hg w23 hbox hb; have n0_ := Aside0.mk (Kd.R_below (by exact HO200.out) hb); have n1_ := Aside0.mk (Kd.R_below (by exact HO203.out) hb); have n2_ := Aside0.mk (blk_below (g := gb194) (o := .cells #[.complex .f32 0 0, .complex .f32 0 0, .complex .f32 0 0, .slice none 0 0, .slice none 0 0] 30 (0, 0)) (by exact BK194.out) hb); have n3_ := Aside0.mk (below_step (by with_reducible exact HB.out) hb); have n4_ := Aside0.mk (hbox); have n5_ := Aside0.mk ((by rw [hg]; exact (below_size (by with_reducible exact HB.out)) : w.heap.size ≤ gb206)); have n6_ := Aside0.mk ((by rw [hg]; exact (below_size (by with_reducible exact HB.out)) : w.heap.size ≤ gb206)); have n7_ := Aside0.mk ((by rw [hg]; exact Nat.ne_of_lt (blk_lt (g := gb194) (o := .cells #[.complex .f32 0 0, .complex .f32 0 0, .complex .f32 0 0, .slice none 0 0, .slice none 0 0] 30 (0, 0)) (by exact BK194.out)) : gb194 ≠ gb206)); have n8_ := Aside0.mk ((by rw [hg]; exact Nat.ne_of_gt (blk_lt (g := gb194) (o := .cells #[.complex .f32 0 0, .complex .f32 0 0, .complex .f32 0 0, .slice none 0 0, .slice none 0 0] 30 (0, 0)) (by exact BK194.out)) : gb206 ≠ gb194)); clear HO200; clear HO203; clear BK194; clear HB; have HO200 := n0_; have HO203 := n1_; have BK194 := n2_; have HB := n3_; have BK206 := n4_; have GW206 := n5_; have GE206 := n6_; have NB194_206 := n7_; have NB206_194 := n8_; clear n0_ n1_ n2_ n3_ n4_ n5_ n6_ n7_ n8_; clear hb hbox hg; have hnb24 := NB206_194.out; have hnc24 := NB194_206.out; have hcz25_0 : w23.cell? ⟨gb206, 0, none⟩ = some (.complex .f32 0 0) := (blk_cell BK206.out 0).trans rfl; have hcz25_1 : w23.cell? ⟨gb206, 1, none⟩ = some (.complex .f32 0 0) := (blk_cell BK206.out 1).trans rfl; have hcz25_2 : w23.cell? ⟨gb206, 2, none⟩ = some (.complex .f32 0 0) := (blk_cell BK206.out 2).trans rfl; have hcz25_3 : w23.cell? ⟨gb206, 3, none⟩ = some (.slice none 0 0) := (blk_cell BK206.out 3).trans rfl; have hcz25_4 : w23.cell? ⟨gb206, 4, none⟩ = some (.slice none 0 0) := (blk_cell BK206.out 4).trans rfl; have hfz25_0 := blk_frozen BK206.out 0; have hfz25_1 := blk_frozen BK206.out 1; have hfz25_2 := blk_frozen BK206.out 2; have hfz25_3 := blk_frozen BK206.out 3; have hfz25_4 := blk_frozen BK206.out 4; obtain ⟨Ao26, co26, eo26⟩ := Kd.R_slice HO200.out; subst eo26; obtain ⟨Ao27, co27, eo27⟩ := Kd.R_slice HO203.out; subst eo27; have hcz28_0 : w23.cell? ⟨gb194, 0, none⟩ = some (.complex .f32 0 0) := (blk_cell BK194.out 0).trans rfl; have hcz28_1 : w23.cell? ⟨gb194, 1, none⟩ = some (.complex .f32 0 0) := (blk_cell BK194.out 1).trans rfl; have hcz28_2 : w23.cell? ⟨gb194, 2, none⟩ = some (.complex .f32 0 0) := (blk_cell BK194.out 2).trans rfl; have hcz28_3 : w23.cell? ⟨gb194, 3, none⟩ = some (.slice none 0 0) := (blk_cell BK194.out 3).trans rfl; have hcz28_4 : w23.cell? ⟨gb194, 4, none⟩ = some (.slice none 0 0) := (blk_cell BK194.out 4).trans rfl; have hfz28_0 := blk_frozen BK194.out 0; have hfz28_1 := blk_frozen BK194.out 1; have hfz28_2 := blk_frozen BK194.out 2; have hfz28_3 := blk_frozen BK194.out 3; have hfz28_4 := blk_frozen BK194.out 4))
    refine bodyPost_ret (results_ct rfl _ _ gb194 30 #[.complex .f32 0 0, .complex .f32 0 0, .complex .f32 0 0, .slice none 0 0, .slice none 0 0] (0, 0) _ rfl (by refine blk_put (cs := #[.complex .f32 0 0, .complex .f32 0 0, .complex .f32 0 0, .slice none 0 0, .slice none 0 0]) ?_ 4 _ rfl; refine blk_put (cs := #[.complex .f32 0 0, .complex .f32 0 0, .complex .f32 0 0, .slice none 0 0, .slice none 0 0]) ?_ 3 _ rfl; refine blk_put (cs := #[.complex .f32 0 0, .complex .f32 0 0, .complex .f32 0 0, .slice none 0 0, .slice none 0 0]) ?_ 2 _ rfl; refine blk_put (cs := #[.complex .f32 0 0, .complex .f32 0 0, .complex .f32 0 0, .slice none 0 0, .slice none 0 0]) ?_ 1 _ rfl; refine blk_put (cs := #[.complex .f32 0 0, .complex .f32 0 0, .complex .f32 0 0, .slice none 0 0, .slice none 0 0]) ?_ 0 _ rfl; refine blk_far ?_ NB194_206.out _; refine blk_far ?_ NB194_206.out _; refine blk_far ?_ NB194_206.out _; refine blk_far ?_ NB194_206.out _; refine blk_far ?_ NB194_206.out _; exact BK194.out) Try.underlying30 rfl (by kernel_rfl)) rfl ?_
    exact ⟨_, _, by rfl, by exact Kd.R_nil _ _ _ _ _, by exact Kd.R_nil _ _ _ _ _, by repeat ((with_reducible first | exact HB.out | refine below_set ?_ GE194.out | refine below_set ?_ GE206.out))⟩

end Go.Proofs.Ytkkokkmhldceiaa.M
/- Written by a program of this session (wip/patch_print.py over the kit's printer). -/
namespace Go.Proofs.Ytkkokkmhldceiaa.M
open Go.RowKit Go.Proofs.YtkkokkmhldceiaaW.PrintWords Go.Proofs.YtkkokkmhldceiaaW.PrintLast Go.Proofs.YtkkokkmhldceiaaW.PrintMore
attribute [local go_sem] max2_int min2_int max_two min_two max_three min_three max_four min_four   -- for this text's walks alone
set_option linter.unusedVariables false
set_option linter.unusedSimpArgs false

/-! ### stringslite_HasPrefix: function 64 -/
def stringslite_HasPrefix.f (a0 : ByteArray) (a1 : ByteArray) : Option (Bool) := if (a0.size : Int) ≥ (a1.size : Int) then (if 0 ≤ (a1.size : Int) then (if (a1.size : Int) ≤ (a0.size : Int) then (some ((a0.extract 0 ((a1.size : Int) : Int).toNat).toList == a1.toList)) else (none)) else (none)) else (some false)
set_option maxHeartbeats 8000000 in
set_option maxRecDepth 100000 in
theorem stringslite_HasPrefix.calls (a0 : ByteArray) (a1 : ByteArray) (r : Bool) (w : World) (h : stringslite_HasPrefix.f a0 a1 = some r) :
    Calls Try.prog 64 #[.string a0, .string a1] w fun e w' => e = .returned (.bool r) ∧ Drawn0 w w' := by
  have H : (if (a0.size : Int) ≥ (a1.size : Int) then (if 0 ≤ (a1.size : Int) then (if (a1.size : Int) ≤ (a0.size : Int) then (some ((a0.extract 0 ((a1.size : Int) : Int).toNat).toList == a1.toList)) else (none)) else (none)) else (some false)) = some r := h
  clear h
  by_cases c3 : (a0.size : Int) ≥ (a1.size : Int)
  · rw [if_pos c3] at H
    have c3b0 : decide ((a1.size : Int) ≤ (a0.size : Int)) = true := decide_eq_true c3
    have c3b1 : decide (a1.size ≤ a0.size) = true := decide_eq_true (Int.ofNat_le.mp c3)
    clear c3
    by_cases c4 : 0 ≤ (a1.size : Int)
    · rw [if_pos c4] at H
      have c4b0 := eq_true c4
      have c4b1 : decide (0 ≤ (a1.size : Int)) = true := decide_eq_true c4
      clear c4
      by_cases c5 : (a1.size : Int) ≤ (a0.size : Int)
      · rw [if_pos c5] at H
        have c5b0 := eq_true c5
        have c5b1 : decide ((a1.size : Int) ≤ (a0.size : Int)) = true := decide_eq_true c5
        clear c5
        obtain rfl := Option.some.inj H
        go_enter Try.func64, Try.ntmps64
        go_wp2
        go_ret
        exact ⟨by first | rfl | (simp; done) | (simp [*]; done), by repeat (first | exact Drawn0.refl _ | apply Drawn0.step)⟩
      · rw [if_neg c5] at H
        exact absurd H (by simp)
    · rw [if_neg c4] at H
      exact absurd H (by simp)
  · rw [if_neg c3] at H
    have c3b0 : decide ((a1.size : Int) ≤ (a0.size : Int)) = false := decide_eq_false c3
    have c3b1 : decide (a1.size ≤ a0.size) = false := decide_eq_false (fun h => c3 (Int.ofNat_le.mpr h))
    clear c3
    obtain rfl := Option.some.inj H
    go_enter Try.func64, Try.ntmps64
    go_wp2
    go_ret
    exact ⟨by first | rfl | (simp; done) | (simp [*]; done), by repeat (first | exact Drawn0.refl _ | apply Drawn0.step)⟩

end Go.Proofs.Ytkkokkmhldceiaa.M
/- Written by a program of this session (wip/patch_print.py over the kit's printer). -/
namespace Go.Proofs.Ytkkokkmhldceiaa.M
open Go.RowKit Go.Proofs.YtkkokkmhldceiaaW.PrintWords Go.Proofs.YtkkokkmhldceiaaW.PrintLast Go.Proofs.YtkkokkmhldceiaaW.PrintMore
attribute [local go_sem] max2_int min2_int max_two min_two max_three min_three max_four min_four   -- for this text's walks alone
set_option linter.unusedVariables false
set_option linter.unusedSimpArgs false

/-! ### strings_HasPrefix: function 39 -/
def strings_HasPrefix.f (a0 : ByteArray) (a1 : ByteArray) : Option (Bool) := (stringslite_HasPrefix.f a0 a1).bind fun t207 => (some t207)
set_option maxHeartbeats 8000000 in
set_option maxRecDepth 100000 in
theorem strings_HasPrefix.calls (a0 : ByteArray) (a1 : ByteArray) (r : Bool) (w : World) (h : strings_HasPrefix.f a0 a1 = some r) :
    Calls Try.prog 39 #[.string a0, .string a1] w fun e w' => e = .returned (.bool r) ∧ Drawn0 w w' := by
  have H : ((stringslite_HasPrefix.f a0 a1).bind fun t207 => (some t207)) = some r := h
  clear h
  replace H := Option.bind_eq_some_iff.mp H
  obtain ⟨t207, A30, H⟩ := H
  replace H : (some t207) = some r := H
  have A3 := Aside0.mk A30
  clear A30
  obtain rfl := Option.some.inj H
  go_enter Try.func39, Try.ntmps39
  go_wp2_with (first | ((with_reducible refine gate_callee (f := 64) rfl ?_); refine goesL_ (some 7) rfl rfl Try.func64 (by kernel_rfl) rfl #[.string a0, .string a1] rfl (by (try simp only [List.map_toArray, List.map_cons, List.map_nil]); first | done | rfl | (simp only [List.length_drop, List.length_take]; rfl)) ?_; (with_reducible refine (stringslite_HasPrefix.calls a0 a1 t207 _ A3.out).mono ?_); rintro e w' ⟨rfl, ⟨nd, rfl⟩⟩; refine ⟨_, rfl, ?_⟩))
  go_ret
  exact ⟨by first | rfl | (simp; done) | (simp [*]; done), by repeat (first | exact Drawn0.refl _ | apply Drawn0.step)⟩

end Go.Proofs.Ytkkokkmhldceiaa.M
/- Written by a program of this session (wip/patch_print.py over the kit's printer). -/
namespace Go.Proofs.Ytkkokkmhldceiaa.M
open Go.RowKit Go.Proofs.YtkkokkmhldceiaaW.PrintWords Go.Proofs.YtkkokkmhldceiaaW.PrintLast Go.Proofs.YtkkokkmhldceiaaW.PrintMore
attribute [local go_sem] max2_int min2_int max_two min_two max_three min_three max_four min_four   -- for this text's walks alone
set_option linter.unusedVariables false
set_option linter.unusedSimpArgs false

/-! ### impl_FromBits: function 93 -/
def impl_FromBits.f (a0 : Int) : Option (Nat × Bool) := (impl_in.f a0 0 4294967295).bind fun t208 => (if t208 = true then (some (((a0) % 4294967296).toNat, true)) else (some (0, false)))
set_option maxHeartbeats 8000000 in
set_option maxRecDepth 100000 in
theorem impl_FromBits.calls (a0 : Int) (r1 : Nat) (r2 : Bool) (w : World) (h : impl_FromBits.f a0 = some (r1, r2)) :
    Calls Try.prog 93 #[.int .i64 a0] w fun e w' => e = .returned (.tuple #[.float .f32 r1, .bool r2]) ∧ Drawn0 w w' := by
  have H : ((impl_in.f a0 0 4294967295).bind fun t208 => (if t208 = true then (some (((a0) % 4294967296).toNat, true)) else (some (0, false)))) = some (r1, r2) := h
  clear h
  replace H := Option.bind_eq_some_iff.mp H
  obtain ⟨t208, A20, H⟩ := H
  replace H : (if t208 = true then (some (((a0) % 4294967296).toNat, true)) else (some (0, false))) = some (r1, r2) := H
  have A2 := Aside0.mk A20
  clear A20
  by_cases c3 : t208 = true
  · subst c3
    have H1 : (some (((a0) % 4294967296).toNat, true)) = some (r1, r2) := by rw [if_pos rfl] at H; exact H
    clear H
    have H := H1
    clear H1
    simp only [Option.some.injEq, Prod.mk.injEq] at H
    obtain ⟨rfl, rfl⟩ := H
    go_enter Try.func93, Try.ntmps93
    go_wp2_with (((with_reducible refine gate_callee (f := 53) rfl ?_); refine goesL_ (some 5) rfl rfl Try.func53 (by kernel_rfl) rfl #[.int .i64 a0, .int .i64 0, .int .i64 4294967295] rfl (by (try simp only [List.map_toArray, List.map_cons, List.map_nil]); rfl) ?_; (with_reducible refine (impl_in.calls a0 0 4294967295 true _ A2.out).mono ?_); rintro e w' ⟨rfl, ⟨nd, rfl⟩⟩; refine ⟨_, rfl, ?_⟩))
    go_ret2
    exact ⟨by rfl, by repeat (first | exact Drawn0.refl _ | apply Drawn0.step)⟩
  · replace c3 := Bool.eq_false_iff.mpr c3
    subst c3
    have H1 : (some (0, false)) = some (r1, r2) := by rw [if_neg (show ¬ (false = true) by decide)] at H; exact H
    clear H
    have H := H1
    clear H1
    simp only [Option.some.injEq, Prod.mk.injEq] at H
    obtain ⟨rfl, rfl⟩ := H
    go_enter Try.func93, Try.ntmps93
    go_wp2_with (((with_reducible refine gate_callee (f := 53) rfl ?_); refine goesL_ (some 5) rfl rfl Try.func53 (by kernel_rfl) rfl #[.int .i64 a0, .int .i64 0, .int .i64 4294967295] rfl (by (try simp only [List.map_toArray, List.map_cons, List.map_nil]); rfl) ?_; (with_reducible refine (impl_in.calls a0 0 4294967295 false _ A2.out).mono ?_); rintro e w' ⟨rfl, ⟨nd, rfl⟩⟩; refine ⟨_, rfl, ?_⟩))
    go_ret2
    exact ⟨by rfl, by repeat (first | exact Drawn0.refl _ | apply Drawn0.step)⟩

end Go.Proofs.Ytkkokkmhldceiaa.M
