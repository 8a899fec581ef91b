/- Written by a program of this session (wip/patch_print.py over the kit's printer). -/
import Derived.Test.YtkkokkmhldceiaaAM0
import Derived.Test.YtkkokkmhldceiaaAHLoad
import Derived.Test.YtkkokkmhldceiaaAHEq
namespace Go.Proofs.Ytkkokkmhldceiaa.M
open Go.RowKit Go.Proofs.YtkkokkmhldceiaaW.PrintWords Go.Proofs.YtkkokkmhldceiaaW.PrintLast Go.Proofs.YtkkokkmhldceiaaW.PrintMore
attribute [local go_sem] max2_int min2_int max_two min_two max_three min_three max_four min_four   -- for this text's walks alone
set_option linter.unusedVariables false
set_option linter.unusedSimpArgs false

/-! ### impl_LoadGrid: function 7 -/
def impl_LoadGrid.f (k : Nat) (a0 : ByteArray) : Option (Cx × Cx × Cx × (List (S69)) × (List (S72)) × Bool) := (impl_loadGrid.f k a0).bind fun bt310 => (if bt310.2.2.2.2.2.2 = true then (if bt310.2.2.2.2.2.1 = (a0.size : Int) then (some (bt310.1, bt310.2.1, bt310.2.2.1, bt310.2.2.2.1, bt310.2.2.2.2.1, true)) else (some ((⟨0, 0⟩ : Cx), (⟨0, 0⟩ : Cx), (⟨0, 0⟩ : Cx), ([] : List (S69)), ([] : List (S72)), false))) else (some ((⟨0, 0⟩ : Cx), (⟨0, 0⟩ : Cx), (⟨0, 0⟩ : Cx), ([] : List (S69)), ([] : List (S72)), false)))
theorem impl_LoadGrid.mono : ∀ a0 k, LeO (impl_LoadGrid.f k a0) (impl_LoadGrid.f (k + 1) a0) := by
  intro a0 k
  unfold impl_LoadGrid.f
  repeat' first
      | (with_reducible exact impl_loadGrid.mono _ _)
      | (with_reducible exact LeO.refl _)
      | (with_reducible refine LeO.bind ?_ (fun _ => ?_))
set_option maxHeartbeats 8000000 in
set_option maxRecDepth 100000 in
theorem impl_LoadGrid.calls (k : Nat) (a0 : ByteArray) (r1 : Cx) (r2 : Cx) (r3 : Cx) (r4 : List (S69)) (r5 : List (S72)) (r6 : Bool) (w : World) (h : impl_LoadGrid.f k a0 = some (r1, r2, r3, r4, r5, r6)) :
    Calls Try.prog 7 #[.string a0] w fun e w' => ∃ v3_ v4_ : Value, e = .returned (.tuple #[.agg #[.complex .f32 r1.re r1.im, .complex .f32 r2.re r2.im, .complex .f32 r3.re r3.im, v3_, v4_], .bool r6]) ∧ Kd.R k69 69 w' w.heap.size (fun _ => True) v3_ r4 ∧ Kd.R k72 72 w' w.heap.size (fun _ => True) v4_ r5 ∧ Below w.heap.size w w' := by
  have hu30 := Try.underlying30
  have HB := Aside0.mk (Below.refl w.heap.size w)
  have H : ((impl_loadGrid.f k a0).bind fun bt310 => (if bt310.2.2.2.2.2.2 = true then (if bt310.2.2.2.2.2.1 = (a0.size : Int) then (some (bt310.1, bt310.2.1, bt310.2.2.1, bt310.2.2.2.1, bt310.2.2.2.2.1, true)) else (some ((⟨0, 0⟩ : Cx), (⟨0, 0⟩ : Cx), (⟨0, 0⟩ : Cx), ([] : List (S69)), ([] : List (S72)), false))) else (some ((⟨0, 0⟩ : Cx), (⟨0, 0⟩ : Cx), (⟨0, 0⟩ : Cx), ([] : List (S69)), ([] : List (S72)), false)))) = some (r1, r2, r3, r4, r5, r6) := h
  clear h
  replace H := Option.bind_eq_some_iff.mp H
  obtain ⟨⟨t310, t311, t312, t313, t316, t319, t320⟩, A20, H⟩ := H
  replace H : (if t320 = true then (if t319 = (a0.size : Int) then (some (t310, t311, t312, t313, t316, true)) else (some ((⟨0, 0⟩ : Cx), (⟨0, 0⟩ : Cx), (⟨0, 0⟩ : Cx), ([] : List (S69)), ([] : List (S72)), false))) else (some ((⟨0, 0⟩ : Cx), (⟨0, 0⟩ : Cx), (⟨0, 0⟩ : Cx), ([] : List (S69)), ([] : List (S72)), false))) = some (r1, r2, r3, r4, r5, r6) := H
  have A2 := Aside0.mk A20
  clear A20
  by_cases c3 : t320 = true
  · subst c3
    have H1 : (if t319 = (a0.size : Int) then (some (t310, t311, t312, t313, t316, true)) else (some ((⟨0, 0⟩ : Cx), (⟨0, 0⟩ : Cx), (⟨0, 0⟩ : Cx), ([] : List (S69)), ([] : List (S72)), false))) = some (r1, r2, r3, r4, r5, r6) := by rw [if_pos rfl] at H; exact H
    clear H
    have H := H1
    clear H1
    by_cases c4 : t319 = (a0.size : Int)
    · rw [if_pos c4] at H
      have c4b0 : (t319 == (a0.size : Int)) = true := beq_iff_eq.mpr c4
      have c4b1 : (t319 != (a0.size : Int)) = false := bne_eq_false_iff_eq.mpr c4
      clear c4
      simp only [Option.some.injEq, Prod.mk.injEq] at H
      obtain ⟨rfl, rfl, rfl, rfl, rfl, rfl⟩ := H
      go_enter Try.func7, Try.ntmps7
      go_wp2_with (first | ((with_reducible refine gate_dst (N := 2) rfl ?_); (try (refine gate_guard (by rfl) ?_; dsimp only)); refine box_event ?hg (N := 2) ?hd (cs := #[.complex .f32 0 0, .complex .f32 0 0, .complex .f32 0 0, .slice none 0 0, .slice none 0 0]) (t := 30) ?hr ?_; (case hd => rfl); (case hg => rfl); (case hr => (go_simp; done)); intro gb309 hg w5 hbox hb; have n0_ := Aside0.mk (below_step (by with_reducible exact HB.out) hb); have n1_ := Aside0.mk (hbox); have n2_ := Aside0.mk ((by rw [hg]; exact (below_size (by with_reducible exact HB.out)) : w.heap.size ≤ gb309)); have n3_ := Aside0.mk ((by rw [hg]; exact (below_size (by with_reducible exact HB.out)) : w.heap.size ≤ gb309)); clear HB; have HB := n0_; have BK309 := n1_; have GW309 := n2_; have GE309 := n3_; clear n0_ n1_ n2_ n3_; clear hb hbox hg) | ((with_reducible refine gate_callee (f := 19) rfl ?_); refine goesL_ (some 9) rfl rfl Try.func19 (by kernel_rfl) rfl #[.string a0] rfl (by (try simp only [List.map_toArray, List.map_cons, List.map_nil]); rfl) ?_; (with_reducible refine (impl_loadGrid.calls k a0 t310 t311 t312 t313 t316 t319 true _ A2.out).mono ?_); rintro e w6 ⟨v314, v317, rfl, ho0, ho1, hb⟩; refine ⟨_, rfl, ?_⟩; have n0_ := Aside0.mk (Kd.R_lower ho0 (below_size (by with_reducible exact HB.out))); have n1_ := Aside0.mk (Kd.R_lower ho1 (below_size (by with_reducible exact HB.out))); have n2_ := Aside0.mk (blk_below (g := gb309) (o := .cells #[.complex .f32 0 0, .complex .f32 0 0, .complex .f32 0 0, .slice none 0 0, .slice none 0 0] 30 (0, 0)) (by exact BK309.out) hb); have n3_ := Aside0.mk (below_step (by with_reducible exact HB.out) hb); clear BK309; clear HB; have HO315 := n0_; have HO318 := n1_; have BK309 := n2_; have HB := n3_; clear n0_ n1_ n2_ n3_; (try clear hb); (try clear hb2); (try clear hk); (try clear hi); (try clear ho0); (try clear ho1)) | ((with_reducible refine gate_dst (N := 4) rfl ?_); (try (refine gate_guard (by rfl) ?_; dsimp only)); refine box_event ?hg (N := 4) ?hd (cs := #[.complex .f32 0 0, .complex .f32 0 0, .complex .f32 0 0, .slice none 0 0, .slice none 0 0]) (t := 30) ?hr ?_; (case hd => rfl); (case hg => rfl); (case hr => (go_simp; done)); intro gb321 hg w7 hbox hb; have n0_ := Aside0.mk (Kd.R_below (by exact HO315.out) hb); have n1_ := Aside0.mk (Kd.R_below (by exact HO318.out) hb); have n2_ := Aside0.mk (blk_below (g := gb309) (o := .cells #[.complex .f32 0 0, .complex .f32 0 0, .complex .f32 0 0, .slice none 0 0, .slice none 0 0] 30 (0, 0)) (by exact BK309.out) hb); have n3_ := Aside0.mk (below_step (by with_reducible exact HB.out) hb); have n4_ := Aside0.mk (hbox); have n5_ := Aside0.mk ((by rw [hg]; exact (below_size (by with_reducible exact HB.out)) : w.heap.size ≤ gb321)); have n6_ := Aside0.mk ((by rw [hg]; exact (below_size (by with_reducible exact HB.out)) : w.heap.size ≤ gb321)); have n7_ := Aside0.mk ((by rw [hg]; exact Nat.ne_of_lt (blk_lt (g := gb309) (o := .cells #[.complex .f32 0 0, .complex .f32 0 0, .complex .f32 0 0, .slice none 0 0, .slice none 0 0] 30 (0, 0)) (by exact BK309.out)) : gb309 ≠ gb321)); have n8_ := Aside0.mk ((by rw [hg]; exact Nat.ne_of_gt (blk_lt (g := gb309) (o := .cells #[.complex .f32 0 0, .complex .f32 0 0, .complex .f32 0 0, .slice none 0 0, .slice none 0 0] 30 (0, 0)) (by exact BK309.out)) : gb321 ≠ gb309)); clear HO315; clear HO318; clear BK309; clear HB; have HO315 := n0_; have HO318 := n1_; have BK309 := n2_; have HB := n3_; have BK321 := n4_; have GW321 := n5_; have GE321 := n6_; have NB309_321 := n7_; have NB321_309 := n8_; clear n0_ n1_ n2_ n3_ n4_ n5_ n6_ n7_ n8_; clear hb hbox hg; have hnb8 := NB321_309.out; have hnc8 := NB309_321.out; have hcz9_0 : w7.cell? ⟨gb321, 0, none⟩ = some (.complex .f32 0 0) := (blk_cell BK321.out 0).trans rfl; have hcz9_1 : w7.cell? ⟨gb321, 1, none⟩ = some (.complex .f32 0 0) := (blk_cell BK321.out 1).trans rfl; have hcz9_2 : w7.cell? ⟨gb321, 2, none⟩ = some (.complex .f32 0 0) := (blk_cell BK321.out 2).trans rfl; have hcz9_3 : w7.cell? ⟨gb321, 3, none⟩ = some (.slice none 0 0) := (blk_cell BK321.out 3).trans rfl; have hcz9_4 : w7.cell? ⟨gb321, 4, none⟩ = some (.slice none 0 0) := (blk_cell BK321.out 4).trans rfl; have hfz9_0 := blk_frozen BK321.out 0; have hfz9_1 := blk_frozen BK321.out 1; have hfz9_2 := blk_frozen BK321.out 2; have hfz9_3 := blk_frozen BK321.out 3; have hfz9_4 := blk_frozen BK321.out 4; obtain ⟨Ao10, co10, eo10⟩ := Kd.R_slice HO315.out; subst eo10; obtain ⟨Ao11, co11, eo11⟩ := Kd.R_slice HO318.out; subst eo11; have hcz12_0 : w7.cell? ⟨gb309, 0, none⟩ = some (.complex .f32 0 0) := (blk_cell BK309.out 0).trans rfl; have hcz12_1 : w7.cell? ⟨gb309, 1, none⟩ = some (.complex .f32 0 0) := (blk_cell BK309.out 1).trans rfl; have hcz12_2 : w7.cell? ⟨gb309, 2, none⟩ = some (.complex .f32 0 0) := (blk_cell BK309.out 2).trans rfl; have hcz12_3 : w7.cell? ⟨gb309, 3, none⟩ = some (.slice none 0 0) := (blk_cell BK309.out 3).trans rfl; have hcz12_4 : w7.cell? ⟨gb309, 4, none⟩ = some (.slice none 0 0) := (blk_cell BK309.out 4).trans rfl; have hfz12_0 := blk_frozen BK309.out 0; have hfz12_1 := blk_frozen BK309.out 1; have hfz12_2 := blk_frozen BK309.out 2; have hfz12_3 := blk_frozen BK309.out 3; have hfz12_4 := blk_frozen BK309.out 4))
      refine bodyPost_ret (results_ct rfl _ _ gb309 30 #[.complex .f32 t310.re t310.im, .complex .f32 t311.re t311.im, .complex .f32 t312.re t312.im, .slice Ao10 t313.length co10, .slice Ao11 t316.length co11] (0, 0) _ rfl (by refine blk_put (cs := #[.complex .f32 t310.re t310.im, .complex .f32 t311.re t311.im, .complex .f32 t312.re t312.im, .slice Ao10 t313.length co10, .slice none 0 0]) ?_ 4 _ rfl; refine blk_put (cs := #[.complex .f32 t310.re t310.im, .complex .f32 t311.re t311.im, .complex .f32 t312.re t312.im, .slice none 0 0, .slice none 0 0]) ?_ 3 _ rfl; refine blk_put (cs := #[.complex .f32 t310.re t310.im, .complex .f32 t311.re t311.im, .complex .f32 0 0, .slice none 0 0, .slice none 0 0]) ?_ 2 _ rfl; refine blk_put (cs := #[.complex .f32 t310.re t310.im, .complex .f32 0 0, .complex .f32 0 0, .slice none 0 0, .slice none 0 0]) ?_ 1 _ rfl; refine blk_put (cs := #[.complex .f32 0 0, .complex .f32 0 0, .complex .f32 0 0, .slice none 0 0, .slice none 0 0]) ?_ 0 _ rfl; refine blk_far ?_ NB309_321.out _; refine blk_far ?_ NB309_321.out _; refine blk_far ?_ NB309_321.out _; refine blk_far ?_ NB309_321.out _; refine blk_far ?_ NB309_321.out _; exact BK309.out) Try.underlying30 rfl (by kernel_rfl)) rfl ?_
      exact ⟨_, _, by rfl, by exact Kd.R_mono (Kd.R_far (p := ⟨gb309, 4, none⟩) (Kd.R_far (p := ⟨gb309, 3, none⟩) (Kd.R_far (p := ⟨gb309, 2, none⟩) (Kd.R_far (p := ⟨gb309, 1, none⟩) (Kd.R_far (p := ⟨gb309, 0, none⟩) (Kd.R_far (p := ⟨gb321, 4, none⟩) (Kd.R_far (p := ⟨gb321, 3, none⟩) (Kd.R_far (p := ⟨gb321, 2, none⟩) (Kd.R_far (p := ⟨gb321, 1, none⟩) (Kd.R_far (p := ⟨gb321, 0, none⟩) (Kd.R_types (Kd.R_types HO315.out BK321.out (by decide)) BK309.out (by decide)) (fun _ hk => hk.1.2) (.complex .f32 t310.re t310.im)) (fun _ hk => hk.1.2) (.complex .f32 t311.re t311.im)) (fun _ hk => hk.1.2) (.complex .f32 t312.re t312.im)) (fun _ hk => hk.1.2) (.slice Ao10 t313.length co10)) (fun _ hk => hk.1.2) (.slice Ao11 t316.length co11)) (fun _ hk => hk.2) (.complex .f32 t310.re t310.im)) (fun _ hk => hk.2) (.complex .f32 t311.re t311.im)) (fun _ hk => hk.2) (.complex .f32 t312.re t312.im)) (fun _ hk => hk.2) (.slice Ao10 t313.length co10)) (fun _ hk => hk.2) (.slice Ao11 t316.length co11)) (fun _ hk => trivial), by exact Kd.R_mono (Kd.R_far (p := ⟨gb309, 4, none⟩) (Kd.R_far (p := ⟨gb309, 3, none⟩) (Kd.R_far (p := ⟨gb309, 2, none⟩) (Kd.R_far (p := ⟨gb309, 1, none⟩) (Kd.R_far (p := ⟨gb309, 0, none⟩) (Kd.R_far (p := ⟨gb321, 4, none⟩) (Kd.R_far (p := ⟨gb321, 3, none⟩) (Kd.R_far (p := ⟨gb321, 2, none⟩) (Kd.R_far (p := ⟨gb321, 1, none⟩) (Kd.R_far (p := ⟨gb321, 0, none⟩) (Kd.R_types (Kd.R_types HO318.out BK321.out (by decide)) BK309.out (by decide)) (fun _ hk => hk.1.2) (.complex .f32 t310.re t310.im)) (fun _ hk => hk.1.2) (.complex .f32 t311.re t311.im)) (fun _ hk => hk.1.2) (.complex .f32 t312.re t312.im)) (fun _ hk => hk.1.2) (.slice Ao10 t313.length co10)) (fun _ hk => hk.1.2) (.slice Ao11 t316.length co11)) (fun _ hk => hk.2) (.complex .f32 t310.re t310.im)) (fun _ hk => hk.2) (.complex .f32 t311.re t311.im)) (fun _ hk => hk.2) (.complex .f32 t312.re t312.im)) (fun _ hk => hk.2) (.slice Ao10 t313.length co10)) (fun _ hk => hk.2) (.slice Ao11 t316.length co11)) (fun _ hk => trivial), by repeat ((with_reducible first | exact HB.out | refine below_set ?_ GE309.out | refine below_set ?_ GE321.out))⟩
    · rw [if_neg c4] at H
      have c4b0 : (t319 == (a0.size : Int)) = false := beq_eq_false_iff_ne.mpr c4
      have c4b1 : (t319 != (a0.size : Int)) = true := bne_iff_ne.mpr c4
      simp only [Option.some.injEq, Prod.mk.injEq] at H
      obtain ⟨rfl, rfl, rfl, rfl, rfl, rfl⟩ := H
      go_enter Try.func7, Try.ntmps7
      go_wp2_with (first | ((with_reducible refine gate_dst (N := 2) rfl ?_); (try (refine gate_guard (by rfl) ?_; dsimp only)); refine box_event ?hg (N := 2) ?hd (cs := #[.complex .f32 0 0, .complex .f32 0 0, .complex .f32 0 0, .slice none 0 0, .slice none 0 0]) (t := 30) ?hr ?_; (case hd => rfl); (case hg => rfl); (case hr => (go_simp; done)); intro gb309 hg w13 hbox hb; have n0_ := Aside0.mk (below_step (by with_reducible exact HB.out) hb); have n1_ := Aside0.mk (hbox); have n2_ := Aside0.mk ((by rw [hg]; exact (below_size (by with_reducible exact HB.out)) : w.heap.size ≤ gb309)); have n3_ := Aside0.mk ((by rw [hg]; exact (below_size (by with_reducible exact HB.out)) : w.heap.size ≤ gb309)); clear HB; have HB := n0_; have BK309 := n1_; have GW309 := n2_; have GE309 := n3_; clear n0_ n1_ n2_ n3_; clear hb hbox hg) | ((with_reducible refine gate_callee (f := 19) rfl ?_); refine goesL_ (some 9) rfl rfl Try.func19 (by kernel_rfl) rfl #[.string a0] rfl (by (try simp only [List.map_toArray, List.map_cons, List.map_nil]); rfl) ?_; (with_reducible refine (impl_loadGrid.calls k a0 t310 t311 t312 t313 t316 t319 true _ A2.out).mono ?_); rintro e w14 ⟨v314, v317, rfl, ho0, ho1, hb⟩; refine ⟨_, rfl, ?_⟩; have n0_ := Aside0.mk (Kd.R_lower ho0 (below_size (by with_reducible exact HB.out))); have n1_ := Aside0.mk (Kd.R_lower ho1 (below_size (by with_reducible exact HB.out))); have n2_ := Aside0.mk (blk_below (g := gb309) (o := .cells #[.complex .f32 0 0, .complex .f32 0 0, .complex .f32 0 0, .slice none 0 0, .slice none 0 0] 30 (0, 0)) (by exact BK309.out) hb); have n3_ := Aside0.mk (below_step (by with_reducible exact HB.out) hb); clear BK309; clear HB; have HO315 := n0_; have HO318 := n1_; have BK309 := n2_; have HB := n3_; clear n0_ n1_ n2_ n3_; (try clear hb); (try clear hb2); (try clear hk); (try clear hi); (try clear ho0); (try clear ho1)) | ((with_reducible refine gate_dst (N := 4) rfl ?_); (try (refine gate_guard (by rfl) ?_; dsimp only)); refine box_event ?hg (N := 4) ?hd (cs := #[.complex .f32 0 0, .complex .f32 0 0, .complex .f32 0 0, .slice none 0 0, .slice none 0 0]) (t := 30) ?hr ?_; (case hd => rfl); (case hg => rfl); (case hr => (go_simp; done)); intro gb321 hg w15 hbox hb; have n0_ := Aside0.mk (Kd.R_below (by exact HO315.out) hb); have n1_ := Aside0.mk (Kd.R_below (by exact HO318.out) hb); have n2_ := Aside0.mk (blk_below (g := gb309) (o := .cells #[.complex .f32 0 0, .complex .f32 0 0, .complex .f32 0 0, .slice none 0 0, .slice none 0 0] 30 (0, 0)) (by exact BK309.out) hb); have n3_ := Aside0.mk (below_step (by with_reducible exact HB.out) hb); have n4_ := Aside0.mk (hbox); have n5_ := Aside0.mk ((by rw [hg]; exact (below_size (by with_reducible exact HB.out)) : w.heap.size ≤ gb321)); have n6_ := Aside0.mk ((by rw [hg]; exact (below_size (by with_reducible exact HB.out)) : w.heap.size ≤ gb321)); have n7_ := Aside0.mk ((by rw [hg]; exact Nat.ne_of_lt (blk_lt (g := gb309) (o := .cells #[.complex .f32 0 0, .complex .f32 0 0, .complex .f32 0 0, .slice none 0 0, .slice none 0 0] 30 (0, 0)) (by exact BK309.out)) : gb309 ≠ gb321)); have n8_ := Aside0.mk ((by rw [hg]; exact Nat.ne_of_gt (blk_lt (g := gb309) (o := .cells #[.complex .f32 0 0, .complex .f32 0 0, .complex .f32 0 0, .slice none 0 0, .slice none 0 0] 30 (0, 0)) (by exact BK309.out)) : gb321 ≠ gb309)); clear HO315; clear HO318; clear BK309; clear HB; have HO315 := n0_; have HO318 := n1_; have BK309 := n2_; have HB := n3_; have BK321 := n4_; have GW321 := n5_; have GE321 := n6_; have NB309_321 := n7_; have NB321_309 := n8_; clear n0_ n1_ n2_ n3_ n4_ n5_ n6_ n7_ n8_; clear hb hbox hg; have hnb16 := NB321_309.out; have hnc16 := NB309_321.out; have hcz17_0 : w15.cell? ⟨gb321, 0, none⟩ = some (.complex .f32 0 0) := (blk_cell BK321.out 0).trans rfl; have hcz17_1 : w15.cell? ⟨gb321, 1, none⟩ = some (.complex .f32 0 0) := (blk_cell BK321.out 1).trans rfl; have hcz17_2 : w15.cell? ⟨gb321, 2, none⟩ = some (.complex .f32 0 0) := (blk_cell BK321.out 2).trans rfl; have hcz17_3 : w15.cell? ⟨gb321, 3, none⟩ = some (.slice none 0 0) := (blk_cell BK321.out 3).trans rfl; have hcz17_4 : w15.cell? ⟨gb321, 4, none⟩ = some (.slice none 0 0) := (blk_cell BK321.out 4).trans rfl; have hfz17_0 := blk_frozen BK321.out 0; have hfz17_1 := blk_frozen BK321.out 1; have hfz17_2 := blk_frozen BK321.out 2; have hfz17_3 := blk_frozen BK321.out 3; have hfz17_4 := blk_frozen BK321.out 4; obtain ⟨Ao18, co18, eo18⟩ := Kd.R_slice HO315.out; subst eo18; obtain ⟨Ao19, co19, eo19⟩ := Kd.R_slice HO318.out; subst eo19; have hcz20_0 : w15.cell? ⟨gb309, 0, none⟩ = some (.complex .f32 0 0) := (blk_cell BK309.out 0).trans rfl; have hcz20_1 : w15.cell? ⟨gb309, 1, none⟩ = some (.complex .f32 0 0) := (blk_cell BK309.out 1).trans rfl; have hcz20_2 : w15.cell? ⟨gb309, 2, none⟩ = some (.complex .f32 0 0) := (blk_cell BK309.out 2).trans rfl; have hcz20_3 : w15.cell? ⟨gb309, 3, none⟩ = some (.slice none 0 0) := (blk_cell BK309.out 3).trans rfl; have hcz20_4 : w15.cell? ⟨gb309, 4, none⟩ = some (.slice none 0 0) := (blk_cell BK309.out 4).trans rfl; have hfz20_0 := blk_frozen BK309.out 0; have hfz20_1 := blk_frozen BK309.out 1; have hfz20_2 := blk_frozen BK309.out 2; have hfz20_3 := blk_frozen BK309.out 3; have hfz20_4 := blk_frozen BK309.out 4))
      refine bodyPost_ret (results_ct rfl _ _ gb309 30 #[.complex .f32 0 0, .complex .f32 0 0, .complex .f32 0 0, .slice none 0 0, .slice none 0 0] (0, 0) _ rfl (by refine blk_put (cs := #[.complex .f32 0 0, .complex .f32 0 0, .complex .f32 0 0, .slice none 0 0, .slice none 0 0]) ?_ 4 _ rfl; refine blk_put (cs := #[.complex .f32 0 0, .complex .f32 0 0, .complex .f32 0 0, .slice none 0 0, .slice none 0 0]) ?_ 3 _ rfl; refine blk_put (cs := #[.complex .f32 0 0, .complex .f32 0 0, .complex .f32 0 0, .slice none 0 0, .slice none 0 0]) ?_ 2 _ rfl; refine blk_put (cs := #[.complex .f32 0 0, .complex .f32 0 0, .complex .f32 0 0, .slice none 0 0, .slice none 0 0]) ?_ 1 _ rfl; refine blk_put (cs := #[.complex .f32 0 0, .complex .f32 0 0, .complex .f32 0 0, .slice none 0 0, .slice none 0 0]) ?_ 0 _ rfl; refine blk_far ?_ NB309_321.out _; refine blk_far ?_ NB309_321.out _; refine blk_far ?_ NB309_321.out _; refine blk_far ?_ NB309_321.out _; refine blk_far ?_ NB309_321.out _; exact BK309.out) Try.underlying30 rfl (by kernel_rfl)) rfl ?_
      exact ⟨_, _, by rfl, by exact Kd.R_nil _ _ _ _ _, by exact Kd.R_nil _ _ _ _ _, by repeat ((with_reducible first | exact HB.out | refine below_set ?_ GE309.out | refine below_set ?_ GE321.out))⟩
  · replace c3 := Bool.eq_false_iff.mpr c3
    subst c3
    have H1 : (some ((⟨0, 0⟩ : Cx), (⟨0, 0⟩ : Cx), (⟨0, 0⟩ : Cx), ([] : List (S69)), ([] : List (S72)), false)) = some (r1, r2, r3, r4, r5, r6) := by rw [if_neg (show ¬ (false = true) by decide)] at H; exact H
    clear H
    have H := H1
    clear H1
    simp only [Option.some.injEq, Prod.mk.injEq] at H
    obtain ⟨rfl, rfl, rfl, rfl, rfl, rfl⟩ := H
    go_enter Try.func7, Try.ntmps7
    go_wp2_with (first | ((with_reducible refine gate_dst (N := 2) rfl ?_); (try (refine gate_guard (by rfl) ?_; dsimp only)); refine box_event ?hg (N := 2) ?hd (cs := #[.complex .f32 0 0, .complex .f32 0 0, .complex .f32 0 0, .slice none 0 0, .slice none 0 0]) (t := 30) ?hr ?_; (case hd => rfl); (case hg => rfl); (case hr => (go_simp; done)); intro gb309 hg w21 hbox hb; have n0_ := Aside0.mk (below_step (by with_reducible exact HB.out) hb); have n1_ := Aside0.mk (hbox); have n2_ := Aside0.mk ((by rw [hg]; exact (below_size (by with_reducible exact HB.out)) : w.heap.size ≤ gb309)); have n3_ := Aside0.mk ((by rw [hg]; exact (below_size (by with_reducible exact HB.out)) : w.heap.size ≤ gb309)); clear HB; have HB := n0_; have BK309 := n1_; have GW309 := n2_; have GE309 := n3_; clear n0_ n1_ n2_ n3_; clear hb hbox hg) | ((with_reducible refine gate_callee (f := 19) rfl ?_); refine goesL_ (some 9) rfl rfl Try.func19 (by kernel_rfl) rfl #[.string a0] rfl (by (try simp only [List.map_toArray, List.map_cons, List.map_nil]); rfl) ?_; (with_reducible refine (impl_loadGrid.calls k a0 t310 t311 t312 t313 t316 t319 false _ A2.out).mono ?_); rintro e w22 ⟨v314, v317, rfl, ho0, ho1, hb⟩; refine ⟨_, rfl, ?_⟩; have n0_ := Aside0.mk (Kd.R_lower ho0 (below_size (by with_reducible exact HB.out))); have n1_ := Aside0.mk (Kd.R_lower ho1 (below_size (by with_reducible exact HB.out))); have n2_ := Aside0.mk (blk_below (g := gb309) (o := .cells #[.complex .f32 0 0, .complex .f32 0 0, .complex .f32 0 0, .slice none 0 0, .slice none 0 0] 30 (0, 0)) (by exact BK309.out) hb); have n3_ := Aside0.mk (below_step (by with_reducible exact HB.out) hb); clear BK309; clear HB; have HO315 := n0_; have HO318 := n1_; have BK309 := n2_; have HB := n3_; clear n0_ n1_ n2_ n3_; (try clear hb); (try clear hb2); (try clear hk); (try clear hi); (try clear ho0); (try clear ho1)) | ((with_reducible refine gate_dst (N := 4) rfl ?_); (try (refine gate_guard (by rfl) ?_; dsimp only)); refine box_event ?hg (N := 4) ?hd (cs := #[.complex .f32 0 0, .complex .f32 0 0, .complex .f32 0 0, .slice none 0 0, .slice none 0 0]) (t := 30) ?hr ?_; (case hd => rfl); (case hg => rfl); (case hr => (go_simp; done)); intro gb321 hg w23 hbox hb; have n0_ := Aside0.mk (Kd.R_below (by exact HO315.out) hb); have n1_ := Aside0.mk (Kd.R_below (by exact HO318.out) hb); have n2_ := Aside0.mk (blk_below (g := gb309) (o := .cells #[.complex .f32 0 0, .complex .f32 0 0, .complex .f32 0 0, .slice none 0 0, .slice none 0 0] 30 (0, 0)) (by exact BK309.out) hb); have n3_ := Aside0.mk (below_step (by with_reducible exact HB.out) hb); have n4_ := Aside0.mk (hbox); have n5_ := Aside0.mk ((by rw [hg]; exact (below_size (by with_reducible exact HB.out)) : w.heap.size ≤ gb321)); have n6_ := Aside0.mk ((by rw [hg]; exact (below_size (by with_reducible exact HB.out)) : w.heap.size ≤ gb321)); have n7_ := Aside0.mk ((by rw [hg]; exact Nat.ne_of_lt (blk_lt (g := gb309) (o := .cells #[.complex .f32 0 0, .complex .f32 0 0, .complex .f32 0 0, .slice none 0 0, .slice none 0 0] 30 (0, 0)) (by exact BK309.out)) : gb309 ≠ gb321)); have n8_ := Aside0.mk ((by rw [hg]; exact Nat.ne_of_gt (blk_lt (g := gb309) (o := .cells #[.complex .f32 0 0, .complex .f32 0 0, .complex .f32 0 0, .slice none 0 0, .slice none 0 0] 30 (0, 0)) (by exact BK309.out)) : gb321 ≠ gb309)); clear HO315; clear HO318; clear BK309; clear HB; have HO315 := n0_; have HO318 := n1_; have BK309 := n2_; have HB := n3_; have BK321 := n4_; have GW321 := n5_; have GE321 := n6_; have NB309_321 := n7_; have NB321_309 := n8_; clear n0_ n1_ n2_ n3_ n4_ n5_ n6_ n7_ n8_; clear hb hbox hg; have hnb24 := NB321_309.out; have hnc24 := NB309_321.out; have hcz25_0 : w23.cell? ⟨gb321, 0, none⟩ = some (.complex .f32 0 0) := (blk_cell BK321.out 0).trans rfl; have hcz25_1 : w23.cell? ⟨gb321, 1, none⟩ = some (.complex .f32 0 0) := (blk_cell BK321.out 1).trans rfl; have hcz25_2 : w23.cell? ⟨gb321, 2, none⟩ = some (.complex .f32 0 0) := (blk_cell BK321.out 2).trans rfl; have hcz25_3 : w23.cell? ⟨gb321, 3, none⟩ = some (.slice none 0 0) := (blk_cell BK321.out 3).trans rfl; have hcz25_4 : w23.cell? ⟨gb321, 4, none⟩ = some (.slice none 0 0) := (blk_cell BK321.out 4).trans rfl; have hfz25_0 := blk_frozen BK321.out 0; have hfz25_1 := blk_frozen BK321.out 1; have hfz25_2 := blk_frozen BK321.out 2; have hfz25_3 := blk_frozen BK321.out 3; have hfz25_4 := blk_frozen BK321.out 4; obtain ⟨Ao26, co26, eo26⟩ := Kd.R_slice HO315.out; subst eo26; obtain ⟨Ao27, co27, eo27⟩ := Kd.R_slice HO318.out; subst eo27; have hcz28_0 : w23.cell? ⟨gb309, 0, none⟩ = some (.complex .f32 0 0) := (blk_cell BK309.out 0).trans rfl; have hcz28_1 : w23.cell? ⟨gb309, 1, none⟩ = some (.complex .f32 0 0) := (blk_cell BK309.out 1).trans rfl; have hcz28_2 : w23.cell? ⟨gb309, 2, none⟩ = some (.complex .f32 0 0) := (blk_cell BK309.out 2).trans rfl; have hcz28_3 : w23.cell? ⟨gb309, 3, none⟩ = some (.slice none 0 0) := (blk_cell BK309.out 3).trans rfl; have hcz28_4 : w23.cell? ⟨gb309, 4, none⟩ = some (.slice none 0 0) := (blk_cell BK309.out 4).trans rfl; have hfz28_0 := blk_frozen BK309.out 0; have hfz28_1 := blk_frozen BK309.out 1; have hfz28_2 := blk_frozen BK309.out 2; have hfz28_3 := blk_frozen BK309.out 3; have hfz28_4 := blk_frozen BK309.out 4))
    refine bodyPost_ret (results_ct rfl _ _ gb309 30 #[.complex .f32 0 0, .complex .f32 0 0, .complex .f32 0 0, .slice none 0 0, .slice none 0 0] (0, 0) _ rfl (by refine blk_put (cs := #[.complex .f32 0 0, .complex .f32 0 0, .complex .f32 0 0, .slice none 0 0, .slice none 0 0]) ?_ 4 _ rfl; refine blk_put (cs := #[.complex .f32 0 0, .complex .f32 0 0, .complex .f32 0 0, .slice none 0 0, .slice none 0 0]) ?_ 3 _ rfl; refine blk_put (cs := #[.complex .f32 0 0, .complex .f32 0 0, .complex .f32 0 0, .slice none 0 0, .slice none 0 0]) ?_ 2 _ rfl; refine blk_put (cs := #[.complex .f32 0 0, .complex .f32 0 0, .complex .f32 0 0, .slice none 0 0, .slice none 0 0]) ?_ 1 _ rfl; refine blk_put (cs := #[.complex .f32 0 0, .complex .f32 0 0, .complex .f32 0 0, .slice none 0 0, .slice none 0 0]) ?_ 0 _ rfl; refine blk_far ?_ NB309_321.out _; refine blk_far ?_ NB309_321.out _; refine blk_far ?_ NB309_321.out _; refine blk_far ?_ NB309_321.out _; refine blk_far ?_ NB309_321.out _; exact BK309.out) Try.underlying30 rfl (by kernel_rfl)) rfl ?_
    exact ⟨_, _, by rfl, by exact Kd.R_nil _ _ _ _ _, by exact Kd.R_nil _ _ _ _ _, by repeat ((with_reducible first | exact HB.out | refine below_set ?_ GE309.out | refine below_set ?_ GE321.out))⟩

end Go.Proofs.Ytkkokkmhldceiaa.M
/- Written by a program of this session (wip/patch_print.py over the kit's printer). -/
namespace Go.Proofs.Ytkkokkmhldceiaa.M
open Go.RowKit Go.Proofs.YtkkokkmhldceiaaW.PrintWords Go.Proofs.YtkkokkmhldceiaaW.PrintLast Go.Proofs.YtkkokkmhldceiaaW.PrintMore
attribute [local go_sem] max2_int min2_int max_two min_two max_three min_three max_four min_four   -- for this text's walks alone
set_option linter.unusedVariables false
set_option linter.unusedSimpArgs false

/-! ### laws_eqBusS: function 47 -/
def laws_eqBusS.l0 : Nat → List (S69) → List (S69) → Int → Option (Bool)
  | 0, _, _, _ => none
  | k + 1, x0, x1, x5 => if x5 < (x0.length : Int) then (if 0 ≤ x5 then (if x5 < (x1.length : Int) then ((laws_eqBus.f ((rd_T69 x0 x5).f0) ((rd_T69 x0 x5).f1) ((rd_T69 x0 x5).f2) ((rd_T69 x0 x5).f3) ((rd_T69 x0 x5).f4.f0) ((rd_T69 x0 x5).f4.f1) ((rd_T69 x0 x5).f4.f2) ((rd_T69 x0 x5).f5) ((rd_T69 x1 x5).f0) ((rd_T69 x1 x5).f1) ((rd_T69 x1 x5).f2) ((rd_T69 x1 x5).f3) ((rd_T69 x1 x5).f4.f0) ((rd_T69 x1 x5).f4.f1) ((rd_T69 x1 x5).f4.f2) ((rd_T69 x1 x5).f5)).bind fun t324 => (if t324 = true then (laws_eqBusS.l0 k x0 x1 (wrap64 (x5 + 1))) else (some false))) else (none)) else (none)) else (some true)
def laws_eqBusS.f (k : Nat) (l0 : List (S69)) (l1 : List (S69)) : Option (Bool) := if (l0.length : Int) = (l1.length : Int) then (laws_eqBusS.l0 k l0 l1 0) else (some false)
theorem laws_eqBusS.mono_l : ∀ k, (∀ y0 y1 y2, LeO (laws_eqBusS.l0 k y0 y1 y2) (laws_eqBusS.l0 (k + 1) y0 y1 y2))
  | 0 => fun _ _ _ r h => by simp [laws_eqBusS.l0] at h
  | k + 1 => by
    have ih0 := laws_eqBusS.mono_l k
    · intro y0 y1 y2
      unfold laws_eqBusS.l0
      repeat' first
      | (with_reducible exact ih0 _ _ _)
      | (with_reducible exact LeO.refl _)
      | (with_reducible refine LeO.ite ?_ ?_)
      | (with_reducible refine LeO.bind ?_ (fun _ => ?_))
theorem laws_eqBusS.mono : ∀ a0 a1 k, LeO (laws_eqBusS.f k a0 a1) (laws_eqBusS.f (k + 1) a0 a1) := by
  intro a0 a1 k
  have ih0 := laws_eqBusS.mono_l k
  unfold laws_eqBusS.f
  repeat' first
      | (with_reducible exact ih0 _ _ _)
      | (with_reducible exact LeO.refl _)
      | (with_reducible refine LeO.ite ?_ ?_)
def laws_eqBusS.T6 : Bool × List (List Nat × List Nat) := (true, [([], []), ([], []), ([0, 1], [0, 1]), ([2], [2]), ([], []), ([], []), ([4, 5], [4, 5]), ([6], [6]), ([3, 7], [3, 7]), ([8], [8])])
def laws_eqBusS.B6 : List Nat := [0, 0, 3, 7, 0, 0, 48, 112, 255, 511]
theorem laws_eqBusS.tab6 : rtab .any (opsOf Try.f47 6) = laws_eqBusS.T6 := by kernel_rfl
theorem laws_eqBusS.bits6 : waitsOk laws_eqBusS.T6.2 laws_eqBusS.B6 = true := by kernel_rfl
set_option maxHeartbeats 8000000 in
set_option maxRecDepth 100000 in
theorem laws_eqBusS.calls (k : Nat) (A0 : Option Addr) (c0 : Nat) (l0 : List (S69)) (A1 : Option Addr) (c1 : Nat) (l1 : List (S69)) (r : Bool) (w : World) (hr0 : Kd.C k69 w A0 l0.length l0) (hc0 : l0.length ≤ c0) (hr1 : Kd.C k69 w A1 l1.length l1) (hc1 : l1.length ≤ c1) (h : laws_eqBusS.f k l0 l1 = some r) :
    Calls Try.prog 47 #[.slice A0 l0.length c0, .slice A1 l1.length c1] w fun e w' => e = .returned (.bool r) ∧ Below w.heap.size w w' := by
  have hu69 := Try.underlying69
  have HR0 := Aside0.mk hr0
  have HC0 := Aside0.mk hc0
  clear hr0 hc0
  have HR1 := Aside0.mk hr1
  have HC1 := Aside0.mk hc1
  clear hr1 hc1
  have HB := Aside0.mk (Below.refl w.heap.size w)
  have H : (if (l0.length : Int) = (l1.length : Int) then (laws_eqBusS.l0 k l0 l1 0) else (some false)) = some r := h
  clear h
  by_cases c3 : (l0.length : Int) = (l1.length : Int)
  · rw [if_pos c3] at H
    have c3b0 : ((l0.length : Int) == (l1.length : Int)) = true := beq_iff_eq.mpr c3
    have c3b1 : ((l0.length : Int) != (l1.length : Int)) = false := bne_eq_false_iff_eq.mpr c3
    have c3b2 : (l0.length == l1.length) = true := by (simp at c3 ⊢; omega)
    clear c3
    have H' := Aside0.mk H
    clear H
    go_enter Try.func47, Try.ntmps47
    go_wp2
    go_loopg [5] k (fun kq v5 w' => ∃ (x5_1 : Int), v5 = .int .i64 x5_1 ∧ Aside0 (laws_eqBusS.l0 kq l0 l1 x5_1 = some r) ∧ Aside0 (kq ≤ k) ∧ Aside0 (Below w.heap.size w w'))
    case atStart => exact ⟨(0), (by rfl), H', ⟨Nat.le_refl _⟩, ⟨by with_reducible exact HB.out⟩⟩
    case round =>
      clear H'
      try clear c3b0
      try clear c3b1
      try clear c3b2
      obtain ⟨x5_1, rfl, HA, HK1, HB⟩ := hrel
      cases gk with
      | zero => exact absurd HA.out (by simp [laws_eqBusS.l0])
      | succ k1 =>
        have H := HA.out
        clear HA
        simp only [laws_eqBusS.l0] at H
        by_cases c4 : x5_1 < (l0.length : Int)
        · rw [if_pos c4] at H
          have c4b0 : decide (x5_1 < (l0.length : Int)) = true := decide_eq_true c4
          clear c4
          by_cases c5 : 0 ≤ x5_1
          · rw [if_pos c5] at H
            have c5b0 : decide (0 ≤ x5_1) = true := decide_eq_true c5
            clear c5
            by_cases c6 : x5_1 < (l1.length : Int)
            · rw [if_pos c6] at H
              have c6b0 : decide (x5_1 < (l1.length : Int)) = true := decide_eq_true c6
              clear c6
              replace H := Option.bind_eq_some_iff.mp H
              obtain ⟨t324, A70, H⟩ := H
              replace H : (if t324 = true then (laws_eqBusS.l0 k1 l0 l1 (wrap64 (x5_1 + 1))) else (some false)) = some r := H
              have A7 := Aside0.mk A70
              clear A70
              by_cases c8 : t324 = true
              · subst c8
                have H1 : (laws_eqBusS.l0 k1 l0 l1 (wrap64 (x5_1 + 1))) = some r := by rw [if_pos rfl] at H; exact H
                clear H
                have H := H1
                clear H1
                have H' := Aside0.mk H
                clear H
                try go_wp2
                have n0_ := Aside0.mk (below_drew1 HB.out)
                clear HB
                have HB := n0_
                clear n0_
                have p322 : 0 ≤ (x5_1 : Int) := of_decide_eq_true (by (with_reducible assumption))
                have q322 : x5_1 < (l0.length : Int) := of_decide_eq_true (by (with_reducible assumption))
                obtain ⟨ad322, e322, hx322_0, hx322_1, hx322_2, hx322_3, hx322_4, hx322_5, hx322_6, hx322_7⟩ := at_T69 HR0.out x5_1 p322 q322
                have hw322_7 := hx322_7
                have hw322_6 := hx322_6
                have hw322_5 := hx322_5
                have hw322_4 := hx322_4
                have hw322_3 := hx322_3
                have hw322_2 := hx322_2
                have hw322_1 := hx322_1
                have hw322_0 := hx322_0
                cases e322
                replace hx322_0 := (HB.out.cell (World.block_lt_of_cell? w _ hx322_0)).trans hx322_0
                replace hx322_1 := (HB.out.cell (World.block_lt_of_cell? w _ hx322_1)).trans hx322_1
                replace hx322_2 := (HB.out.cell (World.block_lt_of_cell? w _ hx322_2)).trans hx322_2
                replace hx322_3 := (HB.out.cell (World.block_lt_of_cell? w _ hx322_3)).trans hx322_3
                replace hx322_4 := (HB.out.cell (World.block_lt_of_cell? w _ hx322_4)).trans hx322_4
                replace hx322_5 := (HB.out.cell (World.block_lt_of_cell? w _ hx322_5)).trans hx322_5
                replace hx322_6 := (HB.out.cell (World.block_lt_of_cell? w _ hx322_6)).trans hx322_6
                replace hx322_7 := (HB.out.cell (World.block_lt_of_cell? w _ hx322_7)).trans hx322_7
                replace p322 := eq_true p322
                replace q322 := eq_true q322
                have p323 : 0 ≤ (x5_1 : Int) := of_decide_eq_true (by (with_reducible assumption))
                have q323 : x5_1 < (l1.length : Int) := of_decide_eq_true (by (with_reducible assumption))
                obtain ⟨ad323, e323, hx323_0, hx323_1, hx323_2, hx323_3, hx323_4, hx323_5, hx323_6, hx323_7⟩ := at_T69 HR1.out x5_1 p323 q323
                have hw323_7 := hx323_7
                have hw323_6 := hx323_6
                have hw323_5 := hx323_5
                have hw323_4 := hx323_4
                have hw323_3 := hx323_3
                have hw323_2 := hx323_2
                have hw323_1 := hx323_1
                have hw323_0 := hx323_0
                cases e323
                replace hx323_0 := (HB.out.cell (World.block_lt_of_cell? w _ hx323_0)).trans hx323_0
                replace hx323_1 := (HB.out.cell (World.block_lt_of_cell? w _ hx323_1)).trans hx323_1
                replace hx323_2 := (HB.out.cell (World.block_lt_of_cell? w _ hx323_2)).trans hx323_2
                replace hx323_3 := (HB.out.cell (World.block_lt_of_cell? w _ hx323_3)).trans hx323_3
                replace hx323_4 := (HB.out.cell (World.block_lt_of_cell? w _ hx323_4)).trans hx323_4
                replace hx323_5 := (HB.out.cell (World.block_lt_of_cell? w _ hx323_5)).trans hx323_5
                replace hx323_6 := (HB.out.cell (World.block_lt_of_cell? w _ hx323_6)).trans hx323_6
                replace hx323_7 := (HB.out.cell (World.block_lt_of_cell? w _ hx323_7)).trans hx323_7
                replace p323 := eq_true p323
                replace q323 := eq_true q323
                refine start_ (n := 10) (S := fun w' => w'.cell? (ad322.add ((x5_1).toNat * 8)) = some (.int .i64 ((rd_T69 l0 x5_1).f0)) ∧ w'.cell? ⟨(ad322.add ((x5_1).toNat * 8)).block, (ad322.add ((x5_1).toNat * 8)).off + 1, none⟩ = some (.complex .f32 ((rd_T69 l0 x5_1).f1).re ((rd_T69 l0 x5_1).f1).im) ∧ w'.cell? ⟨(ad322.add ((x5_1).toNat * 8)).block, (ad322.add ((x5_1).toNat * 8)).off + 2, none⟩ = some (.complex .f32 ((rd_T69 l0 x5_1).f2).re ((rd_T69 l0 x5_1).f2).im) ∧ w'.cell? ⟨(ad322.add ((x5_1).toNat * 8)).block, (ad322.add ((x5_1).toNat * 8)).off + 3, none⟩ = some (.int .i64 ((rd_T69 l0 x5_1).f3)) ∧ w'.cell? ⟨(ad322.add ((x5_1).toNat * 8)).block, (ad322.add ((x5_1).toNat * 8)).off + 4, none⟩ = some (.complex .f32 ((rd_T69 l0 x5_1).f4.f0).re ((rd_T69 l0 x5_1).f4.f0).im) ∧ w'.cell? ⟨(ad322.add ((x5_1).toNat * 8)).block, (ad322.add ((x5_1).toNat * 8)).off + 5, none⟩ = some (.complex .f32 ((rd_T69 l0 x5_1).f4.f1).re ((rd_T69 l0 x5_1).f4.f1).im) ∧ w'.cell? ⟨(ad322.add ((x5_1).toNat * 8)).block, (ad322.add ((x5_1).toNat * 8)).off + 6, none⟩ = some (.complex .f32 ((rd_T69 l0 x5_1).f4.f2).re ((rd_T69 l0 x5_1).f4.f2).im) ∧ w'.cell? ⟨(ad322.add ((x5_1).toNat * 8)).block, (ad322.add ((x5_1).toNat * 8)).off + 7, none⟩ = some (.int .i64 ((rd_T69 l0 x5_1).f5)) ∧ w'.cell? (ad323.add ((x5_1).toNat * 8)) = some (.int .i64 ((rd_T69 l1 x5_1).f0)) ∧ w'.cell? ⟨(ad323.add ((x5_1).toNat * 8)).block, (ad323.add ((x5_1).toNat * 8)).off + 1, none⟩ = some (.complex .f32 ((rd_T69 l1 x5_1).f1).re ((rd_T69 l1 x5_1).f1).im) ∧ w'.cell? ⟨(ad323.add ((x5_1).toNat * 8)).block, (ad323.add ((x5_1).toNat * 8)).off + 2, none⟩ = some (.complex .f32 ((rd_T69 l1 x5_1).f2).re ((rd_T69 l1 x5_1).f2).im) ∧ w'.cell? ⟨(ad323.add ((x5_1).toNat * 8)).block, (ad323.add ((x5_1).toNat * 8)).off + 3, none⟩ = some (.int .i64 ((rd_T69 l1 x5_1).f3)) ∧ w'.cell? ⟨(ad323.add ((x5_1).toNat * 8)).block, (ad323.add ((x5_1).toNat * 8)).off + 4, none⟩ = some (.complex .f32 ((rd_T69 l1 x5_1).f4.f0).re ((rd_T69 l1 x5_1).f4.f0).im) ∧ w'.cell? ⟨(ad323.add ((x5_1).toNat * 8)).block, (ad323.add ((x5_1).toNat * 8)).off + 5, none⟩ = some (.complex .f32 ((rd_T69 l1 x5_1).f4.f1).re ((rd_T69 l1 x5_1).f4.f1).im) ∧ w'.cell? ⟨(ad323.add ((x5_1).toNat * 8)).block, (ad323.add ((x5_1).toNat * 8)).off + 6, none⟩ = some (.complex .f32 ((rd_T69 l1 x5_1).f4.f2).re ((rd_T69 l1 x5_1).f4.f2).im) ∧ w'.cell? ⟨(ad323.add ((x5_1).toNat * 8)).block, (ad323.add ((x5_1).toNat * 8)).off + 7, none⟩ = some (.int .i64 ((rd_T69 l1 x5_1).f5))) (ds := []) #[false, false, false, false, false, false, false, false, false, false] (by kernel_rfl) rfl rfl ⟨((HB.out.cell (World.block_lt_of_cell? w _ hw322_0)).trans hw322_0), ((HB.out.cell (World.block_lt_of_cell? w _ hw322_1)).trans hw322_1), ((HB.out.cell (World.block_lt_of_cell? w _ hw322_2)).trans hw322_2), ((HB.out.cell (World.block_lt_of_cell? w _ hw322_3)).trans hw322_3), ((HB.out.cell (World.block_lt_of_cell? w _ hw322_4)).trans hw322_4), ((HB.out.cell (World.block_lt_of_cell? w _ hw322_5)).trans hw322_5), ((HB.out.cell (World.block_lt_of_cell? w _ hw322_6)).trans hw322_6), ((HB.out.cell (World.block_lt_of_cell? w _ hw322_7)).trans hw322_7), ((HB.out.cell (World.block_lt_of_cell? w _ hw323_0)).trans hw323_0), ((HB.out.cell (World.block_lt_of_cell? w _ hw323_1)).trans hw323_1), ((HB.out.cell (World.block_lt_of_cell? w _ hw323_2)).trans hw323_2), ((HB.out.cell (World.block_lt_of_cell? w _ hw323_3)).trans hw323_3), ((HB.out.cell (World.block_lt_of_cell? w _ hw323_4)).trans hw323_4), ((HB.out.cell (World.block_lt_of_cell? w _ hw323_5)).trans hw323_5), ((HB.out.cell (World.block_lt_of_cell? w _ hw323_6)).trans hw323_6), ((HB.out.cell (World.block_lt_of_cell? w _ hw323_7)).trans hw323_7)⟩ (fun hHeld => ?_); refine with_tabW laws_eqBusS.tab6 laws_eqBusS.bits6 (fun HT_ HW_ => ?_)
                generalize wr.drew = w9 at HB hx322_0 hx322_1 hx322_2 hx322_3 hx322_4 hx322_5 hx322_6 hx322_7 hx323_0 hx323_1 hx323_2 hx323_3 hx323_4 hx323_5 hx323_6 hx323_7 hHeld ⊢
                refine pure_ (i := 0) (N := some 17) (v := ?_) (a' := ?_) #[true, false, false, false, false, false, false, false, false, false] rfl rfl (any_of HT_.out (by kernel_rfl)) (fun _ _ _ h => h) (Or.inl ⟨by rfl, ?_⟩) ?_ ?_
                rotate_left
                · intro w'
                  go_simp
                  with_reducible rfl
                rotate_left
                · simp only [Act.put, List.setIfInBounds_toArray, List.set_cons_zero, List.set_cons_succ, i64_w, i32_w]
                  rfl
                refine pure_ (i := 1) (N := some 18) (v := ?_) (a' := ?_) #[true, true, false, false, false, false, false, false, false, false] rfl rfl (any_of HT_.out (by kernel_rfl)) (fun _ _ _ h => h) (Or.inl ⟨by rfl, ?_⟩) ?_ ?_
                rotate_left
                · intro w'
                  go_simp
                  with_reducible rfl
                rotate_left
                · simp only [Act.put, List.setIfInBounds_toArray, List.set_cons_zero, List.set_cons_succ, i64_w, i32_w]
                  rfl
                refine pure_ (i := 2) (N := some 19) (v := ?_) (a' := ?_) #[true, true, true, false, false, false, false, false, false, false] rfl rfl (any_of HT_.out (by kernel_rfl)) (fun _ _ _ h => h) (Or.inl ⟨by rfl, ?_⟩) ?_ ?_
                rotate_left
                · intro w'
                  go_simp
                  with_reducible rfl
                rotate_left
                · simp only [Act.put, List.setIfInBounds_toArray, List.set_cons_zero, List.set_cons_succ, i64_w, i32_w]
                  rfl
                refine pure_ (i := 4) (N := some 21) (v := ?_) (a' := ?_) #[true, true, true, false, true, false, false, false, false, false] rfl rfl (any_of HT_.out (by kernel_rfl)) (fun _ _ _ h => h) (Or.inl ⟨by rfl, ?_⟩) ?_ ?_
                rotate_left
                · intro w'
                  go_simp
                  with_reducible rfl
                rotate_left
                · simp only [Act.put, List.setIfInBounds_toArray, List.set_cons_zero, List.set_cons_succ, i64_w, i32_w]
                  rfl
                refine pure_ (i := 5) (N := some 22) (v := ?_) (a' := ?_) #[true, true, true, false, true, true, false, false, false, false] rfl rfl (any_of HT_.out (by kernel_rfl)) (fun _ _ _ h => h) (Or.inl ⟨by rfl, ?_⟩) ?_ ?_
                rotate_left
                · intro w'
                  go_simp
                  with_reducible rfl
                rotate_left
                · simp only [Act.put, List.setIfInBounds_toArray, List.set_cons_zero, List.set_cons_succ, i64_w, i32_w]
                  rfl
                refine pure_ (i := 6) (N := some 23) (v := ?_) (a' := ?_) #[true, true, true, false, true, true, true, false, false, false] rfl rfl (any_of HT_.out (by kernel_rfl)) (fun _ _ _ h => h) (Or.inl ⟨by rfl, ?_⟩) ?_ ?_
                rotate_left
                · intro w'
                  go_simp
                  with_reducible rfl
                rotate_left
                · simp only [Act.put, List.setIfInBounds_toArray, List.set_cons_zero, List.set_cons_succ, i64_w, i32_w]
                  rfl
                refine take_ (i := 3) (N := some 20) (v := ?_) (a' := ?_) #[true, true, true, true, true, true, true, false, false, false] rfl rfl (take_ofW HT_.out HW_.out (by kernel_rfl)) (fun _ _ _ h => h) (Or.inl ⟨by rfl, ?_⟩) hHeld ?_ ?_
                rotate_left
                · rintro w' ⟨s0, s1, s2, s3, s4, s5, s6, s7, s8, s9, s10, s11, s12, s13, s14, s15⟩
                  go_simp
                  with_reducible rfl
                rotate_left
                · simp only [Act.put, List.setIfInBounds_toArray, List.set_cons_zero, List.set_cons_succ, i64_w, i32_w]
                  rfl
                refine take_ (i := 7) (N := some 24) (v := ?_) (a' := ?_) #[true, true, true, true, true, true, true, true, false, false] rfl rfl (take_ofW HT_.out HW_.out (by kernel_rfl)) (fun _ _ _ h => h) (Or.inl ⟨by rfl, ?_⟩) hHeld ?_ ?_
                rotate_left
                · rintro w' ⟨s0, s1, s2, s3, s4, s5, s6, s7, s8, s9, s10, s11, s12, s13, s14, s15⟩
                  go_simp
                  with_reducible rfl
                rotate_left
                · simp only [Act.put, List.setIfInBounds_toArray, List.set_cons_zero, List.set_cons_succ, i64_w, i32_w]
                  rfl
                refine one_ (i := 8) (N := some 25) #[true, true, true, true, true, true, true, true, true, false] rfl rfl (one_of HT_.out (by kernel_rfl)) (by decide) (fun K hK => ?_)
                refine goes_ Try.func76 (by kernel_rfl) rfl #[.agg #[.int .i64 ((rd_T69 l0 x5_1).f0), .complex .f32 ((rd_T69 l0 x5_1).f1).re ((rd_T69 l0 x5_1).f1).im, .complex .f32 ((rd_T69 l0 x5_1).f2).re ((rd_T69 l0 x5_1).f2).im, .int .i64 ((rd_T69 l0 x5_1).f3), .complex .f32 ((rd_T69 l0 x5_1).f4.f0).re ((rd_T69 l0 x5_1).f4.f0).im, .complex .f32 ((rd_T69 l0 x5_1).f4.f1).re ((rd_T69 l0 x5_1).f4.f1).im, .complex .f32 ((rd_T69 l0 x5_1).f4.f2).re ((rd_T69 l0 x5_1).f4.f2).im, .int .i64 ((rd_T69 l0 x5_1).f5)], .agg #[.int .i64 ((rd_T69 l1 x5_1).f0), .complex .f32 ((rd_T69 l1 x5_1).f1).re ((rd_T69 l1 x5_1).f1).im, .complex .f32 ((rd_T69 l1 x5_1).f2).re ((rd_T69 l1 x5_1).f2).im, .int .i64 ((rd_T69 l1 x5_1).f3), .complex .f32 ((rd_T69 l1 x5_1).f4.f0).re ((rd_T69 l1 x5_1).f4.f0).im, .complex .f32 ((rd_T69 l1 x5_1).f4.f1).re ((rd_T69 l1 x5_1).f4.f1).im, .complex .f32 ((rd_T69 l1 x5_1).f4.f2).re ((rd_T69 l1 x5_1).f4.f2).im, .int .i64 ((rd_T69 l1 x5_1).f5)]] (by rfl) rfl rfl (by (try simp only [List.map_toArray, List.map_cons, List.map_nil]); rfl) ?_
                with_reducible refine (laws_eqBus.calls ((rd_T69 l0 x5_1).f0) ((rd_T69 l0 x5_1).f1) ((rd_T69 l0 x5_1).f2) ((rd_T69 l0 x5_1).f3) ((rd_T69 l0 x5_1).f4.f0) ((rd_T69 l0 x5_1).f4.f1) ((rd_T69 l0 x5_1).f4.f2) ((rd_T69 l0 x5_1).f5) ((rd_T69 l1 x5_1).f0) ((rd_T69 l1 x5_1).f1) ((rd_T69 l1 x5_1).f2) ((rd_T69 l1 x5_1).f3) ((rd_T69 l1 x5_1).f4.f0) ((rd_T69 l1 x5_1).f4.f1) ((rd_T69 l1 x5_1).f4.f2) ((rd_T69 l1 x5_1).f5) true _ A7.out).mono ?_
                rintro e w10 ⟨rfl, hb⟩
                refine ⟨_, rfl, ?_⟩
                have n0_ := Aside0.mk (below_step (by with_reducible exact HB.out) hb)
                clear HB
                have HB := n0_
                clear n0_
                (try clear hb)
                (try clear hb2)
                (try clear hk)
                (try clear hi)
                refine hK.out _ _ ⟨((HB.out.cell (World.block_lt_of_cell? w _ hw322_0)).trans hw322_0), ((HB.out.cell (World.block_lt_of_cell? w _ hw322_1)).trans hw322_1), ((HB.out.cell (World.block_lt_of_cell? w _ hw322_2)).trans hw322_2), ((HB.out.cell (World.block_lt_of_cell? w _ hw322_3)).trans hw322_3), ((HB.out.cell (World.block_lt_of_cell? w _ hw322_4)).trans hw322_4), ((HB.out.cell (World.block_lt_of_cell? w _ hw322_5)).trans hw322_5), ((HB.out.cell (World.block_lt_of_cell? w _ hw322_6)).trans hw322_6), ((HB.out.cell (World.block_lt_of_cell? w _ hw322_7)).trans hw322_7), ((HB.out.cell (World.block_lt_of_cell? w _ hw323_0)).trans hw323_0), ((HB.out.cell (World.block_lt_of_cell? w _ hw323_1)).trans hw323_1), ((HB.out.cell (World.block_lt_of_cell? w _ hw323_2)).trans hw323_2), ((HB.out.cell (World.block_lt_of_cell? w _ hw323_3)).trans hw323_3), ((HB.out.cell (World.block_lt_of_cell? w _ hw323_4)).trans hw323_4), ((HB.out.cell (World.block_lt_of_cell? w _ hw323_5)).trans hw323_5), ((HB.out.cell (World.block_lt_of_cell? w _ hw323_6)).trans hw323_6), ((HB.out.cell (World.block_lt_of_cell? w _ hw323_7)).trans hw323_7)⟩ (fun hHeld => ?_)
                clear hK K
                refine norm_ (a' := ?_) ?_ ?_
                rotate_left
                · show Act.put _ (some 25) _ = _
                  simp only [Act.put, List.setIfInBounds_toArray, List.set_cons_zero, List.set_cons_succ, i64_w, i32_w]
                  rfl
                refine pure_ (i := 9) (N := some 26) (v := ?_) (a' := ?_) #[true, true, true, true, true, true, true, true, true, true] rfl rfl (any_of HT_.out (by kernel_rfl)) (fun _ _ _ h => h) (Or.inl ⟨by rfl, ?_⟩) ?_ ?_
                rotate_left
                · intro w'
                  go_simp
                  with_reducible rfl
                rotate_left
                · simp only [Act.put, List.setIfInBounds_toArray, List.set_cons_zero, List.set_cons_succ, i64_w, i32_w]
                  rfl
                refine done_ (done_of HT_.out (by kernel_rfl)) ?_
                try go_wp2
                go_roundg k1
                case measure => have := HK1.out; omega
                case rel => exact ⟨(wrap64 (x5_1 + 1)), (by rfl), H', ⟨by have := HK1.out; omega⟩, ⟨by with_reducible exact HB.out⟩⟩
              · replace c8 := Bool.eq_false_iff.mpr c8
                subst c8
                have H1 : (some false) = some r := by rw [if_neg (show ¬ (false = true) by decide)] at H; exact H
                clear H
                have H := H1
                clear H1
                obtain rfl := Option.some.inj H
                try go_wp2
                have n0_ := Aside0.mk (below_drew1 HB.out)
                clear HB
                have HB := n0_
                clear n0_
                have p322 : 0 ≤ (x5_1 : Int) := of_decide_eq_true (by (with_reducible assumption))
                have q322 : x5_1 < (l0.length : Int) := of_decide_eq_true (by (with_reducible assumption))
                obtain ⟨ad322, e322, hx322_0, hx322_1, hx322_2, hx322_3, hx322_4, hx322_5, hx322_6, hx322_7⟩ := at_T69 HR0.out x5_1 p322 q322
                have hw322_7 := hx322_7
                have hw322_6 := hx322_6
                have hw322_5 := hx322_5
                have hw322_4 := hx322_4
                have hw322_3 := hx322_3
                have hw322_2 := hx322_2
                have hw322_1 := hx322_1
                have hw322_0 := hx322_0
                cases e322
                replace hx322_0 := (HB.out.cell (World.block_lt_of_cell? w _ hx322_0)).trans hx322_0
                replace hx322_1 := (HB.out.cell (World.block_lt_of_cell? w _ hx322_1)).trans hx322_1
                replace hx322_2 := (HB.out.cell (World.block_lt_of_cell? w _ hx322_2)).trans hx322_2
                replace hx322_3 := (HB.out.cell (World.block_lt_of_cell? w _ hx322_3)).trans hx322_3
                replace hx322_4 := (HB.out.cell (World.block_lt_of_cell? w _ hx322_4)).trans hx322_4
                replace hx322_5 := (HB.out.cell (World.block_lt_of_cell? w _ hx322_5)).trans hx322_5
                replace hx322_6 := (HB.out.cell (World.block_lt_of_cell? w _ hx322_6)).trans hx322_6
                replace hx322_7 := (HB.out.cell (World.block_lt_of_cell? w _ hx322_7)).trans hx322_7
                replace p322 := eq_true p322
                replace q322 := eq_true q322
                have p323 : 0 ≤ (x5_1 : Int) := of_decide_eq_true (by (with_reducible assumption))
                have q323 : x5_1 < (l1.length : Int) := of_decide_eq_true (by (with_reducible assumption))
                obtain ⟨ad323, e323, hx323_0, hx323_1, hx323_2, hx323_3, hx323_4, hx323_5, hx323_6, hx323_7⟩ := at_T69 HR1.out x5_1 p323 q323
                have hw323_7 := hx323_7
                have hw323_6 := hx323_6
                have hw323_5 := hx323_5
                have hw323_4 := hx323_4
                have hw323_3 := hx323_3
                have hw323_2 := hx323_2
                have hw323_1 := hx323_1
                have hw323_0 := hx323_0
                cases e323
                replace hx323_0 := (HB.out.cell (World.block_lt_of_cell? w _ hx323_0)).trans hx323_0
                replace hx323_1 := (HB.out.cell (World.block_lt_of_cell? w _ hx323_1)).trans hx323_1
                replace hx323_2 := (HB.out.cell (World.block_lt_of_cell? w _ hx323_2)).trans hx323_2
                replace hx323_3 := (HB.out.cell (World.block_lt_of_cell? w _ hx323_3)).trans hx323_3
                replace hx323_4 := (HB.out.cell (World.block_lt_of_cell? w _ hx323_4)).trans hx323_4
                replace hx323_5 := (HB.out.cell (World.block_lt_of_cell? w _ hx323_5)).trans hx323_5
                replace hx323_6 := (HB.out.cell (World.block_lt_of_cell? w _ hx323_6)).trans hx323_6
                replace hx323_7 := (HB.out.cell (World.block_lt_of_cell? w _ hx323_7)).trans hx323_7
                replace p323 := eq_true p323
                replace q323 := eq_true q323
                refine start_ (n := 10) (S := fun w' => w'.cell? (ad322.add ((x5_1).toNat * 8)) = some (.int .i64 ((rd_T69 l0 x5_1).f0)) ∧ w'.cell? ⟨(ad322.add ((x5_1).toNat * 8)).block, (ad322.add ((x5_1).toNat * 8)).off + 1, none⟩ = some (.complex .f32 ((rd_T69 l0 x5_1).f1).re ((rd_T69 l0 x5_1).f1).im) ∧ w'.cell? ⟨(ad322.add ((x5_1).toNat * 8)).block, (ad322.add ((x5_1).toNat * 8)).off + 2, none⟩ = some (.complex .f32 ((rd_T69 l0 x5_1).f2).re ((rd_T69 l0 x5_1).f2).im) ∧ w'.cell? ⟨(ad322.add ((x5_1).toNat * 8)).block, (ad322.add ((x5_1).toNat * 8)).off + 3, none⟩ = some (.int .i64 ((rd_T69 l0 x5_1).f3)) ∧ w'.cell? ⟨(ad322.add ((x5_1).toNat * 8)).block, (ad322.add ((x5_1).toNat * 8)).off + 4, none⟩ = some (.complex .f32 ((rd_T69 l0 x5_1).f4.f0).re ((rd_T69 l0 x5_1).f4.f0).im) ∧ w'.cell? ⟨(ad322.add ((x5_1).toNat * 8)).block, (ad322.add ((x5_1).toNat * 8)).off + 5, none⟩ = some (.complex .f32 ((rd_T69 l0 x5_1).f4.f1).re ((rd_T69 l0 x5_1).f4.f1).im) ∧ w'.cell? ⟨(ad322.add ((x5_1).toNat * 8)).block, (ad322.add ((x5_1).toNat * 8)).off + 6, none⟩ = some (.complex .f32 ((rd_T69 l0 x5_1).f4.f2).re ((rd_T69 l0 x5_1).f4.f2).im) ∧ w'.cell? ⟨(ad322.add ((x5_1).toNat * 8)).block, (ad322.add ((x5_1).toNat * 8)).off + 7, none⟩ = some (.int .i64 ((rd_T69 l0 x5_1).f5)) ∧ w'.cell? (ad323.add ((x5_1).toNat * 8)) = some (.int .i64 ((rd_T69 l1 x5_1).f0)) ∧ w'.cell? ⟨(ad323.add ((x5_1).toNat * 8)).block, (ad323.add ((x5_1).toNat * 8)).off + 1, none⟩ = some (.complex .f32 ((rd_T69 l1 x5_1).f1).re ((rd_T69 l1 x5_1).f1).im) ∧ w'.cell? ⟨(ad323.add ((x5_1).toNat * 8)).block, (ad323.add ((x5_1).toNat * 8)).off + 2, none⟩ = some (.complex .f32 ((rd_T69 l1 x5_1).f2).re ((rd_T69 l1 x5_1).f2).im) ∧ w'.cell? ⟨(ad323.add ((x5_1).toNat * 8)).block, (ad323.add ((x5_1).toNat * 8)).off + 3, none⟩ = some (.int .i64 ((rd_T69 l1 x5_1).f3)) ∧ w'.cell? ⟨(ad323.add ((x5_1).toNat * 8)).block, (ad323.add ((x5_1).toNat * 8)).off + 4, none⟩ = some (.complex .f32 ((rd_T69 l1 x5_1).f4.f0).re ((rd_T69 l1 x5_1).f4.f0).im) ∧ w'.cell? ⟨(ad323.add ((x5_1).toNat * 8)).block, (ad323.add ((x5_1).toNat * 8)).off + 5, none⟩ = some (.complex .f32 ((rd_T69 l1 x5_1).f4.f1).re ((rd_T69 l1 x5_1).f4.f1).im) ∧ w'.cell? ⟨(ad323.add ((x5_1).toNat * 8)).block, (ad323.add ((x5_1).toNat * 8)).off + 6, none⟩ = some (.complex .f32 ((rd_T69 l1 x5_1).f4.f2).re ((rd_T69 l1 x5_1).f4.f2).im) ∧ w'.cell? ⟨(ad323.add ((x5_1).toNat * 8)).block, (ad323.add ((x5_1).toNat * 8)).off + 7, none⟩ = some (.int .i64 ((rd_T69 l1 x5_1).f5))) (ds := []) #[false, false, false, false, false, false, false, false, false, false] (by kernel_rfl) rfl rfl ⟨((HB.out.cell (World.block_lt_of_cell? w _ hw322_0)).trans hw322_0), ((HB.out.cell (World.block_lt_of_cell? w _ hw322_1)).trans hw322_1), ((HB.out.cell (World.block_lt_of_cell? w _ hw322_2)).trans hw322_2), ((HB.out.cell (World.block_lt_of_cell? w _ hw322_3)).trans hw322_3), ((HB.out.cell (World.block_lt_of_cell? w _ hw322_4)).trans hw322_4), ((HB.out.cell (World.block_lt_of_cell? w _ hw322_5)).trans hw322_5), ((HB.out.cell (World.block_lt_of_cell? w _ hw322_6)).trans hw322_6), ((HB.out.cell (World.block_lt_of_cell? w _ hw322_7)).trans hw322_7), ((HB.out.cell (World.block_lt_of_cell? w _ hw323_0)).trans hw323_0), ((HB.out.cell (World.block_lt_of_cell? w _ hw323_1)).trans hw323_1), ((HB.out.cell (World.block_lt_of_cell? w _ hw323_2)).trans hw323_2), ((HB.out.cell (World.block_lt_of_cell? w _ hw323_3)).trans hw323_3), ((HB.out.cell (World.block_lt_of_cell? w _ hw323_4)).trans hw323_4), ((HB.out.cell (World.block_lt_of_cell? w _ hw323_5)).trans hw323_5), ((HB.out.cell (World.block_lt_of_cell? w _ hw323_6)).trans hw323_6), ((HB.out.cell (World.block_lt_of_cell? w _ hw323_7)).trans hw323_7)⟩ (fun hHeld => ?_); refine with_tabW laws_eqBusS.tab6 laws_eqBusS.bits6 (fun HT_ HW_ => ?_)
                generalize wr.drew = w11 at HB hx322_0 hx322_1 hx322_2 hx322_3 hx322_4 hx322_5 hx322_6 hx322_7 hx323_0 hx323_1 hx323_2 hx323_3 hx323_4 hx323_5 hx323_6 hx323_7 hHeld ⊢
                refine pure_ (i := 0) (N := some 17) (v := ?_) (a' := ?_) #[true, false, false, false, false, false, false, false, false, false] rfl rfl (any_of HT_.out (by kernel_rfl)) (fun _ _ _ h => h) (Or.inl ⟨by rfl, ?_⟩) ?_ ?_
                rotate_left
                · intro w'
                  go_simp
                  with_reducible rfl
                rotate_left
                · simp only [Act.put, List.setIfInBounds_toArray, List.set_cons_zero, List.set_cons_succ, i64_w, i32_w]
                  rfl
                refine pure_ (i := 1) (N := some 18) (v := ?_) (a' := ?_) #[true, true, false, false, false, false, false, false, false, false] rfl rfl (any_of HT_.out (by kernel_rfl)) (fun _ _ _ h => h) (Or.inl ⟨by rfl, ?_⟩) ?_ ?_
                rotate_left
                · intro w'
                  go_simp
                  with_reducible rfl
                rotate_left
                · simp only [Act.put, List.setIfInBounds_toArray, List.set_cons_zero, List.set_cons_succ, i64_w, i32_w]
                  rfl
                refine pure_ (i := 2) (N := some 19) (v := ?_) (a' := ?_) #[true, true, true, false, false, false, false, false, false, false] rfl rfl (any_of HT_.out (by kernel_rfl)) (fun _ _ _ h => h) (Or.inl ⟨by rfl, ?_⟩) ?_ ?_
                rotate_left
                · intro w'
                  go_simp
                  with_reducible rfl
                rotate_left
                · simp only [Act.put, List.setIfInBounds_toArray, List.set_cons_zero, List.set_cons_succ, i64_w, i32_w]
                  rfl
                refine pure_ (i := 4) (N := some 21) (v := ?_) (a' := ?_) #[true, true, true, false, true, false, false, false, false, false] rfl rfl (any_of HT_.out (by kernel_rfl)) (fun _ _ _ h => h) (Or.inl ⟨by rfl, ?_⟩) ?_ ?_
                rotate_left
                · intro w'
                  go_simp
                  with_reducible rfl
                rotate_left
                · simp only [Act.put, List.setIfInBounds_toArray, List.set_cons_zero, List.set_cons_succ, i64_w, i32_w]
                  rfl
                refine pure_ (i := 5) (N := some 22) (v := ?_) (a' := ?_) #[true, true, true, false, true, true, false, false, false, false] rfl rfl (any_of HT_.out (by kernel_rfl)) (fun _ _ _ h => h) (Or.inl ⟨by rfl, ?_⟩) ?_ ?_
                rotate_left
                · intro w'
                  go_simp
                  with_reducible rfl
                rotate_left
                · simp only [Act.put, List.setIfInBounds_toArray, List.set_cons_zero, List.set_cons_succ, i64_w, i32_w]
                  rfl
                refine pure_ (i := 6) (N := some 23) (v := ?_) (a' := ?_) #[true, true, true, false, true, true, true, false, false, false] rfl rfl (any_of HT_.out (by kernel_rfl)) (fun _ _ _ h => h) (Or.inl ⟨by rfl, ?_⟩) ?_ ?_
                rotate_left
                · intro w'
                  go_simp
                  with_reducible rfl
                rotate_left
                · simp only [Act.put, List.setIfInBounds_toArray, List.set_cons_zero, List.set_cons_succ, i64_w, i32_w]
                  rfl
                refine take_ (i := 3) (N := some 20) (v := ?_) (a' := ?_) #[true, true, true, true, true, true, true, false, false, false] rfl rfl (take_ofW HT_.out HW_.out (by kernel_rfl)) (fun _ _ _ h => h) (Or.inl ⟨by rfl, ?_⟩) hHeld ?_ ?_
                rotate_left
                · rintro w' ⟨s0, s1, s2, s3, s4, s5, s6, s7, s8, s9, s10, s11, s12, s13, s14, s15⟩
                  go_simp
                  with_reducible rfl
                rotate_left
                · simp only [Act.put, List.setIfInBounds_toArray, List.set_cons_zero, List.set_cons_succ, i64_w, i32_w]
                  rfl
                refine take_ (i := 7) (N := some 24) (v := ?_) (a' := ?_) #[true, true, true, true, true, true, true, true, false, false] rfl rfl (take_ofW HT_.out HW_.out (by kernel_rfl)) (fun _ _ _ h => h) (Or.inl ⟨by rfl, ?_⟩) hHeld ?_ ?_
                rotate_left
                · rintro w' ⟨s0, s1, s2, s3, s4, s5, s6, s7, s8, s9, s10, s11, s12, s13, s14, s15⟩
                  go_simp
                  with_reducible rfl
                rotate_left
                · simp only [Act.put, List.setIfInBounds_toArray, List.set_cons_zero, List.set_cons_succ, i64_w, i32_w]
                  rfl
                refine one_ (i := 8) (N := some 25) #[true, true, true, true, true, true, true, true, true, false] rfl rfl (one_of HT_.out (by kernel_rfl)) (by decide) (fun K hK => ?_)
                refine goes_ Try.func76 (by kernel_rfl) rfl #[.agg #[.int .i64 ((rd_T69 l0 x5_1).f0), .complex .f32 ((rd_T69 l0 x5_1).f1).re ((rd_T69 l0 x5_1).f1).im, .complex .f32 ((rd_T69 l0 x5_1).f2).re ((rd_T69 l0 x5_1).f2).im, .int .i64 ((rd_T69 l0 x5_1).f3), .complex .f32 ((rd_T69 l0 x5_1).f4.f0).re ((rd_T69 l0 x5_1).f4.f0).im, .complex .f32 ((rd_T69 l0 x5_1).f4.f1).re ((rd_T69 l0 x5_1).f4.f1).im, .complex .f32 ((rd_T69 l0 x5_1).f4.f2).re ((rd_T69 l0 x5_1).f4.f2).im, .int .i64 ((rd_T69 l0 x5_1).f5)], .agg #[.int .i64 ((rd_T69 l1 x5_1).f0), .complex .f32 ((rd_T69 l1 x5_1).f1).re ((rd_T69 l1 x5_1).f1).im, .complex .f32 ((rd_T69 l1 x5_1).f2).re ((rd_T69 l1 x5_1).f2).im, .int .i64 ((rd_T69 l1 x5_1).f3), .complex .f32 ((rd_T69 l1 x5_1).f4.f0).re ((rd_T69 l1 x5_1).f4.f0).im, .complex .f32 ((rd_T69 l1 x5_1).f4.f1).re ((rd_T69 l1 x5_1).f4.f1).im, .complex .f32 ((rd_T69 l1 x5_1).f4.f2).re ((rd_T69 l1 x5_1).f4.f2).im, .int .i64 ((rd_T69 l1 x5_1).f5)]] (by rfl) rfl rfl (by (try simp only [List.map_toArray, List.map_cons, List.map_nil]); rfl) ?_
                with_reducible refine (laws_eqBus.calls ((rd_T69 l0 x5_1).f0) ((rd_T69 l0 x5_1).f1) ((rd_T69 l0 x5_1).f2) ((rd_T69 l0 x5_1).f3) ((rd_T69 l0 x5_1).f4.f0) ((rd_T69 l0 x5_1).f4.f1) ((rd_T69 l0 x5_1).f4.f2) ((rd_T69 l0 x5_1).f5) ((rd_T69 l1 x5_1).f0) ((rd_T69 l1 x5_1).f1) ((rd_T69 l1 x5_1).f2) ((rd_T69 l1 x5_1).f3) ((rd_T69 l1 x5_1).f4.f0) ((rd_T69 l1 x5_1).f4.f1) ((rd_T69 l1 x5_1).f4.f2) ((rd_T69 l1 x5_1).f5) false _ A7.out).mono ?_
                rintro e w12 ⟨rfl, hb⟩
                refine ⟨_, rfl, ?_⟩
                have n0_ := Aside0.mk (below_step (by with_reducible exact HB.out) hb)
                clear HB
                have HB := n0_
                clear n0_
                (try clear hb)
                (try clear hb2)
                (try clear hk)
                (try clear hi)
                refine hK.out _ _ ⟨((HB.out.cell (World.block_lt_of_cell? w _ hw322_0)).trans hw322_0), ((HB.out.cell (World.block_lt_of_cell? w _ hw322_1)).trans hw322_1), ((HB.out.cell (World.block_lt_of_cell? w _ hw322_2)).trans hw322_2), ((HB.out.cell (World.block_lt_of_cell? w _ hw322_3)).trans hw322_3), ((HB.out.cell (World.block_lt_of_cell? w _ hw322_4)).trans hw322_4), ((HB.out.cell (World.block_lt_of_cell? w _ hw322_5)).trans hw322_5), ((HB.out.cell (World.block_lt_of_cell? w _ hw322_6)).trans hw322_6), ((HB.out.cell (World.block_lt_of_cell? w _ hw322_7)).trans hw322_7), ((HB.out.cell (World.block_lt_of_cell? w _ hw323_0)).trans hw323_0), ((HB.out.cell (World.block_lt_of_cell? w _ hw323_1)).trans hw323_1), ((HB.out.cell (World.block_lt_of_cell? w _ hw323_2)).trans hw323_2), ((HB.out.cell (World.block_lt_of_cell? w _ hw323_3)).trans hw323_3), ((HB.out.cell (World.block_lt_of_cell? w _ hw323_4)).trans hw323_4), ((HB.out.cell (World.block_lt_of_cell? w _ hw323_5)).trans hw323_5), ((HB.out.cell (World.block_lt_of_cell? w _ hw323_6)).trans hw323_6), ((HB.out.cell (World.block_lt_of_cell? w _ hw323_7)).trans hw323_7)⟩ (fun hHeld => ?_)
                clear hK K
                refine norm_ (a' := ?_) ?_ ?_
                rotate_left
                · show Act.put _ (some 25) _ = _
                  simp only [Act.put, List.setIfInBounds_toArray, List.set_cons_zero, List.set_cons_succ, i64_w, i32_w]
                  rfl
                refine pure_ (i := 9) (N := some 26) (v := ?_) (a' := ?_) #[true, true, true, true, true, true, true, true, true, true] rfl rfl (any_of HT_.out (by kernel_rfl)) (fun _ _ _ h => h) (Or.inl ⟨by rfl, ?_⟩) ?_ ?_
                rotate_left
                · intro w'
                  go_simp
                  with_reducible rfl
                rotate_left
                · simp only [Act.put, List.setIfInBounds_toArray, List.set_cons_zero, List.set_cons_succ, i64_w, i32_w]
                  rfl
                refine done_ (done_of HT_.out (by kernel_rfl)) ?_
                try go_wp2
                go_ret
                exact ⟨by rfl, by with_reducible exact HB.out⟩
            · rw [if_neg c6] at H
              exact absurd H (by simp)
          · rw [if_neg c5] at H
            exact absurd H (by simp)
        · rw [if_neg c4] at H
          have c4b0 : decide (x5_1 < (l0.length : Int)) = false := decide_eq_false c4
          clear c4
          obtain rfl := Option.some.inj H
          go_wp2
          go_ret
          exact ⟨by rfl, by with_reducible exact HB.out⟩
  · rw [if_neg c3] at H
    have c3b0 : ((l0.length : Int) == (l1.length : Int)) = false := beq_eq_false_iff_ne.mpr c3
    have c3b1 : ((l0.length : Int) != (l1.length : Int)) = true := bne_iff_ne.mpr c3
    have c3b2 : (l0.length == l1.length) = false := by (simp at c3 ⊢; omega)
    obtain rfl := Option.some.inj H
    go_enter Try.func47, Try.ntmps47
    go_wp2
    go_ret
    exact ⟨by rfl, by with_reducible exact HB.out⟩

end Go.Proofs.Ytkkokkmhldceiaa.M
/- Written by a program of this session (wip/patch_print.py over the kit's printer). -/
namespace Go.Proofs.Ytkkokkmhldceiaa.M
open Go.RowKit Go.Proofs.YtkkokkmhldceiaaW.PrintWords Go.Proofs.YtkkokkmhldceiaaW.PrintLast Go.Proofs.YtkkokkmhldceiaaW.PrintMore
attribute [local go_sem] max2_int min2_int max_two min_two max_three min_three max_four min_four   -- for this text's walks alone
set_option linter.unusedVariables false
set_option linter.unusedSimpArgs false

/-! ### laws_eqFeeder: function 20 -/
def laws_eqFeeder.f (k : Nat) (a0_0 : Cx) (a0_1 : Cx) (a0_2 : Cx) (l0_3 : List (S69)) (a1_0 : Cx) (a1_1 : Cx) (a1_2 : Cx) (l1_3 : List (S69)) : Option (Bool) := (laws_eqPhases.f a0_0 a0_1 a0_2 a1_0 a1_1 a1_2).bind fun t327 => (if t327 = true then ((laws_eqBusS.f k l0_3 l1_3).bind fun t328 => (if t328 = true then (some true) else (some false))) else (some false))
theorem laws_eqFeeder.mono : ∀ a0 a1 a2 a3 a4 a5 a6 a7 k, LeO (laws_eqFeeder.f k a0 a1 a2 a3 a4 a5 a6 a7) (laws_eqFeeder.f (k + 1) a0 a1 a2 a3 a4 a5 a6 a7) := by
  intro a0 a1 a2 a3 a4 a5 a6 a7 k
  unfold laws_eqFeeder.f
  repeat' first
      | (with_reducible exact laws_eqBusS.mono _ _ _)
      | (with_reducible exact LeO.refl _)
      | (with_reducible refine LeO.ite ?_ ?_)
      | (with_reducible refine LeO.bind ?_ (fun _ => ?_))
set_option maxHeartbeats 8000000 in
set_option maxRecDepth 100000 in
theorem laws_eqFeeder.calls (k : Nat) (a0_0 : Cx) (a0_1 : Cx) (a0_2 : Cx) (A0_3 : Option Addr) (c0_3 : Nat) (l0_3 : List (S69)) (a1_0 : Cx) (a1_1 : Cx) (a1_2 : Cx) (A1_3 : Option Addr) (c1_3 : Nat) (l1_3 : List (S69)) (r : Bool) (w : World) (hr0_3 : Kd.C k69 w A0_3 l0_3.length l0_3) (hc0_3 : l0_3.length ≤ c0_3) (hr1_3 : Kd.C k69 w A1_3 l1_3.length l1_3) (hc1_3 : l1_3.length ≤ c1_3) (h : laws_eqFeeder.f k a0_0 a0_1 a0_2 l0_3 a1_0 a1_1 a1_2 l1_3 = some r) :
    Calls Try.prog 20 #[.agg #[.complex .f32 a0_0.re a0_0.im, .complex .f32 a0_1.re a0_1.im, .complex .f32 a0_2.re a0_2.im, .slice A0_3 l0_3.length c0_3], .agg #[.complex .f32 a1_0.re a1_0.im, .complex .f32 a1_1.re a1_1.im, .complex .f32 a1_2.re a1_2.im, .slice A1_3 l1_3.length c1_3]] w fun e w' => e = .returned (.bool r) ∧ Below w.heap.size w w' := by
  have hu27 := Try.underlying27
  have hu24 := Try.underlying24
  have HR0_3 := Aside0.mk hr0_3
  have HC0_3 := Aside0.mk hc0_3
  clear hr0_3 hc0_3
  have HR1_3 := Aside0.mk hr1_3
  have HC1_3 := Aside0.mk hc1_3
  clear hr1_3 hc1_3
  have HB := Aside0.mk (Below.refl w.heap.size w)
  have H : ((laws_eqPhases.f a0_0 a0_1 a0_2 a1_0 a1_1 a1_2).bind fun t327 => (if t327 = true then ((laws_eqBusS.f k l0_3 l1_3).bind fun t328 => (if t328 = true then (some true) else (some false))) else (some false))) = some r := h
  clear h
  replace H := Option.bind_eq_some_iff.mp H
  obtain ⟨t327, A30, H⟩ := H
  replace H : (if t327 = true then ((laws_eqBusS.f k l0_3 l1_3).bind fun t328 => (if t328 = true then (some true) else (some false))) else (some false)) = some r := H
  have A3 := Aside0.mk A30
  clear A30
  by_cases c4 : t327 = true
  · subst c4
    have H1 : ((laws_eqBusS.f k l0_3 l1_3).bind fun t328 => (if t328 = true then (some true) else (some false))) = some r := by rw [if_pos rfl] at H; exact H
    clear H
    have H := H1
    clear H1
    replace H := Option.bind_eq_some_iff.mp H
    obtain ⟨t328, A50, H⟩ := H
    replace H : (if t328 = true then (some true) else (some false)) = some r := H
    have A5 := Aside0.mk A50
    clear A50
    by_cases c6 : t328 = true
    · subst c6
      have H1 : (some true) = some r := by rw [if_pos rfl] at H; exact H
      clear H
      have H := H1
      clear H1
      obtain rfl := Option.some.inj H
      go_enter Try.func20, Try.ntmps20
      go_wp2_with (first | ((with_reducible refine gate_dst (N := 2) rfl ?_); refine box_event ?hg (N := 2) ?hd (cs := #[.complex .f32 a0_0.re a0_0.im, .complex .f32 a0_1.re a0_1.im, .complex .f32 a0_2.re a0_2.im, .slice A0_3 l0_3.length c0_3]) (t := 27) ?hr ?_; (case hd => rfl); (case hg => rfl); (case hr => (go_simp; done)); intro gb325 hg w7 hbox hb; have n0_ := Aside0.mk (below_step (by with_reducible exact HB.out) hb); have n1_ := Aside0.mk (hbox); have n2_ := Aside0.mk ((by rw [hg]; exact (below_size (by with_reducible exact HB.out)) : w.heap.size ≤ gb325)); have n3_ := Aside0.mk ((by rw [hg]; exact (below_size (by with_reducible exact HB.out)) : w.heap.size ≤ gb325)); clear HB; have HB := n0_; have BK325 := n1_; have GW325 := n2_; have GE325 := n3_; clear n0_ n1_ n2_ n3_; clear hb hbox hg) | ((with_reducible refine gate_dst (N := 3) rfl ?_); refine box_event ?hg (N := 3) ?hd (cs := #[.complex .f32 a1_0.re a1_0.im, .complex .f32 a1_1.re a1_1.im, .complex .f32 a1_2.re a1_2.im, .slice A1_3 l1_3.length c1_3]) (t := 27) ?hr ?_; (case hd => rfl); (case hg => rfl); (case hr => (go_simp; done)); intro gb326 hg w8 hbox hb; have n0_ := Aside0.mk (blk_below (g := gb325) (o := .cells #[.complex .f32 a0_0.re a0_0.im, .complex .f32 a0_1.re a0_1.im, .complex .f32 a0_2.re a0_2.im, .slice A0_3 l0_3.length c0_3] 27 (0, 0)) (by exact BK325.out) hb); have n1_ := Aside0.mk (below_step (by with_reducible exact HB.out) hb); have n2_ := Aside0.mk (hbox); have n3_ := Aside0.mk ((by rw [hg]; exact (below_size (by with_reducible exact HB.out)) : w.heap.size ≤ gb326)); have n4_ := Aside0.mk ((by rw [hg]; exact (below_size (by with_reducible exact HB.out)) : w.heap.size ≤ gb326)); have n5_ := Aside0.mk ((by rw [hg]; exact Nat.ne_of_lt (blk_lt (g := gb325) (o := .cells #[.complex .f32 a0_0.re a0_0.im, .complex .f32 a0_1.re a0_1.im, .complex .f32 a0_2.re a0_2.im, .slice A0_3 l0_3.length c0_3] 27 (0, 0)) (by exact BK325.out)) : gb325 ≠ gb326)); have n6_ := Aside0.mk ((by rw [hg]; exact Nat.ne_of_gt (blk_lt (g := gb325) (o := .cells #[.complex .f32 a0_0.re a0_0.im, .complex .f32 a0_1.re a0_1.im, .complex .f32 a0_2.re a0_2.im, .slice A0_3 l0_3.length c0_3] 27 (0, 0)) (by exact BK325.out)) : gb326 ≠ gb325)); clear BK325; clear HB; have BK325 := n0_; have HB := n1_; have BK326 := n2_; have GW326 := n3_; have GE326 := n4_; have NB325_326 := n5_; have NB326_325 := n6_; clear n0_ n1_ n2_ n3_ n4_ n5_ n6_; clear hb hbox hg; have hnb9 := NB325_326.out; have hnc9 := NB326_325.out; have hcz10_0 : w8.cell? ⟨gb325, 0, none⟩ = some (.complex .f32 a0_0.re a0_0.im) := (blk_cell BK325.out 0).trans rfl; have hcz10_1 : w8.cell? ⟨gb325, 1, none⟩ = some (.complex .f32 a0_1.re a0_1.im) := (blk_cell BK325.out 1).trans rfl; have hcz10_2 : w8.cell? ⟨gb325, 2, none⟩ = some (.complex .f32 a0_2.re a0_2.im) := (blk_cell BK325.out 2).trans rfl; have hcz10_3 : w8.cell? ⟨gb325, 3, none⟩ = some (.slice A0_3 l0_3.length c0_3) := (blk_cell BK325.out 3).trans rfl; have hfz10_0 := blk_frozen BK325.out 0; have hfz10_1 := blk_frozen BK325.out 1; have hfz10_2 := blk_frozen BK325.out 2; have hfz10_3 := blk_frozen BK325.out 3; have hcz11_0 : w8.cell? ⟨gb326, 0, none⟩ = some (.complex .f32 a1_0.re a1_0.im) := (blk_cell BK326.out 0).trans rfl; have hcz11_1 : w8.cell? ⟨gb326, 1, none⟩ = some (.complex .f32 a1_1.re a1_1.im) := (blk_cell BK326.out 1).trans rfl; have hcz11_2 : w8.cell? ⟨gb326, 2, none⟩ = some (.complex .f32 a1_2.re a1_2.im) := (blk_cell BK326.out 2).trans rfl; have hcz11_3 : w8.cell? ⟨gb326, 3, none⟩ = some (.slice A1_3 l1_3.length c1_3) := (blk_cell BK326.out 3).trans rfl; have hfz11_0 := blk_frozen BK326.out 0; have hfz11_1 := blk_frozen BK326.out 1; have hfz11_2 := blk_frozen BK326.out 2; have hfz11_3 := blk_frozen BK326.out 3) | ((with_reducible refine gate_callee (f := 46) rfl ?_); refine goesL_ (some 9) rfl rfl Try.func46 (by kernel_rfl) rfl #[.agg #[.complex .f32 a0_0.re a0_0.im, .complex .f32 a0_1.re a0_1.im, .complex .f32 a0_2.re a0_2.im], .agg #[.complex .f32 a1_0.re a1_0.im, .complex .f32 a1_1.re a1_1.im, .complex .f32 a1_2.re a1_2.im]] rfl (by (try simp only [List.map_toArray, List.map_cons, List.map_nil]); rfl) ?_; (with_reducible refine (laws_eqPhases.calls a0_0 a0_1 a0_2 a1_0 a1_1 a1_2 true _ A3.out).mono ?_); rintro e w12 ⟨rfl, hb⟩; refine ⟨_, rfl, ?_⟩; have n0_ := Aside0.mk (blk_below (g := gb325) (o := .cells #[.complex .f32 a0_0.re a0_0.im, .complex .f32 a0_1.re a0_1.im, .complex .f32 a0_2.re a0_2.im, .slice A0_3 l0_3.length c0_3] 27 (0, 0)) (by exact BK325.out) hb); have n1_ := Aside0.mk (blk_below (g := gb326) (o := .cells #[.complex .f32 a1_0.re a1_0.im, .complex .f32 a1_1.re a1_1.im, .complex .f32 a1_2.re a1_2.im, .slice A1_3 l1_3.length c1_3] 27 (0, 0)) (by exact BK326.out) hb); have n2_ := Aside0.mk (below_step (by with_reducible exact HB.out) hb); clear BK325; clear BK326; clear HB; have BK325 := n0_; have BK326 := n1_; have HB := n2_; clear n0_ n1_ n2_; (try clear hb); (try clear hb2); (try clear hk); (try clear hi); have hcz13_0 : w12.cell? ⟨gb325, 0, none⟩ = some (.complex .f32 a0_0.re a0_0.im) := (blk_cell BK325.out 0).trans rfl; have hcz13_1 : w12.cell? ⟨gb325, 1, none⟩ = some (.complex .f32 a0_1.re a0_1.im) := (blk_cell BK325.out 1).trans rfl; have hcz13_2 : w12.cell? ⟨gb325, 2, none⟩ = some (.complex .f32 a0_2.re a0_2.im) := (blk_cell BK325.out 2).trans rfl; have hcz13_3 : w12.cell? ⟨gb325, 3, none⟩ = some (.slice A0_3 l0_3.length c0_3) := (blk_cell BK325.out 3).trans rfl; have hfz13_0 := blk_frozen BK325.out 0; have hfz13_1 := blk_frozen BK325.out 1; have hfz13_2 := blk_frozen BK325.out 2; have hfz13_3 := blk_frozen BK325.out 3; have hcz14_0 : w12.cell? ⟨gb326, 0, none⟩ = some (.complex .f32 a1_0.re a1_0.im) := (blk_cell BK326.out 0).trans rfl; have hcz14_1 : w12.cell? ⟨gb326, 1, none⟩ = some (.complex .f32 a1_1.re a1_1.im) := (blk_cell BK326.out 1).trans rfl; have hcz14_2 : w12.cell? ⟨gb326, 2, none⟩ = some (.complex .f32 a1_2.re a1_2.im) := (blk_cell BK326.out 2).trans rfl; have hcz14_3 : w12.cell? ⟨gb326, 3, none⟩ = some (.slice A1_3 l1_3.length c1_3) := (blk_cell BK326.out 3).trans rfl; have hfz14_0 := blk_frozen BK326.out 0; have hfz14_1 := blk_frozen BK326.out 1; have hfz14_2 := blk_frozen BK326.out 2; have hfz14_3 := blk_frozen BK326.out 3) | ((with_reducible refine gate_callee (f := 47) rfl ?_); refine goesL_ (some 15) rfl rfl Try.func47 (by kernel_rfl) rfl #[.slice A0_3 l0_3.length c0_3, .slice A1_3 l1_3.length c1_3] rfl (by (try simp only [List.map_toArray, List.map_cons, List.map_nil]); rfl) ?_; (with_reducible refine (laws_eqBusS.calls k _ _ l0_3 _ _ l1_3 true _ ?side1 ?side2 ?side3 ?side4 A5.out).mono ?_); (case side1 => repeat (exact (Kd.C_below HR0_3.out HB.out))); (case side2 => exact HC0_3.out); (case side3 => repeat (exact (Kd.C_below HR1_3.out HB.out))); (case side4 => exact HC1_3.out); rintro e w15 ⟨rfl, hb⟩; refine ⟨_, rfl, ?_⟩; have n0_ := Aside0.mk (blk_below (g := gb325) (o := .cells #[.complex .f32 a0_0.re a0_0.im, .complex .f32 a0_1.re a0_1.im, .complex .f32 a0_2.re a0_2.im, .slice A0_3 l0_3.length c0_3] 27 (0, 0)) (by exact BK325.out) hb); have n1_ := Aside0.mk (blk_below (g := gb326) (o := .cells #[.complex .f32 a1_0.re a1_0.im, .complex .f32 a1_1.re a1_1.im, .complex .f32 a1_2.re a1_2.im, .slice A1_3 l1_3.length c1_3] 27 (0, 0)) (by exact BK326.out) hb); have n2_ := Aside0.mk (below_step (by with_reducible exact HB.out) hb); clear BK325; clear BK326; clear HB; have BK325 := n0_; have BK326 := n1_; have HB := n2_; clear n0_ n1_ n2_; (try clear hb); (try clear hb2); (try clear hk); (try clear hi)))
      go_ret
      exact ⟨by rfl, by with_reducible exact HB.out⟩
    · replace c6 := Bool.eq_false_iff.mpr c6
      subst c6
      have H1 : (some false) = some r := by rw [if_neg (show ¬ (false = true) by decide)] at H; exact H
      clear H
      have H := H1
      clear H1
      obtain rfl := Option.some.inj H
      go_enter Try.func20, Try.ntmps20
      go_wp2_with (first | ((with_reducible refine gate_dst (N := 2) rfl ?_); refine box_event ?hg (N := 2) ?hd (cs := #[.complex .f32 a0_0.re a0_0.im, .complex .f32 a0_1.re a0_1.im, .complex .f32 a0_2.re a0_2.im, .slice A0_3 l0_3.length c0_3]) (t := 27) ?hr ?_; (case hd => rfl); (case hg => rfl); (case hr => (go_simp; done)); intro gb325 hg w16 hbox hb; have n0_ := Aside0.mk (below_step (by with_reducible exact HB.out) hb); have n1_ := Aside0.mk (hbox); have n2_ := Aside0.mk ((by rw [hg]; exact (below_size (by with_reducible exact HB.out)) : w.heap.size ≤ gb325)); have n3_ := Aside0.mk ((by rw [hg]; exact (below_size (by with_reducible exact HB.out)) : w.heap.size ≤ gb325)); clear HB; have HB := n0_; have BK325 := n1_; have GW325 := n2_; have GE325 := n3_; clear n0_ n1_ n2_ n3_; clear hb hbox hg) | ((with_reducible refine gate_dst (N := 3) rfl ?_); refine box_event ?hg (N := 3) ?hd (cs := #[.complex .f32 a1_0.re a1_0.im, .complex .f32 a1_1.re a1_1.im, .complex .f32 a1_2.re a1_2.im, .slice A1_3 l1_3.length c1_3]) (t := 27) ?hr ?_; (case hd => rfl); (case hg => rfl); (case hr => (go_simp; done)); intro gb326 hg w17 hbox hb; have n0_ := Aside0.mk (blk_below (g := gb325) (o := .cells #[.complex .f32 a0_0.re a0_0.im, .complex .f32 a0_1.re a0_1.im, .complex .f32 a0_2.re a0_2.im, .slice A0_3 l0_3.length c0_3] 27 (0, 0)) (by exact BK325.out) hb); have n1_ := Aside0.mk (below_step (by with_reducible exact HB.out) hb); have n2_ := Aside0.mk (hbox); have n3_ := Aside0.mk ((by rw [hg]; exact (below_size (by with_reducible exact HB.out)) : w.heap.size ≤ gb326)); have n4_ := Aside0.mk ((by rw [hg]; exact (below_size (by with_reducible exact HB.out)) : w.heap.size ≤ gb326)); have n5_ := Aside0.mk ((by rw [hg]; exact Nat.ne_of_lt (blk_lt (g := gb325) (o := .cells #[.complex .f32 a0_0.re a0_0.im, .complex .f32 a0_1.re a0_1.im, .complex .f32 a0_2.re a0_2.im, .slice A0_3 l0_3.length c0_3] 27 (0, 0)) (by exact BK325.out)) : gb325 ≠ gb326)); have n6_ := Aside0.mk ((by rw [hg]; exact Nat.ne_of_gt (blk_lt (g := gb325) (o := .cells #[.complex .f32 a0_0.re a0_0.im, .complex .f32 a0_1.re a0_1.im, .complex .f32 a0_2.re a0_2.im, .slice A0_3 l0_3.length c0_3] 27 (0, 0)) (by exact BK325.out)) : gb326 ≠ gb325)); clear BK325; clear HB; have BK325 := n0_; have HB := n1_; have BK326 := n2_; have GW326 := n3_; have GE326 := n4_; have NB325_326 := n5_; have NB326_325 := n6_; clear n0_ n1_ n2_ n3_ n4_ n5_ n6_; clear hb hbox hg; have hnb18 := NB325_326.out; have hnc18 := NB326_325.out; have hcz19_0 : w17.cell? ⟨gb325, 0, none⟩ = some (.complex .f32 a0_0.re a0_0.im) := (blk_cell BK325.out 0).trans rfl; have hcz19_1 : w17.cell? ⟨gb325, 1, none⟩ = some (.complex .f32 a0_1.re a0_1.im) := (blk_cell BK325.out 1).trans rfl; have hcz19_2 : w17.cell? ⟨gb325, 2, none⟩ = some (.complex .f32 a0_2.re a0_2.im) := (blk_cell BK325.out 2).trans rfl; have hcz19_3 : w17.cell? ⟨gb325, 3, none⟩ = some (.slice A0_3 l0_3.length c0_3) := (blk_cell BK325.out 3).trans rfl; have hfz19_0 := blk_frozen BK325.out 0; have hfz19_1 := blk_frozen BK325.out 1; have hfz19_2 := blk_frozen BK325.out 2; have hfz19_3 := blk_frozen BK325.out 3; have hcz20_0 : w17.cell? ⟨gb326, 0, none⟩ = some (.complex .f32 a1_0.re a1_0.im) := (blk_cell BK326.out 0).trans rfl; have hcz20_1 : w17.cell? ⟨gb326, 1, none⟩ = some (.complex .f32 a1_1.re a1_1.im) := (blk_cell BK326.out 1).trans rfl; have hcz20_2 : w17.cell? ⟨gb326, 2, none⟩ = some (.complex .f32 a1_2.re a1_2.im) := (blk_cell BK326.out 2).trans rfl; have hcz20_3 : w17.cell? ⟨gb326, 3, none⟩ = some (.slice A1_3 l1_3.length c1_3) := (blk_cell BK326.out 3).trans rfl; have hfz20_0 := blk_frozen BK326.out 0; have hfz20_1 := blk_frozen BK326.out 1; have hfz20_2 := blk_frozen BK326.out 2; have hfz20_3 := blk_frozen BK326.out 3) | ((with_reducible refine gate_callee (f := 46) rfl ?_); refine goesL_ (some 9) rfl rfl Try.func46 (by kernel_rfl) rfl #[.agg #[.complex .f32 a0_0.re a0_0.im, .complex .f32 a0_1.re a0_1.im, .complex .f32 a0_2.re a0_2.im], .agg #[.complex .f32 a1_0.re a1_0.im, .complex .f32 a1_1.re a1_1.im, .complex .f32 a1_2.re a1_2.im]] rfl (by (try simp only [List.map_toArray, List.map_cons, List.map_nil]); rfl) ?_; (with_reducible refine (laws_eqPhases.calls a0_0 a0_1 a0_2 a1_0 a1_1 a1_2 true _ A3.out).mono ?_); rintro e w21 ⟨rfl, hb⟩; refine ⟨_, rfl, ?_⟩; have n0_ := Aside0.mk (blk_below (g := gb325) (o := .cells #[.complex .f32 a0_0.re a0_0.im, .complex .f32 a0_1.re a0_1.im, .complex .f32 a0_2.re a0_2.im, .slice A0_3 l0_3.length c0_3] 27 (0, 0)) (by exact BK325.out) hb); have n1_ := Aside0.mk (blk_below (g := gb326) (o := .cells #[.complex .f32 a1_0.re a1_0.im, .complex .f32 a1_1.re a1_1.im, .complex .f32 a1_2.re a1_2.im, .slice A1_3 l1_3.length c1_3] 27 (0, 0)) (by exact BK326.out) hb); have n2_ := Aside0.mk (below_step (by with_reducible exact HB.out) hb); clear BK325; clear BK326; clear HB; have BK325 := n0_; have BK326 := n1_; have HB := n2_; clear n0_ n1_ n2_; (try clear hb); (try clear hb2); (try clear hk); (try clear hi); have hcz22_0 : w21.cell? ⟨gb325, 0, none⟩ = some (.complex .f32 a0_0.re a0_0.im) := (blk_cell BK325.out 0).trans rfl; have hcz22_1 : w21.cell? ⟨gb325, 1, none⟩ = some (.complex .f32 a0_1.re a0_1.im) := (blk_cell BK325.out 1).trans rfl; have hcz22_2 : w21.cell? ⟨gb325, 2, none⟩ = some (.complex .f32 a0_2.re a0_2.im) := (blk_cell BK325.out 2).trans rfl; have hcz22_3 : w21.cell? ⟨gb325, 3, none⟩ = some (.slice A0_3 l0_3.length c0_3) := (blk_cell BK325.out 3).trans rfl; have hfz22_0 := blk_frozen BK325.out 0; have hfz22_1 := blk_frozen BK325.out 1; have hfz22_2 := blk_frozen BK325.out 2; have hfz22_3 := blk_frozen BK325.out 3; have hcz23_0 : w21.cell? ⟨gb326, 0, none⟩ = some (.complex .f32 a1_0.re a1_0.im) := (blk_cell BK326.out 0).trans rfl; have hcz23_1 : w21.cell? ⟨gb326, 1, none⟩ = some (.complex .f32 a1_1.re a1_1.im) := (blk_cell BK326.out 1).trans rfl; have hcz23_2 : w21.cell? ⟨gb326, 2, none⟩ = some (.complex .f32 a1_2.re a1_2.im) := (blk_cell BK326.out 2).trans rfl; have hcz23_3 : w21.cell? ⟨gb326, 3, none⟩ = some (.slice A1_3 l1_3.length c1_3) := (blk_cell BK326.out 3).trans rfl; have hfz23_0 := blk_frozen BK326.out 0; have hfz23_1 := blk_frozen BK326.out 1; have hfz23_2 := blk_frozen BK326.out 2; have hfz23_3 := blk_frozen BK326.out 3) | ((with_reducible refine gate_callee (f := 47) rfl ?_); refine goesL_ (some 15) rfl rfl Try.func47 (by kernel_rfl) rfl #[.slice A0_3 l0_3.length c0_3, .slice A1_3 l1_3.length c1_3] rfl (by (try simp only [List.map_toArray, List.map_cons, List.map_nil]); rfl) ?_; (with_reducible refine (laws_eqBusS.calls k _ _ l0_3 _ _ l1_3 false _ ?side1 ?side2 ?side3 ?side4 A5.out).mono ?_); (case side1 => repeat (exact (Kd.C_below HR0_3.out HB.out))); (case side2 => exact HC0_3.out); (case side3 => repeat (exact (Kd.C_below HR1_3.out HB.out))); (case side4 => exact HC1_3.out); rintro e w24 ⟨rfl, hb⟩; refine ⟨_, rfl, ?_⟩; have n0_ := Aside0.mk (blk_below (g := gb325) (o := .cells #[.complex .f32 a0_0.re a0_0.im, .complex .f32 a0_1.re a0_1.im, .complex .f32 a0_2.re a0_2.im, .slice A0_3 l0_3.length c0_3] 27 (0, 0)) (by exact BK325.out) hb); have n1_ := Aside0.mk (blk_below (g := gb326) (o := .cells #[.complex .f32 a1_0.re a1_0.im, .complex .f32 a1_1.re a1_1.im, .complex .f32 a1_2.re a1_2.im, .slice A1_3 l1_3.length c1_3] 27 (0, 0)) (by exact BK326.out) hb); have n2_ := Aside0.mk (below_step (by with_reducible exact HB.out) hb); clear BK325; clear BK326; clear HB; have BK325 := n0_; have BK326 := n1_; have HB := n2_; clear n0_ n1_ n2_; (try clear hb); (try clear hb2); (try clear hk); (try clear hi)))
      go_ret
      exact ⟨by rfl, by with_reducible exact HB.out⟩
  · replace c4 := Bool.eq_false_iff.mpr c4
    subst c4
    have H1 : (some false) = some r := by rw [if_neg (show ¬ (false = true) by decide)] at H; exact H
    clear H
    have H := H1
    clear H1
    obtain rfl := Option.some.inj H
    go_enter Try.func20, Try.ntmps20
    go_wp2_with (first | ((with_reducible refine gate_dst (N := 2) rfl ?_); refine box_event ?hg (N := 2) ?hd (cs := #[.complex .f32 a0_0.re a0_0.im, .complex .f32 a0_1.re a0_1.im, .complex .f32 a0_2.re a0_2.im, .slice A0_3 l0_3.length c0_3]) (t := 27) ?hr ?_; (case hd => rfl); (case hg => rfl); (case hr => (go_simp; done)); intro gb325 hg w25 hbox hb; have n0_ := Aside0.mk (below_step (by with_reducible exact HB.out) hb); have n1_ := Aside0.mk (hbox); have n2_ := Aside0.mk ((by rw [hg]; exact (below_size (by with_reducible exact HB.out)) : w.heap.size ≤ gb325)); have n3_ := Aside0.mk ((by rw [hg]; exact (below_size (by with_reducible exact HB.out)) : w.heap.size ≤ gb325)); clear HB; have HB := n0_; have BK325 := n1_; have GW325 := n2_; have GE325 := n3_; clear n0_ n1_ n2_ n3_; clear hb hbox hg) | ((with_reducible refine gate_dst (N := 3) rfl ?_); refine box_event ?hg (N := 3) ?hd (cs := #[.complex .f32 a1_0.re a1_0.im, .complex .f32 a1_1.re a1_1.im, .complex .f32 a1_2.re a1_2.im, .slice A1_3 l1_3.length c1_3]) (t := 27) ?hr ?_; (case hd => rfl); (case hg => rfl); (case hr => (go_simp; done)); intro gb326 hg w26 hbox hb; have n0_ := Aside0.mk (blk_below (g := gb325) (o := .cells #[.complex .f32 a0_0.re a0_0.im, .complex .f32 a0_1.re a0_1.im, .complex .f32 a0_2.re a0_2.im, .slice A0_3 l0_3.length c0_3] 27 (0, 0)) (by exact BK325.out) hb); have n1_ := Aside0.mk (below_step (by with_reducible exact HB.out) hb); have n2_ := Aside0.mk (hbox); have n3_ := Aside0.mk ((by rw [hg]; exact (below_size (by with_reducible exact HB.out)) : w.heap.size ≤ gb326)); have n4_ := Aside0.mk ((by rw [hg]; exact (below_size (by with_reducible exact HB.out)) : w.heap.size ≤ gb326)); have n5_ := Aside0.mk ((by rw [hg]; exact Nat.ne_of_lt (blk_lt (g := gb325) (o := .cells #[.complex .f32 a0_0.re a0_0.im, .complex .f32 a0_1.re a0_1.im, .complex .f32 a0_2.re a0_2.im, .slice A0_3 l0_3.length c0_3] 27 (0, 0)) (by exact BK325.out)) : gb325 ≠ gb326)); have n6_ := Aside0.mk ((by rw [hg]; exact Nat.ne_of_gt (blk_lt (g := gb325) (o := .cells #[.complex .f32 a0_0.re a0_0.im, .complex .f32 a0_1.re a0_1.im, .complex .f32 a0_2.re a0_2.im, .slice A0_3 l0_3.length c0_3] 27 (0, 0)) (by exact BK325.out)) : gb326 ≠ gb325)); clear BK325; clear HB; have BK325 := n0_; have HB := n1_; have BK326 := n2_; have GW326 := n3_; have GE326 := n4_; have NB325_326 := n5_; have NB326_325 := n6_; clear n0_ n1_ n2_ n3_ n4_ n5_ n6_; clear hb hbox hg; have hnb27 := NB325_326.out; have hnc27 := NB326_325.out; have hcz28_0 : w26.cell? ⟨gb325, 0, none⟩ = some (.complex .f32 a0_0.re a0_0.im) := (blk_cell BK325.out 0).trans rfl; have hcz28_1 : w26.cell? ⟨gb325, 1, none⟩ = some (.complex .f32 a0_1.re a0_1.im) := (blk_cell BK325.out 1).trans rfl; have hcz28_2 : w26.cell? ⟨gb325, 2, none⟩ = some (.complex .f32 a0_2.re a0_2.im) := (blk_cell BK325.out 2).trans rfl; have hcz28_3 : w26.cell? ⟨gb325, 3, none⟩ = some (.slice A0_3 l0_3.length c0_3) := (blk_cell BK325.out 3).trans rfl; have hfz28_0 := blk_frozen BK325.out 0; have hfz28_1 := blk_frozen BK325.out 1; have hfz28_2 := blk_frozen BK325.out 2; have hfz28_3 := blk_frozen BK325.out 3; have hcz29_0 : w26.cell? ⟨gb326, 0, none⟩ = some (.complex .f32 a1_0.re a1_0.im) := (blk_cell BK326.out 0).trans rfl; have hcz29_1 : w26.cell? ⟨gb326, 1, none⟩ = some (.complex .f32 a1_1.re a1_1.im) := (blk_cell BK326.out 1).trans rfl; have hcz29_2 : w26.cell? ⟨gb326, 2, none⟩ = some (.complex .f32 a1_2.re a1_2.im) := (blk_cell BK326.out 2).trans rfl; have hcz29_3 : w26.cell? ⟨gb326, 3, none⟩ = some (.slice A1_3 l1_3.length c1_3) := (blk_cell BK326.out 3).trans rfl; have hfz29_0 := blk_frozen BK326.out 0; have hfz29_1 := blk_frozen BK326.out 1; have hfz29_2 := blk_frozen BK326.out 2; have hfz29_3 := blk_frozen BK326.out 3) | ((with_reducible refine gate_callee (f := 46) rfl ?_); refine goesL_ (some 9) rfl rfl Try.func46 (by kernel_rfl) rfl #[.agg #[.complex .f32 a0_0.re a0_0.im, .complex .f32 a0_1.re a0_1.im, .complex .f32 a0_2.re a0_2.im], .agg #[.complex .f32 a1_0.re a1_0.im, .complex .f32 a1_1.re a1_1.im, .complex .f32 a1_2.re a1_2.im]] rfl (by (try simp only [List.map_toArray, List.map_cons, List.map_nil]); rfl) ?_; (with_reducible refine (laws_eqPhases.calls a0_0 a0_1 a0_2 a1_0 a1_1 a1_2 false _ A3.out).mono ?_); rintro e w30 ⟨rfl, hb⟩; refine ⟨_, rfl, ?_⟩; have n0_ := Aside0.mk (blk_below (g := gb325) (o := .cells #[.complex .f32 a0_0.re a0_0.im, .complex .f32 a0_1.re a0_1.im, .complex .f32 a0_2.re a0_2.im, .slice A0_3 l0_3.length c0_3] 27 (0, 0)) (by exact BK325.out) hb); have n1_ := Aside0.mk (blk_below (g := gb326) (o := .cells #[.complex .f32 a1_0.re a1_0.im, .complex .f32 a1_1.re a1_1.im, .complex .f32 a1_2.re a1_2.im, .slice A1_3 l1_3.length c1_3] 27 (0, 0)) (by exact BK326.out) hb); have n2_ := Aside0.mk (below_step (by with_reducible exact HB.out) hb); clear BK325; clear BK326; clear HB; have BK325 := n0_; have BK326 := n1_; have HB := n2_; clear n0_ n1_ n2_; (try clear hb); (try clear hb2); (try clear hk); (try clear hi)))
    go_ret
    exact ⟨by rfl, by with_reducible exact HB.out⟩

end Go.Proofs.Ytkkokkmhldceiaa.M
/- Written by a program of this session (wip/patch_print.py over the kit's printer). -/
namespace Go.Proofs.Ytkkokkmhldceiaa.M
open Go.RowKit Go.Proofs.YtkkokkmhldceiaaW.PrintWords Go.Proofs.YtkkokkmhldceiaaW.PrintLast Go.Proofs.YtkkokkmhldceiaaW.PrintMore
attribute [local go_sem] max2_int min2_int max_two min_two max_three min_three max_four min_four   -- for this text's walks alone
set_option linter.unusedVariables false
set_option linter.unusedSimpArgs false

/-! ### laws_eqTieS: function 21 -/
def laws_eqTieS.l0 : Nat → List (S72) → List (S72) → Int → Option (Bool)
  | 0, _, _, _ => none
  | k + 1, x0, x1, x5 => if x5 < (x0.length : Int) then (if 0 ≤ x5 then (if x5 < (x1.length : Int) then ((laws_eqTie.f ((rd_T72 x0 x5).f0) ((rd_T72 x0 x5).f1) ((rd_T72 x0 x5).f2) ((rd_T72 x0 x5).f3) ((rd_T72 x0 x5).f4) ((rd_T72 x1 x5).f0) ((rd_T72 x1 x5).f1) ((rd_T72 x1 x5).f2) ((rd_T72 x1 x5).f3) ((rd_T72 x1 x5).f4)).bind fun t331 => (if t331 = true then (laws_eqTieS.l0 k x0 x1 (wrap64 (x5 + 1))) else (some false))) else (none)) else (none)) else (some true)
def laws_eqTieS.f (k : Nat) (l0 : List (S72)) (l1 : List (S72)) : Option (Bool) := if (l0.length : Int) = (l1.length : Int) then (laws_eqTieS.l0 k l0 l1 0) else (some false)
theorem laws_eqTieS.mono_l : ∀ k, (∀ y0 y1 y2, LeO (laws_eqTieS.l0 k y0 y1 y2) (laws_eqTieS.l0 (k + 1) y0 y1 y2))
  | 0 => fun _ _ _ r h => by simp [laws_eqTieS.l0] at h
  | k + 1 => by
    have ih0 := laws_eqTieS.mono_l k
    · intro y0 y1 y2
      unfold laws_eqTieS.l0
      repeat' first
      | (with_reducible exact ih0 _ _ _)
      | (with_reducible exact LeO.refl _)
      | (with_reducible refine LeO.ite ?_ ?_)
      | (with_reducible refine LeO.bind ?_ (fun _ => ?_))
theorem laws_eqTieS.mono : ∀ a0 a1 k, LeO (laws_eqTieS.f k a0 a1) (laws_eqTieS.f (k + 1) a0 a1) := by
  intro a0 a1 k
  have ih0 := laws_eqTieS.mono_l k
  unfold laws_eqTieS.f
  repeat' first
      | (with_reducible exact ih0 _ _ _)
      | (with_reducible exact LeO.refl _)
      | (with_reducible refine LeO.ite ?_ ?_)
def laws_eqTieS.T6 : Bool × List (List Nat × List Nat) := (true, [([], []), ([], []), ([0, 1], [0, 1]), ([2], [2]), ([], []), ([], []), ([4, 5], [4, 5]), ([6], [6]), ([3, 7], [3, 7]), ([8], [8])])
def laws_eqTieS.B6 : List Nat := [0, 0, 3, 7, 0, 0, 48, 112, 255, 511]
theorem laws_eqTieS.tab6 : rtab .any (opsOf Try.f21 6) = laws_eqTieS.T6 := by kernel_rfl
theorem laws_eqTieS.bits6 : waitsOk laws_eqTieS.T6.2 laws_eqTieS.B6 = true := by kernel_rfl
set_option maxHeartbeats 8000000 in
set_option maxRecDepth 100000 in
theorem laws_eqTieS.calls (k : Nat) (A0 : Option Addr) (c0 : Nat) (l0 : List (S72)) (A1 : Option Addr) (c1 : Nat) (l1 : List (S72)) (r : Bool) (w : World) (hr0 : Kd.C k72 w A0 l0.length l0) (hc0 : l0.length ≤ c0) (hr1 : Kd.C k72 w A1 l1.length l1) (hc1 : l1.length ≤ c1) (h : laws_eqTieS.f k l0 l1 = some r) :
    Calls Try.prog 21 #[.slice A0 l0.length c0, .slice A1 l1.length c1] w fun e w' => e = .returned (.bool r) ∧ Below w.heap.size w w' := by
  have hu72 := Try.underlying72
  have HR0 := Aside0.mk hr0
  have HC0 := Aside0.mk hc0
  clear hr0 hc0
  have HR1 := Aside0.mk hr1
  have HC1 := Aside0.mk hc1
  clear hr1 hc1
  have HB := Aside0.mk (Below.refl w.heap.size w)
  have H : (if (l0.length : Int) = (l1.length : Int) then (laws_eqTieS.l0 k l0 l1 0) else (some false)) = some r := h
  clear h
  by_cases c3 : (l0.length : Int) = (l1.length : Int)
  · rw [if_pos c3] at H
    have c3b0 : ((l0.length : Int) == (l1.length : Int)) = true := beq_iff_eq.mpr c3
    have c3b1 : ((l0.length : Int) != (l1.length : Int)) = false := bne_eq_false_iff_eq.mpr c3
    have c3b2 : (l0.length == l1.length) = true := by (simp at c3 ⊢; omega)
    clear c3
    have H' := Aside0.mk H
    clear H
    go_enter Try.func21, Try.ntmps21
    go_wp2
    go_loopg [5] k (fun kq v5 w' => ∃ (x5_1 : Int), v5 = .int .i64 x5_1 ∧ Aside0 (laws_eqTieS.l0 kq l0 l1 x5_1 = some r) ∧ Aside0 (kq ≤ k) ∧ Aside0 (Below w.heap.size w w'))
    case atStart => exact ⟨(0), (by rfl), H', ⟨Nat.le_refl _⟩, ⟨by with_reducible exact HB.out⟩⟩
    case round =>
      clear H'
      try clear c3b0
      try clear c3b1
      try clear c3b2
      obtain ⟨x5_1, rfl, HA, HK1, HB⟩ := hrel
      cases gk with
      | zero => exact absurd HA.out (by simp [laws_eqTieS.l0])
      | succ k1 =>
        have H := HA.out
        clear HA
        simp only [laws_eqTieS.l0] at H
        by_cases c4 : x5_1 < (l0.length : Int)
        · rw [if_pos c4] at H
          have c4b0 : decide (x5_1 < (l0.length : Int)) = true := decide_eq_true c4
          clear c4
          by_cases c5 : 0 ≤ x5_1
          · rw [if_pos c5] at H
            have c5b0 : decide (0 ≤ x5_1) = true := decide_eq_true c5
            clear c5
            by_cases c6 : x5_1 < (l1.length : Int)
            · rw [if_pos c6] at H
              have c6b0 : decide (x5_1 < (l1.length : Int)) = true := decide_eq_true c6
              clear c6
              replace H := Option.bind_eq_some_iff.mp H
              obtain ⟨t331, A70, H⟩ := H
              replace H : (if t331 = true then (laws_eqTieS.l0 k1 l0 l1 (wrap64 (x5_1 + 1))) else (some false)) = some r := H
              have A7 := Aside0.mk A70
              clear A70
              by_cases c8 : t331 = true
              · subst c8
                have H1 : (laws_eqTieS.l0 k1 l0 l1 (wrap64 (x5_1 + 1))) = some r := by rw [if_pos rfl] at H; exact H
                clear H
                have H := H1
                clear H1
                have H' := Aside0.mk H
                clear H
                try go_wp2
                have n0_ := Aside0.mk (below_drew1 HB.out)
                clear HB
                have HB := n0_
                clear n0_
                have p329 : 0 ≤ (x5_1 : Int) := of_decide_eq_true (by (with_reducible assumption))
                have q329 : x5_1 < (l0.length : Int) := of_decide_eq_true (by (with_reducible assumption))
                obtain ⟨ad329, e329, hx329_0, hx329_1, hx329_2, hx329_3, hx329_4⟩ := at_T72 HR0.out x5_1 p329 q329
                have hw329_4 := hx329_4
                have hw329_3 := hx329_3
                have hw329_2 := hx329_2
                have hw329_1 := hx329_1
                have hw329_0 := hx329_0
                cases e329
                replace hx329_0 := (HB.out.cell (World.block_lt_of_cell? w _ hx329_0)).trans hx329_0
                replace hx329_1 := (HB.out.cell (World.block_lt_of_cell? w _ hx329_1)).trans hx329_1
                replace hx329_2 := (HB.out.cell (World.block_lt_of_cell? w _ hx329_2)).trans hx329_2
                replace hx329_3 := (HB.out.cell (World.block_lt_of_cell? w _ hx329_3)).trans hx329_3
                replace hx329_4 := (HB.out.cell (World.block_lt_of_cell? w _ hx329_4)).trans hx329_4
                replace p329 := eq_true p329
                replace q329 := eq_true q329
                have p330 : 0 ≤ (x5_1 : Int) := of_decide_eq_true (by (with_reducible assumption))
                have q330 : x5_1 < (l1.length : Int) := of_decide_eq_true (by (with_reducible assumption))
                obtain ⟨ad330, e330, hx330_0, hx330_1, hx330_2, hx330_3, hx330_4⟩ := at_T72 HR1.out x5_1 p330 q330
                have hw330_4 := hx330_4
                have hw330_3 := hx330_3
                have hw330_2 := hx330_2
                have hw330_1 := hx330_1
                have hw330_0 := hx330_0
                cases e330
                replace hx330_0 := (HB.out.cell (World.block_lt_of_cell? w _ hx330_0)).trans hx330_0
                replace hx330_1 := (HB.out.cell (World.block_lt_of_cell? w _ hx330_1)).trans hx330_1
                replace hx330_2 := (HB.out.cell (World.block_lt_of_cell? w _ hx330_2)).trans hx330_2
                replace hx330_3 := (HB.out.cell (World.block_lt_of_cell? w _ hx330_3)).trans hx330_3
                replace hx330_4 := (HB.out.cell (World.block_lt_of_cell? w _ hx330_4)).trans hx330_4
                replace p330 := eq_true p330
                replace q330 := eq_true q330
                refine start_ (n := 10) (S := fun w' => w'.cell? (ad329.add ((x5_1).toNat * 5)) = some (.int .i64 ((rd_T72 l0 x5_1).f0)) ∧ w'.cell? ⟨(ad329.add ((x5_1).toNat * 5)).block, (ad329.add ((x5_1).toNat * 5)).off + 1, none⟩ = some (.int .i64 ((rd_T72 l0 x5_1).f1)) ∧ w'.cell? ⟨(ad329.add ((x5_1).toNat * 5)).block, (ad329.add ((x5_1).toNat * 5)).off + 2, none⟩ = some (.complex .f32 ((rd_T72 l0 x5_1).f2).re ((rd_T72 l0 x5_1).f2).im) ∧ w'.cell? ⟨(ad329.add ((x5_1).toNat * 5)).block, (ad329.add ((x5_1).toNat * 5)).off + 3, none⟩ = some (.complex .f32 ((rd_T72 l0 x5_1).f3).re ((rd_T72 l0 x5_1).f3).im) ∧ w'.cell? ⟨(ad329.add ((x5_1).toNat * 5)).block, (ad329.add ((x5_1).toNat * 5)).off + 4, none⟩ = some (.int .i64 ((rd_T72 l0 x5_1).f4)) ∧ w'.cell? (ad330.add ((x5_1).toNat * 5)) = some (.int .i64 ((rd_T72 l1 x5_1).f0)) ∧ w'.cell? ⟨(ad330.add ((x5_1).toNat * 5)).block, (ad330.add ((x5_1).toNat * 5)).off + 1, none⟩ = some (.int .i64 ((rd_T72 l1 x5_1).f1)) ∧ w'.cell? ⟨(ad330.add ((x5_1).toNat * 5)).block, (ad330.add ((x5_1).toNat * 5)).off + 2, none⟩ = some (.complex .f32 ((rd_T72 l1 x5_1).f2).re ((rd_T72 l1 x5_1).f2).im) ∧ w'.cell? ⟨(ad330.add ((x5_1).toNat * 5)).block, (ad330.add ((x5_1).toNat * 5)).off + 3, none⟩ = some (.complex .f32 ((rd_T72 l1 x5_1).f3).re ((rd_T72 l1 x5_1).f3).im) ∧ w'.cell? ⟨(ad330.add ((x5_1).toNat * 5)).block, (ad330.add ((x5_1).toNat * 5)).off + 4, none⟩ = some (.int .i64 ((rd_T72 l1 x5_1).f4))) (ds := []) #[false, false, false, false, false, false, false, false, false, false] (by kernel_rfl) rfl rfl ⟨((HB.out.cell (World.block_lt_of_cell? w _ hw329_0)).trans hw329_0), ((HB.out.cell (World.block_lt_of_cell? w _ hw329_1)).trans hw329_1), ((HB.out.cell (World.block_lt_of_cell? w _ hw329_2)).trans hw329_2), ((HB.out.cell (World.block_lt_of_cell? w _ hw329_3)).trans hw329_3), ((HB.out.cell (World.block_lt_of_cell? w _ hw329_4)).trans hw329_4), ((HB.out.cell (World.block_lt_of_cell? w _ hw330_0)).trans hw330_0), ((HB.out.cell (World.block_lt_of_cell? w _ hw330_1)).trans hw330_1), ((HB.out.cell (World.block_lt_of_cell? w _ hw330_2)).trans hw330_2), ((HB.out.cell (World.block_lt_of_cell? w _ hw330_3)).trans hw330_3), ((HB.out.cell (World.block_lt_of_cell? w _ hw330_4)).trans hw330_4)⟩ (fun hHeld => ?_); refine with_tabW laws_eqTieS.tab6 laws_eqTieS.bits6 (fun HT_ HW_ => ?_)
                generalize wr.drew = w9 at HB hx329_0 hx329_1 hx329_2 hx329_3 hx329_4 hx330_0 hx330_1 hx330_2 hx330_3 hx330_4 hHeld ⊢
                refine pure_ (i := 0) (N := some 17) (v := ?_) (a' := ?_) #[true, false, false, false, false, false, false, false, false, false] rfl rfl (any_of HT_.out (by kernel_rfl)) (fun _ _ _ h => h) (Or.inl ⟨by rfl, ?_⟩) ?_ ?_
                rotate_left
                · intro w'
                  go_simp
                  with_reducible rfl
                rotate_left
                · simp only [Act.put, List.setIfInBounds_toArray, List.set_cons_zero, List.set_cons_succ, i64_w, i32_w]
                  rfl
                refine pure_ (i := 1) (N := some 18) (v := ?_) (a' := ?_) #[true, true, false, false, false, false, false, false, false, false] rfl rfl (any_of HT_.out (by kernel_rfl)) (fun _ _ _ h => h) (Or.inl ⟨by rfl, ?_⟩) ?_ ?_
                rotate_left
                · intro w'
                  go_simp
                  with_reducible rfl
                rotate_left
                · simp only [Act.put, List.setIfInBounds_toArray, List.set_cons_zero, List.set_cons_succ, i64_w, i32_w]
                  rfl
                refine pure_ (i := 2) (N := some 19) (v := ?_) (a' := ?_) #[true, true, true, false, false, false, false, false, false, false] rfl rfl (any_of HT_.out (by kernel_rfl)) (fun _ _ _ h => h) (Or.inl ⟨by rfl, ?_⟩) ?_ ?_
                rotate_left
                · intro w'
                  go_simp
                  with_reducible rfl
                rotate_left
                · simp only [Act.put, List.setIfInBounds_toArray, List.set_cons_zero, List.set_cons_succ, i64_w, i32_w]
                  rfl
                refine pure_ (i := 4) (N := some 21) (v := ?_) (a' := ?_) #[true, true, true, false, true, false, false, false, false, false] rfl rfl (any_of HT_.out (by kernel_rfl)) (fun _ _ _ h => h) (Or.inl ⟨by rfl, ?_⟩) ?_ ?_
                rotate_left
                · intro w'
                  go_simp
                  with_reducible rfl
                rotate_left
                · simp only [Act.put, List.setIfInBounds_toArray, List.set_cons_zero, List.set_cons_succ, i64_w, i32_w]
                  rfl
                refine pure_ (i := 5) (N := some 22) (v := ?_) (a' := ?_) #[true, true, true, false, true, true, false, false, false, false] rfl rfl (any_of HT_.out (by kernel_rfl)) (fun _ _ _ h => h) (Or.inl ⟨by rfl, ?_⟩) ?_ ?_
                rotate_left
                · intro w'
                  go_simp
                  with_reducible rfl
                rotate_left
                · simp only [Act.put, List.setIfInBounds_toArray, List.set_cons_zero, List.set_cons_succ, i64_w, i32_w]
                  rfl
                refine pure_ (i := 6) (N := some 23) (v := ?_) (a' := ?_) #[true, true, true, false, true, true, true, false, false, false] rfl rfl (any_of HT_.out (by kernel_rfl)) (fun _ _ _ h => h) (Or.inl ⟨by rfl, ?_⟩) ?_ ?_
                rotate_left
                · intro w'
                  go_simp
                  with_reducible rfl
                rotate_left
                · simp only [Act.put, List.setIfInBounds_toArray, List.set_cons_zero, List.set_cons_succ, i64_w, i32_w]
                  rfl
                refine take_ (i := 3) (N := some 20) (v := ?_) (a' := ?_) #[true, true, true, true, true, true, true, false, false, false] rfl rfl (take_ofW HT_.out HW_.out (by kernel_rfl)) (fun _ _ _ h => h) (Or.inl ⟨by rfl, ?_⟩) hHeld ?_ ?_
                rotate_left
                · rintro w' ⟨s0, s1, s2, s3, s4, s5, s6, s7, s8, s9⟩
                  go_simp
                  with_reducible rfl
                rotate_left
                · simp only [Act.put, List.setIfInBounds_toArray, List.set_cons_zero, List.set_cons_succ, i64_w, i32_w]
                  rfl
                refine take_ (i := 7) (N := some 24) (v := ?_) (a' := ?_) #[true, true, true, true, true, true, true, true, false, false] rfl rfl (take_ofW HT_.out HW_.out (by kernel_rfl)) (fun _ _ _ h => h) (Or.inl ⟨by rfl, ?_⟩) hHeld ?_ ?_
                rotate_left
                · rintro w' ⟨s0, s1, s2, s3, s4, s5, s6, s7, s8, s9⟩
                  go_simp
                  with_reducible rfl
                rotate_left
                · simp only [Act.put, List.setIfInBounds_toArray, List.set_cons_zero, List.set_cons_succ, i64_w, i32_w]
                  rfl
                refine one_ (i := 8) (N := some 25) #[true, true, true, true, true, true, true, true, true, false] rfl rfl (one_of HT_.out (by kernel_rfl)) (by decide) (fun K hK => ?_)
                refine goes_ Try.func48 (by kernel_rfl) rfl #[.agg #[.int .i64 ((rd_T72 l0 x5_1).f0), .int .i64 ((rd_T72 l0 x5_1).f1), .complex .f32 ((rd_T72 l0 x5_1).f2).re ((rd_T72 l0 x5_1).f2).im, .complex .f32 ((rd_T72 l0 x5_1).f3).re ((rd_T72 l0 x5_1).f3).im, .int .i64 ((rd_T72 l0 x5_1).f4)], .agg #[.int .i64 ((rd_T72 l1 x5_1).f0), .int .i64 ((rd_T72 l1 x5_1).f1), .complex .f32 ((rd_T72 l1 x5_1).f2).re ((rd_T72 l1 x5_1).f2).im, .complex .f32 ((rd_T72 l1 x5_1).f3).re ((rd_T72 l1 x5_1).f3).im, .int .i64 ((rd_T72 l1 x5_1).f4)]] (by rfl) rfl rfl (by (try simp only [List.map_toArray, List.map_cons, List.map_nil]); rfl) ?_
                with_reducible refine (laws_eqTie.calls ((rd_T72 l0 x5_1).f0) ((rd_T72 l0 x5_1).f1) ((rd_T72 l0 x5_1).f2) ((rd_T72 l0 x5_1).f3) ((rd_T72 l0 x5_1).f4) ((rd_T72 l1 x5_1).f0) ((rd_T72 l1 x5_1).f1) ((rd_T72 l1 x5_1).f2) ((rd_T72 l1 x5_1).f3) ((rd_T72 l1 x5_1).f4) true _ A7.out).mono ?_
                rintro e w10 ⟨rfl, hb⟩
                refine ⟨_, rfl, ?_⟩
                have n0_ := Aside0.mk (below_step (by with_reducible exact HB.out) hb)
                clear HB
                have HB := n0_
                clear n0_
                (try clear hb)
                (try clear hb2)
                (try clear hk)
                (try clear hi)
                refine hK.out _ _ ⟨((HB.out.cell (World.block_lt_of_cell? w _ hw329_0)).trans hw329_0), ((HB.out.cell (World.block_lt_of_cell? w _ hw329_1)).trans hw329_1), ((HB.out.cell (World.block_lt_of_cell? w _ hw329_2)).trans hw329_2), ((HB.out.cell (World.block_lt_of_cell? w _ hw329_3)).trans hw329_3), ((HB.out.cell (World.block_lt_of_cell? w _ hw329_4)).trans hw329_4), ((HB.out.cell (World.block_lt_of_cell? w _ hw330_0)).trans hw330_0), ((HB.out.cell (World.block_lt_of_cell? w _ hw330_1)).trans hw330_1), ((HB.out.cell (World.block_lt_of_cell? w _ hw330_2)).trans hw330_2), ((HB.out.cell (World.block_lt_of_cell? w _ hw330_3)).trans hw330_3), ((HB.out.cell (World.block_lt_of_cell? w _ hw330_4)).trans hw330_4)⟩ (fun hHeld => ?_)
                clear hK K
                refine norm_ (a' := ?_) ?_ ?_
                rotate_left
                · show Act.put _ (some 25) _ = _
                  simp only [Act.put, List.setIfInBounds_toArray, List.set_cons_zero, List.set_cons_succ, i64_w, i32_w]
                  rfl
                refine pure_ (i := 9) (N := some 26) (v := ?_) (a' := ?_) #[true, true, true, true, true, true, true, true, true, true] rfl rfl (any_of HT_.out (by kernel_rfl)) (fun _ _ _ h => h) (Or.inl ⟨by rfl, ?_⟩) ?_ ?_
                rotate_left
                · intro w'
                  go_simp
                  with_reducible rfl
                rotate_left
                · simp only [Act.put, List.setIfInBounds_toArray, List.set_cons_zero, List.set_cons_succ, i64_w, i32_w]
                  rfl
                refine done_ (done_of HT_.out (by kernel_rfl)) ?_
                try go_wp2
                go_roundg k1
                case measure => have := HK1.out; omega
                case rel => exact ⟨(wrap64 (x5_1 + 1)), (by rfl), H', ⟨by have := HK1.out; omega⟩, ⟨by with_reducible exact HB.out⟩⟩
              · replace c8 := Bool.eq_false_iff.mpr c8
                subst c8
                have H1 : (some false) = some r := by rw [if_neg (show ¬ (false = true) by decide)] at H; exact H
                clear H
                have H := H1
                clear H1
                obtain rfl := Option.some.inj H
                try go_wp2
                have n0_ := Aside0.mk (below_drew1 HB.out)
                clear HB
                have HB := n0_
                clear n0_
                have p329 : 0 ≤ (x5_1 : Int) := of_decide_eq_true (by (with_reducible assumption))
                have q329 : x5_1 < (l0.length : Int) := of_decide_eq_true (by (with_reducible assumption))
                obtain ⟨ad329, e329, hx329_0, hx329_1, hx329_2, hx329_3, hx329_4⟩ := at_T72 HR0.out x5_1 p329 q329
                have hw329_4 := hx329_4
                have hw329_3 := hx329_3
                have hw329_2 := hx329_2
                have hw329_1 := hx329_1
                have hw329_0 := hx329_0
                cases e329
                replace hx329_0 := (HB.out.cell (World.block_lt_of_cell? w _ hx329_0)).trans hx329_0
                replace hx329_1 := (HB.out.cell (World.block_lt_of_cell? w _ hx329_1)).trans hx329_1
                replace hx329_2 := (HB.out.cell (World.block_lt_of_cell? w _ hx329_2)).trans hx329_2
                replace hx329_3 := (HB.out.cell (World.block_lt_of_cell? w _ hx329_3)).trans hx329_3
                replace hx329_4 := (HB.out.cell (World.block_lt_of_cell? w _ hx329_4)).trans hx329_4
                replace p329 := eq_true p329
                replace q329 := eq_true q329
                have p330 : 0 ≤ (x5_1 : Int) := of_decide_eq_true (by (with_reducible assumption))
                have q330 : x5_1 < (l1.length : Int) := of_decide_eq_true (by (with_reducible assumption))
                obtain ⟨ad330, e330, hx330_0, hx330_1, hx330_2, hx330_3, hx330_4⟩ := at_T72 HR1.out x5_1 p330 q330
                have hw330_4 := hx330_4
                have hw330_3 := hx330_3
                have hw330_2 := hx330_2
                have hw330_1 := hx330_1
                have hw330_0 := hx330_0
                cases e330
                replace hx330_0 := (HB.out.cell (World.block_lt_of_cell? w _ hx330_0)).trans hx330_0
                replace hx330_1 := (HB.out.cell (World.block_lt_of_cell? w _ hx330_1)).trans hx330_1
                replace hx330_2 := (HB.out.cell (World.block_lt_of_cell? w _ hx330_2)).trans hx330_2
                replace hx330_3 := (HB.out.cell (World.block_lt_of_cell? w _ hx330_3)).trans hx330_3
                replace hx330_4 := (HB.out.cell (World.block_lt_of_cell? w _ hx330_4)).trans hx330_4
                replace p330 := eq_true p330
                replace q330 := eq_true q330
                refine start_ (n := 10) (S := fun w' => w'.cell? (ad329.add ((x5_1).toNat * 5)) = some (.int .i64 ((rd_T72 l0 x5_1).f0)) ∧ w'.cell? ⟨(ad329.add ((x5_1).toNat * 5)).block, (ad329.add ((x5_1).toNat * 5)).off + 1, none⟩ = some (.int .i64 ((rd_T72 l0 x5_1).f1)) ∧ w'.cell? ⟨(ad329.add ((x5_1).toNat * 5)).block, (ad329.add ((x5_1).toNat * 5)).off + 2, none⟩ = some (.complex .f32 ((rd_T72 l0 x5_1).f2).re ((rd_T72 l0 x5_1).f2).im) ∧ w'.cell? ⟨(ad329.add ((x5_1).toNat * 5)).block, (ad329.add ((x5_1).toNat * 5)).off + 3, none⟩ = some (.complex .f32 ((rd_T72 l0 x5_1).f3).re ((rd_T72 l0 x5_1).f3).im) ∧ w'.cell? ⟨(ad329.add ((x5_1).toNat * 5)).block, (ad329.add ((x5_1).toNat * 5)).off + 4, none⟩ = some (.int .i64 ((rd_T72 l0 x5_1).f4)) ∧ w'.cell? (ad330.add ((x5_1).toNat * 5)) = some (.int .i64 ((rd_T72 l1 x5_1).f0)) ∧ w'.cell? ⟨(ad330.add ((x5_1).toNat * 5)).block, (ad330.add ((x5_1).toNat * 5)).off + 1, none⟩ = some (.int .i64 ((rd_T72 l1 x5_1).f1)) ∧ w'.cell? ⟨(ad330.add ((x5_1).toNat * 5)).block, (ad330.add ((x5_1).toNat * 5)).off + 2, none⟩ = some (.complex .f32 ((rd_T72 l1 x5_1).f2).re ((rd_T72 l1 x5_1).f2).im) ∧ w'.cell? ⟨(ad330.add ((x5_1).toNat * 5)).block, (ad330.add ((x5_1).toNat * 5)).off + 3, none⟩ = some (.complex .f32 ((rd_T72 l1 x5_1).f3).re ((rd_T72 l1 x5_1).f3).im) ∧ w'.cell? ⟨(ad330.add ((x5_1).toNat * 5)).block, (ad330.add ((x5_1).toNat * 5)).off + 4, none⟩ = some (.int .i64 ((rd_T72 l1 x5_1).f4))) (ds := []) #[false, false, false, false, false, false, false, false, false, false] (by kernel_rfl) rfl rfl ⟨((HB.out.cell (World.block_lt_of_cell? w _ hw329_0)).trans hw329_0), ((HB.out.cell (World.block_lt_of_cell? w _ hw329_1)).trans hw329_1), ((HB.out.cell (World.block_lt_of_cell? w _ hw329_2)).trans hw329_2), ((HB.out.cell (World.block_lt_of_cell? w _ hw329_3)).trans hw329_3), ((HB.out.cell (World.block_lt_of_cell? w _ hw329_4)).trans hw329_4), ((HB.out.cell (World.block_lt_of_cell? w _ hw330_0)).trans hw330_0), ((HB.out.cell (World.block_lt_of_cell? w _ hw330_1)).trans hw330_1), ((HB.out.cell (World.block_lt_of_cell? w _ hw330_2)).trans hw330_2), ((HB.out.cell (World.block_lt_of_cell? w _ hw330_3)).trans hw330_3), ((HB.out.cell (World.block_lt_of_cell? w _ hw330_4)).trans hw330_4)⟩ (fun hHeld => ?_); refine with_tabW laws_eqTieS.tab6 laws_eqTieS.bits6 (fun HT_ HW_ => ?_)
                generalize wr.drew = w11 at HB hx329_0 hx329_1 hx329_2 hx329_3 hx329_4 hx330_0 hx330_1 hx330_2 hx330_3 hx330_4 hHeld ⊢
                refine pure_ (i := 0) (N := some 17) (v := ?_) (a' := ?_) #[true, false, false, false, false, false, false, false, false, false] rfl rfl (any_of HT_.out (by kernel_rfl)) (fun _ _ _ h => h) (Or.inl ⟨by rfl, ?_⟩) ?_ ?_
                rotate_left
                · intro w'
                  go_simp
                  with_reducible rfl
                rotate_left
                · simp only [Act.put, List.setIfInBounds_toArray, List.set_cons_zero, List.set_cons_succ, i64_w, i32_w]
                  rfl
                refine pure_ (i := 1) (N := some 18) (v := ?_) (a' := ?_) #[true, true, false, false, false, false, false, false, false, false] rfl rfl (any_of HT_.out (by kernel_rfl)) (fun _ _ _ h => h) (Or.inl ⟨by rfl, ?_⟩) ?_ ?_
                rotate_left
                · intro w'
                  go_simp
                  with_reducible rfl
                rotate_left
                · simp only [Act.put, List.setIfInBounds_toArray, List.set_cons_zero, List.set_cons_succ, i64_w, i32_w]
                  rfl
                refine pure_ (i := 2) (N := some 19) (v := ?_) (a' := ?_) #[true, true, true, false, false, false, false, false, false, false] rfl rfl (any_of HT_.out (by kernel_rfl)) (fun _ _ _ h => h) (Or.inl ⟨by rfl, ?_⟩) ?_ ?_
                rotate_left
                · intro w'
                  go_simp
                  with_reducible rfl
                rotate_left
                · simp only [Act.put, List.setIfInBounds_toArray, List.set_cons_zero, List.set_cons_succ, i64_w, i32_w]
                  rfl
                refine pure_ (i := 4) (N := some 21) (v := ?_) (a' := ?_) #[true, true, true, false, true, false, false, false, false, false] rfl rfl (any_of HT_.out (by kernel_rfl)) (fun _ _ _ h => h) (Or.inl ⟨by rfl, ?_⟩) ?_ ?_
                rotate_left
                · intro w'
                  go_simp
                  with_reducible rfl
                rotate_left
                · simp only [Act.put, List.setIfInBounds_toArray, List.set_cons_zero, List.set_cons_succ, i64_w, i32_w]
                  rfl
                refine pure_ (i := 5) (N := some 22) (v := ?_) (a' := ?_) #[true, true, true, false, true, true, false, false, false, false] rfl rfl (any_of HT_.out (by kernel_rfl)) (fun _ _ _ h => h) (Or.inl ⟨by rfl, ?_⟩) ?_ ?_
                rotate_left
                · intro w'
                  go_simp
                  with_reducible rfl
                rotate_left
                · simp only [Act.put, List.setIfInBounds_toArray, List.set_cons_zero, List.set_cons_succ, i64_w, i32_w]
                  rfl
                refine pure_ (i := 6) (N := some 23) (v := ?_) (a' := ?_) #[true, true, true, false, true, true, true, false, false, false] rfl rfl (any_of HT_.out (by kernel_rfl)) (fun _ _ _ h => h) (Or.inl ⟨by rfl, ?_⟩) ?_ ?_
                rotate_left
                · intro w'
                  go_simp
                  with_reducible rfl
                rotate_left
                · simp only [Act.put, List.setIfInBounds_toArray, List.set_cons_zero, List.set_cons_succ, i64_w, i32_w]
                  rfl
                refine take_ (i := 3) (N := some 20) (v := ?_) (a' := ?_) #[true, true, true, true, true, true, true, false, false, false] rfl rfl (take_ofW HT_.out HW_.out (by kernel_rfl)) (fun _ _ _ h => h) (Or.inl ⟨by rfl, ?_⟩) hHeld ?_ ?_
                rotate_left
                · rintro w' ⟨s0, s1, s2, s3, s4, s5, s6, s7, s8, s9⟩
                  go_simp
                  with_reducible rfl
                rotate_left
                · simp only [Act.put, List.setIfInBounds_toArray, List.set_cons_zero, List.set_cons_succ, i64_w, i32_w]
                  rfl
                refine take_ (i := 7) (N := some 24) (v := ?_) (a' := ?_) #[true, true, true, true, true, true, true, true, false, false] rfl rfl (take_ofW HT_.out HW_.out (by kernel_rfl)) (fun _ _ _ h => h) (Or.inl ⟨by rfl, ?_⟩) hHeld ?_ ?_
                rotate_left
                · rintro w' ⟨s0, s1, s2, s3, s4, s5, s6, s7, s8, s9⟩
                  go_simp
                  with_reducible rfl
                rotate_left
                · simp only [Act.put, List.setIfInBounds_toArray, List.set_cons_zero, List.set_cons_succ, i64_w, i32_w]
                  rfl
                refine one_ (i := 8) (N := some 25) #[true, true, true, true, true, true, true, true, true, false] rfl rfl (one_of HT_.out (by kernel_rfl)) (by decide) (fun K hK => ?_)
                refine goes_ Try.func48 (by kernel_rfl) rfl #[.agg #[.int .i64 ((rd_T72 l0 x5_1).f0), .int .i64 ((rd_T72 l0 x5_1).f1), .complex .f32 ((rd_T72 l0 x5_1).f2).re ((rd_T72 l0 x5_1).f2).im, .complex .f32 ((rd_T72 l0 x5_1).f3).re ((rd_T72 l0 x5_1).f3).im, .int .i64 ((rd_T72 l0 x5_1).f4)], .agg #[.int .i64 ((rd_T72 l1 x5_1).f0), .int .i64 ((rd_T72 l1 x5_1).f1), .complex .f32 ((rd_T72 l1 x5_1).f2).re ((rd_T72 l1 x5_1).f2).im, .complex .f32 ((rd_T72 l1 x5_1).f3).re ((rd_T72 l1 x5_1).f3).im, .int .i64 ((rd_T72 l1 x5_1).f4)]] (by rfl) rfl rfl (by (try simp only [List.map_toArray, List.map_cons, List.map_nil]); rfl) ?_
                with_reducible refine (laws_eqTie.calls ((rd_T72 l0 x5_1).f0) ((rd_T72 l0 x5_1).f1) ((rd_T72 l0 x5_1).f2) ((rd_T72 l0 x5_1).f3) ((rd_T72 l0 x5_1).f4) ((rd_T72 l1 x5_1).f0) ((rd_T72 l1 x5_1).f1) ((rd_T72 l1 x5_1).f2) ((rd_T72 l1 x5_1).f3) ((rd_T72 l1 x5_1).f4) false _ A7.out).mono ?_
                rintro e w12 ⟨rfl, hb⟩
                refine ⟨_, rfl, ?_⟩
                have n0_ := Aside0.mk (below_step (by with_reducible exact HB.out) hb)
                clear HB
                have HB := n0_
                clear n0_
                (try clear hb)
                (try clear hb2)
                (try clear hk)
                (try clear hi)
                refine hK.out _ _ ⟨((HB.out.cell (World.block_lt_of_cell? w _ hw329_0)).trans hw329_0), ((HB.out.cell (World.block_lt_of_cell? w _ hw329_1)).trans hw329_1), ((HB.out.cell (World.block_lt_of_cell? w _ hw329_2)).trans hw329_2), ((HB.out.cell (World.block_lt_of_cell? w _ hw329_3)).trans hw329_3), ((HB.out.cell (World.block_lt_of_cell? w _ hw329_4)).trans hw329_4), ((HB.out.cell (World.block_lt_of_cell? w _ hw330_0)).trans hw330_0), ((HB.out.cell (World.block_lt_of_cell? w _ hw330_1)).trans hw330_1), ((HB.out.cell (World.block_lt_of_cell? w _ hw330_2)).trans hw330_2), ((HB.out.cell (World.block_lt_of_cell? w _ hw330_3)).trans hw330_3), ((HB.out.cell (World.block_lt_of_cell? w _ hw330_4)).trans hw330_4)⟩ (fun hHeld => ?_)
                clear hK K
                refine norm_ (a' := ?_) ?_ ?_
                rotate_left
                · show Act.put _ (some 25) _ = _
                  simp only [Act.put, List.setIfInBounds_toArray, List.set_cons_zero, List.set_cons_succ, i64_w, i32_w]
                  rfl
                refine pure_ (i := 9) (N := some 26) (v := ?_) (a' := ?_) #[true, true, true, true, true, true, true, true, true, true] rfl rfl (any_of HT_.out (by kernel_rfl)) (fun _ _ _ h => h) (Or.inl ⟨by rfl, ?_⟩) ?_ ?_
                rotate_left
                · intro w'
                  go_simp
                  with_reducible rfl
                rotate_left
                · simp only [Act.put, List.setIfInBounds_toArray, List.set_cons_zero, List.set_cons_succ, i64_w, i32_w]
                  rfl
                refine done_ (done_of HT_.out (by kernel_rfl)) ?_
                try go_wp2
                go_ret
                exact ⟨by rfl, by with_reducible exact HB.out⟩
            · rw [if_neg c6] at H
              exact absurd H (by simp)
          · rw [if_neg c5] at H
            exact absurd H (by simp)
        · rw [if_neg c4] at H
          have c4b0 : decide (x5_1 < (l0.length : Int)) = false := decide_eq_false c4
          clear c4
          obtain rfl := Option.some.inj H
          go_wp2
          go_ret
          exact ⟨by rfl, by with_reducible exact HB.out⟩
  · rw [if_neg c3] at H
    have c3b0 : ((l0.length : Int) == (l1.length : Int)) = false := beq_eq_false_iff_ne.mpr c3
    have c3b1 : ((l0.length : Int) != (l1.length : Int)) = true := bne_iff_ne.mpr c3
    have c3b2 : (l0.length == l1.length) = false := by (simp at c3 ⊢; omega)
    obtain rfl := Option.some.inj H
    go_enter Try.func21, Try.ntmps21
    go_wp2
    go_ret
    exact ⟨by rfl, by with_reducible exact HB.out⟩

end Go.Proofs.Ytkkokkmhldceiaa.M
/- Written by a program of this session (wip/patch_print.py over the kit's printer). -/
namespace Go.Proofs.Ytkkokkmhldceiaa.M
open Go.RowKit Go.Proofs.YtkkokkmhldceiaaW.PrintWords Go.Proofs.YtkkokkmhldceiaaW.PrintLast Go.Proofs.YtkkokkmhldceiaaW.PrintMore
attribute [local go_sem] max2_int min2_int max_two min_two max_three min_three max_four min_four   -- for this text's walks alone
set_option linter.unusedVariables false
set_option linter.unusedSimpArgs false

/-! ### laws_eqGrid: function 8 -/
def laws_eqGrid.f (k : Nat) (a0_0 : Cx) (a0_1 : Cx) (a0_2 : Cx) (l0_3 : List (S69)) (l0_4 : List (S72)) (a1_0 : Cx) (a1_1 : Cx) (a1_2 : Cx) (l1_3 : List (S69)) (l1_4 : List (S72)) : Option (Bool) := (laws_eqFeeder.f k a0_0 a0_1 a0_2 l0_3 a1_0 a1_1 a1_2 l1_3).bind fun t334 => (if t334 = true then ((laws_eqTieS.f k l0_4 l1_4).bind fun t335 => (if t335 = true then (some true) else (some false))) else (some false))
theorem laws_eqGrid.mono : ∀ a0 a1 a2 a3 a4 a5 a6 a7 a8 a9 k, LeO (laws_eqGrid.f k a0 a1 a2 a3 a4 a5 a6 a7 a8 a9) (laws_eqGrid.f (k + 1) a0 a1 a2 a3 a4 a5 a6 a7 a8 a9) := by
  intro a0 a1 a2 a3 a4 a5 a6 a7 a8 a9 k
  unfold laws_eqGrid.f
  repeat' first
      | (with_reducible exact laws_eqFeeder.mono _ _ _ _ _ _ _ _ _)
      | (with_reducible exact laws_eqTieS.mono _ _ _)
      | (with_reducible exact LeO.refl _)
      | (with_reducible refine LeO.ite ?_ ?_)
      | (with_reducible refine LeO.bind ?_ (fun _ => ?_))
set_option maxHeartbeats 8000000 in
set_option maxRecDepth 100000 in
theorem laws_eqGrid.calls (k : Nat) (a0_0 : Cx) (a0_1 : Cx) (a0_2 : Cx) (A0_3 : Option Addr) (c0_3 : Nat) (l0_3 : List (S69)) (A0_4 : Option Addr) (c0_4 : Nat) (l0_4 : List (S72)) (a1_0 : Cx) (a1_1 : Cx) (a1_2 : Cx) (A1_3 : Option Addr) (c1_3 : Nat) (l1_3 : List (S69)) (A1_4 : Option Addr) (c1_4 : Nat) (l1_4 : List (S72)) (r : Bool) (w : World) (hr0_3 : Kd.C k69 w A0_3 l0_3.length l0_3) (hc0_3 : l0_3.length ≤ c0_3) (hr0_4 : Kd.C k72 w A0_4 l0_4.length l0_4) (hc0_4 : l0_4.length ≤ c0_4) (hr1_3 : Kd.C k69 w A1_3 l1_3.length l1_3) (hc1_3 : l1_3.length ≤ c1_3) (hr1_4 : Kd.C k72 w A1_4 l1_4.length l1_4) (hc1_4 : l1_4.length ≤ c1_4) (h : laws_eqGrid.f k a0_0 a0_1 a0_2 l0_3 l0_4 a1_0 a1_1 a1_2 l1_3 l1_4 = some r) :
    Calls Try.prog 8 #[.agg #[.complex .f32 a0_0.re a0_0.im, .complex .f32 a0_1.re a0_1.im, .complex .f32 a0_2.re a0_2.im, .slice A0_3 l0_3.length c0_3, .slice A0_4 l0_4.length c0_4], .agg #[.complex .f32 a1_0.re a1_0.im, .complex .f32 a1_1.re a1_1.im, .complex .f32 a1_2.re a1_2.im, .slice A1_3 l1_3.length c1_3, .slice A1_4 l1_4.length c1_4]] w fun e w' => e = .returned (.bool r) ∧ Below w.heap.size w w' := by
  have hu30 := Try.underlying30
  have hu27 := Try.underlying27
  have HR0_3 := Aside0.mk hr0_3
  have HC0_3 := Aside0.mk hc0_3
  clear hr0_3 hc0_3
  have HR0_4 := Aside0.mk hr0_4
  have HC0_4 := Aside0.mk hc0_4
  clear hr0_4 hc0_4
  have HR1_3 := Aside0.mk hr1_3
  have HC1_3 := Aside0.mk hc1_3
  clear hr1_3 hc1_3
  have HR1_4 := Aside0.mk hr1_4
  have HC1_4 := Aside0.mk hc1_4
  clear hr1_4 hc1_4
  have HB := Aside0.mk (Below.refl w.heap.size w)
  have H : ((laws_eqFeeder.f k a0_0 a0_1 a0_2 l0_3 a1_0 a1_1 a1_2 l1_3).bind fun t334 => (if t334 = true then ((laws_eqTieS.f k l0_4 l1_4).bind fun t335 => (if t335 = true then (some true) else (some false))) else (some false))) = some r := h
  clear h
  replace H := Option.bind_eq_some_iff.mp H
  obtain ⟨t334, A30, H⟩ := H
  replace H : (if t334 = true then ((laws_eqTieS.f k l0_4 l1_4).bind fun t335 => (if t335 = true then (some true) else (some false))) else (some false)) = some r := H
  have A3 := Aside0.mk A30
  clear A30
  by_cases c4 : t334 = true
  · subst c4
    have H1 : ((laws_eqTieS.f k l0_4 l1_4).bind fun t335 => (if t335 = true then (some true) else (some false))) = some r := by rw [if_pos rfl] at H; exact H
    clear H
    have H := H1
    clear H1
    replace H := Option.bind_eq_some_iff.mp H
    obtain ⟨t335, A50, H⟩ := H
    replace H : (if t335 = true then (some true) else (some false)) = some r := H
    have A5 := Aside0.mk A50
    clear A50
    by_cases c6 : t335 = true
    · subst c6
      have H1 : (some true) = some r := by rw [if_pos rfl] at H; exact H
      clear H
      have H := H1
      clear H1
      obtain rfl := Option.some.inj H
      go_enter Try.func8, Try.ntmps8
      go_wp2_with (first | ((with_reducible refine gate_dst (N := 2) rfl ?_); refine box_event ?hg (N := 2) ?hd (cs := #[.complex .f32 a0_0.re a0_0.im, .complex .f32 a0_1.re a0_1.im, .complex .f32 a0_2.re a0_2.im, .slice A0_3 l0_3.length c0_3, .slice A0_4 l0_4.length c0_4]) (t := 30) ?hr ?_; (case hd => rfl); (case hg => rfl); (case hr => (go_simp; done)); intro gb332 hg w7 hbox hb; have n0_ := Aside0.mk (below_step (by with_reducible exact HB.out) hb); have n1_ := Aside0.mk (hbox); have n2_ := Aside0.mk ((by rw [hg]; exact (below_size (by with_reducible exact HB.out)) : w.heap.size ≤ gb332)); have n3_ := Aside0.mk ((by rw [hg]; exact (below_size (by with_reducible exact HB.out)) : w.heap.size ≤ gb332)); clear HB; have HB := n0_; have BK332 := n1_; have GW332 := n2_; have GE332 := n3_; clear n0_ n1_ n2_ n3_; clear hb hbox hg) | ((with_reducible refine gate_dst (N := 3) rfl ?_); refine box_event ?hg (N := 3) ?hd (cs := #[.complex .f32 a1_0.re a1_0.im, .complex .f32 a1_1.re a1_1.im, .complex .f32 a1_2.re a1_2.im, .slice A1_3 l1_3.length c1_3, .slice A1_4 l1_4.length c1_4]) (t := 30) ?hr ?_; (case hd => rfl); (case hg => rfl); (case hr => (go_simp; done)); intro gb333 hg w8 hbox hb; have n0_ := Aside0.mk (blk_below (g := gb332) (o := .cells #[.complex .f32 a0_0.re a0_0.im, .complex .f32 a0_1.re a0_1.im, .complex .f32 a0_2.re a0_2.im, .slice A0_3 l0_3.length c0_3, .slice A0_4 l0_4.length c0_4] 30 (0, 0)) (by exact BK332.out) hb); have n1_ := Aside0.mk (below_step (by with_reducible exact HB.out) hb); have n2_ := Aside0.mk (hbox); have n3_ := Aside0.mk ((by rw [hg]; exact (below_size (by with_reducible exact HB.out)) : w.heap.size ≤ gb333)); have n4_ := Aside0.mk ((by rw [hg]; exact (below_size (by with_reducible exact HB.out)) : w.heap.size ≤ gb333)); have n5_ := Aside0.mk ((by rw [hg]; exact Nat.ne_of_lt (blk_lt (g := gb332) (o := .cells #[.complex .f32 a0_0.re a0_0.im, .complex .f32 a0_1.re a0_1.im, .complex .f32 a0_2.re a0_2.im, .slice A0_3 l0_3.length c0_3, .slice A0_4 l0_4.length c0_4] 30 (0, 0)) (by exact BK332.out)) : gb332 ≠ gb333)); have n6_ := Aside0.mk ((by rw [hg]; exact Nat.ne_of_gt (blk_lt (g := gb332) (o := .cells #[.complex .f32 a0_0.re a0_0.im, .complex .f32 a0_1.re a0_1.im, .complex .f32 a0_2.re a0_2.im, .slice A0_3 l0_3.length c0_3, .slice A0_4 l0_4.length c0_4] 30 (0, 0)) (by exact BK332.out)) : gb333 ≠ gb332)); clear BK332; clear HB; have BK332 := n0_; have HB := n1_; have BK333 := n2_; have GW333 := n3_; have GE333 := n4_; have NB332_333 := n5_; have NB333_332 := n6_; clear n0_ n1_ n2_ n3_ n4_ n5_ n6_; clear hb hbox hg; have hnb9 := NB332_333.out; have hnc9 := NB333_332.out; have hcz10_0 : w8.cell? ⟨gb332, 0, none⟩ = some (.complex .f32 a0_0.re a0_0.im) := (blk_cell BK332.out 0).trans rfl; have hcz10_1 : w8.cell? ⟨gb332, 1, none⟩ = some (.complex .f32 a0_1.re a0_1.im) := (blk_cell BK332.out 1).trans rfl; have hcz10_2 : w8.cell? ⟨gb332, 2, none⟩ = some (.complex .f32 a0_2.re a0_2.im) := (blk_cell BK332.out 2).trans rfl; have hcz10_3 : w8.cell? ⟨gb332, 3, none⟩ = some (.slice A0_3 l0_3.length c0_3) := (blk_cell BK332.out 3).trans rfl; have hcz10_4 : w8.cell? ⟨gb332, 4, none⟩ = some (.slice A0_4 l0_4.length c0_4) := (blk_cell BK332.out 4).trans rfl; have hfz10_0 := blk_frozen BK332.out 0; have hfz10_1 := blk_frozen BK332.out 1; have hfz10_2 := blk_frozen BK332.out 2; have hfz10_3 := blk_frozen BK332.out 3; have hfz10_4 := blk_frozen BK332.out 4; have hcz11_0 : w8.cell? ⟨gb333, 0, none⟩ = some (.complex .f32 a1_0.re a1_0.im) := (blk_cell BK333.out 0).trans rfl; have hcz11_1 : w8.cell? ⟨gb333, 1, none⟩ = some (.complex .f32 a1_1.re a1_1.im) := (blk_cell BK333.out 1).trans rfl; have hcz11_2 : w8.cell? ⟨gb333, 2, none⟩ = some (.complex .f32 a1_2.re a1_2.im) := (blk_cell BK333.out 2).trans rfl; have hcz11_3 : w8.cell? ⟨gb333, 3, none⟩ = some (.slice A1_3 l1_3.length c1_3) := (blk_cell BK333.out 3).trans rfl; have hcz11_4 : w8.cell? ⟨gb333, 4, none⟩ = some (.slice A1_4 l1_4.length c1_4) := (blk_cell BK333.out 4).trans rfl; have hfz11_0 := blk_frozen BK333.out 0; have hfz11_1 := blk_frozen BK333.out 1; have hfz11_2 := blk_frozen BK333.out 2; have hfz11_3 := blk_frozen BK333.out 3; have hfz11_4 := blk_frozen BK333.out 4) | ((with_reducible refine gate_callee (f := 20) rfl ?_); refine goesL_ (some 9) rfl rfl Try.func20 (by kernel_rfl) rfl #[.agg #[.complex .f32 a0_0.re a0_0.im, .complex .f32 a0_1.re a0_1.im, .complex .f32 a0_2.re a0_2.im, .slice A0_3 l0_3.length c0_3], .agg #[.complex .f32 a1_0.re a1_0.im, .complex .f32 a1_1.re a1_1.im, .complex .f32 a1_2.re a1_2.im, .slice A1_3 l1_3.length c1_3]] rfl (by (try simp only [List.map_toArray, List.map_cons, List.map_nil]); rfl) ?_; (with_reducible refine (laws_eqFeeder.calls k a0_0 a0_1 a0_2 _ _ l0_3 a1_0 a1_1 a1_2 _ _ l1_3 true _ ?side1 ?side2 ?side3 ?side4 A3.out).mono ?_); (case side1 => repeat (exact (Kd.C_below HR0_3.out HB.out))); (case side2 => exact HC0_3.out); (case side3 => repeat (exact (Kd.C_below HR1_3.out HB.out))); (case side4 => exact HC1_3.out); rintro e w12 ⟨rfl, hb⟩; refine ⟨_, rfl, ?_⟩; have n0_ := Aside0.mk (blk_below (g := gb332) (o := .cells #[.complex .f32 a0_0.re a0_0.im, .complex .f32 a0_1.re a0_1.im, .complex .f32 a0_2.re a0_2.im, .slice A0_3 l0_3.length c0_3, .slice A0_4 l0_4.length c0_4] 30 (0, 0)) (by exact BK332.out) hb); have n1_ := Aside0.mk (blk_below (g := gb333) (o := .cells #[.complex .f32 a1_0.re a1_0.im, .complex .f32 a1_1.re a1_1.im, .complex .f32 a1_2.re a1_2.im, .slice A1_3 l1_3.length c1_3, .slice A1_4 l1_4.length c1_4] 30 (0, 0)) (by exact BK333.out) hb); have n2_ := Aside0.mk (below_step (by with_reducible exact HB.out) hb); clear BK332; clear BK333; clear HB; have BK332 := n0_; have BK333 := n1_; have HB := n2_; clear n0_ n1_ n2_; (try clear hb); (try clear hb2); (try clear hk); (try clear hi); have hcz13_0 : w12.cell? ⟨gb332, 0, none⟩ = some (.complex .f32 a0_0.re a0_0.im) := (blk_cell BK332.out 0).trans rfl; have hcz13_1 : w12.cell? ⟨gb332, 1, none⟩ = some (.complex .f32 a0_1.re a0_1.im) := (blk_cell BK332.out 1).trans rfl; have hcz13_2 : w12.cell? ⟨gb332, 2, none⟩ = some (.complex .f32 a0_2.re a0_2.im) := (blk_cell BK332.out 2).trans rfl; have hcz13_3 : w12.cell? ⟨gb332, 3, none⟩ = some (.slice A0_3 l0_3.length c0_3) := (blk_cell BK332.out 3).trans rfl; have hcz13_4 : w12.cell? ⟨gb332, 4, none⟩ = some (.slice A0_4 l0_4.length c0_4) := (blk_cell BK332.out 4).trans rfl; have hfz13_0 := blk_frozen BK332.out 0; have hfz13_1 := blk_frozen BK332.out 1; have hfz13_2 := blk_frozen BK332.out 2; have hfz13_3 := blk_frozen BK332.out 3; have hfz13_4 := blk_frozen BK332.out 4; have hcz14_0 : w12.cell? ⟨gb333, 0, none⟩ = some (.complex .f32 a1_0.re a1_0.im) := (blk_cell BK333.out 0).trans rfl; have hcz14_1 : w12.cell? ⟨gb333, 1, none⟩ = some (.complex .f32 a1_1.re a1_1.im) := (blk_cell BK333.out 1).trans rfl; have hcz14_2 : w12.cell? ⟨gb333, 2, none⟩ = some (.complex .f32 a1_2.re a1_2.im) := (blk_cell BK333.out 2).trans rfl; have hcz14_3 : w12.cell? ⟨gb333, 3, none⟩ = some (.slice A1_3 l1_3.length c1_3) := (blk_cell BK333.out 3).trans rfl; have hcz14_4 : w12.cell? ⟨gb333, 4, none⟩ = some (.slice A1_4 l1_4.length c1_4) := (blk_cell BK333.out 4).trans rfl; have hfz14_0 := blk_frozen BK333.out 0; have hfz14_1 := blk_frozen BK333.out 1; have hfz14_2 := blk_frozen BK333.out 2; have hfz14_3 := blk_frozen BK333.out 3; have hfz14_4 := blk_frozen BK333.out 4) | ((with_reducible refine gate_callee (f := 21) rfl ?_); refine goesL_ (some 15) rfl rfl Try.func21 (by kernel_rfl) rfl #[.slice A0_4 l0_4.length c0_4, .slice A1_4 l1_4.length c1_4] rfl (by (try simp only [List.map_toArray, List.map_cons, List.map_nil]); rfl) ?_; (with_reducible refine (laws_eqTieS.calls k _ _ l0_4 _ _ l1_4 true _ ?side1 ?side2 ?side3 ?side4 A5.out).mono ?_); (case side1 => repeat (exact (Kd.C_below HR0_4.out HB.out))); (case side2 => exact HC0_4.out); (case side3 => repeat (exact (Kd.C_below HR1_4.out HB.out))); (case side4 => exact HC1_4.out); rintro e w15 ⟨rfl, hb⟩; refine ⟨_, rfl, ?_⟩; have n0_ := Aside0.mk (blk_below (g := gb332) (o := .cells #[.complex .f32 a0_0.re a0_0.im, .complex .f32 a0_1.re a0_1.im, .complex .f32 a0_2.re a0_2.im, .slice A0_3 l0_3.length c0_3, .slice A0_4 l0_4.length c0_4] 30 (0, 0)) (by exact BK332.out) hb); have n1_ := Aside0.mk (blk_below (g := gb333) (o := .cells #[.complex .f32 a1_0.re a1_0.im, .complex .f32 a1_1.re a1_1.im, .complex .f32 a1_2.re a1_2.im, .slice A1_3 l1_3.length c1_3, .slice A1_4 l1_4.length c1_4] 30 (0, 0)) (by exact BK333.out) hb); have n2_ := Aside0.mk (below_step (by with_reducible exact HB.out) hb); clear BK332; clear BK333; clear HB; have BK332 := n0_; have BK333 := n1_; have HB := n2_; clear n0_ n1_ n2_; (try clear hb); (try clear hb2); (try clear hk); (try clear hi)))
      go_ret
      exact ⟨by rfl, by with_reducible exact HB.out⟩
    · replace c6 := Bool.eq_false_iff.mpr c6
      subst c6
      have H1 : (some false) = some r := by rw [if_neg (show ¬ (false = true) by decide)] at H; exact H
      clear H
      have H := H1
      clear H1
      obtain rfl := Option.some.inj H
      go_enter Try.func8, Try.ntmps8
      go_wp2_with (first | ((with_reducible refine gate_dst (N := 2) rfl ?_); refine box_event ?hg (N := 2) ?hd (cs := #[.complex .f32 a0_0.re a0_0.im, .complex .f32 a0_1.re a0_1.im, .complex .f32 a0_2.re a0_2.im, .slice A0_3 l0_3.length c0_3, .slice A0_4 l0_4.length c0_4]) (t := 30) ?hr ?_; (case hd => rfl); (case hg => rfl); (case hr => (go_simp; done)); intro gb332 hg w16 hbox hb; have n0_ := Aside0.mk (below_step (by with_reducible exact HB.out) hb); have n1_ := Aside0.mk (hbox); have n2_ := Aside0.mk ((by rw [hg]; exact (below_size (by with_reducible exact HB.out)) : w.heap.size ≤ gb332)); have n3_ := Aside0.mk ((by rw [hg]; exact (below_size (by with_reducible exact HB.out)) : w.heap.size ≤ gb332)); clear HB; have HB := n0_; have BK332 := n1_; have GW332 := n2_; have GE332 := n3_; clear n0_ n1_ n2_ n3_; clear hb hbox hg) | ((with_reducible refine gate_dst (N := 3) rfl ?_); refine box_event ?hg (N := 3) ?hd (cs := #[.complex .f32 a1_0.re a1_0.im, .complex .f32 a1_1.re a1_1.im, .complex .f32 a1_2.re a1_2.im, .slice A1_3 l1_3.length c1_3, .slice A1_4 l1_4.length c1_4]) (t := 30) ?hr ?_; (case hd => rfl); (case hg => rfl); (case hr => (go_simp; done)); intro gb333 hg w17 hbox hb; have n0_ := Aside0.mk (blk_below (g := gb332) (o := .cells #[.complex .f32 a0_0.re a0_0.im, .complex .f32 a0_1.re a0_1.im, .complex .f32 a0_2.re a0_2.im, .slice A0_3 l0_3.length c0_3, .slice A0_4 l0_4.length c0_4] 30 (0, 0)) (by exact BK332.out) hb); have n1_ := Aside0.mk (below_step (by with_reducible exact HB.out) hb); have n2_ := Aside0.mk (hbox); have n3_ := Aside0.mk ((by rw [hg]; exact (below_size (by with_reducible exact HB.out)) : w.heap.size ≤ gb333)); have n4_ := Aside0.mk ((by rw [hg]; exact (below_size (by with_reducible exact HB.out)) : w.heap.size ≤ gb333)); have n5_ := Aside0.mk ((by rw [hg]; exact Nat.ne_of_lt (blk_lt (g := gb332) (o := .cells #[.complex .f32 a0_0.re a0_0.im, .complex .f32 a0_1.re a0_1.im, .complex .f32 a0_2.re a0_2.im, .slice A0_3 l0_3.length c0_3, .slice A0_4 l0_4.length c0_4] 30 (0, 0)) (by exact BK332.out)) : gb332 ≠ gb333)); have n6_ := Aside0.mk ((by rw [hg]; exact Nat.ne_of_gt (blk_lt (g := gb332) (o := .cells #[.complex .f32 a0_0.re a0_0.im, .complex .f32 a0_1.re a0_1.im, .complex .f32 a0_2.re a0_2.im, .slice A0_3 l0_3.length c0_3, .slice A0_4 l0_4.length c0_4] 30 (0, 0)) (by exact BK332.out)) : gb333 ≠ gb332)); clear BK332; clear HB; have BK332 := n0_; have HB := n1_; have BK333 := n2_; have GW333 := n3_; have GE333 := n4_; have NB332_333 := n5_; have NB333_332 := n6_; clear n0_ n1_ n2_ n3_ n4_ n5_ n6_; clear hb hbox hg; have hnb18 := NB332_333.out; have hnc18 := NB333_332.out; have hcz19_0 : w17.cell? ⟨gb332, 0, none⟩ = some (.complex .f32 a0_0.re a0_0.im) := (blk_cell BK332.out 0).trans rfl; have hcz19_1 : w17.cell? ⟨gb332, 1, none⟩ = some (.complex .f32 a0_1.re a0_1.im) := (blk_cell BK332.out 1).trans rfl; have hcz19_2 : w17.cell? ⟨gb332, 2, none⟩ = some (.complex .f32 a0_2.re a0_2.im) := (blk_cell BK332.out 2).trans rfl; have hcz19_3 : w17.cell? ⟨gb332, 3, none⟩ = some (.slice A0_3 l0_3.length c0_3) := (blk_cell BK332.out 3).trans rfl; have hcz19_4 : w17.cell? ⟨gb332, 4, none⟩ = some (.slice A0_4 l0_4.length c0_4) := (blk_cell BK332.out 4).trans rfl; have hfz19_0 := blk_frozen BK332.out 0; have hfz19_1 := blk_frozen BK332.out 1; have hfz19_2 := blk_frozen BK332.out 2; have hfz19_3 := blk_frozen BK332.out 3; have hfz19_4 := blk_frozen BK332.out 4; have hcz20_0 : w17.cell? ⟨gb333, 0, none⟩ = some (.complex .f32 a1_0.re a1_0.im) := (blk_cell BK333.out 0).trans rfl; have hcz20_1 : w17.cell? ⟨gb333, 1, none⟩ = some (.complex .f32 a1_1.re a1_1.im) := (blk_cell BK333.out 1).trans rfl; have hcz20_2 : w17.cell? ⟨gb333, 2, none⟩ = some (.complex .f32 a1_2.re a1_2.im) := (blk_cell BK333.out 2).trans rfl; have hcz20_3 : w17.cell? ⟨gb333, 3, none⟩ = some (.slice A1_3 l1_3.length c1_3) := (blk_cell BK333.out 3).trans rfl; have hcz20_4 : w17.cell? ⟨gb333, 4, none⟩ = some (.slice A1_4 l1_4.length c1_4) := (blk_cell BK333.out 4).trans rfl; have hfz20_0 := blk_frozen BK333.out 0; have hfz20_1 := blk_frozen BK333.out 1; have hfz20_2 := blk_frozen BK333.out 2; have hfz20_3 := blk_frozen BK333.out 3; have hfz20_4 := blk_frozen BK333.out 4) | ((with_reducible refine gate_callee (f := 20) rfl ?_); refine goesL_ (some 9) rfl rfl Try.func20 (by kernel_rfl) rfl #[.agg #[.complex .f32 a0_0.re a0_0.im, .complex .f32 a0_1.re a0_1.im, .complex .f32 a0_2.re a0_2.im, .slice A0_3 l0_3.length c0_3], .agg #[.complex .f32 a1_0.re a1_0.im, .complex .f32 a1_1.re a1_1.im, .complex .f32 a1_2.re a1_2.im, .slice A1_3 l1_3.length c1_3]] rfl (by (try simp only [List.map_toArray, List.map_cons, List.map_nil]); rfl) ?_; (with_reducible refine (laws_eqFeeder.calls k a0_0 a0_1 a0_2 _ _ l0_3 a1_0 a1_1 a1_2 _ _ l1_3 true _ ?side1 ?side2 ?side3 ?side4 A3.out).mono ?_); (case side1 => repeat (exact (Kd.C_below HR0_3.out HB.out))); (case side2 => exact HC0_3.out); (case side3 => repeat (exact (Kd.C_below HR1_3.out HB.out))); (case side4 => exact HC1_3.out); rintro e w21 ⟨rfl, hb⟩; refine ⟨_, rfl, ?_⟩; have n0_ := Aside0.mk (blk_below (g := gb332) (o := .cells #[.complex .f32 a0_0.re a0_0.im, .complex .f32 a0_1.re a0_1.im, .complex .f32 a0_2.re a0_2.im, .slice A0_3 l0_3.length c0_3, .slice A0_4 l0_4.length c0_4] 30 (0, 0)) (by exact BK332.out) hb); have n1_ := Aside0.mk (blk_below (g := gb333) (o := .cells #[.complex .f32 a1_0.re a1_0.im, .complex .f32 a1_1.re a1_1.im, .complex .f32 a1_2.re a1_2.im, .slice A1_3 l1_3.length c1_3, .slice A1_4 l1_4.length c1_4] 30 (0, 0)) (by exact BK333.out) hb); have n2_ := Aside0.mk (below_step (by with_reducible exact HB.out) hb); clear BK332; clear BK333; clear HB; have BK332 := n0_; have BK333 := n1_; have HB := n2_; clear n0_ n1_ n2_; (try clear hb); (try clear hb2); (try clear hk); (try clear hi); have hcz22_0 : w21.cell? ⟨gb332, 0, none⟩ = some (.complex .f32 a0_0.re a0_0.im) := (blk_cell BK332.out 0).trans rfl; have hcz22_1 : w21.cell? ⟨gb332, 1, none⟩ = some (.complex .f32 a0_1.re a0_1.im) := (blk_cell BK332.out 1).trans rfl; have hcz22_2 : w21.cell? ⟨gb332, 2, none⟩ = some (.complex .f32 a0_2.re a0_2.im) := (blk_cell BK332.out 2).trans rfl; have hcz22_3 : w21.cell? ⟨gb332, 3, none⟩ = some (.slice A0_3 l0_3.length c0_3) := (blk_cell BK332.out 3).trans rfl; have hcz22_4 : w21.cell? ⟨gb332, 4, none⟩ = some (.slice A0_4 l0_4.length c0_4) := (blk_cell BK332.out 4).trans rfl; have hfz22_0 := blk_frozen BK332.out 0; have hfz22_1 := blk_frozen BK332.out 1; have hfz22_2 := blk_frozen BK332.out 2; have hfz22_3 := blk_frozen BK332.out 3; have hfz22_4 := blk_frozen BK332.out 4; have hcz23_0 : w21.cell? ⟨gb333, 0, none⟩ = some (.complex .f32 a1_0.re a1_0.im) := (blk_cell BK333.out 0).trans rfl; have hcz23_1 : w21.cell? ⟨gb333, 1, none⟩ = some (.complex .f32 a1_1.re a1_1.im) := (blk_cell BK333.out 1).trans rfl; have hcz23_2 : w21.cell? ⟨gb333, 2, none⟩ = some (.complex .f32 a1_2.re a1_2.im) := (blk_cell BK333.out 2).trans rfl; have hcz23_3 : w21.cell? ⟨gb333, 3, none⟩ = some (.slice A1_3 l1_3.length c1_3) := (blk_cell BK333.out 3).trans rfl; have hcz23_4 : w21.cell? ⟨gb333, 4, none⟩ = some (.slice A1_4 l1_4.length c1_4) := (blk_cell BK333.out 4).trans rfl; have hfz23_0 := blk_frozen BK333.out 0; have hfz23_1 := blk_frozen BK333.out 1; have hfz23_2 := blk_frozen BK333.out 2; have hfz23_3 := blk_frozen BK333.out 3; have hfz23_4 := blk_frozen BK333.out 4) | ((with_reducible refine gate_callee (f := 21) rfl ?_); refine goesL_ (some 15) rfl rfl Try.func21 (by kernel_rfl) rfl #[.slice A0_4 l0_4.length c0_4, .slice A1_4 l1_4.length c1_4] rfl (by (try simp only [List.map_toArray, List.map_cons, List.map_nil]); rfl) ?_; (with_reducible refine (laws_eqTieS.calls k _ _ l0_4 _ _ l1_4 false _ ?side1 ?side2 ?side3 ?side4 A5.out).mono ?_); (case side1 => repeat (exact (Kd.C_below HR0_4.out HB.out))); (case side2 => exact HC0_4.out); (case side3 => repeat (exact (Kd.C_below HR1_4.out HB.out))); (case side4 => exact HC1_4.out); rintro e w24 ⟨rfl, hb⟩; refine ⟨_, rfl, ?_⟩; have n0_ := Aside0.mk (blk_below (g := gb332) (o := .cells #[.complex .f32 a0_0.re a0_0.im, .complex .f32 a0_1.re a0_1.im, .complex .f32 a0_2.re a0_2.im, .slice A0_3 l0_3.length c0_3, .slice A0_4 l0_4.length c0_4] 30 (0, 0)) (by exact BK332.out) hb); have n1_ := Aside0.mk (blk_below (g := gb333) (o := .cells #[.complex .f32 a1_0.re a1_0.im, .complex .f32 a1_1.re a1_1.im, .complex .f32 a1_2.re a1_2.im, .slice A1_3 l1_3.length c1_3, .slice A1_4 l1_4.length c1_4] 30 (0, 0)) (by exact BK333.out) hb); have n2_ := Aside0.mk (below_step (by with_reducible exact HB.out) hb); clear BK332; clear BK333; clear HB; have BK332 := n0_; have BK333 := n1_; have HB := n2_; clear n0_ n1_ n2_; (try clear hb); (try clear hb2); (try clear hk); (try clear hi)))
      go_ret
      exact ⟨by rfl, by with_reducible exact HB.out⟩
  · replace c4 := Bool.eq_false_iff.mpr c4
    subst c4
    have H1 : (some false) = some r := by rw [if_neg (show ¬ (false = true) by decide)] at H; exact H
    clear H
    have H := H1
    clear H1
    obtain rfl := Option.some.inj H
    go_enter Try.func8, Try.ntmps8
    go_wp2_with (first | ((with_reducible refine gate_dst (N := 2) rfl ?_); refine box_event ?hg (N := 2) ?hd (cs := #[.complex .f32 a0_0.re a0_0.im, .complex .f32 a0_1.re a0_1.im, .complex .f32 a0_2.re a0_2.im, .slice A0_3 l0_3.length c0_3, .slice A0_4 l0_4.length c0_4]) (t := 30) ?hr ?_; (case hd => rfl); (case hg => rfl); (case hr => (go_simp; done)); intro gb332 hg w25 hbox hb; have n0_ := Aside0.mk (below_step (by with_reducible exact HB.out) hb); have n1_ := Aside0.mk (hbox); have n2_ := Aside0.mk ((by rw [hg]; exact (below_size (by with_reducible exact HB.out)) : w.heap.size ≤ gb332)); have n3_ := Aside0.mk ((by rw [hg]; exact (below_size (by with_reducible exact HB.out)) : w.heap.size ≤ gb332)); clear HB; have HB := n0_; have BK332 := n1_; have GW332 := n2_; have GE332 := n3_; clear n0_ n1_ n2_ n3_; clear hb hbox hg) | ((with_reducible refine gate_dst (N := 3) rfl ?_); refine box_event ?hg (N := 3) ?hd (cs := #[.complex .f32 a1_0.re a1_0.im, .complex .f32 a1_1.re a1_1.im, .complex .f32 a1_2.re a1_2.im, .slice A1_3 l1_3.length c1_3, .slice A1_4 l1_4.length c1_4]) (t := 30) ?hr ?_; (case hd => rfl); (case hg => rfl); (case hr => (go_simp; done)); intro gb333 hg w26 hbox hb; have n0_ := Aside0.mk (blk_below (g := gb332) (o := .cells #[.complex .f32 a0_0.re a0_0.im, .complex .f32 a0_1.re a0_1.im, .complex .f32 a0_2.re a0_2.im, .slice A0_3 l0_3.length c0_3, .slice A0_4 l0_4.length c0_4] 30 (0, 0)) (by exact BK332.out) hb); have n1_ := Aside0.mk (below_step (by with_reducible exact HB.out) hb); have n2_ := Aside0.mk (hbox); have n3_ := Aside0.mk ((by rw [hg]; exact (below_size (by with_reducible exact HB.out)) : w.heap.size ≤ gb333)); have n4_ := Aside0.mk ((by rw [hg]; exact (below_size (by with_reducible exact HB.out)) : w.heap.size ≤ gb333)); have n5_ := Aside0.mk ((by rw [hg]; exact Nat.ne_of_lt (blk_lt (g := gb332) (o := .cells #[.complex .f32 a0_0.re a0_0.im, .complex .f32 a0_1.re a0_1.im, .complex .f32 a0_2.re a0_2.im, .slice A0_3 l0_3.length c0_3, .slice A0_4 l0_4.length c0_4] 30 (0, 0)) (by exact BK332.out)) : gb332 ≠ gb333)); have n6_ := Aside0.mk ((by rw [hg]; exact Nat.ne_of_gt (blk_lt (g := gb332) (o := .cells #[.complex .f32 a0_0.re a0_0.im, .complex .f32 a0_1.re a0_1.im, .complex .f32 a0_2.re a0_2.im, .slice A0_3 l0_3.length c0_3, .slice A0_4 l0_4.length c0_4] 30 (0, 0)) (by exact BK332.out)) : gb333 ≠ gb332)); clear BK332; clear HB; have BK332 := n0_; have HB := n1_; have BK333 := n2_; have GW333 := n3_; have GE333 := n4_; have NB332_333 := n5_; have NB333_332 := n6_; clear n0_ n1_ n2_ n3_ n4_ n5_ n6_; clear hb hbox hg; have hnb27 := NB332_333.out; have hnc27 := NB333_332.out; have hcz28_0 : w26.cell? ⟨gb332, 0, none⟩ = some (.complex .f32 a0_0.re a0_0.im) := (blk_cell BK332.out 0).trans rfl; have hcz28_1 : w26.cell? ⟨gb332, 1, none⟩ = some (.complex .f32 a0_1.re a0_1.im) := (blk_cell BK332.out 1).trans rfl; have hcz28_2 : w26.cell? ⟨gb332, 2, none⟩ = some (.complex .f32 a0_2.re a0_2.im) := (blk_cell BK332.out 2).trans rfl; have hcz28_3 : w26.cell? ⟨gb332, 3, none⟩ = some (.slice A0_3 l0_3.length c0_3) := (blk_cell BK332.out 3).trans rfl; have hcz28_4 : w26.cell? ⟨gb332, 4, none⟩ = some (.slice A0_4 l0_4.length c0_4) := (blk_cell BK332.out 4).trans rfl; have hfz28_0 := blk_frozen BK332.out 0; have hfz28_1 := blk_frozen BK332.out 1; have hfz28_2 := blk_frozen BK332.out 2; have hfz28_3 := blk_frozen BK332.out 3; have hfz28_4 := blk_frozen BK332.out 4; have hcz29_0 : w26.cell? ⟨gb333, 0, none⟩ = some (.complex .f32 a1_0.re a1_0.im) := (blk_cell BK333.out 0).trans rfl; have hcz29_1 : w26.cell? ⟨gb333, 1, none⟩ = some (.complex .f32 a1_1.re a1_1.im) := (blk_cell BK333.out 1).trans rfl; have hcz29_2 : w26.cell? ⟨gb333, 2, none⟩ = some (.complex .f32 a1_2.re a1_2.im) := (blk_cell BK333.out 2).trans rfl; have hcz29_3 : w26.cell? ⟨gb333, 3, none⟩ = some (.slice A1_3 l1_3.length c1_3) := (blk_cell BK333.out 3).trans rfl; have hcz29_4 : w26.cell? ⟨gb333, 4, none⟩ = some (.slice A1_4 l1_4.length c1_4) := (blk_cell BK333.out 4).trans rfl; have hfz29_0 := blk_frozen BK333.out 0; have hfz29_1 := blk_frozen BK333.out 1; have hfz29_2 := blk_frozen BK333.out 2; have hfz29_3 := blk_frozen BK333.out 3; have hfz29_4 := blk_frozen BK333.out 4) | ((with_reducible refine gate_callee (f := 20) rfl ?_); refine goesL_ (some 9) rfl rfl Try.func20 (by kernel_rfl) rfl #[.agg #[.complex .f32 a0_0.re a0_0.im, .complex .f32 a0_1.re a0_1.im, .complex .f32 a0_2.re a0_2.im, .slice A0_3 l0_3.length c0_3], .agg #[.complex .f32 a1_0.re a1_0.im, .complex .f32 a1_1.re a1_1.im, .complex .f32 a1_2.re a1_2.im, .slice A1_3 l1_3.length c1_3]] rfl (by (try simp only [List.map_toArray, List.map_cons, List.map_nil]); rfl) ?_; (with_reducible refine (laws_eqFeeder.calls k a0_0 a0_1 a0_2 _ _ l0_3 a1_0 a1_1 a1_2 _ _ l1_3 false _ ?side1 ?side2 ?side3 ?side4 A3.out).mono ?_); (case side1 => repeat (exact (Kd.C_below HR0_3.out HB.out))); (case side2 => exact HC0_3.out); (case side3 => repeat (exact (Kd.C_below HR1_3.out HB.out))); (case side4 => exact HC1_3.out); rintro e w30 ⟨rfl, hb⟩; refine ⟨_, rfl, ?_⟩; have n0_ := Aside0.mk (blk_below (g := gb332) (o := .cells #[.complex .f32 a0_0.re a0_0.im, .complex .f32 a0_1.re a0_1.im, .complex .f32 a0_2.re a0_2.im, .slice A0_3 l0_3.length c0_3, .slice A0_4 l0_4.length c0_4] 30 (0, 0)) (by exact BK332.out) hb); have n1_ := Aside0.mk (blk_below (g := gb333) (o := .cells #[.complex .f32 a1_0.re a1_0.im, .complex .f32 a1_1.re a1_1.im, .complex .f32 a1_2.re a1_2.im, .slice A1_3 l1_3.length c1_3, .slice A1_4 l1_4.length c1_4] 30 (0, 0)) (by exact BK333.out) hb); have n2_ := Aside0.mk (below_step (by with_reducible exact HB.out) hb); clear BK332; clear BK333; clear HB; have BK332 := n0_; have BK333 := n1_; have HB := n2_; clear n0_ n1_ n2_; (try clear hb); (try clear hb2); (try clear hk); (try clear hi)))
    go_ret
    exact ⟨by rfl, by with_reducible exact HB.out⟩

end Go.Proofs.Ytkkokkmhldceiaa.M
