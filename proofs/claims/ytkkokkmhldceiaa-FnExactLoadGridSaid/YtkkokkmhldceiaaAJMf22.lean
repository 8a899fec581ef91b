/- Written by a program of this session (wip/patch_print.py over the kit's printer). -/
import Derived.Test.YtkkokkmhldceiaaAM0
import Derived.Test.YtkkokkmhldceiaaAMf49
namespace Go.Proofs.Ytkkokkmhldceiaa.M
open Go.RowKit Go.Proofs.YtkkokkmhldceiaaW.PrintWords Go.Proofs.YtkkokkmhldceiaaW.PrintLast Go.Proofs.YtkkokkmhldceiaaW.PrintMore
attribute [local go_sem] max2_int min2_int max_two min_two max_three min_three max_four min_four   -- for this text's walks alone
set_option linter.unusedVariables false
set_option linter.unusedSimpArgs false

/-! ### laws_markFeeder: function 22 -/
def laws_markFeeder.f (k : Nat) (a0_0 : Cx) (a0_1 : Cx) (a0_2 : Cx) (l0_3 : List (S69)) (a1 : Int) : Option (Int × (List (S69))) := (laws_markBusS.f k l0_3 a1).bind fun bt345 => (some (bt345.1, bt345.2))
theorem laws_markFeeder.mono : ∀ a0 a1 a2 a3 a4 k, LeO (laws_markFeeder.f k a0 a1 a2 a3 a4) (laws_markFeeder.f (k + 1) a0 a1 a2 a3 a4) := by
  intro a0 a1 a2 a3 a4 k
  unfold laws_markFeeder.f
  repeat' first
      | (with_reducible exact laws_markBusS.mono _ _ _)
      | (with_reducible exact LeO.refl _)
      | (with_reducible refine LeO.bind ?_ (fun _ => ?_))
set_option maxHeartbeats 8000000 in
set_option maxRecDepth 100000 in
theorem laws_markFeeder.calls (k : Nat) (a0_0 : Cx) (a0_1 : Cx) (a0_2 : Cx) (P0_3_ : Nat → Prop) (u9000_ : Value) (l0_3 : List (S69)) (a1 : Int) (r1 : Int) (r2 : List (S69)) (w0 w : World) (hB : Below w0.heap.size w0 w) (ho0_3 : Kd.R k69 69 w w0.heap.size P0_3_ u9000_ l0_3) (h : laws_markFeeder.f k a0_0 a0_1 a0_2 l0_3 a1 = some (r1, r2)) :
    Calls Try.prog 22 #[.agg #[.complex .f32 a0_0.re a0_0.im, .complex .f32 a0_1.re a0_1.im, .complex .f32 a0_2.re a0_2.im, u9000_], .int .i64 a1] w fun e w' => e = .returned (.int .i64 r1) ∧ Kd.R k69 69 w' w0.heap.size (fun k_ => (P0_3_ k_ ∨ w.heap.size ≤ k_)) u9000_ r2 ∧ Below w0.heap.size w0 w' ∧ Kept w w' (fun k_ => P0_3_ k_) := by
  have hu27 := Try.underlying27
  have HO0_3 := Aside0.mk (show Kd.R k69 69 w w0.heap.size (fun k_ => (P0_3_ k_ ∨ w.heap.size ≤ k_)) u9000_ l0_3 from Kd.R_mono ho0_3 (fun k_ hk => (.inl hk)))
  have HK := Aside0.mk (Kept.refl w (fun k_ => P0_3_ k_))
  have HW0 := Aside0.mk hB.size
  have HB := Aside0.mk hB
  clear hB
  have H : ((laws_markBusS.f k l0_3 a1).bind fun bt345 => (some (bt345.1, bt345.2))) = some (r1, r2) := h
  clear h
  replace H := Option.bind_eq_some_iff.mp H
  obtain ⟨⟨t345, t346⟩, A30, H⟩ := H
  replace H : (some (t345, t346)) = some (r1, r2) := H
  have A3 := Aside0.mk A30
  clear A30
  simp only [Option.some.injEq, Prod.mk.injEq] at H
  obtain ⟨rfl, rfl⟩ := H
  obtain ⟨Ao4, co4, eo4⟩ := Kd.R_slice HO0_3.out
  subst eo4
  go_enter Try.func22, Try.ntmps22
  go_wp2_with (first | ((with_reducible refine gate_dst (N := 2) rfl ?_); refine box_event ?hg (N := 2) ?hd (cs := #[.complex .f32 a0_0.re a0_0.im, .complex .f32 a0_1.re a0_1.im, .complex .f32 a0_2.re a0_2.im, .slice Ao4 l0_3.length co4]) (t := 27) ?hr ?_; (case hd => rfl); (case hg => rfl); (case hr => (go_simp; done)); intro gb344 hg w5 hbox hb; have n0_ := Aside0.mk (Kd.R_below (by exact HO0_3.out) hb); have n1_ := Aside0.mk (Kept.below (S := (fun k_ => P0_3_ k_)) (by with_reducible exact HK.out) hb); have n2_ := Aside0.mk (below_step (by with_reducible exact HB.out) hb); have n3_ := Aside0.mk (hbox); have n4_ := Aside0.mk ((by rw [hg]; exact (by exact HK.out.1) : w.heap.size ≤ gb344)); have n5_ := Aside0.mk ((by rw [hg]; exact (below_size (by with_reducible exact HB.out)) : w0.heap.size ≤ gb344)); clear HO0_3; clear HK; clear HB; have HO0_3 := n0_; have HK := n1_; have HB := n2_; have BK344 := n3_; have GW344 := n4_; have GE344 := n5_; clear n0_ n1_ n2_ n3_ n4_ n5_; clear hb hbox hg; have hcz6_0 : w5.cell? ⟨gb344, 0, none⟩ = some (.complex .f32 a0_0.re a0_0.im) := (blk_cell BK344.out 0).trans rfl; have hcz6_1 : w5.cell? ⟨gb344, 1, none⟩ = some (.complex .f32 a0_1.re a0_1.im) := (blk_cell BK344.out 1).trans rfl; have hcz6_2 : w5.cell? ⟨gb344, 2, none⟩ = some (.complex .f32 a0_2.re a0_2.im) := (blk_cell BK344.out 2).trans rfl; have hcz6_3 : w5.cell? ⟨gb344, 3, none⟩ = some (.slice Ao4 l0_3.length co4) := (blk_cell BK344.out 3).trans rfl; have hfz6_0 := blk_frozen BK344.out 0; have hfz6_1 := blk_frozen BK344.out 1; have hfz6_2 := blk_frozen BK344.out 2; have hfz6_3 := blk_frozen BK344.out 3) | ((with_reducible refine gate_callee (f := 49) rfl ?_); refine goesL_ (some 8) rfl rfl Try.func49 (by kernel_rfl) rfl #[.slice Ao4 l0_3.length co4, .int .i64 a1] rfl (by (try simp only [List.map_toArray, List.map_cons, List.map_nil]); rfl) ?_; (with_reducible refine (laws_markBusS.calls k (fun k_ => some k_ = (.slice Ao4 l0_3.length co4 : Value).ownBlock) (.slice Ao4 l0_3.length co4) l0_3 a1 t345 t346 w0 _ ?side1 ?side2 A3.out).mono ?_); (case side1 => with_reducible exact HB.out); (case side2 => exact Kd.R_tight rfl HO0_3.out); rintro e w7 ⟨rfl, hy0, hb, hkp⟩; refine ⟨_, rfl, ?_⟩; have n0_ := Aside0.mk (Kd.R_reok rfl hy0 (fun k_ e_ => HO0_3.out.1 k_ e_)); have n1_ := Aside0.mk (blk_kept (by exact BK344.out) hkp (fun hs_ => (fun e_ => (Kd.R_ne HO0_3.out BK344.out (by decide)) e_) hs_)); have n2_ := Aside0.mk (Kept.then_ (S := (fun k_ => P0_3_ k_)) (by with_reducible exact HK.out) hkp (fun k_ hs_ => (fun e_ => (HO0_3.out.1 k_ e_.symm)) hs_)); have n3_ := Aside0.mk (hb); clear HO0_3; clear BK344; clear HK; clear HB; have HO0_3 := n0_; have BK344 := n1_; have HK := n2_; have HB := n3_; clear n0_ n1_ n2_ n3_; (try clear hb); (try clear hkp); (try clear hy0)))
  go_ret
  exact ⟨by rfl, by exact HO0_3.out, by with_reducible exact HB.out, by with_reducible exact HK.out⟩

end Go.Proofs.Ytkkokkmhldceiaa.M
/- Written by a program of this session (wip/patch_print.py over the kit's printer). -/
namespace Go.Proofs.Ytkkokkmhldceiaa.M
open Go.RowKit Go.Proofs.YtkkokkmhldceiaaW.PrintWords Go.Proofs.YtkkokkmhldceiaaW.PrintLast Go.Proofs.YtkkokkmhldceiaaW.PrintMore
attribute [local go_sem] max2_int min2_int max_two min_two max_three min_three max_four min_four   -- for this text's walks alone
set_option linter.unusedVariables false
set_option linter.unusedSimpArgs false

/-! ### laws_markTieS: function 23 -/
def laws_markTieS.l0 : Nat → List (S72) → Int → Int → Option (Int × (List (S72)))
  | 0, _, _, _ => none
  | k + 1, x0, x1, x5 => if x5 < (x0.length : Int) then (if 0 ≤ x5 then ((some (x0.set (x5 : Int).toNat (⟨x1, (rd_T72 x0 x5).f1, (rd_T72 x0 x5).f2, (rd_T72 x0 x5).f3, (rd_T72 x0 x5).f4⟩ : S72) : List (S72))).bind fun y347 => ((some (y347.set (x5 : Int).toNat (⟨(rd_T72 y347 x5).f0, wrap64 (x1 + 1), (rd_T72 y347 x5).f2, (rd_T72 y347 x5).f3, (rd_T72 y347 x5).f4⟩ : S72) : List (S72))).bind fun y348 => (if 0 ≤ (wrap64 ((wrap64 (x1 + 1)) + 1)) then (if (wrap64 ((wrap64 (x1 + 1)) + 1)) ≤ 4096 then ((some (y348.set (x5 : Int).toNat (⟨(rd_T72 y348 x5).f0, (rd_T72 y348 x5).f1, (⟨mk32 (wrap64 ((wrap64 (x1 + 1)) + 1)), 1065353216⟩ : Cx), (rd_T72 y348 x5).f3, (rd_T72 y348 x5).f4⟩ : S72) : List (S72))).bind fun y349 => (if 0 ≤ (wrap64 ((wrap64 ((wrap64 (x1 + 1)) + 1)) + 1)) then (if (wrap64 ((wrap64 ((wrap64 (x1 + 1)) + 1)) + 1)) ≤ 4096 then ((some (y349.set (x5 : Int).toNat (⟨(rd_T72 y349 x5).f0, (rd_T72 y349 x5).f1, (rd_T72 y349 x5).f2, (⟨mk32 (wrap64 ((wrap64 ((wrap64 (x1 + 1)) + 1)) + 1)), 1065353216⟩ : Cx), (rd_T72 y349 x5).f4⟩ : S72) : List (S72))).bind fun y350 => (laws_markTieS.l0 k (y350.set (x5 : Int).toNat (⟨(rd_T72 y350 x5).f0, (rd_T72 y350 x5).f1, (rd_T72 y350 x5).f2, (rd_T72 y350 x5).f3, wrap64 ((wrap64 ((wrap64 ((wrap64 (x1 + 1)) + 1)) + 1)) + 1)⟩ : S72)) (wrap64 ((wrap64 ((wrap64 ((wrap64 ((wrap64 (x1 + 1)) + 1)) + 1)) + 1)) + 1)) (wrap64 (x5 + 1)))) else (none)) else (none))) else (none)) else (none)))) else (none)) else (some (x1, x0))
def laws_markTieS.f (k : Nat) (l0 : List (S72)) (a1 : Int) : Option (Int × (List (S72))) := laws_markTieS.l0 k l0 a1 0
theorem laws_markTieS.mono_l : ∀ k, (∀ y0 y1 y2, LeO (laws_markTieS.l0 k y0 y1 y2) (laws_markTieS.l0 (k + 1) y0 y1 y2))
  | 0 => fun _ _ _ r h => by simp [laws_markTieS.l0] at h
  | k + 1 => by
    have ih0 := laws_markTieS.mono_l k
    · intro y0 y1 y2
      unfold laws_markTieS.l0
      repeat' first
      | (with_reducible exact ih0 _ _ _)
      | (with_reducible exact LeO.refl _)
      | (with_reducible refine LeO.ite ?_ ?_)
      | (with_reducible refine LeO.bind ?_ (fun _ => ?_))
theorem laws_markTieS.mono : ∀ a0 a1 k, LeO (laws_markTieS.f k a0 a1) (laws_markTieS.f (k + 1) a0 a1) := by
  intro a0 a1 k
  have ih0 := laws_markTieS.mono_l k
  unfold laws_markTieS.f
  repeat' first
      | (with_reducible exact ih0 _ _ _)
set_option maxHeartbeats 8000000 in
set_option maxRecDepth 100000 in
theorem laws_markTieS.calls (k : Nat) (P0_ : Nat → Prop) (u9000_ : Value) (l0 : List (S72)) (a1 : Int) (r1 : Int) (r2 : List (S72)) (w0 w : World) (hB : Below w0.heap.size w0 w) (ho0 : Kd.R k72 72 w w0.heap.size P0_ u9000_ l0) (h : laws_markTieS.f k l0 a1 = some (r1, r2)) :
    Calls Try.prog 23 #[u9000_, .int .i64 a1] w fun e w' => e = .returned (.int .i64 r1) ∧ Kd.R k72 72 w' w0.heap.size (fun k_ => (P0_ k_ ∨ w.heap.size ≤ k_)) u9000_ r2 ∧ Below w0.heap.size w0 w' ∧ Kept w w' (fun k_ => P0_ k_) := by
  have HO0 := Aside0.mk (show Kd.R k72 72 w w0.heap.size (fun k_ => (P0_ k_ ∨ w.heap.size ≤ k_)) u9000_ l0 from Kd.R_mono ho0 (fun k_ hk => (.inl hk)))
  have HK := Aside0.mk (Kept.refl w (fun k_ => P0_ k_))
  have HW0 := Aside0.mk hB.size
  have HB := Aside0.mk hB
  clear hB
  have H : (laws_markTieS.l0 k l0 a1 0) = some (r1, r2) := h
  clear h
  have H' := Aside0.mk H
  clear H
  go_enter Try.func23, Try.ntmps23
  go_wp2
  go_loopg [1, 5] k (fun kq v1 v5 w' => ∃ (x0_1 : List (S72)) (x1_1 : Int) (x5_1 : Int), v1 = .int .i64 x1_1 ∧ v5 = .int .i64 x5_1 ∧ Aside0 (laws_markTieS.l0 kq x0_1 x1_1 x5_1 = some (r1, r2)) ∧ Aside0 (kq ≤ k) ∧ Aside0 (Kd.R k72 72 w' w0.heap.size (fun k_ => (P0_ k_ ∨ w.heap.size ≤ k_)) u9000_ x0_1) ∧ Aside0 (Kept w w' (fun k_ => P0_ k_)) ∧ Aside0 (Below w0.heap.size w0 w'))
  case atStart => exact ⟨(l0), (a1), (0), (by rfl), (by rfl), H', ⟨Nat.le_refl _⟩, ⟨by exact HO0.out⟩, ⟨by with_reducible exact HK.out⟩, ⟨by with_reducible exact HB.out⟩⟩
  case round =>
    clear H'
    obtain ⟨x0_1, x1_1, x5_1, rfl, rfl, HA, HK1, HO_0, HK, HB⟩ := hrel
    cases gk with
    | zero => exact absurd HA.out (by simp [laws_markTieS.l0])
    | succ k1 =>
      have H := HA.out
      clear HA
      simp only [laws_markTieS.l0] at H
      by_cases c3 : x5_1 < (x0_1.length : Int)
      · rw [if_pos c3] at H
        have c3b0 : decide (x5_1 < (x0_1.length : Int)) = true := decide_eq_true c3
        clear c3
        by_cases c4 : 0 ≤ x5_1
        · rw [if_pos c4] at H
          have c4b0 : decide (0 ≤ x5_1) = true := decide_eq_true c4
          clear c4
          obtain ⟨y347, hy347⟩ : ∃ y_ : List (S72), y_ = (x0_1.set (x5_1 : Int).toNat (⟨x1_1, (rd_T72 x0_1 x5_1).f1, (rd_T72 x0_1 x5_1).f2, (rd_T72 x0_1 x5_1).f3, (rd_T72 x0_1 x5_1).f4⟩ : S72)) := ⟨_, rfl⟩
          replace H : ((some (y347.set (x5_1 : Int).toNat (⟨(rd_T72 y347 x5_1).f0, wrap64 (x1_1 + 1), (rd_T72 y347 x5_1).f2, (rd_T72 y347 x5_1).f3, (rd_T72 y347 x5_1).f4⟩ : S72) : List (S72))).bind fun y348 => (if 0 ≤ (wrap64 ((wrap64 (x1_1 + 1)) + 1)) then (if (wrap64 ((wrap64 (x1_1 + 1)) + 1)) ≤ 4096 then ((some (y348.set (x5_1 : Int).toNat (⟨(rd_T72 y348 x5_1).f0, (rd_T72 y348 x5_1).f1, (⟨mk32 (wrap64 ((wrap64 (x1_1 + 1)) + 1)), 1065353216⟩ : Cx), (rd_T72 y348 x5_1).f3, (rd_T72 y348 x5_1).f4⟩ : S72) : List (S72))).bind fun y349 => (if 0 ≤ (wrap64 ((wrap64 ((wrap64 (x1_1 + 1)) + 1)) + 1)) then (if (wrap64 ((wrap64 ((wrap64 (x1_1 + 1)) + 1)) + 1)) ≤ 4096 then ((some (y349.set (x5_1 : Int).toNat (⟨(rd_T72 y349 x5_1).f0, (rd_T72 y349 x5_1).f1, (rd_T72 y349 x5_1).f2, (⟨mk32 (wrap64 ((wrap64 ((wrap64 (x1_1 + 1)) + 1)) + 1)), 1065353216⟩ : Cx), (rd_T72 y349 x5_1).f4⟩ : S72) : List (S72))).bind fun y350 => (laws_markTieS.l0 k1 (y350.set (x5_1 : Int).toNat (⟨(rd_T72 y350 x5_1).f0, (rd_T72 y350 x5_1).f1, (rd_T72 y350 x5_1).f2, (rd_T72 y350 x5_1).f3, wrap64 ((wrap64 ((wrap64 ((wrap64 (x1_1 + 1)) + 1)) + 1)) + 1)⟩ : S72)) (wrap64 ((wrap64 ((wrap64 ((wrap64 ((wrap64 (x1_1 + 1)) + 1)) + 1)) + 1)) + 1)) (wrap64 (x5_1 + 1)))) else (none)) else (none))) else (none)) else (none))) = some (r1, r2) := by (have H2_ := (Option.bind_some _ _).symm.trans H; rw [hy347]; with_reducible exact H2_)
          have Ny347 := Aside0.mk hy347
          clear hy347
          obtain ⟨y348, hy348⟩ : ∃ y_ : List (S72), y_ = (y347.set (x5_1 : Int).toNat (⟨(rd_T72 y347 x5_1).f0, wrap64 (x1_1 + 1), (rd_T72 y347 x5_1).f2, (rd_T72 y347 x5_1).f3, (rd_T72 y347 x5_1).f4⟩ : S72)) := ⟨_, rfl⟩
          replace H : (if 0 ≤ (wrap64 ((wrap64 (x1_1 + 1)) + 1)) then (if (wrap64 ((wrap64 (x1_1 + 1)) + 1)) ≤ 4096 then ((some (y348.set (x5_1 : Int).toNat (⟨(rd_T72 y348 x5_1).f0, (rd_T72 y348 x5_1).f1, (⟨mk32 (wrap64 ((wrap64 (x1_1 + 1)) + 1)), 1065353216⟩ : Cx), (rd_T72 y348 x5_1).f3, (rd_T72 y348 x5_1).f4⟩ : S72) : List (S72))).bind fun y349 => (if 0 ≤ (wrap64 ((wrap64 ((wrap64 (x1_1 + 1)) + 1)) + 1)) then (if (wrap64 ((wrap64 ((wrap64 (x1_1 + 1)) + 1)) + 1)) ≤ 4096 then ((some (y349.set (x5_1 : Int).toNat (⟨(rd_T72 y349 x5_1).f0, (rd_T72 y349 x5_1).f1, (rd_T72 y349 x5_1).f2, (⟨mk32 (wrap64 ((wrap64 ((wrap64 (x1_1 + 1)) + 1)) + 1)), 1065353216⟩ : Cx), (rd_T72 y349 x5_1).f4⟩ : S72) : List (S72))).bind fun y350 => (laws_markTieS.l0 k1 (y350.set (x5_1 : Int).toNat (⟨(rd_T72 y350 x5_1).f0, (rd_T72 y350 x5_1).f1, (rd_T72 y350 x5_1).f2, (rd_T72 y350 x5_1).f3, wrap64 ((wrap64 ((wrap64 ((wrap64 (x1_1 + 1)) + 1)) + 1)) + 1)⟩ : S72)) (wrap64 ((wrap64 ((wrap64 ((wrap64 ((wrap64 (x1_1 + 1)) + 1)) + 1)) + 1)) + 1)) (wrap64 (x5_1 + 1)))) else (none)) else (none))) else (none)) else (none)) = some (r1, r2) := by (have H2_ := (Option.bind_some _ _).symm.trans H; rw [hy348]; with_reducible exact H2_)
          have Ny348 := Aside0.mk hy348
          clear hy348
          obtain ⟨ji7, hji7⟩ : ∃ j_ : Int, (wrap64 ((wrap64 (x1_1 + 1)) + 1)) = j_ := ⟨_, rfl⟩
          replace H : (if 0 ≤ (ji7) then (if (ji7) ≤ 4096 then ((some (y348.set (x5_1 : Int).toNat (⟨(rd_T72 y348 x5_1).f0, (rd_T72 y348 x5_1).f1, (⟨mk32 (ji7), 1065353216⟩ : Cx), (rd_T72 y348 x5_1).f3, (rd_T72 y348 x5_1).f4⟩ : S72) : List (S72))).bind fun y349 => (if 0 ≤ (wrap64 ((ji7) + 1)) then (if (wrap64 ((ji7) + 1)) ≤ 4096 then ((some (y349.set (x5_1 : Int).toNat (⟨(rd_T72 y349 x5_1).f0, (rd_T72 y349 x5_1).f1, (rd_T72 y349 x5_1).f2, (⟨mk32 (wrap64 ((ji7) + 1)), 1065353216⟩ : Cx), (rd_T72 y349 x5_1).f4⟩ : S72) : List (S72))).bind fun y350 => (laws_markTieS.l0 k1 (y350.set (x5_1 : Int).toNat (⟨(rd_T72 y350 x5_1).f0, (rd_T72 y350 x5_1).f1, (rd_T72 y350 x5_1).f2, (rd_T72 y350 x5_1).f3, wrap64 ((wrap64 ((ji7) + 1)) + 1)⟩ : S72)) (wrap64 ((wrap64 ((wrap64 ((ji7) + 1)) + 1)) + 1)) (wrap64 (x5_1 + 1)))) else (none)) else (none))) else (none)) else (none)) = some (r1, r2) := by (rw [hji7] at H; exact H)
          have hji7w : (IntKind.i64.wrap ((wrap64 (x1_1 + 1)) + 1)) = ji7 := (i64_w _).trans hji7
          by_cases c8 : 0 ≤ (ji7)
          · rw [if_pos c8] at H
            have c8b0 := eq_true c8
            have c8b1 : decide (0 ≤ (ji7)) = true := decide_eq_true c8
            clear c8
            by_cases c9 : (ji7) ≤ 4096
            · rw [if_pos c9] at H
              have c9b0 := eq_true c9
              have c9b1 : decide ((ji7) ≤ 4096) = true := decide_eq_true c9
              clear c9
              obtain ⟨y349, hy349⟩ : ∃ y_ : List (S72), y_ = (y348.set (x5_1 : Int).toNat (⟨(rd_T72 y348 x5_1).f0, (rd_T72 y348 x5_1).f1, (⟨mk32 (ji7), 1065353216⟩ : Cx), (rd_T72 y348 x5_1).f3, (rd_T72 y348 x5_1).f4⟩ : S72)) := ⟨_, rfl⟩
              replace H : (if 0 ≤ (wrap64 ((ji7) + 1)) then (if (wrap64 ((ji7) + 1)) ≤ 4096 then ((some (y349.set (x5_1 : Int).toNat (⟨(rd_T72 y349 x5_1).f0, (rd_T72 y349 x5_1).f1, (rd_T72 y349 x5_1).f2, (⟨mk32 (wrap64 ((ji7) + 1)), 1065353216⟩ : Cx), (rd_T72 y349 x5_1).f4⟩ : S72) : List (S72))).bind fun y350 => (laws_markTieS.l0 k1 (y350.set (x5_1 : Int).toNat (⟨(rd_T72 y350 x5_1).f0, (rd_T72 y350 x5_1).f1, (rd_T72 y350 x5_1).f2, (rd_T72 y350 x5_1).f3, wrap64 ((wrap64 ((ji7) + 1)) + 1)⟩ : S72)) (wrap64 ((wrap64 ((wrap64 ((ji7) + 1)) + 1)) + 1)) (wrap64 (x5_1 + 1)))) else (none)) else (none)) = some (r1, r2) := by (have H2_ := (Option.bind_some _ _).symm.trans H; rw [hy349]; with_reducible exact H2_)
              have Ny349 := Aside0.mk hy349
              clear hy349
              obtain ⟨ji11, hji11⟩ : ∃ j_ : Int, (wrap64 ((ji7) + 1)) = j_ := ⟨_, rfl⟩
              replace H : (if 0 ≤ (ji11) then (if (ji11) ≤ 4096 then ((some (y349.set (x5_1 : Int).toNat (⟨(rd_T72 y349 x5_1).f0, (rd_T72 y349 x5_1).f1, (rd_T72 y349 x5_1).f2, (⟨mk32 (ji11), 1065353216⟩ : Cx), (rd_T72 y349 x5_1).f4⟩ : S72) : List (S72))).bind fun y350 => (laws_markTieS.l0 k1 (y350.set (x5_1 : Int).toNat (⟨(rd_T72 y350 x5_1).f0, (rd_T72 y350 x5_1).f1, (rd_T72 y350 x5_1).f2, (rd_T72 y350 x5_1).f3, wrap64 ((ji11) + 1)⟩ : S72)) (wrap64 ((wrap64 ((ji11) + 1)) + 1)) (wrap64 (x5_1 + 1)))) else (none)) else (none)) = some (r1, r2) := by (rw [hji11] at H; exact H)
              have hji11w : (IntKind.i64.wrap ((ji7) + 1)) = ji11 := (i64_w _).trans hji11
              by_cases c12 : 0 ≤ (ji11)
              · rw [if_pos c12] at H
                have c12b0 := eq_true c12
                have c12b1 : decide (0 ≤ (ji11)) = true := decide_eq_true c12
                clear c12
                by_cases c13 : (ji11) ≤ 4096
                · rw [if_pos c13] at H
                  have c13b0 := eq_true c13
                  have c13b1 : decide ((ji11) ≤ 4096) = true := decide_eq_true c13
                  clear c13
                  obtain ⟨y350, hy350⟩ : ∃ y_ : List (S72), y_ = (y349.set (x5_1 : Int).toNat (⟨(rd_T72 y349 x5_1).f0, (rd_T72 y349 x5_1).f1, (rd_T72 y349 x5_1).f2, (⟨mk32 (ji11), 1065353216⟩ : Cx), (rd_T72 y349 x5_1).f4⟩ : S72)) := ⟨_, rfl⟩
                  replace H : (laws_markTieS.l0 k1 (y350.set (x5_1 : Int).toNat (⟨(rd_T72 y350 x5_1).f0, (rd_T72 y350 x5_1).f1, (rd_T72 y350 x5_1).f2, (rd_T72 y350 x5_1).f3, wrap64 ((ji11) + 1)⟩ : S72)) (wrap64 ((wrap64 ((ji11) + 1)) + 1)) (wrap64 (x5_1 + 1))) = some (r1, r2) := by (have H2_ := (Option.bind_some _ _).symm.trans H; rw [hy350]; with_reducible exact H2_)
                  have Ny350 := Aside0.mk hy350
                  clear hy350
                  obtain ⟨y351, hy351⟩ : ∃ y_ : List (S72), y_ = (y350.set (x5_1 : Int).toNat (⟨(rd_T72 y350 x5_1).f0, (rd_T72 y350 x5_1).f1, (rd_T72 y350 x5_1).f2, (rd_T72 y350 x5_1).f3, wrap64 ((ji11) + 1)⟩ : S72)) := ⟨_, rfl⟩
                  replace H : (laws_markTieS.l0 k1 y351 (wrap64 ((wrap64 ((ji11) + 1)) + 1)) (wrap64 (x5_1 + 1))) = some (r1, r2) := by (rw [hy351]; with_reducible exact H)
                  have Ny351 := Aside0.mk hy351
                  clear hy351
                  have H' := Aside0.mk H
                  clear H
                  obtain ⟨Ao16, co16, eo16⟩ := Kd.R_slice HO_0.out
                  subst eo16
                  have p5 : 0 ≤ (x5_1 : Int) := of_decide_eq_true (by (with_reducible assumption))
                  have q5 : (x5_1 : Int) < ((x0_1.length : Int) : Int) := of_decide_eq_true (by (with_reducible assumption))
                  obtain ⟨go5, co5, eo5, gb5, gl5, cl5, HG5⟩ := Kd.R_form HO_0.out (by omega)
                  (cases eo5)
                  have GB5 := Aside0.mk gb5
                  have GG5 := Aside0.mk HG5
                  clear gb5 gl5 HG5
                  have HMgo5 := Aside0.mk (show (P0_ go5 ∨ w.heap.size ≤ go5) from (HO_0.out.1 _ rfl))
                  obtain ⟨ce5, hcl5, hM5, hcc5, hfr5⟩ := Kd.R_elem HO_0.out z72 (x5_1 : Int) p5 q5
                  obtain rfl := k72_openM hM5
                  have hx5_0 : wr.cell? ⟨go5, (x5_1 : Int).toNat * 5, none⟩ = some (.int .i64 ((rd_T72 x0_1 x5_1).f0)) := hcc5 0 _ rfl
                  have hx5_1 : wr.cell? ⟨go5, (x5_1 : Int).toNat * 5 + 1, none⟩ = some (.int .i64 ((rd_T72 x0_1 x5_1).f1)) := hcc5 1 _ rfl
                  have hx5_2 : wr.cell? ⟨go5, (x5_1 : Int).toNat * 5 + 2, none⟩ = some (.complex .f32 ((rd_T72 x0_1 x5_1).f2).re ((rd_T72 x0_1 x5_1).f2).im) := hcc5 2 _ rfl
                  have hx5_3 : wr.cell? ⟨go5, (x5_1 : Int).toNat * 5 + 3, none⟩ = some (.complex .f32 ((rd_T72 x0_1 x5_1).f3).re ((rd_T72 x0_1 x5_1).f3).im) := hcc5 3 _ rfl
                  have hx5_4 : wr.cell? ⟨go5, (x5_1 : Int).toNat * 5 + 4, none⟩ = some (.int .i64 ((rd_T72 x0_1 x5_1).f4)) := hcc5 4 _ rfl
                  have hf5_0 : wr.frozen? ⟨go5, (x5_1 : Int).toNat * 5, none⟩ = false := hfr5 0
                  have hf5_1 : wr.frozen? ⟨go5, (x5_1 : Int).toNat * 5 + 1, none⟩ = false := hfr5 1
                  have hf5_2 : wr.frozen? ⟨go5, (x5_1 : Int).toNat * 5 + 2, none⟩ = false := hfr5 2
                  have hf5_3 : wr.frozen? ⟨go5, (x5_1 : Int).toNat * 5 + 3, none⟩ = false := hfr5 3
                  have hf5_4 : wr.frozen? ⟨go5, (x5_1 : Int).toNat * 5 + 4, none⟩ = false := hfr5 4
                  clear hcl5 hcc5 hfr5 hM5
                  replace p5 := eq_true p5
                  replace q5 := eq_true q5
                  have HX17 := Aside0.mk (show Kd.R k72 72 wr w0.heap.size (fun k_ => (P0_ k_ ∨ w.heap.size ≤ k_)) (.slice (some ⟨go5, 0, none⟩) x0_1.length co16) x0_1 from (by exact HO_0.out))
                  obtain ⟨ce17, hcl17, hM17, hcc17, hfr17⟩ := Kd.R_elem HX17.out z72 (x5_1 : Int) (of_decide_eq_true (by (with_reducible assumption))) (by have h_ : (x5_1 : Int) < ((x0_1.length : Int) : Int) := of_decide_eq_true (by (with_reducible assumption)); exact h_)
                  obtain rfl := k72_openM hM17
                  have HP17 := Kd.R_seg HX17.out (x5_1 : Int) (of_decide_eq_true (by (with_reducible assumption))) (by have h_ : (x5_1 : Int) < ((x0_1.length : Int) : Int) := of_decide_eq_true (by (with_reducible assumption)); exact h_) (seg := [.int .i64 x1_1]) (j := 0) hcl17 hcc17 (show 1 ≤ 5 from by decide) (x' := (⟨x1_1, (rd_T72 x0_1 x5_1).f1, (rd_T72 x0_1 x5_1).f2, (rd_T72 x0_1 x5_1).f3, (rd_T72 x0_1 x5_1).f4⟩ : S72)) (k72_mkM _ _ _ (⟨x1_1, (rd_T72 x0_1 x5_1).f1, (rd_T72 x0_1 x5_1).f2, (rd_T72 x0_1 x5_1).f3, (rd_T72 x0_1 x5_1).f4⟩ : S72) ) (fun _ hk => hk)
                  have hx17_0 := hcc17 0 _ rfl
                  (try simp only [show (k72).sz = 5 from rfl, Nat.mul_one, Nat.add_zero] at hx17_0)
                  have hf17_0 := hfr17 0
                  (try simp only [show (k72).sz = 5 from rfl, Nat.mul_one, Nat.add_zero] at hf17_0)
                  clear hcl17 hcc17 hfr17 hM17
                  go_wp2_with (first | ((with_reducible refine gate_store (t := 2) (p := 16) rfl ?_); refine store_event (t := 2) (p := 16) (v := ?vo_w18) (w1 := (wr.setCell ⟨go5, (x5_1 : Int).toNat * 5, none⟩ (.int .i64 x1_1))) ?hg ?ho ?hn ?hr ?_; (case ho => rfl); (case hg => rfl); (case hn => rfl); (case hr => (go_simp; done)); intro w18 hw; have hg : wr.grownBy w18 (some go5) := (by rw [hw]; exact HP17.2); have hp_ : Kd.R k72 72 w18 w0.heap.size (fun k_ => (P0_ k_ ∨ w.heap.size ≤ k_)) (.slice (some ⟨go5, 0, none⟩) x0_1.length co16) y347 := (by rw [hw, Ny347.out]; exact HP17.1); clear HP17; have n0_ := Aside0.mk (hp_); have n1_ := Aside0.mk ((by rw [hw]; exact below_set (HB.out) GB5.out : Below w0.heap.size w0 w18)); have n2_ := Aside0.mk (Kept.of_grown (S := (fun k_ => P0_ k_)) hg (by with_reducible exact HK.out) (fun k_ e_ => (HO_0.out.1 k_ e_))); clear HO_0; clear HB; clear HK; have HO_0 := n0_; have HB := n1_; have HK := n2_; clear n0_ n1_ n2_; clear hg hw hp_; have p6 : 0 ≤ (x5_1 : Int) := of_decide_eq_true (by (with_reducible assumption)); have q6 : (x5_1 : Int) < ((x0_1.length : Int) : Int) := of_decide_eq_true (by (with_reducible assumption)); obtain ⟨ce6, hcl6, hM6, hcc6, hfr6⟩ := Kd.R_elem HO_0.out z72 (x5_1 : Int) p6 q6; obtain rfl := k72_openM hM6; have hx6_0 : w18.cell? ⟨go5, (x5_1 : Int).toNat * 5, none⟩ = some (.int .i64 ((rd_T72 y347 x5_1).f0)) := hcc6 0 _ rfl; have hx6_1 : w18.cell? ⟨go5, (x5_1 : Int).toNat * 5 + 1, none⟩ = some (.int .i64 ((rd_T72 y347 x5_1).f1)) := hcc6 1 _ rfl; have hx6_2 : w18.cell? ⟨go5, (x5_1 : Int).toNat * 5 + 2, none⟩ = some (.complex .f32 ((rd_T72 y347 x5_1).f2).re ((rd_T72 y347 x5_1).f2).im) := hcc6 2 _ rfl; have hx6_3 : w18.cell? ⟨go5, (x5_1 : Int).toNat * 5 + 3, none⟩ = some (.complex .f32 ((rd_T72 y347 x5_1).f3).re ((rd_T72 y347 x5_1).f3).im) := hcc6 3 _ rfl; have hx6_4 : w18.cell? ⟨go5, (x5_1 : Int).toNat * 5 + 4, none⟩ = some (.int .i64 ((rd_T72 y347 x5_1).f4)) := hcc6 4 _ rfl; have hf6_0 : w18.frozen? ⟨go5, (x5_1 : Int).toNat * 5, none⟩ = false := hfr6 0; have hf6_1 : w18.frozen? ⟨go5, (x5_1 : Int).toNat * 5 + 1, none⟩ = false := hfr6 1; have hf6_2 : w18.frozen? ⟨go5, (x5_1 : Int).toNat * 5 + 2, none⟩ = false := hfr6 2; have hf6_3 : w18.frozen? ⟨go5, (x5_1 : Int).toNat * 5 + 3, none⟩ = false := hfr6 3; have hf6_4 : w18.frozen? ⟨go5, (x5_1 : Int).toNat * 5 + 4, none⟩ = false := hfr6 4; clear hcl6 hcc6 hfr6 hM6; replace p6 := eq_true p6; replace q6 := eq_true q6; have HX19 := Aside0.mk (show Kd.R k72 72 w18 w0.heap.size (fun k_ => (P0_ k_ ∨ w.heap.size ≤ k_)) (.slice (some ⟨go5, 0, none⟩) x0_1.length co16) y347 from (by exact HO_0.out)); obtain ⟨ce19, hcl19, hM19, hcc19, hfr19⟩ := Kd.R_elem HX19.out z72 (x5_1 : Int) (of_decide_eq_true (by (with_reducible assumption))) (by have h_ : (x5_1 : Int) < ((x0_1.length : Int) : Int) := of_decide_eq_true (by (with_reducible assumption)); exact h_); obtain rfl := k72_openM hM19; have HP19 := Kd.R_seg HX19.out (x5_1 : Int) (of_decide_eq_true (by (with_reducible assumption))) (by have h_ : (x5_1 : Int) < ((x0_1.length : Int) : Int) := of_decide_eq_true (by (with_reducible assumption)); exact h_) (seg := [.int .i64 (wrap64 (x1_1 + 1))]) (j := 1) hcl19 hcc19 (show 2 ≤ 5 from by decide) (x' := (⟨(rd_T72 y347 x5_1).f0, wrap64 (x1_1 + 1), (rd_T72 y347 x5_1).f2, (rd_T72 y347 x5_1).f3, (rd_T72 y347 x5_1).f4⟩ : S72)) (k72_mkM _ _ _ (⟨(rd_T72 y347 x5_1).f0, wrap64 (x1_1 + 1), (rd_T72 y347 x5_1).f2, (rd_T72 y347 x5_1).f3, (rd_T72 y347 x5_1).f4⟩ : S72) ) (fun _ hk => hk); have hx19_1 := hcc19 1 _ rfl; (try simp only [show (k72).sz = 5 from rfl, Nat.mul_one, Nat.add_zero] at hx19_1); have hf19_1 := hfr19 1; (try simp only [show (k72).sz = 5 from rfl, Nat.mul_one, Nat.add_zero] at hf19_1); clear hcl19 hcc19 hfr19 hM19) | ((with_reducible refine gate_store (t := 2) (p := 23) rfl ?_); refine store_event (t := 2) (p := 23) (v := ?vo_w20) (w1 := (w18.setCell ⟨go5, (x5_1 : Int).toNat * 5 + 1, none⟩ (.int .i64 (wrap64 (x1_1 + 1))))) ?hg ?ho ?hn ?hr ?_; (case ho => rfl); (case hg => rfl); (case hn => rfl); (case hr => (go_simp; done)); intro w20 hw; have hg : w18.grownBy w20 (some go5) := (by rw [hw]; exact HP19.2); have hp_ : Kd.R k72 72 w20 w0.heap.size (fun k_ => (P0_ k_ ∨ w.heap.size ≤ k_)) (.slice (some ⟨go5, 0, none⟩) x0_1.length co16) y348 := (by rw [hw, Ny348.out]; exact HP19.1); clear HP19; have n0_ := Aside0.mk (hp_); have n1_ := Aside0.mk ((by rw [hw]; exact below_set (HB.out) GB5.out : Below w0.heap.size w0 w20)); have n2_ := Aside0.mk (Kept.of_grown (S := (fun k_ => P0_ k_)) hg (by with_reducible exact HK.out) (fun k_ e_ => (HO_0.out.1 k_ e_))); clear HO_0; clear HB; clear HK; have HO_0 := n0_; have HB := n1_; have HK := n2_; clear n0_ n1_ n2_; clear hg hw hp_; have p10 : 0 ≤ (x5_1 : Int) := of_decide_eq_true (by (with_reducible assumption)); have q10 : (x5_1 : Int) < ((x0_1.length : Int) : Int) := of_decide_eq_true (by (with_reducible assumption)); obtain ⟨ce10, hcl10, hM10, hcc10, hfr10⟩ := Kd.R_elem HO_0.out z72 (x5_1 : Int) p10 q10; obtain rfl := k72_openM hM10; have hx10_0 : w20.cell? ⟨go5, (x5_1 : Int).toNat * 5, none⟩ = some (.int .i64 ((rd_T72 y348 x5_1).f0)) := hcc10 0 _ rfl; have hx10_1 : w20.cell? ⟨go5, (x5_1 : Int).toNat * 5 + 1, none⟩ = some (.int .i64 ((rd_T72 y348 x5_1).f1)) := hcc10 1 _ rfl; have hx10_2 : w20.cell? ⟨go5, (x5_1 : Int).toNat * 5 + 2, none⟩ = some (.complex .f32 ((rd_T72 y348 x5_1).f2).re ((rd_T72 y348 x5_1).f2).im) := hcc10 2 _ rfl; have hx10_3 : w20.cell? ⟨go5, (x5_1 : Int).toNat * 5 + 3, none⟩ = some (.complex .f32 ((rd_T72 y348 x5_1).f3).re ((rd_T72 y348 x5_1).f3).im) := hcc10 3 _ rfl; have hx10_4 : w20.cell? ⟨go5, (x5_1 : Int).toNat * 5 + 4, none⟩ = some (.int .i64 ((rd_T72 y348 x5_1).f4)) := hcc10 4 _ rfl; have hf10_0 : w20.frozen? ⟨go5, (x5_1 : Int).toNat * 5, none⟩ = false := hfr10 0; have hf10_1 : w20.frozen? ⟨go5, (x5_1 : Int).toNat * 5 + 1, none⟩ = false := hfr10 1; have hf10_2 : w20.frozen? ⟨go5, (x5_1 : Int).toNat * 5 + 2, none⟩ = false := hfr10 2; have hf10_3 : w20.frozen? ⟨go5, (x5_1 : Int).toNat * 5 + 3, none⟩ = false := hfr10 3; have hf10_4 : w20.frozen? ⟨go5, (x5_1 : Int).toNat * 5 + 4, none⟩ = false := hfr10 4; clear hcl10 hcc10 hfr10 hM10; replace p10 := eq_true p10; replace q10 := eq_true q10; have HX21 := Aside0.mk (show Kd.R k72 72 w20 w0.heap.size (fun k_ => (P0_ k_ ∨ w.heap.size ≤ k_)) (.slice (some ⟨go5, 0, none⟩) x0_1.length co16) y348 from (by exact HO_0.out)); obtain ⟨ce21, hcl21, hM21, hcc21, hfr21⟩ := Kd.R_elem HX21.out z72 (x5_1 : Int) (of_decide_eq_true (by (with_reducible assumption))) (by have h_ : (x5_1 : Int) < ((x0_1.length : Int) : Int) := of_decide_eq_true (by (with_reducible assumption)); exact h_); obtain rfl := k72_openM hM21; have HP21 := Kd.R_seg HX21.out (x5_1 : Int) (of_decide_eq_true (by (with_reducible assumption))) (by have h_ : (x5_1 : Int) < ((x0_1.length : Int) : Int) := of_decide_eq_true (by (with_reducible assumption)); exact h_) (seg := [.complex .f32 (mk32 (ji7)) 1065353216]) (j := 2) hcl21 hcc21 (show 3 ≤ 5 from by decide) (x' := (⟨(rd_T72 y348 x5_1).f0, (rd_T72 y348 x5_1).f1, (⟨mk32 (ji7), 1065353216⟩ : Cx), (rd_T72 y348 x5_1).f3, (rd_T72 y348 x5_1).f4⟩ : S72)) (k72_mkM _ _ _ (⟨(rd_T72 y348 x5_1).f0, (rd_T72 y348 x5_1).f1, (⟨mk32 (ji7), 1065353216⟩ : Cx), (rd_T72 y348 x5_1).f3, (rd_T72 y348 x5_1).f4⟩ : S72) ) (fun _ hk => hk); have hx21_2 := hcc21 2 _ rfl; (try simp only [show (k72).sz = 5 from rfl, Nat.mul_one, Nat.add_zero] at hx21_2); have hf21_2 := hfr21 2; (try simp only [show (k72).sz = 5 from rfl, Nat.mul_one, Nat.add_zero] at hf21_2); clear hcl21 hcc21 hfr21 hM21) | ((with_reducible refine gate_store (t := 22) (p := 33) rfl ?_); refine store_event (t := 22) (p := 33) (v := ?vo_w22) (w1 := (w20.setCell ⟨go5, (x5_1 : Int).toNat * 5 + 2, none⟩ (.complex .f32 (mk32 (ji7)) 1065353216))) ?hg ?ho ?hn ?hr ?_; (case ho => rfl); (case hg => rfl); (case hn => rfl); (case hr => (go_simp; done)); intro w22 hw; have hg : w20.grownBy w22 (some go5) := (by rw [hw]; exact HP21.2); have hp_ : Kd.R k72 72 w22 w0.heap.size (fun k_ => (P0_ k_ ∨ w.heap.size ≤ k_)) (.slice (some ⟨go5, 0, none⟩) x0_1.length co16) y349 := (by rw [hw, Ny349.out]; exact HP21.1); clear HP21; have n0_ := Aside0.mk (hp_); have n1_ := Aside0.mk ((by rw [hw]; exact below_set (HB.out) GB5.out : Below w0.heap.size w0 w22)); have n2_ := Aside0.mk (Kept.of_grown (S := (fun k_ => P0_ k_)) hg (by with_reducible exact HK.out) (fun k_ e_ => (HO_0.out.1 k_ e_))); clear HO_0; clear HB; clear HK; have HO_0 := n0_; have HB := n1_; have HK := n2_; clear n0_ n1_ n2_; clear hg hw hp_; have p14 : 0 ≤ (x5_1 : Int) := of_decide_eq_true (by (with_reducible assumption)); have q14 : (x5_1 : Int) < ((x0_1.length : Int) : Int) := of_decide_eq_true (by (with_reducible assumption)); obtain ⟨ce14, hcl14, hM14, hcc14, hfr14⟩ := Kd.R_elem HO_0.out z72 (x5_1 : Int) p14 q14; obtain rfl := k72_openM hM14; have hx14_0 : w22.cell? ⟨go5, (x5_1 : Int).toNat * 5, none⟩ = some (.int .i64 ((rd_T72 y349 x5_1).f0)) := hcc14 0 _ rfl; have hx14_1 : w22.cell? ⟨go5, (x5_1 : Int).toNat * 5 + 1, none⟩ = some (.int .i64 ((rd_T72 y349 x5_1).f1)) := hcc14 1 _ rfl; have hx14_2 : w22.cell? ⟨go5, (x5_1 : Int).toNat * 5 + 2, none⟩ = some (.complex .f32 ((rd_T72 y349 x5_1).f2).re ((rd_T72 y349 x5_1).f2).im) := hcc14 2 _ rfl; have hx14_3 : w22.cell? ⟨go5, (x5_1 : Int).toNat * 5 + 3, none⟩ = some (.complex .f32 ((rd_T72 y349 x5_1).f3).re ((rd_T72 y349 x5_1).f3).im) := hcc14 3 _ rfl; have hx14_4 : w22.cell? ⟨go5, (x5_1 : Int).toNat * 5 + 4, none⟩ = some (.int .i64 ((rd_T72 y349 x5_1).f4)) := hcc14 4 _ rfl; have hf14_0 : w22.frozen? ⟨go5, (x5_1 : Int).toNat * 5, none⟩ = false := hfr14 0; have hf14_1 : w22.frozen? ⟨go5, (x5_1 : Int).toNat * 5 + 1, none⟩ = false := hfr14 1; have hf14_2 : w22.frozen? ⟨go5, (x5_1 : Int).toNat * 5 + 2, none⟩ = false := hfr14 2; have hf14_3 : w22.frozen? ⟨go5, (x5_1 : Int).toNat * 5 + 3, none⟩ = false := hfr14 3; have hf14_4 : w22.frozen? ⟨go5, (x5_1 : Int).toNat * 5 + 4, none⟩ = false := hfr14 4; clear hcl14 hcc14 hfr14 hM14; replace p14 := eq_true p14; replace q14 := eq_true q14; have HX23 := Aside0.mk (show Kd.R k72 72 w22 w0.heap.size (fun k_ => (P0_ k_ ∨ w.heap.size ≤ k_)) (.slice (some ⟨go5, 0, none⟩) x0_1.length co16) y349 from (by exact HO_0.out)); obtain ⟨ce23, hcl23, hM23, hcc23, hfr23⟩ := Kd.R_elem HX23.out z72 (x5_1 : Int) (of_decide_eq_true (by (with_reducible assumption))) (by have h_ : (x5_1 : Int) < ((x0_1.length : Int) : Int) := of_decide_eq_true (by (with_reducible assumption)); exact h_); obtain rfl := k72_openM hM23; have HP23 := Kd.R_seg HX23.out (x5_1 : Int) (of_decide_eq_true (by (with_reducible assumption))) (by have h_ : (x5_1 : Int) < ((x0_1.length : Int) : Int) := of_decide_eq_true (by (with_reducible assumption)); exact h_) (seg := [.complex .f32 (mk32 (ji11)) 1065353216]) (j := 3) hcl23 hcc23 (show 4 ≤ 5 from by decide) (x' := (⟨(rd_T72 y349 x5_1).f0, (rd_T72 y349 x5_1).f1, (rd_T72 y349 x5_1).f2, (⟨mk32 (ji11), 1065353216⟩ : Cx), (rd_T72 y349 x5_1).f4⟩ : S72)) (k72_mkM _ _ _ (⟨(rd_T72 y349 x5_1).f0, (rd_T72 y349 x5_1).f1, (rd_T72 y349 x5_1).f2, (⟨mk32 (ji11), 1065353216⟩ : Cx), (rd_T72 y349 x5_1).f4⟩ : S72) ) (fun _ hk => hk); have hx23_3 := hcc23 3 _ rfl; (try simp only [show (k72).sz = 5 from rfl, Nat.mul_one, Nat.add_zero] at hx23_3); have hf23_3 := hfr23 3; (try simp only [show (k72).sz = 5 from rfl, Nat.mul_one, Nat.add_zero] at hf23_3); clear hcl23 hcc23 hfr23 hM23) | ((with_reducible refine gate_store (t := 22) (p := 43) rfl ?_); refine store_event (t := 22) (p := 43) (v := ?vo_w24) (w1 := (w22.setCell ⟨go5, (x5_1 : Int).toNat * 5 + 3, none⟩ (.complex .f32 (mk32 (ji11)) 1065353216))) ?hg ?ho ?hn ?hr ?_; (case ho => rfl); (case hg => rfl); (case hn => rfl); (case hr => (go_simp; done)); intro w24 hw; have hg : w22.grownBy w24 (some go5) := (by rw [hw]; exact HP23.2); have hp_ : Kd.R k72 72 w24 w0.heap.size (fun k_ => (P0_ k_ ∨ w.heap.size ≤ k_)) (.slice (some ⟨go5, 0, none⟩) x0_1.length co16) y350 := (by rw [hw, Ny350.out]; exact HP23.1); clear HP23; have n0_ := Aside0.mk (hp_); have n1_ := Aside0.mk ((by rw [hw]; exact below_set (HB.out) GB5.out : Below w0.heap.size w0 w24)); have n2_ := Aside0.mk (Kept.of_grown (S := (fun k_ => P0_ k_)) hg (by with_reducible exact HK.out) (fun k_ e_ => (HO_0.out.1 k_ e_))); clear HO_0; clear HB; clear HK; have HO_0 := n0_; have HB := n1_; have HK := n2_; clear n0_ n1_ n2_; clear hg hw hp_; have p15 : 0 ≤ (x5_1 : Int) := of_decide_eq_true (by (with_reducible assumption)); have q15 : (x5_1 : Int) < ((x0_1.length : Int) : Int) := of_decide_eq_true (by (with_reducible assumption)); obtain ⟨ce15, hcl15, hM15, hcc15, hfr15⟩ := Kd.R_elem HO_0.out z72 (x5_1 : Int) p15 q15; obtain rfl := k72_openM hM15; have hx15_0 : w24.cell? ⟨go5, (x5_1 : Int).toNat * 5, none⟩ = some (.int .i64 ((rd_T72 y350 x5_1).f0)) := hcc15 0 _ rfl; have hx15_1 : w24.cell? ⟨go5, (x5_1 : Int).toNat * 5 + 1, none⟩ = some (.int .i64 ((rd_T72 y350 x5_1).f1)) := hcc15 1 _ rfl; have hx15_2 : w24.cell? ⟨go5, (x5_1 : Int).toNat * 5 + 2, none⟩ = some (.complex .f32 ((rd_T72 y350 x5_1).f2).re ((rd_T72 y350 x5_1).f2).im) := hcc15 2 _ rfl; have hx15_3 : w24.cell? ⟨go5, (x5_1 : Int).toNat * 5 + 3, none⟩ = some (.complex .f32 ((rd_T72 y350 x5_1).f3).re ((rd_T72 y350 x5_1).f3).im) := hcc15 3 _ rfl; have hx15_4 : w24.cell? ⟨go5, (x5_1 : Int).toNat * 5 + 4, none⟩ = some (.int .i64 ((rd_T72 y350 x5_1).f4)) := hcc15 4 _ rfl; have hf15_0 : w24.frozen? ⟨go5, (x5_1 : Int).toNat * 5, none⟩ = false := hfr15 0; have hf15_1 : w24.frozen? ⟨go5, (x5_1 : Int).toNat * 5 + 1, none⟩ = false := hfr15 1; have hf15_2 : w24.frozen? ⟨go5, (x5_1 : Int).toNat * 5 + 2, none⟩ = false := hfr15 2; have hf15_3 : w24.frozen? ⟨go5, (x5_1 : Int).toNat * 5 + 3, none⟩ = false := hfr15 3; have hf15_4 : w24.frozen? ⟨go5, (x5_1 : Int).toNat * 5 + 4, none⟩ = false := hfr15 4; clear hcl15 hcc15 hfr15 hM15; replace p15 := eq_true p15; replace q15 := eq_true q15; have HX25 := Aside0.mk (show Kd.R k72 72 w24 w0.heap.size (fun k_ => (P0_ k_ ∨ w.heap.size ≤ k_)) (.slice (some ⟨go5, 0, none⟩) x0_1.length co16) y350 from (by exact HO_0.out)); obtain ⟨ce25, hcl25, hM25, hcc25, hfr25⟩ := Kd.R_elem HX25.out z72 (x5_1 : Int) (of_decide_eq_true (by (with_reducible assumption))) (by have h_ : (x5_1 : Int) < ((x0_1.length : Int) : Int) := of_decide_eq_true (by (with_reducible assumption)); exact h_); obtain rfl := k72_openM hM25; have HP25 := Kd.R_seg HX25.out (x5_1 : Int) (of_decide_eq_true (by (with_reducible assumption))) (by have h_ : (x5_1 : Int) < ((x0_1.length : Int) : Int) := of_decide_eq_true (by (with_reducible assumption)); exact h_) (seg := [.int .i64 (wrap64 ((ji11) + 1))]) (j := 4) hcl25 hcc25 (show 5 ≤ 5 from by decide) (x' := (⟨(rd_T72 y350 x5_1).f0, (rd_T72 y350 x5_1).f1, (rd_T72 y350 x5_1).f2, (rd_T72 y350 x5_1).f3, wrap64 ((ji11) + 1)⟩ : S72)) (k72_mkM _ _ _ (⟨(rd_T72 y350 x5_1).f0, (rd_T72 y350 x5_1).f1, (rd_T72 y350 x5_1).f2, (rd_T72 y350 x5_1).f3, wrap64 ((ji11) + 1)⟩ : S72) ) (fun _ hk => hk); have hx25_4 := hcc25 4 _ rfl; (try simp only [show (k72).sz = 5 from rfl, Nat.mul_one, Nat.add_zero] at hx25_4); have hf25_4 := hfr25 4; (try simp only [show (k72).sz = 5 from rfl, Nat.mul_one, Nat.add_zero] at hf25_4); clear hcl25 hcc25 hfr25 hM25) | ((with_reducible refine gate_store (t := 2) (p := 50) rfl ?_); refine store_event (t := 2) (p := 50) (v := ?vo_w26) (w1 := (w24.setCell ⟨go5, (x5_1 : Int).toNat * 5 + 4, none⟩ (.int .i64 (wrap64 ((ji11) + 1))))) ?hg ?ho ?hn ?hr ?_; (case ho => rfl); (case hg => rfl); (case hn => rfl); (case hr => (go_simp; done)); intro w26 hw; have hg : w24.grownBy w26 (some go5) := (by rw [hw]; exact HP25.2); have hp_ : Kd.R k72 72 w26 w0.heap.size (fun k_ => (P0_ k_ ∨ w.heap.size ≤ k_)) (.slice (some ⟨go5, 0, none⟩) x0_1.length co16) y351 := (by rw [hw, Ny351.out]; exact HP25.1); clear HP25; have n0_ := Aside0.mk (hp_); have n1_ := Aside0.mk ((by rw [hw]; exact below_set (HB.out) GB5.out : Below w0.heap.size w0 w26)); have n2_ := Aside0.mk (Kept.of_grown (S := (fun k_ => P0_ k_)) hg (by with_reducible exact HK.out) (fun k_ e_ => (HO_0.out.1 k_ e_))); clear HO_0; clear HB; clear HK; have HO_0 := n0_; have HB := n1_; have HK := n2_; clear n0_ n1_ n2_; clear hg hw hp_))
                  go_roundg k1
                  case measure => have := HK1.out; omega
                  case rel => exact ⟨(y351), (wrap64 ((wrap64 ((ji11) + 1)) + 1)), (wrap64 (x5_1 + 1)), (by rfl), (by rfl), H', ⟨by have := HK1.out; omega⟩, ⟨by exact HO_0.out⟩, ⟨by with_reducible exact HK.out⟩, ⟨by with_reducible exact HB.out⟩⟩
                · rw [if_neg c13] at H
                  exact absurd H (by simp)
              · rw [if_neg c12] at H
                exact absurd H (by simp)
            · rw [if_neg c9] at H
              exact absurd H (by simp)
          · rw [if_neg c8] at H
            exact absurd H (by simp)
        · rw [if_neg c4] at H
          exact absurd H (by simp)
      · rw [if_neg c3] at H
        have c3b0 : decide (x5_1 < (x0_1.length : Int)) = false := decide_eq_false c3
        clear c3
        simp only [Option.some.injEq, Prod.mk.injEq] at H
        obtain ⟨rfl, rfl⟩ := H
        obtain ⟨Ao27, co27, eo27⟩ := Kd.R_slice HO_0.out
        subst eo27
        go_wp2
        go_ret
        exact ⟨by rfl, by exact HO_0.out, by with_reducible exact HB.out, by with_reducible exact HK.out⟩

end Go.Proofs.Ytkkokkmhldceiaa.M
/- Written by a program of this session (wip/patch_print.py over the kit's printer). -/
namespace Go.Proofs.Ytkkokkmhldceiaa.M
open Go.RowKit Go.Proofs.YtkkokkmhldceiaaW.PrintWords Go.Proofs.YtkkokkmhldceiaaW.PrintLast Go.Proofs.YtkkokkmhldceiaaW.PrintMore
attribute [local go_sem] max2_int min2_int max_two min_two max_three min_three max_four min_four   -- for this text's walks alone
set_option linter.unusedVariables false
set_option linter.unusedSimpArgs false

/-! ### laws_markGrid: function 9 -/
def laws_markGrid.f (k : Nat) (a0_0 : Cx) (a0_1 : Cx) (a0_2 : Cx) (l0_3 : List (S69)) (l0_4 : List (S72)) (a1 : Int) : Option (Int × (List (S69)) × (List (S72))) := (laws_markFeeder.f k a0_0 a0_1 a0_2 l0_3 a1).bind fun bt353 => ((laws_markTieS.f k l0_4 bt353.1).bind fun bt355 => (some (bt355.1, bt353.2, bt355.2)))
theorem laws_markGrid.mono : ∀ a0 a1 a2 a3 a4 a5 k, LeO (laws_markGrid.f k a0 a1 a2 a3 a4 a5) (laws_markGrid.f (k + 1) a0 a1 a2 a3 a4 a5) := by
  intro a0 a1 a2 a3 a4 a5 k
  unfold laws_markGrid.f
  repeat' first
      | (with_reducible exact laws_markFeeder.mono _ _ _ _ _ _)
      | (with_reducible exact laws_markTieS.mono _ _ _)
      | (with_reducible exact LeO.refl _)
      | (with_reducible refine LeO.bind ?_ (fun _ => ?_))
set_option maxHeartbeats 8000000 in
set_option maxRecDepth 100000 in
theorem laws_markGrid.calls (k : Nat) (a0_0 : Cx) (a0_1 : Cx) (a0_2 : Cx) (P0_3_ : Nat → Prop) (u9000_ : Value) (l0_3 : List (S69)) (P0_4_ : Nat → Prop) (u9001_ : Value) (l0_4 : List (S72)) (a1 : Int) (r1 : Int) (r2 : List (S69)) (r3 : List (S72)) (w0 w : World) (hB : Below w0.heap.size w0 w) (ho0_3 : Kd.R k69 69 w w0.heap.size P0_3_ u9000_ l0_3) (ho0_4 : Kd.R k72 72 w w0.heap.size P0_4_ u9001_ l0_4) (h : laws_markGrid.f k a0_0 a0_1 a0_2 l0_3 l0_4 a1 = some (r1, r2, r3)) :
    Calls Try.prog 9 #[.agg #[.complex .f32 a0_0.re a0_0.im, .complex .f32 a0_1.re a0_1.im, .complex .f32 a0_2.re a0_2.im, u9000_, u9001_], .int .i64 a1] w fun e w' => e = .returned (.int .i64 r1) ∧ Kd.R k69 69 w' w0.heap.size (fun k_ => ((P0_3_ k_ ∨ P0_4_ k_) ∨ w.heap.size ≤ k_)) u9000_ r2 ∧ Kd.R k72 72 w' w0.heap.size (fun k_ => ((P0_3_ k_ ∨ P0_4_ k_) ∨ w.heap.size ≤ k_)) u9001_ r3 ∧ Below w0.heap.size w0 w' ∧ Kept w w' (fun k_ => P0_3_ k_ ∨ P0_4_ k_) := by
  have hu30 := Try.underlying30
  have hu27 := Try.underlying27
  have HO0_3 := Aside0.mk (show Kd.R k69 69 w w0.heap.size (fun k_ => ((P0_3_ k_ ∨ P0_4_ k_) ∨ w.heap.size ≤ k_)) u9000_ l0_3 from Kd.R_mono ho0_3 (fun k_ hk => (.inl (.inl hk))))
  have HO0_4 := Aside0.mk (show Kd.R k72 72 w w0.heap.size (fun k_ => ((P0_3_ k_ ∨ P0_4_ k_) ∨ w.heap.size ≤ k_)) u9001_ l0_4 from Kd.R_mono ho0_4 (fun k_ hk => (.inl (.inr hk))))
  have HK := Aside0.mk (Kept.refl w (fun k_ => P0_3_ k_ ∨ P0_4_ k_))
  have HW0 := Aside0.mk hB.size
  have HB := Aside0.mk hB
  clear hB
  have H : ((laws_markFeeder.f k a0_0 a0_1 a0_2 l0_3 a1).bind fun bt353 => ((laws_markTieS.f k l0_4 bt353.1).bind fun bt355 => (some (bt355.1, bt353.2, bt355.2)))) = some (r1, r2, r3) := h
  clear h
  replace H := Option.bind_eq_some_iff.mp H
  obtain ⟨⟨t353, t354⟩, A30, H⟩ := H
  replace H : ((laws_markTieS.f k l0_4 t353).bind fun bt355 => (some (bt355.1, t354, bt355.2))) = some (r1, r2, r3) := H
  have A3 := Aside0.mk A30
  clear A30
  replace H := Option.bind_eq_some_iff.mp H
  obtain ⟨⟨t355, t356⟩, A40, H⟩ := H
  replace H : (some (t355, t354, t356)) = some (r1, r2, r3) := H
  have A4 := Aside0.mk A40
  clear A40
  simp only [Option.some.injEq, Prod.mk.injEq] at H
  obtain ⟨rfl, rfl, rfl⟩ := H
  obtain ⟨Ao5, co5, eo5⟩ := Kd.R_slice HO0_3.out
  subst eo5
  obtain ⟨Ao6, co6, eo6⟩ := Kd.R_slice HO0_4.out
  subst eo6
  go_enter Try.func9, Try.ntmps9
  go_wp2_with (first | ((with_reducible refine gate_dst (N := 2) rfl ?_); refine box_event ?hg (N := 2) ?hd (cs := #[.complex .f32 a0_0.re a0_0.im, .complex .f32 a0_1.re a0_1.im, .complex .f32 a0_2.re a0_2.im, .slice Ao5 l0_3.length co5, .slice Ao6 l0_4.length co6]) (t := 30) ?hr ?_; (case hd => rfl); (case hg => rfl); (case hr => (go_simp; done)); intro gb352 hg w7 hbox hb; have n0_ := Aside0.mk (Kd.R_below (by exact HO0_3.out) hb); have n1_ := Aside0.mk (Kd.R_below (by exact HO0_4.out) hb); have n2_ := Aside0.mk (Kept.below (S := (fun k_ => P0_3_ k_ ∨ P0_4_ k_)) (by with_reducible exact HK.out) hb); have n3_ := Aside0.mk (below_step (by with_reducible exact HB.out) hb); have n4_ := Aside0.mk (hbox); have n5_ := Aside0.mk ((by rw [hg]; exact (by exact HK.out.1) : w.heap.size ≤ gb352)); have n6_ := Aside0.mk ((by rw [hg]; exact (below_size (by with_reducible exact HB.out)) : w0.heap.size ≤ gb352)); clear HO0_3; clear HO0_4; clear HK; clear HB; have HO0_3 := n0_; have HO0_4 := n1_; have HK := n2_; have HB := n3_; have BK352 := n4_; have GW352 := n5_; have GE352 := n6_; clear n0_ n1_ n2_ n3_ n4_ n5_ n6_; clear hb hbox hg; have hcz8_0 : w7.cell? ⟨gb352, 0, none⟩ = some (.complex .f32 a0_0.re a0_0.im) := (blk_cell BK352.out 0).trans rfl; have hcz8_1 : w7.cell? ⟨gb352, 1, none⟩ = some (.complex .f32 a0_1.re a0_1.im) := (blk_cell BK352.out 1).trans rfl; have hcz8_2 : w7.cell? ⟨gb352, 2, none⟩ = some (.complex .f32 a0_2.re a0_2.im) := (blk_cell BK352.out 2).trans rfl; have hcz8_3 : w7.cell? ⟨gb352, 3, none⟩ = some (.slice Ao5 l0_3.length co5) := (blk_cell BK352.out 3).trans rfl; have hcz8_4 : w7.cell? ⟨gb352, 4, none⟩ = some (.slice Ao6 l0_4.length co6) := (blk_cell BK352.out 4).trans rfl; have hfz8_0 := blk_frozen BK352.out 0; have hfz8_1 := blk_frozen BK352.out 1; have hfz8_2 := blk_frozen BK352.out 2; have hfz8_3 := blk_frozen BK352.out 3; have hfz8_4 := blk_frozen BK352.out 4) | ((with_reducible refine gate_callee (f := 22) rfl ?_); refine goesL_ (some 8) rfl rfl Try.func22 (by kernel_rfl) rfl #[.agg #[.complex .f32 a0_0.re a0_0.im, .complex .f32 a0_1.re a0_1.im, .complex .f32 a0_2.re a0_2.im, .slice Ao5 l0_3.length co5], .int .i64 a1] rfl (by (try simp only [List.map_toArray, List.map_cons, List.map_nil]); rfl) ?_; (with_reducible refine (laws_markFeeder.calls k a0_0 a0_1 a0_2 (fun k_ => some k_ = (.slice Ao5 l0_3.length co5 : Value).ownBlock) (.slice Ao5 l0_3.length co5) l0_3 a1 t353 t354 w0 _ ?side1 ?side2 A3.out).mono ?_); (case side1 => with_reducible exact HB.out); (case side2 => exact Kd.R_tight rfl HO0_3.out); rintro e w9 ⟨rfl, hy0, hb, hkp⟩; refine ⟨_, rfl, ?_⟩; have n0_ := Aside0.mk (Kd.R_reok rfl hy0 (fun k_ e_ => HO0_3.out.1 k_ e_)); have n1_ := Aside0.mk (Kd.R_mono (ok' := fun k_ => ((P0_3_ k_ ∨ P0_4_ k_) ∨ w.heap.size ≤ k_)) (Kd.R_keptB ((Kd.R_apart' HO0_4.out (Kd.R_typed HO0_3.out) (by decide))) hkp (fun k_ hk_ hs_ => (hk_.2) hs_)) (fun k_ hk_ => hk_.1.1)); have n2_ := Aside0.mk (blk_kept (by exact BK352.out) hkp (fun hs_ => (fun e_ => (Kd.R_ne HO0_3.out BK352.out (by decide)) e_) hs_)); have n3_ := Aside0.mk (Kept.then_ (S := (fun k_ => P0_3_ k_ ∨ P0_4_ k_)) (by with_reducible exact HK.out) hkp (fun k_ hs_ => (fun e_ => (HO0_3.out.1 k_ e_.symm)) hs_)); have n4_ := Aside0.mk (hb); clear HO0_3; clear HO0_4; clear BK352; clear HK; clear HB; have HO0_3 := n0_; have HO0_4 := n1_; have BK352 := n2_; have HK := n3_; have HB := n4_; clear n0_ n1_ n2_ n3_ n4_; (try clear hb); (try clear hkp); (try clear hy0); have hcz10_0 : w9.cell? ⟨gb352, 0, none⟩ = some (.complex .f32 a0_0.re a0_0.im) := (blk_cell BK352.out 0).trans rfl; have hcz10_1 : w9.cell? ⟨gb352, 1, none⟩ = some (.complex .f32 a0_1.re a0_1.im) := (blk_cell BK352.out 1).trans rfl; have hcz10_2 : w9.cell? ⟨gb352, 2, none⟩ = some (.complex .f32 a0_2.re a0_2.im) := (blk_cell BK352.out 2).trans rfl; have hcz10_3 : w9.cell? ⟨gb352, 3, none⟩ = some (.slice Ao5 l0_3.length co5) := (blk_cell BK352.out 3).trans rfl; have hcz10_4 : w9.cell? ⟨gb352, 4, none⟩ = some (.slice Ao6 l0_4.length co6) := (blk_cell BK352.out 4).trans rfl; have hfz10_0 := blk_frozen BK352.out 0; have hfz10_1 := blk_frozen BK352.out 1; have hfz10_2 := blk_frozen BK352.out 2; have hfz10_3 := blk_frozen BK352.out 3; have hfz10_4 := blk_frozen BK352.out 4) | ((with_reducible refine gate_callee (f := 23) rfl ?_); refine goesL_ (some 12) rfl rfl Try.func23 (by kernel_rfl) rfl #[.slice Ao6 l0_4.length co6, .int .i64 t353] rfl (by (try simp only [List.map_toArray, List.map_cons, List.map_nil]); rfl) ?_; (with_reducible refine (laws_markTieS.calls k (fun k_ => some k_ = (.slice Ao6 l0_4.length co6 : Value).ownBlock) (.slice Ao6 l0_4.length co6) l0_4 t353 t355 t356 w0 _ ?side1 ?side2 A4.out).mono ?_); (case side1 => with_reducible exact HB.out); (case side2 => exact Kd.R_tight rfl HO0_4.out); rintro e w11 ⟨rfl, hy0, hb, hkp⟩; refine ⟨_, rfl, ?_⟩; have n0_ := Aside0.mk (Kd.R_mono (ok' := fun k_ => ((P0_3_ k_ ∨ P0_4_ k_) ∨ w.heap.size ≤ k_)) (Kd.R_keptB ((Kd.R_apart' HO0_3.out (Kd.R_typed HO0_4.out) (by decide))) hkp (fun k_ hk_ hs_ => (hk_.2) hs_)) (fun k_ hk_ => hk_.1.1)); have n1_ := Aside0.mk (Kd.R_reok rfl hy0 (fun k_ e_ => HO0_4.out.1 k_ e_)); have n2_ := Aside0.mk (blk_kept (by exact BK352.out) hkp (fun hs_ => (fun e_ => (Kd.R_ne HO0_4.out BK352.out (by decide)) e_) hs_)); have n3_ := Aside0.mk (Kept.then_ (S := (fun k_ => P0_3_ k_ ∨ P0_4_ k_)) (by with_reducible exact HK.out) hkp (fun k_ hs_ => (fun e_ => (HO0_4.out.1 k_ e_.symm)) hs_)); have n4_ := Aside0.mk (hb); clear HO0_3; clear HO0_4; clear BK352; clear HK; clear HB; have HO0_3 := n0_; have HO0_4 := n1_; have BK352 := n2_; have HK := n3_; have HB := n4_; clear n0_ n1_ n2_ n3_ n4_; (try clear hb); (try clear hkp); (try clear hy0)))
  go_ret
  exact ⟨by rfl, by exact HO0_3.out, by exact HO0_4.out, by with_reducible exact HB.out, by with_reducible exact HK.out⟩

end Go.Proofs.Ytkkokkmhldceiaa.M
