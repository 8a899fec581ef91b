/- The grid with which a text begins. -/
import Derived.Test.YtkkokkmhldceiaaAJMf34
import Derived.Test.YtkkokkmhldceiaaAHGrid
import Derived.Deep.RegionLaw
import Derived.Deep.CutBlock
import Derived.Deep.DeepCutAuto
import Derived.RegionTactic
import Derived.BigRegion
import Derived.BigGuard
import Derived.Lib.SlicesS
namespace Go.Proofs.Ytkkokkmhldceiaa.M
open Go.RowKit Go.Proofs.YtkkokkmhldceiaaW.PrintWords Go.Proofs.YtkkokkmhldceiaaW.PrintLast Go.Proofs.YtkkokkmhldceiaaW.PrintMore
set_option linter.unusedVariables false
set_option linter.unusedSimpArgs false

/-- The buses that the eyes read, so long as they are fine. -/
def begB : Nat → Int → List S69 → ByteArray → Int → Bool → Option (List S69 × ByteArray × Int × Bool)
  | 0, _, _, _, _, _ => none
  | k + 1, n, l, s, p, fine =>
    if 0 < n then
      if fine = true then
        if l.length < 1000000 then
          (spec_l10Eyes_bus.f k s p fine).bind fun b => begB k (wrap64 (n - 1)) (l ++ [⟨b.1, b.2.1, b.2.2.1, b.2.2.2.1, ⟨b.2.2.2.2.1, b.2.2.2.2.2.1, b.2.2.2.2.2.2.1⟩, b.2.2.2.2.2.2.2.1⟩]) b.2.2.2.2.2.2.2.2.1 b.2.2.2.2.2.2.2.2.2.1 b.2.2.2.2.2.2.2.2.2.2
        else none
      else some (l, s, p, fine)
    else some (l, s, p, fine)
def begT : Nat → Int → List S72 → ByteArray → Int → Bool → Option (List S72 × ByteArray × Int × Bool)
  | 0, _, _, _, _, _ => none
  | k + 1, n, l, s, p, fine =>
    if 0 < n then
      if fine = true then
        if l.length < 1000000 then
          (spec_l10Eyes_tie.f k s p fine).bind fun b => begT k (wrap64 (n - 1)) (l ++ [⟨b.1, b.2.1, b.2.2.1, b.2.2.2.1, b.2.2.2.2.1⟩]) b.2.2.2.2.2.1 b.2.2.2.2.2.2.1 b.2.2.2.2.2.2.2
        else none
      else some (l, s, p, fine)
    else some (l, s, p, fine)
def cut4 (a : ByteArray) (p : Int) : ByteArray := a.extract 0 p.toNat
/-- The end of the reading. -/
def begEnd (a0 : ByteArray) (p1 p2 p3 : Cx) (B : List S69) (T : List S72) (p : Int) (fine : Bool) : Option (Cx × Cx × Cx × (List S69) × (List S72) × Int × Bool) :=
  if B.length ≤ 1000000 ∧ T.length ≤ 1000000 then
    if fine = true then
      if gridB B T = true then
        if 0 ≤ p ∧ p ≤ (a0.size : Int) then some (p1, p2, p3, B, T, p, headT p1 p2 p3 B T == a0.extract 0 p.toNat) else none
      else some (p1, p2, p3, B, T, p, false)
    else some (p1, p2, p3, B, T, p, false)
  else none
def spec_l10Begin.f (k : Nat) (a0 : ByteArray) : Option (Cx × Cx × Cx × (List (S69)) × (List (S72)) × Int × Bool) :=
  if (a0.size : Int) < 4 then some (⟨0, 0⟩, ⟨0, 0⟩, ⟨0, 0⟩, [], [], 0, false)
  else if a0.extract 0 4 = mark4 then
    (spec_l10Eyes_phases.f k a0 4 true).bind fun bp =>
    (spec_l10Eyes_word.f k bp.2.2.2.1 bp.2.2.2.2.1 bp.2.2.2.2.2 1).bind fun bn =>
    (begB k bn.1 [] bn.2.1 bn.2.2.1 bn.2.2.2).bind fun bb =>
    (spec_l10Eyes_word.f k bb.2.1 bb.2.2.1 bb.2.2.2 1).bind fun bm =>
    (begT k bm.1 [] bm.2.1 bm.2.2.1 bm.2.2.2).bind fun bt =>
    begEnd a0 bp.1 bp.2.1 bp.2.2.1 bb.1 bt.1 bt.2.2.1 bt.2.2.2
  else some (⟨0, 0⟩, ⟨0, 0⟩, ⟨0, 0⟩, [], [], 0, false)

theorem begB_mono : ∀ k n l s p fine, LeO (begB k n l s p fine) (begB (k + 1) n l s p fine)
  | 0, _, _, _, _, _ => by intro r h; simp [begB] at h
  | k + 1, n, l, s, p, fine => by
    unfold begB
    refine LeO.ite ?_ (LeO.refl _)
    refine LeO.ite ?_ (LeO.refl _)
    refine LeO.ite ?_ (LeO.none _)
    exact LeO.bind (spec_l10Eyes_bus.mono _ _ _ _) (fun _ => begB_mono _ _ _ _ _ _)
theorem begT_mono : ∀ k n l s p fine, LeO (begT k n l s p fine) (begT (k + 1) n l s p fine)
  | 0, _, _, _, _, _ => by intro r h; simp [begT] at h
  | k + 1, n, l, s, p, fine => by
    unfold begT
    refine LeO.ite ?_ (LeO.refl _)
    refine LeO.ite ?_ (LeO.refl _)
    refine LeO.ite ?_ (LeO.none _)
    exact LeO.bind (spec_l10Eyes_tie.mono _ _ _ _) (fun _ => begT_mono _ _ _ _ _ _)
theorem spec_l10Begin.mono : ∀ a0 k, LeO (spec_l10Begin.f k a0) (spec_l10Begin.f (k + 1) a0) := by
  intro a0 k
  unfold spec_l10Begin.f
  refine LeO.ite (LeO.refl _) (LeO.ite ?_ (LeO.refl _))
  refine LeO.bind (spec_l10Eyes_phases.mono _ _ _ _) (fun _ => ?_)
  refine LeO.bind (spec_l10Eyes_word.mono _ _ _ _ _) (fun _ => ?_)
  refine LeO.bind (begB_mono _ _ _ _ _ _) (fun _ => ?_)
  refine LeO.bind (spec_l10Eyes_word.mono _ _ _ _ _) (fun _ => ?_)
  exact LeO.bind (begT_mono _ _ _ _ _ _) (fun _ => LeO.refl _)

set_option maxHeartbeats 40000000 in
set_option maxRecDepth 100000 in
theorem spec_l10Begin.calls (k : Nat) (a0 : ByteArray) (r1 : Cx) (r2 : Cx) (r3 : Cx) (r4 : List (S69)) (r5 : List (S72)) (r6 : Int) (r7 : Bool) (w : World) (h : spec_l10Begin.f k a0 = some (r1, r2, r3, r4, r5, r6, r7)) :
    Calls Try.prog 18 #[.string a0] w fun e w' => ∃ v3_ v4_ : Value, e = .returned (.tuple #[.agg #[.complex .f32 r1.re r1.im, .complex .f32 r2.re r2.im, .complex .f32 r3.re r3.im, v3_, v4_], .int .i64 r6, .bool r7]) ∧ Kd.R k69 69 w' w.heap.size (fun _ => True) v3_ r4 ∧ Kd.R k72 72 w' w.heap.size (fun _ => True) v4_ r5 ∧ Below w.heap.size w w' := by
  have hu30 := Try.underlying30
  unfold spec_l10Begin.f at h
  by_cases c0 : (a0.size : Int) < 4
  · rw [if_pos c0] at h
    have f0 : decide ((a0.size : Int) < 4) = true := decide_eq_true c0
    have f0n : decide (a0.size < 4) = true := decide_eq_true (by omega)
    simp only [Option.some.injEq, Prod.mk.injEq] at h
    obtain ⟨rfl, rfl, rfl, rfl, rfl, rfl, rfl⟩ := h
    go_enter Try.func18, Try.ntmps18
    go_wp2
    refine bodyPost_ret (results_ctt rfl _ _ w.heap.size 30 #[.complex .f32 0 0, .complex .f32 0 0, .complex .f32 0 0, .slice none 0 0, .slice (some ⟨w.heap.size + 1, 0, none⟩) 0 0] (0, 0) _ rfl (blk_alloc (blk_alloc (heap_alloc_new _ _) _) _) Try.underlying30 rfl (by kernel_rfl)) rfl ?_
    have hT : ((w.alloc (.cells #[.complex .f32 0 0, .complex .f32 0 0, .complex .f32 0 0, .slice none 0 0, .slice (some ⟨w.heap.size + 1, 0, none⟩) 0 0] 30)).alloc (.cells #[] 72)).heap[w.heap.size + 1]? = some (.cells #[] 72 (0, 0)) := by
      have := heap_alloc_new (w.alloc (.cells #[.complex .f32 0 0, .complex .f32 0 0, .complex .f32 0 0, .slice none 0 0, .slice (some ⟨w.heap.size + 1, 0, none⟩) 0 0] 30)) (.cells #[] 72)
      simpa using this
    exact ⟨.slice none 0 0, .slice (some ⟨w.heap.size + 1, 0, none⟩) 0 0, rfl, Kd.R_nil _ _ _ _ _, R_none72 _ _ _ _ (blk_alloc hT _) (by omega) trivial, below_alloc (below_alloc (below_alloc (Below.refl _ _) _) _) _⟩
  · rw [if_neg c0] at h
    have f0 : decide ((a0.size : Int) < 4) = false := decide_eq_false c0
    have f0n : decide (a0.size < 4) = false := decide_eq_false (by omega)
    have f1 : decide ((4 : Int) ≤ (a0.size : Int)) = true := decide_eq_true (by omega)
    have f1n : decide (4 ≤ a0.size) = true := decide_eq_true (by omega)
    by_cases cm : a0.extract 0 4 = mark4
    · rw [if_pos cm] at h
      have cm' : ((a0.extract 0 4).toList == [70, 68, 82, 49]) = true := by rw [cm, ByteArray.toList_eq]; rfl
      clear cm
      obtain ⟨⟨p1, p2, p3, s1, q1, g1⟩, A1, h⟩ := Option.bind_eq_some_iff.mp h
      obtain ⟨⟨n1, s2, q2, g2⟩, A2, h⟩ := Option.bind_eq_some_iff.mp h
      obtain ⟨⟨lB, s3, q3, g3⟩, A3, h⟩ := Option.bind_eq_some_iff.mp h
      obtain ⟨⟨n2, s4, q4, g4⟩, A4, h⟩ := Option.bind_eq_some_iff.mp h
      obtain ⟨⟨lT, s5, q5, g5⟩, A5, h⟩ := Option.bind_eq_some_iff.mp h
      dsimp only at A2 A3 A4 A5 h
      have H1 := Aside0.mk A1
      have H2 := Aside0.mk A2
      have H3 := Aside0.mk A3
      have H4 := Aside0.mk A4
      have H5 := Aside0.mk A5
      have HE := Aside0.mk h
      clear h A1 A2 A3 A4 A5
      generalize hr1 : r1 = r1' at *
      clear hr1
      go_enter Try.func18, Try.ntmps18
      go_wp2_with fail
      obtain ⟨W, hW⟩ : ∃ W : World, ((((w.alloc (.cells #[.complex .f32 0 0, .complex .f32 0 0, .complex .f32 0 0, .slice none 0 0, .slice none 0 0] 30)).alloc (.cells #[] 72)).alloc (.cells #[.complex .f32 0 0, .complex .f32 0 0, .complex .f32 0 0, .slice none 0 0, .slice (some ⟨w.heap.size + 1, 0, none⟩) 0 0] 30)).alloc (.cells #[.string a0, .int .i64 4, .bool true] 65)) = W := ⟨_, rfl⟩
      have HG : Aside0 (GB w W (w.heap.size + 1 + 1) ⟨0, 0⟩ ⟨0, 0⟩ ⟨0, 0⟩ (.slice none 0 0) (.slice (some ⟨w.heap.size + 1, 0, none⟩) 0 0) [] []) := ⟨by
        rw [← hW]
        have hT := heap_alloc_new (w.alloc (.cells #[.complex .f32 0 0, .complex .f32 0 0, .complex .f32 0 0, .slice none 0 0, .slice none 0 0] 30)) (.cells #[] 72)
        have hO := heap_alloc_new ((w.alloc (.cells #[.complex .f32 0 0, .complex .f32 0 0, .complex .f32 0 0, .slice none 0 0, .slice none 0 0] 30)).alloc (.cells #[] 72)) (.cells #[.complex .f32 0 0, .complex .f32 0 0, .complex .f32 0 0, .slice none 0 0, .slice (some ⟨w.heap.size + 1, 0, none⟩) 0 0] 30)
        have hT' : ((w.alloc (.cells #[.complex .f32 0 0, .complex .f32 0 0, .complex .f32 0 0, .slice none 0 0, .slice none 0 0] 30)).alloc (.cells #[] 72)).heap[w.heap.size + 1]? = some (.cells #[] 72 (0, 0)) := by simpa using hT
        exact ⟨blk_alloc (blk_alloc (blk_alloc (heap_alloc_new _ _) _) _) _, blk_alloc (by simpa using hO) _, by omega, Kd.R_nil _ _ _ _ _, R_none72 _ _ _ _ (blk_alloc (blk_alloc hT' _) _) (by omega) trivial, below_alloc (below_alloc (below_alloc (below_alloc (Below.refl _ _) _) _) _) _⟩⟩
      have HI : Aside0 (IsS65 w W (w.heap.size + 1 + 1 + 1) a0 4 true) := ⟨by
        rw [← hW]
        exact ⟨by
          have := heap_alloc_new (((w.alloc (.cells #[.complex .f32 0 0, .complex .f32 0 0, .complex .f32 0 0, .slice none 0 0, .slice none 0 0] 30)).alloc (.cells #[] 72)).alloc (.cells #[.complex .f32 0 0, .complex .f32 0 0, .complex .f32 0 0, .slice none 0 0, .slice (some ⟨w.heap.size + 1, 0, none⟩) 0 0] 30)) (.cells #[.string a0, .int .i64 4, .bool true] 65)
          simpa using this, by omega⟩⟩
      rw [hW]
      clear hW
      have HLT : Aside0 (w.heap.size + 1 + 1 < w.heap.size + 1 + 1 + 1) := ⟨by omega⟩
      generalize w.heap.size + 1 + 1 + 1 = gE at *
      generalize w.heap.size + 1 + 1 = gO at *
      refine (spec_l10Eyes_phases.calls k gE _ _ _ _ _ _ _ _ _ w W HI.out HG.out.below H1.out).mono ?_
      rintro e wz ⟨rfl, hI, hB, hK⟩
      have HG := Aside0.mk (HG.out.keep HI.out.1 (by decide) (by decide) (by decide) hK hB)
      have HI := Aside0.mk hI
      clear hI hB hK
      have z0 := HG.out.fz 0
      have z1 := HG.out.fz 1
      have z2 := HG.out.fz 2
      have d0 : wz.cell? ⟨gO, 0, none⟩ = some (.complex .f32 0 0) := (blk_cell HG.out.out 0).trans rfl
      have d1 : wz.cell? ⟨gO, 1, none⟩ = some (.complex .f32 0 0) := (blk_cell HG.out.out 1).trans rfl
      have d2 : wz.cell? ⟨gO, 2, none⟩ = some (.complex .f32 0 0) := (blk_cell HG.out.out 2).trans rfl
      go_wp2_with fail
      obtain ⟨W, hW⟩ : ∃ W : World, ((wz.setCell ⟨gO, 0, none⟩ (.complex .f32 p1.re p1.im)).setCell ⟨gO, 1, none⟩ (.complex .f32 p2.re p2.im)).setCell ⟨gO, 2, none⟩ (.complex .f32 p3.re p3.im) = W := ⟨_, rfl⟩
      have HI : Aside0 (IsS65 w W gE s1 q1 g1) := ⟨by
        rw [← hW]
        exact ((HI.out.far (p := ⟨gO, 0, none⟩) (by have := HLT.out; show gE ≠ gO; omega) _).far (p := ⟨gO, 1, none⟩) (by have := HLT.out; show gE ≠ gO; omega) _).far (p := ⟨gO, 2, none⟩) (by have := HLT.out; show gE ≠ gO; omega) _⟩
      have HG : Aside0 (GB w W gO p1 p2 p3 (.slice none 0 0) (.slice (some ⟨w.heap.size + 1, 0, none⟩) 0 0) [] []) := ⟨by
        rw [← hW]
        exact HG.out.src p1 p2 p3⟩
      rw [hW]
      clear hW z0 z1 z2 d0 d1 d2
      refine (spec_l10Eyes_word.calls k gE _ _ _ _ _ _ _ _ w W HI.out HG.out.below H2.out).mono ?_
      rintro e wz ⟨rfl, hI, hB, hK⟩
      have HG := Aside0.mk (HG.out.keep HI.out.1 (by decide) (by decide) (by decide) hK hB)
      have HI := Aside0.mk hI
      clear hI hB hK
      clear H1 H2
      go_upto_block 0 with fail
      go_cut [] (fun wc => ∃ v3 : Value, Aside0 (IsS65 w wc gE s3 q3 g3) ∧ Aside0 (GB w wc gO p1 p2 p3 v3 (.slice (some ⟨w.heap.size + 1, 0, none⟩) 0 0) lB []))
      case first =>
        go_wp2_with fail
        go_loopg [7] k (fun kq v7 w' => ∃ (n : Int) (v3 : Value) (l : List S69) (s : ByteArray) (q : Int) (g : Bool), v7 = .int .i64 n ∧ Aside0 (begB kq n l s q g = some (lB, s3, q3, g3)) ∧ Aside0 (kq ≤ k) ∧ Aside0 (IsS65 w w' gE s q g) ∧ Aside0 (GB w w' gO p1 p2 p3 v3 (.slice (some ⟨w.heap.size + 1, 0, none⟩) 0 0) l []))
        case atStart => exact ⟨_, _, _, _, _, _, rfl, H3, ⟨Nat.le_refl _⟩, HI, HG⟩
        case round =>
          clear H3 HI HG H4 H5 HE
          obtain ⟨n, v3, l, s, q, g, rfl, HA, HK1, HI, HG⟩ := hrel
          cases gk with
          | zero => exact absurd HA.out (by simp [begB])
          | succ k1 =>
            have H := HA.out
            clear HA
            simp only [begB] at H
            by_cases c5 : 0 < n
            · rw [if_pos c5] at H
              have c5b : decide (0 < n) = true := decide_eq_true c5
              clear c5
              have eg := cellS65_2 HI.out.1
              by_cases c6 : g = true
              · rw [if_pos c6] at H
                subst c6
                by_cases c7 : l.length < 1000000
                · rw [if_pos c7] at H
                  have HL := Aside0.mk c7
                  clear c7
                  obtain ⟨⟨y1, y2, y3, y4, y5, y6, y7, y8, s', q', g'⟩, B1, H⟩ := Option.bind_eq_some_iff.mp H
                  dsimp only at B1 H
                  have HB1 := Aside0.mk B1
                  have HN := Aside0.mk H
                  clear B1 H
                  have e3 := HG.out.e3
                  go_wp2
                  clear eg
                  go_region_law (first | (go_simp; go_at_call 35; (with_reducible refine (spec_l10Eyes_bus.calls k1 gE _ _ _ _ _ _ _ _ _ _ _ _ _ _ w _ HI.out.drew HG.out.drew.below HB1.out).mono ?_); rintro e wz ⟨rfl, hI, hB, hK⟩; have HG := Aside0.mk (HG.out.drew.keep HI.out.drew.1 (by decide) (by decide) (by decide) hK hB); have HI := Aside0.mk hI; have e3 := HG.out.e3; have ltO := blk_lt HG.out.out; clear hI hB hK) | ((refine Kd.R_append_step k69 (w0 := w) w.heap.size rfl (.tmp 41) (.tmp 44) 25 69 (.agg #[.int .i64 0, .complex .f32 0 0, .complex .f32 0 0, .int .i64 0, .complex .f32 0 0, .complex .f32 0 0, .complex .f32 0 0, .int .i64 0]) 64 rfl Try.underlying25 info69 rfl pos69 (by decide) v3 l ⟨y1, y2, y3, y4, ⟨y5, y6, y7⟩, y8⟩ [.int .i64 y1, .complex .f32 y2.re y2.im, .complex .f32 y3.re y3.im, .int .i64 y4, .complex .f32 y5.re y5.im, .complex .f32 y6.re y6.im, .complex .f32 y7.re y7.im, .int .i64 y8] (fun _ => True) (fun _ => False) rfl rfl ?aP (fun _ hk => hk.elim) ?aF ?aO ?aB ?aS ?aL ?_); (case aP => exact (k69_mkM _ _ _ ⟨y1, y2, y3, y4, ⟨y5, y6, y7⟩, y8⟩)); (case aF => exact (fun _ _ => trivial)); (case aO => exact HG.out.row4); (case aB => exact HG.out.below); (case aS => exact HG.out.below.size); (case aL => have := HL.out; omega); intro v1 w1 hR hBn hgn hat; obtain ⟨A1, k1c, rfl⟩ : ∃ A c, v1 = .slice A (l.length + 1) c := (by obtain ⟨A, c, h⟩ := Kd.R_slice hR; exact ⟨A, c, by rw [h, List.length_append]; rfl⟩); have e3 := blk_cell (blk_grown HG.out.out hgn (HG.out.ne4 HG.out.out (by decide))) 3; have e3f := blk_frozen (blk_grown HG.out.out hgn (HG.out.ne4 HG.out.out (by decide))) 3; have HI := Aside0.mk ((HI.out).grown hgn (HG.out.ne4 HI.out.1 (by decide))); have HG := Aside0.mk (HG.out.grow4 hR hBn hgn)))
                  all_goals
                    have HI := Aside0.mk (HI.out.far (p := ⟨gO, 3, none⟩) (by have := HLT.out; show gE ≠ gO; omega) (.slice A1 (l.length + 1) k1c))
                    clear e3 e3f hR hBn hgn hat
                    go_wp2
                    go_roundg k1
                    case measure => have := HK1.out; omega
                    case rel => exact ⟨wrap64 (n - 1), _, _, _, _, _, (by first | rfl | (simp; done) | (simp [*]; done)), HN, ⟨by have := HK1.out; omega⟩, HI, HG⟩
                · rw [if_neg c7] at H
                  exact absurd H (by simp)
              · rw [if_neg c6] at H
                obtain rfl := Bool.eq_false_iff.mpr c6
                clear c6
                simp only [Option.some.injEq, Prod.mk.injEq] at H
                obtain ⟨rfl, rfl, rfl, rfl⟩ := H
                go_wp2_with fail
                go_meet
                case rel => exact ⟨_, HI, HG⟩
            · rw [if_neg c5] at H
              have c5b : decide (0 < n) = false := decide_eq_false c5
              clear c5
              simp only [Option.some.injEq, Prod.mk.injEq] at H
              obtain ⟨rfl, rfl, rfl, rfl⟩ := H
              go_wp2_with fail
              go_meet
              case rel => exact ⟨_, HI, HG⟩
      case rest =>
        clear HI HG H3
        obtain ⟨v3, HI, HG⟩ := hcut
        go_wp2_with fail
        refine (spec_l10Eyes_word.calls k gE _ _ _ _ _ _ _ _ w wc HI.out HG.out.below H4.out).mono ?_
        rintro e wz ⟨rfl, hI, hB, hK⟩
        have HG := Aside0.mk (HG.out.keep HI.out.1 (by decide) (by decide) (by decide) hK hB)
        have HI := Aside0.mk hI
        clear hI hB hK H4
        go_upto_block 2 with fail
        go_cut [] (fun wc => ∃ v4 : Value, Aside0 (IsS65 w wc gE s5 q5 g5) ∧ Aside0 (GB w wc gO p1 p2 p3 v3 v4 lB lT))
        case first =>
          go_wp2_with fail
          go_loopg [8] k (fun kq v8 w' => ∃ (n : Int) (v4 : Value) (t : List S72) (s : ByteArray) (q : Int) (g : Bool), v8 = .int .i64 n ∧ Aside0 (begT kq n t s q g = some (lT, s5, q5, g5)) ∧ Aside0 (kq ≤ k) ∧ Aside0 (IsS65 w w' gE s q g) ∧ Aside0 (GB w w' gO p1 p2 p3 v3 v4 lB t))
          case atStart => exact ⟨_, _, _, _, _, _, rfl, H5, ⟨Nat.le_refl _⟩, HI, HG⟩
          case round =>
            clear H5 HI HG HE
            obtain ⟨n, v4, t, s, q, g, rfl, HA, HK1, HI, HG⟩ := hrel
            cases gk with
            | zero => exact absurd HA.out (by simp [begT])
            | succ k1 =>
              have H := HA.out
              clear HA
              simp only [begT] at H
              by_cases c5 : 0 < n
              · rw [if_pos c5] at H
                have c5b : decide (0 < n) = true := decide_eq_true c5
                clear c5
                have eg := cellS65_2 HI.out.1
                by_cases c6 : g = true
                · rw [if_pos c6] at H
                  subst c6
                  by_cases c7 : t.length < 1000000
                  · rw [if_pos c7] at H
                    have HL := Aside0.mk c7
                    clear c7
                    obtain ⟨⟨y1, y2, y3, y4, y5, s', q', g'⟩, B1, H⟩ := Option.bind_eq_some_iff.mp H
                    dsimp only at B1 H
                    have HB1 := Aside0.mk B1
                    have HN := Aside0.mk H
                    clear B1 H
                    have e4 := HG.out.e4
                    go_wp2
                    clear eg
                    go_region_law (first | (go_simp; go_at_call 36; (with_reducible refine (spec_l10Eyes_tie.calls k1 gE _ _ _ _ _ _ _ _ _ _ _ w _ HI.out.drew HG.out.drew.below HB1.out).mono ?_); rintro e wz ⟨rfl, hI, hB, hK⟩; have HG := Aside0.mk (HG.out.drew.keep HI.out.drew.1 (by decide) (by decide) (by decide) hK hB); have HI := Aside0.mk hI; have e4 := HG.out.e4; have ltO := blk_lt HG.out.out; clear hI hB hK) | ((refine Kd.R_append_step k72 (w0 := w) w.heap.size rfl (.tmp 61) (.tmp 64) 28 72 (.agg #[.int .i64 0, .int .i64 0, .complex .f32 0 0, .complex .f32 0 0, .int .i64 0]) 40 rfl Try.underlying28 info72 rfl pos72 (by decide) v4 t ⟨y1, y2, y3, y4, y5⟩ [.int .i64 y1, .int .i64 y2, .complex .f32 y3.re y3.im, .complex .f32 y4.re y4.im, .int .i64 y5] (fun _ => True) (fun _ => False) rfl rfl ?aP (fun _ hk => hk.elim) ?aF ?aO ?aB ?aS ?aL ?_); (case aP => exact (k72_mkM _ _ _ ⟨y1, y2, y3, y4, y5⟩)); (case aF => exact (fun _ _ => trivial)); (case aO => exact HG.out.row5); (case aB => exact HG.out.below); (case aS => exact HG.out.below.size); (case aL => have := HL.out; omega); intro v1 w1 hR hBn hgn hat; obtain ⟨A1, k1c, rfl⟩ : ∃ A c, v1 = .slice A (t.length + 1) c := (by obtain ⟨A, c, h⟩ := Kd.R_slice hR; exact ⟨A, c, by rw [h, List.length_append]; rfl⟩); have e4 := blk_cell (blk_grown HG.out.out hgn (HG.out.ne5 HG.out.out (by decide))) 4; have e4f := blk_frozen (blk_grown HG.out.out hgn (HG.out.ne5 HG.out.out (by decide))) 4; have HI := Aside0.mk ((HI.out).grown hgn (HG.out.ne5 HI.out.1 (by decide))); have HG := Aside0.mk (HG.out.grow5 hR hBn hgn)))
                    all_goals
                      have HI := Aside0.mk (HI.out.far (p := ⟨gO, 4, none⟩) (by have := HLT.out; show gE ≠ gO; omega) (.slice A1 (t.length + 1) k1c))
                      clear e4 e4f hR hBn hgn hat
                      go_wp2
                      go_roundg k1
                      case measure => have := HK1.out; omega
                      case rel => exact ⟨wrap64 (n - 1), _, _, _, _, _, (by first | rfl | (simp; done) | (simp [*]; done)), HN, ⟨by have := HK1.out; omega⟩, HI, HG⟩
                  · rw [if_neg c7] at H
                    exact absurd H (by simp)
                · rw [if_neg c6] at H
                  obtain rfl := Bool.eq_false_iff.mpr c6
                  clear c6
                  simp only [Option.some.injEq, Prod.mk.injEq] at H
                  obtain ⟨rfl, rfl, rfl, rfl⟩ := H
                  go_wp2_with fail
                  go_meet
                  case rel => exact ⟨_, HI, HG⟩
              · rw [if_neg c5] at H
                have c5b : decide (0 < n) = false := decide_eq_false c5
                clear c5
                simp only [Option.some.injEq, Prod.mk.injEq] at H
                obtain ⟨rfl, rfl, rfl, rfl⟩ := H
                go_wp2_with fail
                go_meet
                case rel => exact ⟨_, HI, HG⟩
        case rest =>
          clear HI HG H5
          obtain ⟨v4, HI, HG⟩ := hcut
          obtain ⟨A4, k4, hv3, le4, C4⟩ := Kd.R_reads HG.out.row4
          obtain ⟨A5, k5, hv4, le5, C5⟩ := Kd.R_reads HG.out.row5
          subst hv3
          subst hv4
          have HC4 := Aside0.mk C4
          have HC5 := Aside0.mk C5
          clear C4 C5 le4 le5
          go_upto_region 14 with (fail)
          have HG0 := Aside0.mk HG.out
          have HI0 := Aside0.mk HI.out
          have HX : Aside0 (Below wc.heap.size wc wc.drew) := ⟨below_drew1 (Below.refl _ _)⟩
          replace HG := Aside0.mk HG.out.drew
          replace HI := Aside0.mk HI.out.drew
          have hne1 : gO ≠ w.heap.size := Ne.symm (Nat.ne_of_lt HG.out.lt)
          have hne2 : gE ≠ w.heap.size := by have := HG.out.lt; have := HLT.out; omega
          obtain ⟨d0, d1, d2, d3, d4⟩ := HG.out.o5
          obtain ⟨x0, x1, x2, x3, x4⟩ := HG.out.r0
          obtain ⟨z0, z1, z2, z3, z4⟩ := HG.out.rz
          have s1 := cellS65_1 HI.out.1
          have s2 := cellS65_2 HI.out.1
          have H := HE.out
          clear HE
          unfold begEnd at H
          by_cases cL : lB.length ≤ 1000000 ∧ lT.length ≤ 1000000
          · rw [if_pos cL] at H
            have HL := Aside0.mk cL
            clear cL
            cases g5 with
            | false =>
              rw [if_neg (by simp)] at H
              simp only [Option.some.injEq, Prod.mk.injEq] at H
              obtain ⟨rfl, rfl, rfl, rfl, rfl, rfl, rfl⟩ := H
              refine wp_region_held_drew (S := (fun w' => w'.cell? ⟨gO, 0, none⟩ = some (.complex .f32 p1.re p1.im) ∧ w'.cell? ⟨gO, 1, none⟩ = some (.complex .f32 p2.re p2.im) ∧ w'.cell? ⟨gO, 2, none⟩ = some (.complex .f32 p3.re p3.im) ∧ w'.cell? ⟨gO, 3, none⟩ = some (.slice A4 lB.length k4) ∧ w'.cell? ⟨gO, 4, none⟩ = some (.slice A5 lT.length k5) ∧ w'.cell? ⟨gE, 1, none⟩ = some (.int .i64 q5) ∧ w'.cell? ⟨gE, 2, none⟩ = some (.bool false))) (by kernel_rfl) (by with_reducible exact ⟨d0, d1, d2, d3, d4, s1, s2⟩) (fun hHeld => ?_)
              generalize wc.drew = wd at *
              refine wpAnyH_take (i := 0) (v := ?_) rfl (by kernel_rfl) (by kernel_rfl) (by kernel_rfl) (fun _ _ _ h => h) (Or.inl ⟨by rfl, ?_⟩) (by assumption) ?_
              rotate_left
              · (intro wS hSw; (try dsimp only at hSw); go_simp; try (with_reducible rfl))
              try simp only [List.getElem_toArray, List.getElem_cons_succ, List.getElem_cons_zero, Act.put, List.setIfInBounds_toArray, List.set_cons_zero, List.set_cons_succ]
              refine wpAnyH_take (i := 1) (v := ?_) rfl (by kernel_rfl) (by kernel_rfl) (by kernel_rfl) (fun _ _ _ h => h) (Or.inl ⟨by rfl, ?_⟩) (by assumption) ?_
              rotate_left
              · (intro wS hSw; (try dsimp only at hSw); go_simp; try (with_reducible rfl))
              try simp only [List.getElem_toArray, List.getElem_cons_succ, List.getElem_cons_zero, Act.put, List.setIfInBounds_toArray, List.set_cons_zero, List.set_cons_succ]
              refine wpAnyH_take (i := 2) (v := ?_) rfl (by kernel_rfl) (by kernel_rfl) (by kernel_rfl) (fun _ _ _ h => h) (Or.inl ⟨by rfl, ?_⟩) (by assumption) ?_
              rotate_left
              · (intro wS hSw; (try dsimp only at hSw); go_simp; try (with_reducible rfl))
              try simp only [List.getElem_toArray, List.getElem_cons_succ, List.getElem_cons_zero, Act.put, List.setIfInBounds_toArray, List.set_cons_zero, List.set_cons_succ]
              refine wpAnyH_take (i := 3) (v := ?_) rfl (by kernel_rfl) (by kernel_rfl) (by kernel_rfl) (fun _ _ _ h => h) (Or.inl ⟨by rfl, ?_⟩) (by assumption) ?_
              rotate_left
              · (intro wS hSw; (try dsimp only at hSw); go_simp; try (with_reducible rfl))
              try simp only [List.getElem_toArray, List.getElem_cons_succ, List.getElem_cons_zero, Act.put, List.setIfInBounds_toArray, List.set_cons_zero, List.set_cons_succ]
              refine wpAnyH_take (i := 4) (v := ?_) rfl (by kernel_rfl) (by kernel_rfl) (by kernel_rfl) (fun _ _ _ h => h) (Or.inl ⟨by rfl, ?_⟩) (by assumption) ?_
              rotate_left
              · (intro wS hSw; (try dsimp only at hSw); go_simp; try (with_reducible rfl))
              try simp only [List.getElem_toArray, List.getElem_cons_succ, List.getElem_cons_zero, Act.put, List.setIfInBounds_toArray, List.set_cons_zero, List.set_cons_succ]
              refine wpAnyH_take (i := 5) (v := ?_) rfl (by kernel_rfl) (by kernel_rfl) (by kernel_rfl) (fun _ _ _ h => h) (Or.inl ⟨by rfl, ?_⟩) (by assumption) ?_
              rotate_left
              · (intro wS hSw; (try dsimp only at hSw); go_simp; try (with_reducible rfl))
              try simp only [List.getElem_toArray, List.getElem_cons_succ, List.getElem_cons_zero, Act.put, List.setIfInBounds_toArray, List.set_cons_zero, List.set_cons_succ]
              refine wpAnyH_take (i := 6) (v := ?_) rfl (by kernel_rfl) (by kernel_rfl) (by kernel_rfl) (fun _ _ _ h => h) (Or.inl ⟨by rfl, ?_⟩) (by assumption) ?_
              rotate_left
              · (intro wS hSw; (try dsimp only at hSw); go_simp; try (with_reducible rfl))
              try simp only [List.getElem_toArray, List.getElem_cons_succ, List.getElem_cons_zero, Act.put, List.setIfInBounds_toArray, List.set_cons_zero, List.set_cons_succ]
              refine wpAnyH_take (i := 7) (v := ?_) rfl (by kernel_rfl) (by kernel_rfl) (by kernel_rfl) (fun _ _ _ h => h) (Or.inl ⟨by rfl, ?_⟩) (by assumption) ?_
              rotate_left
              · (intro wS hSw; (try dsimp only at hSw); go_simp; try (with_reducible rfl))
              try simp only [List.getElem_toArray, List.getElem_cons_succ, List.getElem_cons_zero, Act.put, List.setIfInBounds_toArray, List.set_cons_zero, List.set_cons_succ]
              refine wpAnyH_take (i := 8) (v := ?_) rfl (by kernel_rfl) (by kernel_rfl) (by kernel_rfl) (fun _ _ _ h => h) (Or.inl ⟨by rfl, ?_⟩) (by assumption) ?_
              rotate_left
              · (intro wS hSw; (try dsimp only at hSw); go_simp; try (with_reducible rfl))
              try simp only [List.getElem_toArray, List.getElem_cons_succ, List.getElem_cons_zero, Act.put, List.setIfInBounds_toArray, List.set_cons_zero, List.set_cons_succ]
              refine wpAnyH_take (i := 9) (v := ?_) rfl (by kernel_rfl) (by kernel_rfl) (by kernel_rfl) (fun _ _ _ h => h) (Or.inl ⟨by rfl, ?_⟩) (by assumption) ?_
              rotate_left
              · (intro wS hSw; (try dsimp only at hSw); go_simp; try (with_reducible rfl))
              try simp only [List.getElem_toArray, List.getElem_cons_succ, List.getElem_cons_zero, Act.put, List.setIfInBounds_toArray, List.set_cons_zero, List.set_cons_succ]
              refine wpAnyH_take (i := 10) (v := undef) rfl (by kernel_rfl) (by kernel_rfl) (by kernel_rfl) (fun _ _ _ h => h) (Or.inr ⟨by kernel_rfl, rfl⟩) (by assumption) ?_
              try simp only [List.getElem_toArray, List.getElem_cons_succ, List.getElem_cons_zero, Act.put, List.setIfInBounds_toArray, List.set_cons_zero, List.set_cons_succ]
              refine wpAnyH_take (i := 11) (v := ?_) rfl (by kernel_rfl) (by kernel_rfl) (by kernel_rfl) (fun _ _ _ h => h) (Or.inl ⟨by rfl, ?_⟩) (by assumption) ?_
              rotate_left
              · (intro wS hSw; (try dsimp only at hSw); go_simp; try (with_reducible rfl))
              try simp only [List.getElem_toArray, List.getElem_cons_succ, List.getElem_cons_zero, Act.put, List.setIfInBounds_toArray, List.set_cons_zero, List.set_cons_succ]
              refine wpAnyH_take (i := 12) (v := ?_) rfl (by kernel_rfl) (by kernel_rfl) (by kernel_rfl) (fun _ _ _ h => h) (Or.inl ⟨by rfl, ?_⟩) (by assumption) ?_
              rotate_left
              · (intro wS hSw; (try dsimp only at hSw); go_simp; try (with_reducible rfl))
              try simp only [List.getElem_toArray, List.getElem_cons_succ, List.getElem_cons_zero, Act.put, List.setIfInBounds_toArray, List.set_cons_zero, List.set_cons_succ]
              refine wpAnyH_take (i := 13) (v := undef) rfl (by kernel_rfl) (by kernel_rfl) (by kernel_rfl) (fun _ _ _ h => h) (Or.inr ⟨by kernel_rfl, rfl⟩) (by assumption) ?_
              try simp only [List.getElem_toArray, List.getElem_cons_succ, List.getElem_cons_zero, Act.put, List.setIfInBounds_toArray, List.set_cons_zero, List.set_cons_succ]
              refine wpAnyH_take (i := 14) (v := undef) rfl (by kernel_rfl) (by kernel_rfl) (by kernel_rfl) (fun _ _ _ h => h) (Or.inr ⟨by kernel_rfl, rfl⟩) (by assumption) ?_
              try simp only [List.getElem_toArray, List.getElem_cons_succ, List.getElem_cons_zero, Act.put, List.setIfInBounds_toArray, List.set_cons_zero, List.set_cons_succ]
              refine wpAnyH_take (i := 15) (v := undef) rfl (by kernel_rfl) (by kernel_rfl) (by kernel_rfl) (fun _ _ _ h => h) (Or.inr ⟨by kernel_rfl, rfl⟩) (by assumption) ?_
              try simp only [List.getElem_toArray, List.getElem_cons_succ, List.getElem_cons_zero, Act.put, List.setIfInBounds_toArray, List.set_cons_zero, List.set_cons_succ]
              refine wpAnyH_take (i := 16) (v := undef) rfl (by kernel_rfl) (by kernel_rfl) (by kernel_rfl) (fun _ _ _ h => h) (Or.inr ⟨by kernel_rfl, rfl⟩) (by assumption) ?_
              try simp only [List.getElem_toArray, List.getElem_cons_succ, List.getElem_cons_zero, Act.put, List.setIfInBounds_toArray, List.set_cons_zero, List.set_cons_succ]
              refine wpAnyH_take (i := 17) (v := undef) rfl (by kernel_rfl) (by kernel_rfl) (by kernel_rfl) (fun _ _ _ h => h) (Or.inr ⟨by kernel_rfl, rfl⟩) (by assumption) ?_
              try simp only [List.getElem_toArray, List.getElem_cons_succ, List.getElem_cons_zero, Act.put, List.setIfInBounds_toArray, List.set_cons_zero, List.set_cons_succ]
              refine wpAnyH_take (i := 18) (v := undef) rfl (by kernel_rfl) (by kernel_rfl) (by kernel_rfl) (fun _ _ _ h => h) (Or.inr ⟨by kernel_rfl, rfl⟩) (by assumption) ?_
              try simp only [List.getElem_toArray, List.getElem_cons_succ, List.getElem_cons_zero, Act.put, List.setIfInBounds_toArray, List.set_cons_zero, List.set_cons_succ]
              refine wpAnyH_take (i := 19) (v := undef) rfl (by kernel_rfl) (by kernel_rfl) (by kernel_rfl) (fun _ _ _ h => h) (Or.inr ⟨by kernel_rfl, rfl⟩) (by assumption) ?_
              try simp only [List.getElem_toArray, List.getElem_cons_succ, List.getElem_cons_zero, Act.put, List.setIfInBounds_toArray, List.set_cons_zero, List.set_cons_succ]
              refine wpAnyH_take (i := 20) (v := undef) rfl (by kernel_rfl) (by kernel_rfl) (by kernel_rfl) (fun _ _ _ h => h) (Or.inr ⟨by kernel_rfl, rfl⟩) (by assumption) ?_
              try simp only [List.getElem_toArray, List.getElem_cons_succ, List.getElem_cons_zero, Act.put, List.setIfInBounds_toArray, List.set_cons_zero, List.set_cons_succ]
              refine wpAnyH_take (i := 21) (v := ?_) rfl (by kernel_rfl) (by kernel_rfl) (by kernel_rfl) (fun _ _ _ h => h) (Or.inl ⟨by rfl, ?_⟩) (by assumption) ?_
              rotate_left
              · (intro wS hSw; (try dsimp only at hSw); go_simp; try (with_reducible rfl))
              try simp only [List.getElem_toArray, List.getElem_cons_succ, List.getElem_cons_zero, Act.put, List.setIfInBounds_toArray, List.set_cons_zero, List.set_cons_succ]
              refine wpAnyH_ready (rs := [22]) (by kernel_rfl) (by simp) ?_
              refine AllReadyH.cons rfl (fun K hK => ?_) AllReadyH.nil
              go_simp
              refine hK.out _ _ ?_ (fun hHeld2 => ?_)
              · (first | (with_reducible exact ⟨d0, d1, d2, d3, d4, s1, s2⟩) | exact ⟨(far5 hne1 _ _ _ _ _).trans d0, (far5 hne1 _ _ _ _ _).trans d1, (far5 hne1 _ _ _ _ _).trans d2, (far5 hne1 _ _ _ _ _).trans d3, (far5 hne1 _ _ _ _ _).trans d4, (far5 hne2 _ _ _ _ _).trans s1, (far5 hne2 _ _ _ _ _).trans s2⟩)
              clear hK K
              try simp only [List.getElem_toArray, List.getElem_cons_succ, List.getElem_cons_zero, Act.put, List.setIfInBounds_toArray, List.set_cons_zero, List.set_cons_succ]
              rename_i hHeld
              refine wpAnyH_take (i := 23) (v := ?_) rfl (by kernel_rfl) (by kernel_rfl) (by kernel_rfl) (fun _ _ _ h => h) (Or.inl ⟨by rfl, ?_⟩) (by assumption) ?_
              rotate_left
              · (intro wS hSw; (try dsimp only at hSw); go_simp; try (with_reducible rfl))
              try simp only [List.getElem_toArray, List.getElem_cons_succ, List.getElem_cons_zero, Act.put, List.setIfInBounds_toArray, List.set_cons_zero, List.set_cons_succ]
              refine wpAnyH_take (i := 24) (v := ?_) rfl (by kernel_rfl) (by kernel_rfl) (by kernel_rfl) (fun _ _ _ h => h) (Or.inl ⟨by rfl, ?_⟩) (by assumption) ?_
              rotate_left
              · (intro wS hSw; (try dsimp only at hSw); go_simp; try (with_reducible rfl))
              try simp only [List.getElem_toArray, List.getElem_cons_succ, List.getElem_cons_zero, Act.put, List.setIfInBounds_toArray, List.set_cons_zero, List.set_cons_succ]
              refine wpAnyH_done (by kernel_rfl) ?_ _
              go_wp2
              refine bodyPost_ret (results_ctt rfl _ _ w.heap.size 30 #[.complex .f32 p1.re p1.im, .complex .f32 p2.re p2.im, .complex .f32 p3.re p3.im, .slice A4 lB.length k4, .slice A5 lT.length k5] (0, 0) _ rfl (HG.out.five _ _ _ _ _ rfl).1 Try.underlying30 rfl (by kernel_rfl)) rfl ?_
              exact ⟨.slice A4 lB.length k4, .slice A5 lT.length k5, by first | rfl | (rw [beq_toListBytes]; rfl), (HG.out.five _ _ _ _ _ rfl).2.1, (HG.out.five _ _ _ _ _ rfl).2.2.1, (HG.out.five _ _ _ _ _ rfl).2.2.2⟩
            | true =>
              rw [if_pos rfl] at H
              by_cases cg : gridB lB lT = true
              · rw [if_pos cg] at H
                have CG := Aside0.mk cg
                clear cg
                by_cases cq : 0 ≤ q5 ∧ q5 ≤ (a0.size : Int)
                · rw [if_pos cq] at H
                  obtain ⟨q0, q1⟩ := cq
                  have q0b : decide (0 ≤ q5) = true := decide_eq_true q0
                  have q1b : decide (q5 ≤ (a0.size : Int)) = true := decide_eq_true q1
                  simp only [Option.some.injEq, Prod.mk.injEq] at H
                  obtain ⟨rfl, rfl, rfl, rfl, rfl, rfl, rfl⟩ := H
                  first
                  | (go_region_held3 (fun w' => w'.cell? ⟨gO, 0, none⟩ = some (.complex .f32 p1.re p1.im) ∧ w'.cell? ⟨gO, 1, none⟩ = some (.complex .f32 p2.re p2.im) ∧ w'.cell? ⟨gO, 2, none⟩ = some (.complex .f32 p3.re p3.im) ∧ w'.cell? ⟨gO, 3, none⟩ = some (.slice A4 lB.length k4) ∧ w'.cell? ⟨gO, 4, none⟩ = some (.slice A5 lT.length k5) ∧ w'.cell? ⟨gE, 1, none⟩ = some (.int .i64 q5) ∧ w'.cell? ⟨gE, 2, none⟩ = some (.bool true))
                        (first | (with_reducible exact ⟨d0, d1, d2, d3, d4, s1, s2⟩) | exact ⟨(far5 hne1 _ _ _ _ _).trans d0, (far5 hne1 _ _ _ _ _).trans d1, (far5 hne1 _ _ _ _ _).trans d2, (far5 hne1 _ _ _ _ _).trans d3, (far5 hne1 _ _ _ _ _).trans d4, (far5 hne2 _ _ _ _ _).trans s1, (far5 hne2 _ _ _ _ _).trans s2⟩)
                        (first | (go_at_call 37; (with_reducible refine (l08Is_any gO A4 k4 lB A5 k5 lT _ d3 d4 (Kd.C_below HC4.out HX.out) (Kd.C_below HC5.out HX.out) HL.out.1 HL.out.2).mono ?_); rintro e wz ⟨rfl, hdr⟩; have hbz := below_of_drawn0 hdr; clear hdr; have HX := Aside0.mk (below_then HX.out HX.out.size hbz); have HG := Aside0.mk (HG.out.step hbz); have HI := Aside0.mk (HI.out.below hbz); clear hbz; rw [CG.out]; clear d0 d1 d2 d3 d4 x0 x1 x2 x3 x4 z0 z1 z2 z3 z4 s1 s2; obtain ⟨d0, d1, d2, d3, d4⟩ := HG.out.o5; obtain ⟨x0, x1, x2, x3, x4⟩ := HG.out.r0; obtain ⟨z0, z1, z2, z3, z4⟩ := HG.out.rz; have s1 := cellS65_1 HI.out.1; have s2 := cellS65_2 HI.out.1) | (go_at_call 38; (with_reducible refine (l10Head_any gO p1 p2 p3 A4 k4 lB A5 k5 lT _ HG.out.grid (Kd.C_below HC4.out HX.out) (Kd.C_below HC5.out HX.out) (by have := (gridB_bounds CG.out).1; omega) (by have := (gridB_bounds CG.out).2.1; omega) (gridB_bounds CG.out).2.2.1 (gridB_bounds CG.out).2.2.2).mono ?_); rintro e wz ⟨rfl, hbz⟩; have HX := Aside0.mk (below_then HX.out HX.out.size hbz); have HG := Aside0.mk (HG.out.step hbz); have HI := Aside0.mk (HI.out.below hbz); clear hbz; clear d0 d1 d2 d3 d4 x0 x1 x2 x3 x4 z0 z1 z2 z3 z4 s1 s2; obtain ⟨d0, d1, d2, d3, d4⟩ := HG.out.o5; obtain ⟨x0, x1, x2, x3, x4⟩ := HG.out.r0; obtain ⟨z0, z1, z2, z3, z4⟩ := HG.out.rz; have s1 := cellS65_1 HI.out.1; have s2 := cellS65_2 HI.out.1)))
                  | fail
                  all_goals
                    go_wp2
                    refine bodyPost_ret (results_ctt rfl _ _ w.heap.size 30 #[.complex .f32 p1.re p1.im, .complex .f32 p2.re p2.im, .complex .f32 p3.re p3.im, .slice A4 lB.length k4, .slice A5 lT.length k5] (0, 0) _ rfl (HG.out.five _ _ _ _ _ rfl).1 Try.underlying30 rfl (by kernel_rfl)) rfl ?_
                    exact ⟨.slice A4 lB.length k4, .slice A5 lT.length k5, by first | rfl | (rw [beq_toListBytes]; rfl), (HG.out.five _ _ _ _ _ rfl).2.1, (HG.out.five _ _ _ _ _ rfl).2.2.1, (HG.out.five _ _ _ _ _ rfl).2.2.2⟩
                · rw [if_neg cq] at H
                  exact absurd H (by simp)
              · rw [if_neg cg] at H
                have CG : Aside0 (gridB lB lT = false) := ⟨by simpa using cg⟩
                clear cg
                simp only [Option.some.injEq, Prod.mk.injEq] at H
                obtain ⟨rfl, rfl, rfl, rfl, rfl, rfl, rfl⟩ := H
                refine wp_region_held_drew (S := (fun w' => w'.cell? ⟨gO, 0, none⟩ = some (.complex .f32 p1.re p1.im) ∧ w'.cell? ⟨gO, 1, none⟩ = some (.complex .f32 p2.re p2.im) ∧ w'.cell? ⟨gO, 2, none⟩ = some (.complex .f32 p3.re p3.im) ∧ w'.cell? ⟨gO, 3, none⟩ = some (.slice A4 lB.length k4) ∧ w'.cell? ⟨gO, 4, none⟩ = some (.slice A5 lT.length k5) ∧ w'.cell? ⟨gE, 1, none⟩ = some (.int .i64 q5) ∧ w'.cell? ⟨gE, 2, none⟩ = some (.bool true))) (by kernel_rfl) (by with_reducible exact ⟨d0, d1, d2, d3, d4, s1, s2⟩) (fun hHeld => ?_)
                refine wpAnyH_take (i := 0) (v := ?_) rfl (by kernel_rfl) (by kernel_rfl) (by kernel_rfl) (fun _ _ _ h => h) (Or.inl ⟨by rfl, ?_⟩) (by assumption) ?_
                rotate_left
                · (intro wS hSw; (try dsimp only at hSw); go_simp; try (with_reducible rfl))
                try simp only [List.getElem_toArray, List.getElem_cons_succ, List.getElem_cons_zero, Act.put, List.setIfInBounds_toArray, List.set_cons_zero, List.set_cons_succ]
                refine wpAnyH_take (i := 1) (v := ?_) rfl (by kernel_rfl) (by kernel_rfl) (by kernel_rfl) (fun _ _ _ h => h) (Or.inl ⟨by rfl, ?_⟩) (by assumption) ?_
                rotate_left
                · (intro wS hSw; (try dsimp only at hSw); go_simp; try (with_reducible rfl))
                try simp only [List.getElem_toArray, List.getElem_cons_succ, List.getElem_cons_zero, Act.put, List.setIfInBounds_toArray, List.set_cons_zero, List.set_cons_succ]
                refine wpAnyH_take (i := 2) (v := ?_) rfl (by kernel_rfl) (by kernel_rfl) (by kernel_rfl) (fun _ _ _ h => h) (Or.inl ⟨by rfl, ?_⟩) (by assumption) ?_
                rotate_left
                · (intro wS hSw; (try dsimp only at hSw); go_simp; try (with_reducible rfl))
                try simp only [List.getElem_toArray, List.getElem_cons_succ, List.getElem_cons_zero, Act.put, List.setIfInBounds_toArray, List.set_cons_zero, List.set_cons_succ]
                refine wpAnyH_take (i := 3) (v := ?_) rfl (by kernel_rfl) (by kernel_rfl) (by kernel_rfl) (fun _ _ _ h => h) (Or.inl ⟨by rfl, ?_⟩) (by assumption) ?_
                rotate_left
                · (intro wS hSw; (try dsimp only at hSw); go_simp; try (with_reducible rfl))
                try simp only [List.getElem_toArray, List.getElem_cons_succ, List.getElem_cons_zero, Act.put, List.setIfInBounds_toArray, List.set_cons_zero, List.set_cons_succ]
                refine wpAnyH_take (i := 4) (v := ?_) rfl (by kernel_rfl) (by kernel_rfl) (by kernel_rfl) (fun _ _ _ h => h) (Or.inl ⟨by rfl, ?_⟩) (by assumption) ?_
                rotate_left
                · (intro wS hSw; (try dsimp only at hSw); go_simp; try (with_reducible rfl))
                try simp only [List.getElem_toArray, List.getElem_cons_succ, List.getElem_cons_zero, Act.put, List.setIfInBounds_toArray, List.set_cons_zero, List.set_cons_succ]
                refine wpAnyH_take (i := 5) (v := ?_) rfl (by kernel_rfl) (by kernel_rfl) (by kernel_rfl) (fun _ _ _ h => h) (Or.inl ⟨by rfl, ?_⟩) (by assumption) ?_
                rotate_left
                · (intro wS hSw; (try dsimp only at hSw); go_simp; try (with_reducible rfl))
                try simp only [List.getElem_toArray, List.getElem_cons_succ, List.getElem_cons_zero, Act.put, List.setIfInBounds_toArray, List.set_cons_zero, List.set_cons_succ]
                refine wpAnyH_take (i := 6) (v := ?_) rfl (by kernel_rfl) (by kernel_rfl) (by kernel_rfl) (fun _ _ _ h => h) (Or.inl ⟨by rfl, ?_⟩) (by assumption) ?_
                rotate_left
                · (intro wS hSw; (try dsimp only at hSw); go_simp; try (with_reducible rfl))
                try simp only [List.getElem_toArray, List.getElem_cons_succ, List.getElem_cons_zero, Act.put, List.setIfInBounds_toArray, List.set_cons_zero, List.set_cons_succ]
                refine wpAnyH_take (i := 7) (v := ?_) rfl (by kernel_rfl) (by kernel_rfl) (by kernel_rfl) (fun _ _ _ h => h) (Or.inl ⟨by rfl, ?_⟩) (by assumption) ?_
                rotate_left
                · (intro wS hSw; (try dsimp only at hSw); go_simp; try (with_reducible rfl))
                try simp only [List.getElem_toArray, List.getElem_cons_succ, List.getElem_cons_zero, Act.put, List.setIfInBounds_toArray, List.set_cons_zero, List.set_cons_succ]
                refine wpAnyH_take (i := 8) (v := ?_) rfl (by kernel_rfl) (by kernel_rfl) (by kernel_rfl) (fun _ _ _ h => h) (Or.inl ⟨by rfl, ?_⟩) (by assumption) ?_
                rotate_left
                · (intro wS hSw; (try dsimp only at hSw); go_simp; try (with_reducible rfl))
                try simp only [List.getElem_toArray, List.getElem_cons_succ, List.getElem_cons_zero, Act.put, List.setIfInBounds_toArray, List.set_cons_zero, List.set_cons_succ]
                refine wpAnyH_take (i := 9) (v := ?_) rfl (by kernel_rfl) (by kernel_rfl) (by kernel_rfl) (fun _ _ _ h => h) (Or.inl ⟨by rfl, ?_⟩) (by assumption) ?_
                rotate_left
                · (intro wS hSw; (try dsimp only at hSw); go_simp; try (with_reducible rfl))
                try simp only [List.getElem_toArray, List.getElem_cons_succ, List.getElem_cons_zero, Act.put, List.setIfInBounds_toArray, List.set_cons_zero, List.set_cons_succ]
                refine wpAnyH_ready (rs := [10]) (by kernel_rfl) (by simp) ?_
                refine AllReadyH.cons rfl (fun K hK => ?_) AllReadyH.nil
                go_simp
                (go_at_call 37; (with_reducible refine (l08Is_any gO A4 k4 lB A5 k5 lT _ d3 d4 (Kd.C_below HC4.out HX.out) (Kd.C_below HC5.out HX.out) HL.out.1 HL.out.2).mono ?_); rintro e wz ⟨rfl, hdr⟩; have hbz := below_of_drawn0 hdr; clear hdr; have HX := Aside0.mk (below_then HX.out HX.out.size hbz); have HG := Aside0.mk (HG.out.step hbz); have HI := Aside0.mk (HI.out.below hbz); clear hbz; rw [CG.out]; clear d0 d1 d2 d3 d4 x0 x1 x2 x3 x4 z0 z1 z2 z3 z4 s1 s2; obtain ⟨d0, d1, d2, d3, d4⟩ := HG.out.o5; obtain ⟨x0, x1, x2, x3, x4⟩ := HG.out.r0; obtain ⟨z0, z1, z2, z3, z4⟩ := HG.out.rz; have s1 := cellS65_1 HI.out.1; have s2 := cellS65_2 HI.out.1)
                refine hK.out _ _ ?_ (fun hHeld2 => ?_)
                · (first | (with_reducible exact ⟨d0, d1, d2, d3, d4, s1, s2⟩) | exact ⟨(far5 hne1 _ _ _ _ _).trans d0, (far5 hne1 _ _ _ _ _).trans d1, (far5 hne1 _ _ _ _ _).trans d2, (far5 hne1 _ _ _ _ _).trans d3, (far5 hne1 _ _ _ _ _).trans d4, (far5 hne2 _ _ _ _ _).trans s1, (far5 hne2 _ _ _ _ _).trans s2⟩)
                clear hK K
                try simp only [List.getElem_toArray, List.getElem_cons_succ, List.getElem_cons_zero, Act.put, List.setIfInBounds_toArray, List.set_cons_zero, List.set_cons_succ]
                rename_i hHeld
                refine wpAnyH_take (i := 11) (v := ?_) rfl (by kernel_rfl) (by kernel_rfl) (by kernel_rfl) (fun _ _ _ h => h) (Or.inl ⟨by rfl, ?_⟩) (by assumption) ?_
                rotate_left
                · (intro wS hSw; (try dsimp only at hSw); go_simp; try (with_reducible rfl))
                try simp only [List.getElem_toArray, List.getElem_cons_succ, List.getElem_cons_zero, Act.put, List.setIfInBounds_toArray, List.set_cons_zero, List.set_cons_succ]
                refine wpAnyH_take (i := 12) (v := ?_) rfl (by kernel_rfl) (by kernel_rfl) (by kernel_rfl) (fun _ _ _ h => h) (Or.inl ⟨by rfl, ?_⟩) (by assumption) ?_
                rotate_left
                · (intro wS hSw; (try dsimp only at hSw); go_simp; try (with_reducible rfl))
                try simp only [List.getElem_toArray, List.getElem_cons_succ, List.getElem_cons_zero, Act.put, List.setIfInBounds_toArray, List.set_cons_zero, List.set_cons_succ]
                refine wpAnyH_take (i := 13) (v := undef) rfl (by kernel_rfl) (by kernel_rfl) (by kernel_rfl) (fun _ _ _ h => h) (Or.inr ⟨by kernel_rfl, rfl⟩) (by assumption) ?_
                try simp only [List.getElem_toArray, List.getElem_cons_succ, List.getElem_cons_zero, Act.put, List.setIfInBounds_toArray, List.set_cons_zero, List.set_cons_succ]
                refine wpAnyH_take (i := 14) (v := undef) rfl (by kernel_rfl) (by kernel_rfl) (by kernel_rfl) (fun _ _ _ h => h) (Or.inr ⟨by kernel_rfl, rfl⟩) (by assumption) ?_
                try simp only [List.getElem_toArray, List.getElem_cons_succ, List.getElem_cons_zero, Act.put, List.setIfInBounds_toArray, List.set_cons_zero, List.set_cons_succ]
                refine wpAnyH_take (i := 15) (v := undef) rfl (by kernel_rfl) (by kernel_rfl) (by kernel_rfl) (fun _ _ _ h => h) (Or.inr ⟨by kernel_rfl, rfl⟩) (by assumption) ?_
                try simp only [List.getElem_toArray, List.getElem_cons_succ, List.getElem_cons_zero, Act.put, List.setIfInBounds_toArray, List.set_cons_zero, List.set_cons_succ]
                refine wpAnyH_take (i := 16) (v := undef) rfl (by kernel_rfl) (by kernel_rfl) (by kernel_rfl) (fun _ _ _ h => h) (Or.inr ⟨by kernel_rfl, rfl⟩) (by assumption) ?_
                try simp only [List.getElem_toArray, List.getElem_cons_succ, List.getElem_cons_zero, Act.put, List.setIfInBounds_toArray, List.set_cons_zero, List.set_cons_succ]
                refine wpAnyH_take (i := 17) (v := undef) rfl (by kernel_rfl) (by kernel_rfl) (by kernel_rfl) (fun _ _ _ h => h) (Or.inr ⟨by kernel_rfl, rfl⟩) (by assumption) ?_
                try simp only [List.getElem_toArray, List.getElem_cons_succ, List.getElem_cons_zero, Act.put, List.setIfInBounds_toArray, List.set_cons_zero, List.set_cons_succ]
                refine wpAnyH_take (i := 18) (v := undef) rfl (by kernel_rfl) (by kernel_rfl) (by kernel_rfl) (fun _ _ _ h => h) (Or.inr ⟨by kernel_rfl, rfl⟩) (by assumption) ?_
                try simp only [List.getElem_toArray, List.getElem_cons_succ, List.getElem_cons_zero, Act.put, List.setIfInBounds_toArray, List.set_cons_zero, List.set_cons_succ]
                refine wpAnyH_take (i := 19) (v := undef) rfl (by kernel_rfl) (by kernel_rfl) (by kernel_rfl) (fun _ _ _ h => h) (Or.inr ⟨by kernel_rfl, rfl⟩) (by assumption) ?_
                try simp only [List.getElem_toArray, List.getElem_cons_succ, List.getElem_cons_zero, Act.put, List.setIfInBounds_toArray, List.set_cons_zero, List.set_cons_succ]
                refine wpAnyH_take (i := 20) (v := undef) rfl (by kernel_rfl) (by kernel_rfl) (by kernel_rfl) (fun _ _ _ h => h) (Or.inr ⟨by kernel_rfl, rfl⟩) (by assumption) ?_
                try simp only [List.getElem_toArray, List.getElem_cons_succ, List.getElem_cons_zero, Act.put, List.setIfInBounds_toArray, List.set_cons_zero, List.set_cons_succ]
                refine wpAnyH_take (i := 21) (v := ?_) rfl (by kernel_rfl) (by kernel_rfl) (by kernel_rfl) (fun _ _ _ h => h) (Or.inl ⟨by rfl, ?_⟩) (by assumption) ?_
                rotate_left
                · (intro wS hSw; (try dsimp only at hSw); go_simp; try (with_reducible rfl))
                try simp only [List.getElem_toArray, List.getElem_cons_succ, List.getElem_cons_zero, Act.put, List.setIfInBounds_toArray, List.set_cons_zero, List.set_cons_succ]
                refine wpAnyH_ready (rs := [22]) (by kernel_rfl) (by simp) ?_
                refine AllReadyH.cons rfl (fun K hK => ?_) AllReadyH.nil
                go_simp
                refine hK.out _ _ ?_ (fun hHeld2 => ?_)
                · (first | (with_reducible exact ⟨d0, d1, d2, d3, d4, s1, s2⟩) | exact ⟨(far5 hne1 _ _ _ _ _).trans d0, (far5 hne1 _ _ _ _ _).trans d1, (far5 hne1 _ _ _ _ _).trans d2, (far5 hne1 _ _ _ _ _).trans d3, (far5 hne1 _ _ _ _ _).trans d4, (far5 hne2 _ _ _ _ _).trans s1, (far5 hne2 _ _ _ _ _).trans s2⟩)
                clear hK K
                try simp only [List.getElem_toArray, List.getElem_cons_succ, List.getElem_cons_zero, Act.put, List.setIfInBounds_toArray, List.set_cons_zero, List.set_cons_succ]
                rename_i hHeld
                refine wpAnyH_take (i := 23) (v := ?_) rfl (by kernel_rfl) (by kernel_rfl) (by kernel_rfl) (fun _ _ _ h => h) (Or.inl ⟨by rfl, ?_⟩) (by assumption) ?_
                rotate_left
                · (intro wS hSw; (try dsimp only at hSw); go_simp; try (with_reducible rfl))
                try simp only [List.getElem_toArray, List.getElem_cons_succ, List.getElem_cons_zero, Act.put, List.setIfInBounds_toArray, List.set_cons_zero, List.set_cons_succ]
                refine wpAnyH_take (i := 24) (v := ?_) rfl (by kernel_rfl) (by kernel_rfl) (by kernel_rfl) (fun _ _ _ h => h) (Or.inl ⟨by rfl, ?_⟩) (by assumption) ?_
                rotate_left
                · (intro wS hSw; (try dsimp only at hSw); go_simp; try (with_reducible rfl))
                try simp only [List.getElem_toArray, List.getElem_cons_succ, List.getElem_cons_zero, Act.put, List.setIfInBounds_toArray, List.set_cons_zero, List.set_cons_succ]
                refine wpAnyH_done (by kernel_rfl) ?_ _
                go_wp2
                refine bodyPost_ret (results_ctt rfl _ _ w.heap.size 30 #[.complex .f32 p1.re p1.im, .complex .f32 p2.re p2.im, .complex .f32 p3.re p3.im, .slice A4 lB.length k4, .slice A5 lT.length k5] (0, 0) _ rfl (HG.out.five _ _ _ _ _ rfl).1 Try.underlying30 rfl (by kernel_rfl)) rfl ?_
                exact ⟨.slice A4 lB.length k4, .slice A5 lT.length k5, by first | rfl | (rw [beq_toListBytes]; rfl), (HG.out.five _ _ _ _ _ rfl).2.1, (HG.out.five _ _ _ _ _ rfl).2.2.1, (HG.out.five _ _ _ _ _ rfl).2.2.2⟩
          · rw [if_neg cL] at H
            exact absurd H (by simp)
    · rw [if_neg cm] at h
      have cm' : ((a0.extract 0 4).toList == [70, 68, 82, 49]) = false := by
        have := (Go.Lib.bytes_beq_false_iff (a0.extract 0 4) mark4).2 cm
        rw [ByteArray.toList_eq mark4] at this
        exact this
      clear cm
      simp only [Option.some.injEq, Prod.mk.injEq] at h
      obtain ⟨rfl, rfl, rfl, rfl, rfl, rfl, rfl⟩ := h
      go_enter Try.func18, Try.ntmps18
      go_wp2
      refine bodyPost_ret (results_ctt rfl _ _ w.heap.size 30 #[.complex .f32 0 0, .complex .f32 0 0, .complex .f32 0 0, .slice none 0 0, .slice (some ⟨w.heap.size + 1, 0, none⟩) 0 0] (0, 0) _ rfl (blk_alloc (blk_alloc (heap_alloc_new _ _) _) _) Try.underlying30 rfl (by kernel_rfl)) rfl ?_
      have hT : ((w.alloc (.cells #[.complex .f32 0 0, .complex .f32 0 0, .complex .f32 0 0, .slice none 0 0, .slice (some ⟨w.heap.size + 1, 0, none⟩) 0 0] 30)).alloc (.cells #[] 72)).heap[w.heap.size + 1]? = some (.cells #[] 72 (0, 0)) := by
        have := heap_alloc_new (w.alloc (.cells #[.complex .f32 0 0, .complex .f32 0 0, .complex .f32 0 0, .slice none 0 0, .slice (some ⟨w.heap.size + 1, 0, none⟩) 0 0] 30)) (.cells #[] 72)
        simpa using this
      exact ⟨.slice none 0 0, .slice (some ⟨w.heap.size + 1, 0, none⟩) 0 0, rfl, Kd.R_nil _ _ _ _ _, R_none72 _ _ _ _ (blk_alloc hT _) (by omega) trivial, below_alloc (below_alloc (below_alloc (Below.refl _ _) _) _) _⟩
end Go.Proofs.Ytkkokkmhldceiaa.M
