/- impl's loadGrid: the grid with which a text begins. -/
import Derived.Test.YtkkokkmhldceiaaAJMf6
import Derived.Test.YtkkokkmhldceiaaAJMf85
import Derived.Test.YtkkokkmhldceiaaAHNum
import Derived.Test.YtkkokkmhldceiaaAHGrid
import Derived.Test.YtkkokkmhldceiaaAHValid2
import Derived.Test.YtkkokkmhldceiaaAHStored
import Derived.Deep.RegionLaw
import Derived.Deep.CutBlock
import Derived.Deep.DeepCutAuto
import Derived.RegionTactic
import Derived.BigRegion
import Derived.BigGuard
import Derived.Lib.SlicesS
namespace Go.Proofs.Ytkkokkmhldceiaa.M
open Go.RowKit Go.Proofs.YtkkokkmhldceiaaW.PrintWords Go.Proofs.YtkkokkmhldceiaaW.PrintLast Go.Proofs.YtkkokkmhldceiaaW.PrintMore
set_option linter.unusedVariables false
set_option linter.unusedSimpArgs false

abbrev Grd := Cx × Cx × Cx × (List (S69)) × (List (S72)) × Int × Bool
def noGrd : Grd := (⟨0, 0⟩, ⟨0, 0⟩, ⟨0, 0⟩, [], [], 0, false)
/-- The buses that the reader reads. -/
def lodB : Nat → Int → Int → List S69 → ByteArray → Int → Bool → Option (List S69 × ByteArray × Int × Bool)
  | 0, _, _, _, _, _, _ => none
  | k + 1, i, n, l, s, p, sh =>
    if i < n then
      if l.length < 1000000 then
        (impl_reader_bus.f k s p sh).bind fun b => lodB k (wrap64 (i + 1)) n (l ++ [⟨b.1, b.2.1, b.2.2.1, b.2.2.2.1, ⟨b.2.2.2.2.1, b.2.2.2.2.2.1, b.2.2.2.2.2.2.1⟩, b.2.2.2.2.2.2.2.1⟩]) b.2.2.2.2.2.2.2.2.1 b.2.2.2.2.2.2.2.2.2.1 b.2.2.2.2.2.2.2.2.2.2
      else none
    else some (l, s, p, sh)
def lodT : Nat → Int → Int → List S72 → ByteArray → Int → Bool → Option (List S72 × ByteArray × Int × Bool)
  | 0, _, _, _, _, _, _ => none
  | k + 1, i, n, l, s, p, sh =>
    if i < n then
      if l.length < 1000000 then
        (impl_reader_tie.f k s p sh).bind fun b => lodT k (wrap64 (i + 1)) n (l ++ [⟨b.1, b.2.1, b.2.2.1, b.2.2.2.1, b.2.2.2.2.1⟩]) b.2.2.2.2.2.1 b.2.2.2.2.2.2.1 b.2.2.2.2.2.2.2
      else none
    else some (l, s, p, sh)
def tiesOk (b : Bool) (B : List S69) (T : List S72) : Bool := b && (decide (T.length ≤ 6) && ((List.range T.length).all fun i => okB (rd_T72 T (i : Int)) B.length))
def smallB (B : List S69) : Bool := (List.range B.length).all fun i => decide (-1 ≤ (rd_T69 B (i : Int)).f0) && decide ((rd_T69 B (i : Int)).f0 ≤ 1000)
/-- The end of the reading. -/
def lodEnd (k : Nat) (a0 : ByteArray) (p1 p2 p3 : Cx) (B : List S69) (T : List S72) (p : Int) (sh : Bool) : Option Grd :=
  if B.length ≤ 1000000 ∧ T.length ≤ 1000000 then
    if sh = true then some noGrd
    else (impl_ValidFeeder.f k p1 p2 p3 B).bind fun b =>
      if tiesOk b B T = true then
        if smallB B = true ∧ B.length ≤ 100 ∧ T.length ≤ 100 ∧ 0 ≤ p ∧ p ≤ (a0.size : Int) then
          if headT p1 p2 p3 B T = a0.extract 0 p.toNat then some (p1, p2, p3, B, T, p, true) else some noGrd
        else none
      else some noGrd
  else if sh = true then some noGrd else none
def impl_loadGrid.f (k : Nat) (a0 : ByteArray) : Option Grd :=
  (strings_HasPrefix.f a0 mark4).bind fun hp =>
  if hp = true then
    (impl_reader_phases.f k a0 4 false).bind fun bp =>
    (impl_reader_number.f k bp.2.2.2.1 bp.2.2.2.2.1 bp.2.2.2.2.2 1).bind fun bn =>
    (lodB k 0 bn.1 [] bn.2.1 bn.2.2.1 bn.2.2.2).bind fun bb =>
    (impl_reader_number.f k bb.2.1 bb.2.2.1 bb.2.2.2 1).bind fun bm =>
    (lodT k 0 bm.1 [] bm.2.1 bm.2.2.1 bm.2.2.2).bind fun bt =>
    lodEnd k a0 bp.1 bp.2.1 bp.2.2.1 bb.1 bt.1 bt.2.2.1 bt.2.2.2
  else some noGrd

theorem smallB_bounds {B : List S69} (h : smallB B = true) : ∀ i : Nat, i < B.length → -1 ≤ (rd_T69 B i).f0 ∧ (rd_T69 B i).f0 ≤ 1000 := by
  unfold smallB at h
  simp only [List.all_eq_true, List.mem_range, Bool.and_eq_true, decide_eq_true_eq] at h
  exact h
theorem lodB_mono : ∀ k i n l s p sh, LeO (lodB k i n l s p sh) (lodB (k + 1) i n l s p sh)
  | 0, _, _, _, _, _, _ => by intro r h; simp [lodB] at h
  | k + 1, i, n, l, s, p, sh => by
    unfold lodB
    refine LeO.ite ?_ (LeO.refl _)
    refine LeO.ite ?_ (LeO.none _)
    exact LeO.bind (impl_reader_bus.mono _ _ _ _) (fun _ => lodB_mono _ _ _ _ _ _ _)
theorem lodT_mono : ∀ k i n l s p sh, LeO (lodT k i n l s p sh) (lodT (k + 1) i n l s p sh)
  | 0, _, _, _, _, _, _ => by intro r h; simp [lodT] at h
  | k + 1, i, n, l, s, p, sh => by
    unfold lodT
    refine LeO.ite ?_ (LeO.refl _)
    refine LeO.ite ?_ (LeO.none _)
    exact LeO.bind (impl_reader_tie.mono _ _ _ _) (fun _ => lodT_mono _ _ _ _ _ _ _)
theorem lodEnd_mono (k : Nat) (a0 : ByteArray) (p1 p2 p3 : Cx) (B : List S69) (T : List S72) (p : Int) (sh : Bool) : LeO (lodEnd k a0 p1 p2 p3 B T p sh) (lodEnd (k + 1) a0 p1 p2 p3 B T p sh) := by
  unfold lodEnd
  refine LeO.ite (LeO.ite (LeO.refl _) ?_) (LeO.refl _)
  exact LeO.bind (impl_ValidFeeder.mono _ _ _ _ _) (fun _ => LeO.refl _)
theorem impl_loadGrid.mono : ∀ a0 k, LeO (impl_loadGrid.f k a0) (impl_loadGrid.f (k + 1) a0) := by
  intro a0 k
  unfold impl_loadGrid.f
  refine LeO.bind (LeO.refl _) (fun _ => LeO.ite ?_ (LeO.refl _))
  refine LeO.bind (impl_reader_phases.mono _ _ _ _) (fun _ => ?_)
  refine LeO.bind (impl_reader_number.mono _ _ _ _ _) (fun _ => ?_)
  refine LeO.bind (lodB_mono _ _ _ _ _ _ _) (fun _ => ?_)
  refine LeO.bind (impl_reader_number.mono _ _ _ _ _) (fun _ => ?_)
  exact LeO.bind (lodT_mono _ _ _ _ _ _ _) (fun _ => lodEnd_mono _ _ _ _ _ _ _ _ _)

set_option maxHeartbeats 40000000 in
set_option maxRecDepth 100000 in
theorem impl_loadGrid.calls (k : Nat) (a0 : ByteArray) (r1 : Cx) (r2 : Cx) (r3 : Cx) (r4 : List (S69)) (r5 : List (S72)) (r6 : Int) (r7 : Bool) (w : World) (h : impl_loadGrid.f k a0 = some (r1, r2, r3, r4, r5, r6, r7)) :
    Calls Try.prog 19 #[.string a0] w fun e w' => ∃ v3_ v4_ : Value, e = .returned (.tuple #[.agg #[.complex .f32 r1.re r1.im, .complex .f32 r2.re r2.im, .complex .f32 r3.re r3.im, v3_, v4_], .int .i64 r6, .bool r7]) ∧ Kd.R k69 69 w' w.heap.size (fun _ => True) v3_ r4 ∧ Kd.R k72 72 w' w.heap.size (fun _ => True) v4_ r5 ∧ Below w.heap.size w w' := by
  have hu30 := Try.underlying30
  unfold impl_loadGrid.f at h
  obtain ⟨hp, A0, h⟩ := Option.bind_eq_some_iff.mp h
  have H0 := Aside0.mk A0
  clear A0
  cases hp with
  | false =>
    rw [if_neg (by simp)] at h
    unfold noGrd at h
    simp only [Option.some.injEq, Prod.mk.injEq] at h
    obtain ⟨rfl, rfl, rfl, rfl, rfl, rfl, rfl⟩ := h
    go_enter Try.func19, Try.ntmps19
    go_wp2_with fail
    refine (strings_HasPrefix.calls a0 mark4 _ _ H0.out).mono ?_
    rintro e wz ⟨rfl, hdr⟩
    have hbz := below_of_drawn0 hdr
    clear hdr
    have HG : Aside0 (GB w wz (w.heap.size + 1 + 1) ⟨0, 0⟩ ⟨0, 0⟩ ⟨0, 0⟩ (.slice none 0 0) (.slice none 0 0) [] []) := ⟨by
      have hO := heap_alloc_new ((w.alloc (.cells #[.complex .f32 0 0, .complex .f32 0 0, .complex .f32 0 0, .slice none 0 0, .slice none 0 0] 30)).alloc (.cells #[.string a0, .int .i64 4, .bool false] 78)) (.cells #[.complex .f32 0 0, .complex .f32 0 0, .complex .f32 0 0, .slice none 0 0, .slice none 0 0] 30)
      have h0 : GB w (((w.alloc (.cells #[.complex .f32 0 0, .complex .f32 0 0, .complex .f32 0 0, .slice none 0 0, .slice none 0 0] 30)).alloc (.cells #[.string a0, .int .i64 4, .bool false] 78)).alloc (.cells #[.complex .f32 0 0, .complex .f32 0 0, .complex .f32 0 0, .slice none 0 0, .slice none 0 0] 30)) (w.heap.size + 1 + 1) ⟨0, 0⟩ ⟨0, 0⟩ ⟨0, 0⟩ (.slice none 0 0) (.slice none 0 0) [] [] :=
        ⟨blk_alloc (blk_alloc (heap_alloc_new _ _) _) _, by simpa using hO, by omega, Kd.R_nil _ _ _ _ _, Kd.R_nil _ _ _ _ _, below_alloc (below_alloc (below_alloc (Below.refl _ _) _) _) _⟩
      exact h0.step hbz⟩
    have HI : Aside0 (IsS78 w wz (w.heap.size + 1) a0 4 false) := ⟨by
      have hE := heap_alloc_new (w.alloc (.cells #[.complex .f32 0 0, .complex .f32 0 0, .complex .f32 0 0, .slice none 0 0, .slice none 0 0] 30)) (.cells #[.string a0, .int .i64 4, .bool false] 78)
      have h0 : IsS78 w (((w.alloc (.cells #[.complex .f32 0 0, .complex .f32 0 0, .complex .f32 0 0, .slice none 0 0, .slice none 0 0] 30)).alloc (.cells #[.string a0, .int .i64 4, .bool false] 78)).alloc (.cells #[.complex .f32 0 0, .complex .f32 0 0, .complex .f32 0 0, .slice none 0 0, .slice none 0 0] 30)) (w.heap.size + 1) a0 4 false := ⟨blk_alloc (by simpa using hE) _, by omega⟩
      exact h0.below hbz⟩
    clear hbz
    have HLT : Aside0 (w.heap.size + 1 < w.heap.size + 1 + 1) := ⟨by omega⟩
    have HLG : Aside0 (w.heap.size < w.heap.size + 1) := ⟨by omega⟩
    generalize w.heap.size + 1 + 1 = gO at *
    generalize w.heap.size + 1 = gE at *
    obtain ⟨x0, x1, x2, x3, x4⟩ := HG.out.r0
    obtain ⟨z0, z1, z2, z3, z4⟩ := HG.out.rz
    go_wp2
    refine bodyPost_ret (results_ctt rfl _ _ w.heap.size 30 #[.complex .f32 0 0, .complex .f32 0 0, .complex .f32 0 0, .slice none 0 0, .slice none 0 0] (0, 0) _ rfl (HG.out.five _ _ _ _ _ rfl).1 Try.underlying30 rfl (by kernel_rfl)) rfl ?_
    exact ⟨.slice none 0 0, .slice none 0 0, rfl, Kd.R_nil _ _ _ _ _, Kd.R_nil _ _ _ _ _, (HG.out.five _ _ _ _ _ rfl).2.2.2⟩
  | true =>
    rw [if_pos rfl] at h
    obtain ⟨⟨p1, p2, p3, s1, q1, g1⟩, A1, h⟩ := Option.bind_eq_some_iff.mp h
    obtain ⟨⟨n1, s2, q2, g2⟩, A2, h⟩ := Option.bind_eq_some_iff.mp h
    obtain ⟨⟨lB, s3, q3, g3⟩, A3, h⟩ := Option.bind_eq_some_iff.mp h
    obtain ⟨⟨n2, s4, q4, g4⟩, A4, h⟩ := Option.bind_eq_some_iff.mp h
    obtain ⟨⟨lT, s5, q5, g5⟩, A5, h⟩ := Option.bind_eq_some_iff.mp h
    dsimp only at A2 A3 A4 A5 h
    have H1 := Aside0.mk A1
    have H2 := Aside0.mk A2
    have H3 := Aside0.mk A3
    have H4 := Aside0.mk A4
    have H5 := Aside0.mk A5
    have HE := Aside0.mk h
    clear h A1 A2 A3 A4 A5
    go_enter Try.func19, Try.ntmps19
    go_wp2_with fail
    refine (strings_HasPrefix.calls a0 mark4 _ _ H0.out).mono ?_
    rintro e wz ⟨rfl, hdr⟩
    have hbz := below_of_drawn0 hdr
    clear hdr
    have HG : Aside0 (GB w wz (w.heap.size + 1 + 1) ⟨0, 0⟩ ⟨0, 0⟩ ⟨0, 0⟩ (.slice none 0 0) (.slice none 0 0) [] []) := ⟨by
      have hO := heap_alloc_new ((w.alloc (.cells #[.complex .f32 0 0, .complex .f32 0 0, .complex .f32 0 0, .slice none 0 0, .slice none 0 0] 30)).alloc (.cells #[.string a0, .int .i64 4, .bool false] 78)) (.cells #[.complex .f32 0 0, .complex .f32 0 0, .complex .f32 0 0, .slice none 0 0, .slice none 0 0] 30)
      have h0 : GB w (((w.alloc (.cells #[.complex .f32 0 0, .complex .f32 0 0, .complex .f32 0 0, .slice none 0 0, .slice none 0 0] 30)).alloc (.cells #[.string a0, .int .i64 4, .bool false] 78)).alloc (.cells #[.complex .f32 0 0, .complex .f32 0 0, .complex .f32 0 0, .slice none 0 0, .slice none 0 0] 30)) (w.heap.size + 1 + 1) ⟨0, 0⟩ ⟨0, 0⟩ ⟨0, 0⟩ (.slice none 0 0) (.slice none 0 0) [] [] :=
        ⟨blk_alloc (blk_alloc (heap_alloc_new _ _) _) _, by simpa using hO, by omega, Kd.R_nil _ _ _ _ _, Kd.R_nil _ _ _ _ _, below_alloc (below_alloc (below_alloc (Below.refl _ _) _) _) _⟩
      exact h0.step hbz⟩
    have HI : Aside0 (IsS78 w wz (w.heap.size + 1) a0 4 false) := ⟨by
      have hE := heap_alloc_new (w.alloc (.cells #[.complex .f32 0 0, .complex .f32 0 0, .complex .f32 0 0, .slice none 0 0, .slice none 0 0] 30)) (.cells #[.string a0, .int .i64 4, .bool false] 78)
      have h0 : IsS78 w (((w.alloc (.cells #[.complex .f32 0 0, .complex .f32 0 0, .complex .f32 0 0, .slice none 0 0, .slice none 0 0] 30)).alloc (.cells #[.string a0, .int .i64 4, .bool false] 78)).alloc (.cells #[.complex .f32 0 0, .complex .f32 0 0, .complex .f32 0 0, .slice none 0 0, .slice none 0 0] 30)) (w.heap.size + 1) a0 4 false := ⟨blk_alloc (by simpa using hE) _, by omega⟩
      exact h0.below hbz⟩
    clear hbz
    have HLT : Aside0 (w.heap.size + 1 < w.heap.size + 1 + 1) := ⟨by omega⟩
    have HLG : Aside0 (w.heap.size < w.heap.size + 1) := ⟨by omega⟩
    generalize w.heap.size + 1 + 1 = gO at *
    generalize w.heap.size + 1 = gE at *
    clear H0
    go_wp2_with fail
    refine (impl_reader_phases.calls k gE _ _ _ _ _ _ _ _ _ w wz HI.out HG.out.below H1.out).mono ?_
    rintro e wz ⟨rfl, hI, hB, hK⟩
    have HG := Aside0.mk (HG.out.keep HI.out.1 (by decide) (by decide) (by decide) hK hB)
    have HI := Aside0.mk hI
    clear hI hB hK
    have z0 := HG.out.fz 0
    have z1 := HG.out.fz 1
    have z2 := HG.out.fz 2
    have d0 : wz.cell? ⟨gO, 0, none⟩ = some (.complex .f32 0 0) := (blk_cell HG.out.out 0).trans rfl
    have d1 : wz.cell? ⟨gO, 1, none⟩ = some (.complex .f32 0 0) := (blk_cell HG.out.out 1).trans rfl
    have d2 : wz.cell? ⟨gO, 2, none⟩ = some (.complex .f32 0 0) := (blk_cell HG.out.out 2).trans rfl
    go_wp2_with fail
    obtain ⟨V, hV⟩ : ∃ V : World, ((wz.setCell ⟨gO, 0, none⟩ (.complex .f32 p1.re p1.im)).setCell ⟨gO, 1, none⟩ (.complex .f32 p2.re p2.im)).setCell ⟨gO, 2, none⟩ (.complex .f32 p3.re p3.im) = V := ⟨_, rfl⟩
    have HI : Aside0 (IsS78 w V gE s1 q1 g1) := ⟨by
      rw [← hV]
      exact ((HI.out.far (p := ⟨gO, 0, none⟩) (by have := HLT.out; show gE ≠ gO; omega) _).far (p := ⟨gO, 1, none⟩) (by have := HLT.out; show gE ≠ gO; omega) _).far (p := ⟨gO, 2, none⟩) (by have := HLT.out; show gE ≠ gO; omega) _⟩
    have HG : Aside0 (GB w V gO p1 p2 p3 (.slice none 0 0) (.slice none 0 0) [] []) := ⟨by
      rw [← hV]
      exact HG.out.src p1 p2 p3⟩
    rw [hV]
    clear hV z0 z1 z2 d0 d1 d2
    refine (impl_reader_number.calls k gE _ _ _ _ _ _ _ _ w V HI.out HG.out.below H2.out).mono ?_
    rintro e wz ⟨rfl, hI, hB, hK⟩
    have HG := Aside0.mk (HG.out.keep HI.out.1 (by decide) (by decide) (by decide) hK hB)
    have HI := Aside0.mk hI
    clear hI hB hK
    clear H1 H2
    go_upto_block 0 with fail
    go_cut [] (fun wc => ∃ v3 : Value, Aside0 (IsS78 w wc gE s3 q3 g3) ∧ Aside0 (GB w wc gO p1 p2 p3 v3 (.slice none 0 0) lB []))
    case first =>
      go_wp2_with fail
      go_loopg [18] k (fun kq v18 w' => ∃ (i : Int) (v3 : Value) (l : List S69) (s : ByteArray) (q : Int) (g : Bool), v18 = .int .i64 i ∧ Aside0 (lodB kq i n1 l s q g = some (lB, s3, q3, g3)) ∧ Aside0 (kq ≤ k) ∧ Aside0 (IsS78 w w' gE s q g) ∧ Aside0 (GB w w' gO p1 p2 p3 v3 (.slice none 0 0) l []))
      case atStart => exact ⟨_, _, _, _, _, _, rfl, H3, ⟨Nat.le_refl _⟩, HI, HG⟩
      case round =>
        clear H3 HI HG H4 H5 HE
        obtain ⟨i, v3, l, s, q, g, rfl, HA, HK1, HI, HG⟩ := hrel
        cases gk with
        | zero => exact absurd HA.out (by simp [lodB])
        | succ k1 =>
          have H := HA.out
          clear HA
          simp only [lodB] at H
          by_cases c5 : i < n1
          · rw [if_pos c5] at H
            have c5b : decide (i < n1) = true := decide_eq_true c5
            clear c5
            by_cases c7 : l.length < 1000000
            · rw [if_pos c7] at H
              have HL := Aside0.mk c7
              clear c7
              obtain ⟨⟨y1, y2, y3, y4, y5, y6, y7, y8, s', q', g'⟩, B1, H⟩ := Option.bind_eq_some_iff.mp H
              dsimp only at B1 H
              have HB1 := Aside0.mk B1
              have HN := Aside0.mk H
              clear B1 H
              have e3 := HG.out.e3
              go_wp2
              go_region_law (first | (go_simp; go_at_call 42; (with_reducible refine (impl_reader_bus.calls k1 gE _ _ _ _ _ _ _ _ _ _ _ _ _ _ w _ HI.out.drew HG.out.drew.below HB1.out).mono ?_); rintro e wz ⟨rfl, hI, hB, hK⟩; have HG := Aside0.mk (HG.out.drew.keep HI.out.drew.1 (by decide) (by decide) (by decide) hK hB); have HI := Aside0.mk hI; have e3 := HG.out.e3; have ltO := blk_lt HG.out.out; clear hI hB hK) | ((refine Kd.R_append_step k69 (w0 := w) w.heap.size rfl (.tmp 22) (.tmp 24) 25 69 (.agg #[.int .i64 0, .complex .f32 0 0, .complex .f32 0 0, .int .i64 0, .complex .f32 0 0, .complex .f32 0 0, .complex .f32 0 0, .int .i64 0]) 64 rfl Try.underlying25 info69 rfl pos69 (by decide) v3 l ⟨y1, y2, y3, y4, ⟨y5, y6, y7⟩, y8⟩ [.int .i64 y1, .complex .f32 y2.re y2.im, .complex .f32 y3.re y3.im, .int .i64 y4, .complex .f32 y5.re y5.im, .complex .f32 y6.re y6.im, .complex .f32 y7.re y7.im, .int .i64 y8] (fun _ => True) (fun _ => False) rfl rfl ?aP (fun _ hk => hk.elim) ?aF ?aO ?aB ?aS ?aL ?_); (case aP => exact (k69_mkM _ _ _ ⟨y1, y2, y3, y4, ⟨y5, y6, y7⟩, y8⟩)); (case aF => exact (fun _ _ => trivial)); (case aO => exact HG.out.row4); (case aB => exact HG.out.below); (case aS => exact HG.out.below.size); (case aL => have := HL.out; omega); intro v1 w1 hR hBn hgn hat; obtain ⟨A1, k1c, rfl⟩ : ∃ A c, v1 = .slice A (l.length + 1) c := (by obtain ⟨A, c, h⟩ := Kd.R_slice hR; exact ⟨A, c, by rw [h, List.length_append]; rfl⟩); have e3 := blk_cell (blk_grown HG.out.out hgn (HG.out.ne4 HG.out.out (by decide))) 3; have e3f := blk_frozen (blk_grown HG.out.out hgn (HG.out.ne4 HG.out.out (by decide))) 3; have HI := Aside0.mk ((HI.out).grown hgn (HG.out.ne4 HI.out.1 (by decide))); have HG := Aside0.mk (HG.out.grow4 hR hBn hgn)))
              all_goals
                have HI := Aside0.mk (HI.out.far (p := ⟨gO, 3, none⟩) (by have := HLT.out; show gE ≠ gO; omega) (.slice A1 (l.length + 1) k1c))
                clear e3 e3f hR hBn hgn hat
                go_wp2
                go_roundg k1
                case measure => have := HK1.out; omega
                case rel => exact ⟨wrap64 (i + 1), _, _, _, _, _, (by rfl), HN, ⟨by have := HK1.out; omega⟩, HI, HG⟩
            · rw [if_neg c7] at H
              exact absurd H (by simp)
          · rw [if_neg c5] at H
            have c5b : decide (i < n1) = false := decide_eq_false c5
            clear c5
            simp only [Option.some.injEq, Prod.mk.injEq] at H
            obtain ⟨rfl, rfl, rfl, rfl⟩ := H
            go_wp2_with fail
            go_meet
            case rel => exact ⟨_, HI, HG⟩
    case rest =>
      clear HI HG H3
      obtain ⟨v3, HI, HG⟩ := hcut
      go_wp2_with fail
      refine (impl_reader_number.calls k gE _ _ _ _ _ _ _ _ w wc HI.out HG.out.below H4.out).mono ?_
      rintro e wz ⟨rfl, hI, hB, hK⟩
      have HG := Aside0.mk (HG.out.keep HI.out.1 (by decide) (by decide) (by decide) hK hB)
      have HI := Aside0.mk hI
      clear hI hB hK H4
      go_upto_block 2 with fail
      go_cut [] (fun wc => ∃ v4 : Value, Aside0 (IsS78 w wc gE s5 q5 g5) ∧ Aside0 (GB w wc gO p1 p2 p3 v3 v4 lB lT))
      case first =>
        go_wp2_with fail
        go_loopg [30] k (fun kq v30 w' => ∃ (i : Int) (v4 : Value) (t : List S72) (s : ByteArray) (q : Int) (g : Bool), v30 = .int .i64 i ∧ Aside0 (lodT kq i n2 t s q g = some (lT, s5, q5, g5)) ∧ Aside0 (kq ≤ k) ∧ Aside0 (IsS78 w w' gE s q g) ∧ Aside0 (GB w w' gO p1 p2 p3 v3 v4 lB t))
        case atStart => exact ⟨_, _, _, _, _, _, rfl, H5, ⟨Nat.le_refl _⟩, HI, HG⟩
        case round =>
          clear H5 HI HG HE
          obtain ⟨i, v4, t, s, q, g, rfl, HA, HK1, HI, HG⟩ := hrel
          cases gk with
          | zero => exact absurd HA.out (by simp [lodT])
          | succ k1 =>
            have H := HA.out
            clear HA
            simp only [lodT] at H
            by_cases c5 : i < n2
            · rw [if_pos c5] at H
              have c5b : decide (i < n2) = true := decide_eq_true c5
              clear c5
              by_cases c7 : t.length < 1000000
              · rw [if_pos c7] at H
                have HL := Aside0.mk c7
                clear c7
                obtain ⟨⟨y1, y2, y3, y4, y5, s', q', g'⟩, B1, H⟩ := Option.bind_eq_some_iff.mp H
                dsimp only at B1 H
                have HB1 := Aside0.mk B1
                have HN := Aside0.mk H
                clear B1 H
                have e4 := HG.out.e4
                go_wp2
                go_region_law (first | (go_simp; go_at_call 43; (with_reducible refine (impl_reader_tie.calls k1 gE _ _ _ _ _ _ _ _ _ _ _ w _ HI.out.drew HG.out.drew.below HB1.out).mono ?_); rintro e wz ⟨rfl, hI, hB, hK⟩; have HG := Aside0.mk (HG.out.drew.keep HI.out.drew.1 (by decide) (by decide) (by decide) hK hB); have HI := Aside0.mk hI; have e4 := HG.out.e4; have ltO := blk_lt HG.out.out; clear hI hB hK) | ((refine Kd.R_append_step k72 (w0 := w) w.heap.size rfl (.tmp 33) (.tmp 35) 28 72 (.agg #[.int .i64 0, .int .i64 0, .complex .f32 0 0, .complex .f32 0 0, .int .i64 0]) 40 rfl Try.underlying28 info72 rfl pos72 (by decide) v4 t ⟨y1, y2, y3, y4, y5⟩ [.int .i64 y1, .int .i64 y2, .complex .f32 y3.re y3.im, .complex .f32 y4.re y4.im, .int .i64 y5] (fun _ => True) (fun _ => False) rfl rfl ?aP (fun _ hk => hk.elim) ?aF ?aO ?aB ?aS ?aL ?_); (case aP => exact (k72_mkM _ _ _ ⟨y1, y2, y3, y4, y5⟩)); (case aF => exact (fun _ _ => trivial)); (case aO => exact HG.out.row5); (case aB => exact HG.out.below); (case aS => exact HG.out.below.size); (case aL => have := HL.out; omega); intro v1 w1 hR hBn hgn hat; obtain ⟨A1, k1c, rfl⟩ : ∃ A c, v1 = .slice A (t.length + 1) c := (by obtain ⟨A, c, h⟩ := Kd.R_slice hR; exact ⟨A, c, by rw [h, List.length_append]; rfl⟩); have e4 := blk_cell (blk_grown HG.out.out hgn (HG.out.ne5 HG.out.out (by decide))) 4; have e4f := blk_frozen (blk_grown HG.out.out hgn (HG.out.ne5 HG.out.out (by decide))) 4; have HI := Aside0.mk ((HI.out).grown hgn (HG.out.ne5 HI.out.1 (by decide))); have HG := Aside0.mk (HG.out.grow5 hR hBn hgn)))
                all_goals
                  have HI := Aside0.mk (HI.out.far (p := ⟨gO, 4, none⟩) (by have := HLT.out; show gE ≠ gO; omega) (.slice A1 (t.length + 1) k1c))
                  clear e4 e4f hR hBn hgn hat
                  go_wp2
                  go_roundg k1
                  case measure => have := HK1.out; omega
                  case rel => exact ⟨wrap64 (i + 1), _, _, _, _, _, (by rfl), HN, ⟨by have := HK1.out; omega⟩, HI, HG⟩
              · rw [if_neg c7] at H
                exact absurd H (by simp)
            · rw [if_neg c5] at H
              have c5b : decide (i < n2) = false := decide_eq_false c5
              clear c5
              simp only [Option.some.injEq, Prod.mk.injEq] at H
              obtain ⟨rfl, rfl, rfl, rfl⟩ := H
              go_wp2_with fail
              go_meet
              case rel => exact ⟨_, HI, HG⟩
      case rest =>
        clear HI HG H5
        obtain ⟨v4, HI, HG⟩ := hcut
        obtain ⟨A4, k4, hv3, le4, C4⟩ := Kd.R_reads HG.out.row4
        obtain ⟨A5, k5, hv4, le5, C5⟩ := Kd.R_reads HG.out.row5
        subst hv3
        subst hv4
        have HC4 := Aside0.mk C4
        have HC5 := Aside0.mk C5
        have HLE : Aside0 (lB.length ≤ k4 ∧ lT.length ≤ k5) := ⟨⟨le4, le5⟩⟩
        clear C4 C5 le4 le5
        go_upto_region 13 with (fail)
        have HX : Aside0 (Below wc.heap.size wc wc.drew) := ⟨below_drew1 (Below.refl _ _)⟩
        replace HG := Aside0.mk HG.out.drew
        replace HI := Aside0.mk HI.out.drew
        have hne1 : gO ≠ w.heap.size := Ne.symm (Nat.ne_of_lt HG.out.lt)
        have hne2 : gE ≠ w.heap.size := by have := HLG.out; omega
        obtain ⟨d0, d1, d2, d3, d4⟩ := HG.out.o5
        obtain ⟨x0, x1, x2, x3, x4⟩ := HG.out.r0
        obtain ⟨z0, z1, z2, z3, z4⟩ := HG.out.rz
        have s1 := cellS78_1 HI.out.1
        have s2 := cellS78_2 HI.out.1
        have H := HE.out
        clear HE
        unfold lodEnd at H
        by_cases cL : lB.length ≤ 1000000 ∧ lT.length ≤ 1000000
        · rw [if_pos cL] at H
          have HL := Aside0.mk cL
          clear cL
          cases g5 with
          | true =>
            rw [if_pos rfl] at H
            unfold noGrd at H
            simp only [Option.some.injEq, Prod.mk.injEq] at H
            obtain ⟨rfl, rfl, rfl, rfl, rfl, rfl, rfl⟩ := H
            refine wp_region_held_drew (S := (fun w' => w'.cell? ⟨gO, 0, none⟩ = some (.complex .f32 p1.re p1.im) ∧ w'.cell? ⟨gO, 1, none⟩ = some (.complex .f32 p2.re p2.im) ∧ w'.cell? ⟨gO, 2, none⟩ = some (.complex .f32 p3.re p3.im) ∧ w'.cell? ⟨gO, 3, none⟩ = some (.slice A4 lB.length k4) ∧ w'.cell? ⟨gO, 4, none⟩ = some (.slice A5 lT.length k5) ∧ w'.cell? ⟨gE, 1, none⟩ = some (.int .i64 q5) ∧ w'.cell? ⟨gE, 2, none⟩ = some (.bool true))) (by kernel_rfl) (by with_reducible exact ⟨d0, d1, d2, d3, d4, s1, s2⟩) (fun hHeld => ?_)
            generalize wc.drew = wd at *
            refine wpAnyH_take (i := 0) (v := ?_) rfl (by kernel_rfl) (by kernel_rfl) (by kernel_rfl) (fun _ _ _ h => h) (Or.inl ⟨by rfl, ?_⟩) (by assumption) ?_
            rotate_left
            · (intro wS hSw; (try dsimp only at hSw); go_simp; try (with_reducible rfl))
            try simp only [List.getElem_toArray, List.getElem_cons_succ, List.getElem_cons_zero, Act.put, List.setIfInBounds_toArray, List.set_cons_zero, List.set_cons_succ]
            refine wpAnyH_take (i := 1) (v := ?_) rfl (by kernel_rfl) (by kernel_rfl) (by kernel_rfl) (fun _ _ _ h => h) (Or.inl ⟨by rfl, ?_⟩) (by assumption) ?_
            rotate_left
            · (intro wS hSw; (try dsimp only at hSw); go_simp; try (with_reducible rfl))
            try simp only [List.getElem_toArray, List.getElem_cons_succ, List.getElem_cons_zero, Act.put, List.setIfInBounds_toArray, List.set_cons_zero, List.set_cons_succ]
            refine wpAnyH_take (i := 2) (v := ?_) rfl (by kernel_rfl) (by kernel_rfl) (by kernel_rfl) (fun _ _ _ h => h) (Or.inl ⟨by rfl, ?_⟩) (by assumption) ?_
            rotate_left
            · (intro wS hSw; (try dsimp only at hSw); go_simp; try (with_reducible rfl))
            try simp only [List.getElem_toArray, List.getElem_cons_succ, List.getElem_cons_zero, Act.put, List.setIfInBounds_toArray, List.set_cons_zero, List.set_cons_succ]
            refine wpAnyH_take (i := 3) (v := undef) rfl (by kernel_rfl) (by kernel_rfl) (by kernel_rfl) (fun _ _ _ h => h) (Or.inr ⟨by kernel_rfl, rfl⟩) (by assumption) ?_
            try simp only [List.getElem_toArray, List.getElem_cons_succ, List.getElem_cons_zero, Act.put, List.setIfInBounds_toArray, List.set_cons_zero, List.set_cons_succ]
            refine wpAnyH_take (i := 4) (v := undef) rfl (by kernel_rfl) (by kernel_rfl) (by kernel_rfl) (fun _ _ _ h => h) (Or.inr ⟨by kernel_rfl, rfl⟩) (by assumption) ?_
            try simp only [List.getElem_toArray, List.getElem_cons_succ, List.getElem_cons_zero, Act.put, List.setIfInBounds_toArray, List.set_cons_zero, List.set_cons_succ]
            refine wpAnyH_take (i := 5) (v := undef) rfl (by kernel_rfl) (by kernel_rfl) (by kernel_rfl) (fun _ _ _ h => h) (Or.inr ⟨by kernel_rfl, rfl⟩) (by assumption) ?_
            try simp only [List.getElem_toArray, List.getElem_cons_succ, List.getElem_cons_zero, Act.put, List.setIfInBounds_toArray, List.set_cons_zero, List.set_cons_succ]
            refine wpAnyH_take (i := 6) (v := ?_) rfl (by kernel_rfl) (by kernel_rfl) (by kernel_rfl) (fun _ _ _ h => h) (Or.inl ⟨by rfl, ?_⟩) (by assumption) ?_
            rotate_left
            · (intro wS hSw; (try dsimp only at hSw); go_simp; try (with_reducible rfl))
            try simp only [List.getElem_toArray, List.getElem_cons_succ, List.getElem_cons_zero, Act.put, List.setIfInBounds_toArray, List.set_cons_zero, List.set_cons_succ]
            refine wpAnyH_take (i := 7) (v := ?_) rfl (by kernel_rfl) (by kernel_rfl) (by kernel_rfl) (fun _ _ _ h => h) (Or.inl ⟨by rfl, ?_⟩) (by assumption) ?_
            rotate_left
            · (intro wS hSw; (try dsimp only at hSw); go_simp; try (with_reducible rfl))
            try simp only [List.getElem_toArray, List.getElem_cons_succ, List.getElem_cons_zero, Act.put, List.setIfInBounds_toArray, List.set_cons_zero, List.set_cons_succ]
            refine wpAnyH_take (i := 8) (v := undef) rfl (by kernel_rfl) (by kernel_rfl) (by kernel_rfl) (fun _ _ _ h => h) (Or.inr ⟨by kernel_rfl, rfl⟩) (by assumption) ?_
            try simp only [List.getElem_toArray, List.getElem_cons_succ, List.getElem_cons_zero, Act.put, List.setIfInBounds_toArray, List.set_cons_zero, List.set_cons_succ]
            refine wpAnyH_take (i := 9) (v := undef) rfl (by kernel_rfl) (by kernel_rfl) (by kernel_rfl) (fun _ _ _ h => h) (Or.inr ⟨by kernel_rfl, rfl⟩) (by assumption) ?_
            try simp only [List.getElem_toArray, List.getElem_cons_succ, List.getElem_cons_zero, Act.put, List.setIfInBounds_toArray, List.set_cons_zero, List.set_cons_succ]
            refine wpAnyH_take (i := 10) (v := undef) rfl (by kernel_rfl) (by kernel_rfl) (by kernel_rfl) (fun _ _ _ h => h) (Or.inr ⟨by kernel_rfl, rfl⟩) (by assumption) ?_
            try simp only [List.getElem_toArray, List.getElem_cons_succ, List.getElem_cons_zero, Act.put, List.setIfInBounds_toArray, List.set_cons_zero, List.set_cons_succ]
            refine wpAnyH_take (i := 11) (v := undef) rfl (by kernel_rfl) (by kernel_rfl) (by kernel_rfl) (fun _ _ _ h => h) (Or.inr ⟨by kernel_rfl, rfl⟩) (by assumption) ?_
            try simp only [List.getElem_toArray, List.getElem_cons_succ, List.getElem_cons_zero, Act.put, List.setIfInBounds_toArray, List.set_cons_zero, List.set_cons_succ]
            refine wpAnyH_take (i := 12) (v := undef) rfl (by kernel_rfl) (by kernel_rfl) (by kernel_rfl) (fun _ _ _ h => h) (Or.inr ⟨by kernel_rfl, rfl⟩) (by assumption) ?_
            try simp only [List.getElem_toArray, List.getElem_cons_succ, List.getElem_cons_zero, Act.put, List.setIfInBounds_toArray, List.set_cons_zero, List.set_cons_succ]
            refine wpAnyH_take (i := 13) (v := undef) rfl (by kernel_rfl) (by kernel_rfl) (by kernel_rfl) (fun _ _ _ h => h) (Or.inr ⟨by kernel_rfl, rfl⟩) (by assumption) ?_
            try simp only [List.getElem_toArray, List.getElem_cons_succ, List.getElem_cons_zero, Act.put, List.setIfInBounds_toArray, List.set_cons_zero, List.set_cons_succ]
            refine wpAnyH_take (i := 14) (v := undef) rfl (by kernel_rfl) (by kernel_rfl) (by kernel_rfl) (fun _ _ _ h => h) (Or.inr ⟨by kernel_rfl, rfl⟩) (by assumption) ?_
            try simp only [List.getElem_toArray, List.getElem_cons_succ, List.getElem_cons_zero, Act.put, List.setIfInBounds_toArray, List.set_cons_zero, List.set_cons_succ]
            refine wpAnyH_take (i := 15) (v := ?_) rfl (by kernel_rfl) (by kernel_rfl) (by kernel_rfl) (fun _ _ _ h => h) (Or.inl ⟨by rfl, ?_⟩) (by assumption) ?_
            rotate_left
            · (intro wS hSw; (try dsimp only at hSw); go_simp; try (with_reducible rfl))
            try simp only [List.getElem_toArray, List.getElem_cons_succ, List.getElem_cons_zero, Act.put, List.setIfInBounds_toArray, List.set_cons_zero, List.set_cons_succ]
            refine wpAnyH_done (by kernel_rfl) ?_ _
            go_wp2
            refine bodyPost_ret (results_ctt rfl _ _ w.heap.size 30 #[.complex .f32 0 0, .complex .f32 0 0, .complex .f32 0 0, .slice none 0 0, .slice none 0 0] (0, 0) _ rfl (HG.out.five _ _ _ _ _ rfl).1 Try.underlying30 rfl (by kernel_rfl)) rfl ?_
            exact ⟨.slice none 0 0, .slice none 0 0, rfl, Kd.R_nil _ _ _ _ _, Kd.R_nil _ _ _ _ _, (HG.out.five _ _ _ _ _ rfl).2.2.2⟩
          | false =>
            rw [if_neg (by simp)] at H
            obtain ⟨bV, V0, H⟩ := Option.bind_eq_some_iff.mp H
            have HV := Aside0.mk V0
            clear V0
            obtain ⟨rV, T0⟩ : ∃ r, tiesOk bV lB lT = r := ⟨_, rfl⟩
            rw [T0] at H
            unfold tiesOk at T0
            have HT := Aside0.mk T0
            clear T0
            cases rV with
            | false =>
              rw [if_neg (by simp)] at H
              unfold noGrd at H
              simp only [Option.some.injEq, Prod.mk.injEq] at H
              obtain ⟨rfl, rfl, rfl, rfl, rfl, rfl, rfl⟩ := H
              refine wp_region_held_drew (S := (fun w' => w'.cell? ⟨gO, 0, none⟩ = some (.complex .f32 p1.re p1.im) ∧ w'.cell? ⟨gO, 1, none⟩ = some (.complex .f32 p2.re p2.im) ∧ w'.cell? ⟨gO, 2, none⟩ = some (.complex .f32 p3.re p3.im) ∧ w'.cell? ⟨gO, 3, none⟩ = some (.slice A4 lB.length k4) ∧ w'.cell? ⟨gO, 4, none⟩ = some (.slice A5 lT.length k5) ∧ w'.cell? ⟨gE, 1, none⟩ = some (.int .i64 q5) ∧ w'.cell? ⟨gE, 2, none⟩ = some (.bool false))) (by kernel_rfl) (by with_reducible exact ⟨d0, d1, d2, d3, d4, s1, s2⟩) (fun hHeld => ?_)
              generalize wc.drew = wd at *
              refine wpAnyH_take (i := 0) (v := ?_) rfl (by kernel_rfl) (by kernel_rfl) (by kernel_rfl) (fun _ _ _ h => h) (Or.inl ⟨by rfl, ?_⟩) (by assumption) ?_
              rotate_left
              · (intro wS hSw; (try dsimp only at hSw); go_simp; try (with_reducible rfl))
              try simp only [List.getElem_toArray, List.getElem_cons_succ, List.getElem_cons_zero, Act.put, List.setIfInBounds_toArray, List.set_cons_zero, List.set_cons_succ]
              refine wpAnyH_take (i := 1) (v := ?_) rfl (by kernel_rfl) (by kernel_rfl) (by kernel_rfl) (fun _ _ _ h => h) (Or.inl ⟨by rfl, ?_⟩) (by assumption) ?_
              rotate_left
              · (intro wS hSw; (try dsimp only at hSw); go_simp; try (with_reducible rfl))
              try simp only [List.getElem_toArray, List.getElem_cons_succ, List.getElem_cons_zero, Act.put, List.setIfInBounds_toArray, List.set_cons_zero, List.set_cons_succ]
              refine wpAnyH_take (i := 2) (v := ?_) rfl (by kernel_rfl) (by kernel_rfl) (by kernel_rfl) (fun _ _ _ h => h) (Or.inl ⟨by rfl, ?_⟩) (by assumption) ?_
              rotate_left
              · (intro wS hSw; (try dsimp only at hSw); go_simp; try (with_reducible rfl))
              try simp only [List.getElem_toArray, List.getElem_cons_succ, List.getElem_cons_zero, Act.put, List.setIfInBounds_toArray, List.set_cons_zero, List.set_cons_succ]
              refine wpAnyH_take (i := 3) (v := ?_) rfl (by kernel_rfl) (by kernel_rfl) (by kernel_rfl) (fun _ _ _ h => h) (Or.inl ⟨by rfl, ?_⟩) (by assumption) ?_
              rotate_left
              · (intro wS hSw; (try dsimp only at hSw); go_simp; try (with_reducible rfl))
              try simp only [List.getElem_toArray, List.getElem_cons_succ, List.getElem_cons_zero, Act.put, List.setIfInBounds_toArray, List.set_cons_zero, List.set_cons_succ]
              refine wpAnyH_ready (rs := [4]) (by kernel_rfl) (by simp) ?_
              refine AllReadyH.cons rfl (fun K hK => ?_) AllReadyH.nil
              go_simp
              (go_at_call 44; (with_reducible refine (validGrid_any k p1 p2 p3 A4 k4 lB A5 k5 lT _ bV _ HV.out HT.out (Kd.C_below HC4.out HX.out) HLE.out.1 (Kd.C_below HC5.out HX.out) HLE.out.2 HL.out.1 HL.out.2).mono ?_); rintro e wz ⟨rfl, hbz⟩; have HX := Aside0.mk (below_then HX.out HX.out.size hbz); have HG := Aside0.mk (HG.out.step hbz); have HI := Aside0.mk (HI.out.below hbz); clear hbz; clear d0 d1 d2 d3 d4 x0 x1 x2 x3 x4 z0 z1 z2 z3 z4 s1 s2; obtain ⟨d0, d1, d2, d3, d4⟩ := HG.out.o5; obtain ⟨x0, x1, x2, x3, x4⟩ := HG.out.r0; obtain ⟨z0, z1, z2, z3, z4⟩ := HG.out.rz; have s1 := cellS78_1 HI.out.1; have s2 := cellS78_2 HI.out.1)
              refine hK.out _ _ ?_ (fun hHeld2 => ?_)
              · ((with_reducible exact ⟨d0, d1, d2, d3, d4, s1, s2⟩))
              clear hK K
              try simp only [List.getElem_toArray, List.getElem_cons_succ, List.getElem_cons_zero, Act.put, List.setIfInBounds_toArray, List.set_cons_zero, List.set_cons_succ]
              rename_i hHeld
              refine wpAnyH_take (i := 5) (v := ?_) rfl (by kernel_rfl) (by kernel_rfl) (by kernel_rfl) (fun _ _ _ h => h) (Or.inl ⟨by rfl, ?_⟩) (by assumption) ?_
              rotate_left
              · (intro wS hSw; (try dsimp only at hSw); go_simp; try (with_reducible rfl))
              try simp only [List.getElem_toArray, List.getElem_cons_succ, List.getElem_cons_zero, Act.put, List.setIfInBounds_toArray, List.set_cons_zero, List.set_cons_succ]
              refine wpAnyH_take (i := 6) (v := ?_) rfl (by kernel_rfl) (by kernel_rfl) (by kernel_rfl) (fun _ _ _ h => h) (Or.inl ⟨by rfl, ?_⟩) (by assumption) ?_
              rotate_left
              · (intro wS hSw; (try dsimp only at hSw); go_simp; try (with_reducible rfl))
              try simp only [List.getElem_toArray, List.getElem_cons_succ, List.getElem_cons_zero, Act.put, List.setIfInBounds_toArray, List.set_cons_zero, List.set_cons_succ]
              refine wpAnyH_take (i := 7) (v := ?_) rfl (by kernel_rfl) (by kernel_rfl) (by kernel_rfl) (fun _ _ _ h => h) (Or.inl ⟨by rfl, ?_⟩) (by assumption) ?_
              rotate_left
              · (intro wS hSw; (try dsimp only at hSw); go_simp; try (with_reducible rfl))
              try simp only [List.getElem_toArray, List.getElem_cons_succ, List.getElem_cons_zero, Act.put, List.setIfInBounds_toArray, List.set_cons_zero, List.set_cons_succ]
              refine wpAnyH_take (i := 8) (v := undef) rfl (by kernel_rfl) (by kernel_rfl) (by kernel_rfl) (fun _ _ _ h => h) (Or.inr ⟨by kernel_rfl, rfl⟩) (by assumption) ?_
              try simp only [List.getElem_toArray, List.getElem_cons_succ, List.getElem_cons_zero, Act.put, List.setIfInBounds_toArray, List.set_cons_zero, List.set_cons_succ]
              refine wpAnyH_take (i := 9) (v := undef) rfl (by kernel_rfl) (by kernel_rfl) (by kernel_rfl) (fun _ _ _ h => h) (Or.inr ⟨by kernel_rfl, rfl⟩) (by assumption) ?_
              try simp only [List.getElem_toArray, List.getElem_cons_succ, List.getElem_cons_zero, Act.put, List.setIfInBounds_toArray, List.set_cons_zero, List.set_cons_succ]
              refine wpAnyH_take (i := 10) (v := undef) rfl (by kernel_rfl) (by kernel_rfl) (by kernel_rfl) (fun _ _ _ h => h) (Or.inr ⟨by kernel_rfl, rfl⟩) (by assumption) ?_
              try simp only [List.getElem_toArray, List.getElem_cons_succ, List.getElem_cons_zero, Act.put, List.setIfInBounds_toArray, List.set_cons_zero, List.set_cons_succ]
              refine wpAnyH_take (i := 11) (v := undef) rfl (by kernel_rfl) (by kernel_rfl) (by kernel_rfl) (fun _ _ _ h => h) (Or.inr ⟨by kernel_rfl, rfl⟩) (by assumption) ?_
              try simp only [List.getElem_toArray, List.getElem_cons_succ, List.getElem_cons_zero, Act.put, List.setIfInBounds_toArray, List.set_cons_zero, List.set_cons_succ]
              refine wpAnyH_take (i := 12) (v := undef) rfl (by kernel_rfl) (by kernel_rfl) (by kernel_rfl) (fun _ _ _ h => h) (Or.inr ⟨by kernel_rfl, rfl⟩) (by assumption) ?_
              try simp only [List.getElem_toArray, List.getElem_cons_succ, List.getElem_cons_zero, Act.put, List.setIfInBounds_toArray, List.set_cons_zero, List.set_cons_succ]
              refine wpAnyH_take (i := 13) (v := undef) rfl (by kernel_rfl) (by kernel_rfl) (by kernel_rfl) (fun _ _ _ h => h) (Or.inr ⟨by kernel_rfl, rfl⟩) (by assumption) ?_
              try simp only [List.getElem_toArray, List.getElem_cons_succ, List.getElem_cons_zero, Act.put, List.setIfInBounds_toArray, List.set_cons_zero, List.set_cons_succ]
              refine wpAnyH_take (i := 14) (v := undef) rfl (by kernel_rfl) (by kernel_rfl) (by kernel_rfl) (fun _ _ _ h => h) (Or.inr ⟨by kernel_rfl, rfl⟩) (by assumption) ?_
              try simp only [List.getElem_toArray, List.getElem_cons_succ, List.getElem_cons_zero, Act.put, List.setIfInBounds_toArray, List.set_cons_zero, List.set_cons_succ]
              refine wpAnyH_take (i := 15) (v := ?_) rfl (by kernel_rfl) (by kernel_rfl) (by kernel_rfl) (fun _ _ _ h => h) (Or.inl ⟨by rfl, ?_⟩) (by assumption) ?_
              rotate_left
              · (intro wS hSw; (try dsimp only at hSw); go_simp; try (with_reducible rfl))
              try simp only [List.getElem_toArray, List.getElem_cons_succ, List.getElem_cons_zero, Act.put, List.setIfInBounds_toArray, List.set_cons_zero, List.set_cons_succ]
              refine wpAnyH_done (by kernel_rfl) ?_ _
              go_wp2
              refine bodyPost_ret (results_ctt rfl _ _ w.heap.size 30 #[.complex .f32 0 0, .complex .f32 0 0, .complex .f32 0 0, .slice none 0 0, .slice none 0 0] (0, 0) _ rfl (HG.out.five _ _ _ _ _ rfl).1 Try.underlying30 rfl (by kernel_rfl)) rfl ?_
              exact ⟨.slice none 0 0, .slice none 0 0, rfl, Kd.R_nil _ _ _ _ _, Kd.R_nil _ _ _ _ _, (HG.out.five _ _ _ _ _ rfl).2.2.2⟩
            | true =>
              rw [if_pos rfl] at H
              by_cases cq : smallB lB = true ∧ lB.length ≤ 100 ∧ lT.length ≤ 100 ∧ 0 ≤ q5 ∧ q5 ≤ (a0.size : Int)
              · rw [if_pos cq] at H
                obtain ⟨cs, ct0, ct, q0, q1⟩ := cq
                have HSM := Aside0.mk (smallB_bounds cs)
                have HQ : Aside0 (lT.length ≤ 100 ∧ lB.length ≤ 100) := ⟨⟨ct, ct0⟩⟩
                clear cs ct ct0
                have q0b : decide (0 ≤ q5) = true := decide_eq_true q0
                have q1b : decide (q5 ≤ (a0.size : Int)) = true := decide_eq_true q1
                clear q0 q1
                by_cases ce : headT p1 p2 p3 lB lT = a0.extract 0 q5.toNat
                · rw [if_pos ce] at H
                  simp only [Option.some.injEq, Prod.mk.injEq] at H
                  obtain ⟨rfl, rfl, rfl, rfl, rfl, rfl, rfl⟩ := H
                  have ceb : ((headT p1 p2 p3 lB lT).toList == (a0.extract 0 q5.toNat).toList) = true := by rw [ce]; simp
                  have cen : ((headT p1 p2 p3 lB lT).toList != (a0.extract 0 q5.toNat).toList) = false := by
                    unfold bne; rw [ceb]; rfl
                  clear ce
                  refine wp_region_held_drew (S := (fun w' => w'.cell? ⟨gO, 0, none⟩ = some (.complex .f32 p1.re p1.im) ∧ w'.cell? ⟨gO, 1, none⟩ = some (.complex .f32 p2.re p2.im) ∧ w'.cell? ⟨gO, 2, none⟩ = some (.complex .f32 p3.re p3.im) ∧ w'.cell? ⟨gO, 3, none⟩ = some (.slice A4 lB.length k4) ∧ w'.cell? ⟨gO, 4, none⟩ = some (.slice A5 lT.length k5) ∧ w'.cell? ⟨gE, 1, none⟩ = some (.int .i64 q5) ∧ w'.cell? ⟨gE, 2, none⟩ = some (.bool false))) (by kernel_rfl) (by with_reducible exact ⟨d0, d1, d2, d3, d4, s1, s2⟩) (fun hHeld => ?_)
                  generalize wc.drew = wd at *
                  refine wpAnyH_take (i := 0) (v := ?_) rfl (by kernel_rfl) (by kernel_rfl) (by kernel_rfl) (fun _ _ _ h => h) (Or.inl ⟨by rfl, ?_⟩) (by assumption) ?_
                  rotate_left
                  · (intro wS hSw; (try dsimp only at hSw); go_simp; try (with_reducible rfl))
                  try simp only [List.getElem_toArray, List.getElem_cons_succ, List.getElem_cons_zero, Act.put, List.setIfInBounds_toArray, List.set_cons_zero, List.set_cons_succ]
                  refine wpAnyH_take (i := 1) (v := ?_) rfl (by kernel_rfl) (by kernel_rfl) (by kernel_rfl) (fun _ _ _ h => h) (Or.inl ⟨by rfl, ?_⟩) (by assumption) ?_
                  rotate_left
                  · (intro wS hSw; (try dsimp only at hSw); go_simp; try (with_reducible rfl))
                  try simp only [List.getElem_toArray, List.getElem_cons_succ, List.getElem_cons_zero, Act.put, List.setIfInBounds_toArray, List.set_cons_zero, List.set_cons_succ]
                  refine wpAnyH_take (i := 2) (v := ?_) rfl (by kernel_rfl) (by kernel_rfl) (by kernel_rfl) (fun _ _ _ h => h) (Or.inl ⟨by rfl, ?_⟩) (by assumption) ?_
                  rotate_left
                  · (intro wS hSw; (try dsimp only at hSw); go_simp; try (with_reducible rfl))
                  try simp only [List.getElem_toArray, List.getElem_cons_succ, List.getElem_cons_zero, Act.put, List.setIfInBounds_toArray, List.set_cons_zero, List.set_cons_succ]
                  refine wpAnyH_take (i := 3) (v := ?_) rfl (by kernel_rfl) (by kernel_rfl) (by kernel_rfl) (fun _ _ _ h => h) (Or.inl ⟨by rfl, ?_⟩) (by assumption) ?_
                  rotate_left
                  · (intro wS hSw; (try dsimp only at hSw); go_simp; try (with_reducible rfl))
                  try simp only [List.getElem_toArray, List.getElem_cons_succ, List.getElem_cons_zero, Act.put, List.setIfInBounds_toArray, List.set_cons_zero, List.set_cons_succ]
                  refine wpAnyH_ready (rs := [4]) (by kernel_rfl) (by simp) ?_
                  refine AllReadyH.cons rfl (fun K hK => ?_) AllReadyH.nil
                  go_simp
                  (go_at_call 44; (with_reducible refine (validGrid_any k p1 p2 p3 A4 k4 lB A5 k5 lT _ bV _ HV.out HT.out (Kd.C_below HC4.out HX.out) HLE.out.1 (Kd.C_below HC5.out HX.out) HLE.out.2 HL.out.1 HL.out.2).mono ?_); rintro e wz ⟨rfl, hbz⟩; have HX := Aside0.mk (below_then HX.out HX.out.size hbz); have HG := Aside0.mk (HG.out.step hbz); have HI := Aside0.mk (HI.out.below hbz); clear hbz; clear d0 d1 d2 d3 d4 x0 x1 x2 x3 x4 z0 z1 z2 z3 z4 s1 s2; obtain ⟨d0, d1, d2, d3, d4⟩ := HG.out.o5; obtain ⟨x0, x1, x2, x3, x4⟩ := HG.out.r0; obtain ⟨z0, z1, z2, z3, z4⟩ := HG.out.rz; have s1 := cellS78_1 HI.out.1; have s2 := cellS78_2 HI.out.1)
                  refine hK.out _ _ ?_ (fun hHeld2 => ?_)
                  · ((with_reducible exact ⟨d0, d1, d2, d3, d4, s1, s2⟩))
                  clear hK K
                  try simp only [List.getElem_toArray, List.getElem_cons_succ, List.getElem_cons_zero, Act.put, List.setIfInBounds_toArray, List.set_cons_zero, List.set_cons_succ]
                  rename_i hHeld
                  refine wpAnyH_take (i := 5) (v := ?_) rfl (by kernel_rfl) (by kernel_rfl) (by kernel_rfl) (fun _ _ _ h => h) (Or.inl ⟨by rfl, ?_⟩) (by assumption) ?_
                  rotate_left
                  · (intro wS hSw; (try dsimp only at hSw); go_simp; try (with_reducible rfl))
                  try simp only [List.getElem_toArray, List.getElem_cons_succ, List.getElem_cons_zero, Act.put, List.setIfInBounds_toArray, List.set_cons_zero, List.set_cons_succ]
                  refine wpAnyH_take (i := 6) (v := ?_) rfl (by kernel_rfl) (by kernel_rfl) (by kernel_rfl) (fun _ _ _ h => h) (Or.inl ⟨by rfl, ?_⟩) (by assumption) ?_
                  rotate_left
                  · (intro wS hSw; (try dsimp only at hSw); go_simp; try (with_reducible rfl))
                  try simp only [List.getElem_toArray, List.getElem_cons_succ, List.getElem_cons_zero, Act.put, List.setIfInBounds_toArray, List.set_cons_zero, List.set_cons_succ]
                  refine wpAnyH_take (i := 7) (v := ?_) rfl (by kernel_rfl) (by kernel_rfl) (by kernel_rfl) (fun _ _ _ h => h) (Or.inl ⟨by rfl, ?_⟩) (by assumption) ?_
                  rotate_left
                  · (intro wS hSw; (try dsimp only at hSw); go_simp; try (with_reducible rfl))
                  try simp only [List.getElem_toArray, List.getElem_cons_succ, List.getElem_cons_zero, Act.put, List.setIfInBounds_toArray, List.set_cons_zero, List.set_cons_succ]
                  refine wpAnyH_take (i := 8) (v := ?_) rfl (by kernel_rfl) (by kernel_rfl) (by kernel_rfl) (fun _ _ _ h => h) (Or.inl ⟨by rfl, ?_⟩) (by assumption) ?_
                  rotate_left
                  · (intro wS hSw; (try dsimp only at hSw); go_simp; try (with_reducible rfl))
                  try simp only [List.getElem_toArray, List.getElem_cons_succ, List.getElem_cons_zero, Act.put, List.setIfInBounds_toArray, List.set_cons_zero, List.set_cons_succ]
                  refine wpAnyH_take (i := 10) (v := ?_) rfl (by kernel_rfl) (by kernel_rfl) (by kernel_rfl) (fun _ _ _ h => h) (Or.inl ⟨by rfl, ?_⟩) (by assumption) ?_
                  rotate_left
                  · (intro wS hSw; (try dsimp only at hSw); go_simp; try (with_reducible rfl))
                  try simp only [List.getElem_toArray, List.getElem_cons_succ, List.getElem_cons_zero, Act.put, List.setIfInBounds_toArray, List.set_cons_zero, List.set_cons_succ]
                  refine wpAnyH_take (i := 11) (v := ?_) rfl (by kernel_rfl) (by kernel_rfl) (by kernel_rfl) (fun _ _ _ h => h) (Or.inl ⟨by rfl, ?_⟩) (by assumption) ?_
                  rotate_left
                  · (intro wS hSw; (try dsimp only at hSw); go_simp; try (with_reducible rfl))
                  try simp only [List.getElem_toArray, List.getElem_cons_succ, List.getElem_cons_zero, Act.put, List.setIfInBounds_toArray, List.set_cons_zero, List.set_cons_succ]
                  refine wpAnyH_take (i := 12) (v := ?_) rfl (by kernel_rfl) (by kernel_rfl) (by kernel_rfl) (fun _ _ _ h => h) (Or.inl ⟨by rfl, ?_⟩) (by assumption) ?_
                  rotate_left
                  · (intro wS hSw; (try dsimp only at hSw); go_simp; try (with_reducible rfl))
                  try simp only [List.getElem_toArray, List.getElem_cons_succ, List.getElem_cons_zero, Act.put, List.setIfInBounds_toArray, List.set_cons_zero, List.set_cons_succ]
                  refine wpAnyH_take (i := 13) (v := ?_) rfl (by kernel_rfl) (by kernel_rfl) (by kernel_rfl) (fun _ _ _ h => h) (Or.inl ⟨by rfl, ?_⟩) (by assumption) ?_
                  rotate_left
                  · (intro wS hSw; (try dsimp only at hSw); go_simp; rw [if_pos ⟨of_decide_eq_true q0b, of_decide_eq_true q1b⟩]; try (with_reducible rfl))
                  try simp only [List.getElem_toArray, List.getElem_cons_succ, List.getElem_cons_zero, Act.put, List.setIfInBounds_toArray, List.set_cons_zero, List.set_cons_succ]
                  refine wpAnyH_ready (rs := [9]) (by kernel_rfl) (by simp) ?_
                  refine AllReadyH.cons rfl (fun K hK => ?_) AllReadyH.nil
                  go_simp
                  (go_at_call 45; (with_reducible refine (stored_any p1 p2 p3 A4 k4 lB A5 k5 lT _ (Kd.C_below HC4.out HX.out) (Kd.C_below HC5.out HX.out) HQ.out.2 HQ.out.1 HSM.out).mono ?_); rintro e wz ⟨rfl, hbz⟩; have HX := Aside0.mk (below_then HX.out HX.out.size hbz); have HG := Aside0.mk (HG.out.step hbz); have HI := Aside0.mk (HI.out.below hbz); clear hbz; clear d0 d1 d2 d3 d4 x0 x1 x2 x3 x4 z0 z1 z2 z3 z4 s1 s2; obtain ⟨d0, d1, d2, d3, d4⟩ := HG.out.o5; obtain ⟨x0, x1, x2, x3, x4⟩ := HG.out.r0; obtain ⟨z0, z1, z2, z3, z4⟩ := HG.out.rz; have s1 := cellS78_1 HI.out.1; have s2 := cellS78_2 HI.out.1)
                  refine hK.out _ _ ?_ (fun hHeld2 => ?_)
                  · ((with_reducible exact ⟨d0, d1, d2, d3, d4, s1, s2⟩))
                  clear hK K
                  try simp only [List.getElem_toArray, List.getElem_cons_succ, List.getElem_cons_zero, Act.put, List.setIfInBounds_toArray, List.set_cons_zero, List.set_cons_succ]
                  rename_i hHeld
                  refine wpAnyH_take (i := 14) (v := ?_) rfl (by kernel_rfl) (by kernel_rfl) (by kernel_rfl) (fun _ _ _ h => h) (Or.inl ⟨by rfl, ?_⟩) (by assumption) ?_
                  rotate_left
                  · (intro wS hSw; (try dsimp only at hSw); go_simp; try (with_reducible rfl))
                  try simp only [List.getElem_toArray, List.getElem_cons_succ, List.getElem_cons_zero, Act.put, List.setIfInBounds_toArray, List.set_cons_zero, List.set_cons_succ]
                  refine wpAnyH_take (i := 15) (v := ?_) rfl (by kernel_rfl) (by kernel_rfl) (by kernel_rfl) (fun _ _ _ h => h) (Or.inl ⟨by rfl, ?_⟩) (by assumption) ?_
                  rotate_left
                  · (intro wS hSw; (try dsimp only at hSw); go_simp; try (with_reducible rfl))
                  try simp only [List.getElem_toArray, List.getElem_cons_succ, List.getElem_cons_zero, Act.put, List.setIfInBounds_toArray, List.set_cons_zero, List.set_cons_succ]
                  refine wpAnyH_done (by kernel_rfl) ?_ _
                  go_upto_region 15 with (fail)
                  replace HX := Aside0.mk (below_then HX.out HX.out.size (below_drew1 (Below.refl _ _)))
                  replace HG := Aside0.mk HG.out.drew
                  replace HI := Aside0.mk HI.out.drew
                  clear d0 d1 d2 d3 d4 x0 x1 x2 x3 x4 z0 z1 z2 z3 z4 s1 s2
                  obtain ⟨d0, d1, d2, d3, d4⟩ := HG.out.o5
                  obtain ⟨x0, x1, x2, x3, x4⟩ := HG.out.r0
                  obtain ⟨z0, z1, z2, z3, z4⟩ := HG.out.rz
                  have s1 := cellS78_1 HI.out.1
                  have s2 := cellS78_2 HI.out.1
                  refine wp_region_held_drew (S := (fun w' => w'.cell? ⟨gO, 0, none⟩ = some (.complex .f32 p1.re p1.im) ∧ w'.cell? ⟨gO, 1, none⟩ = some (.complex .f32 p2.re p2.im) ∧ w'.cell? ⟨gO, 2, none⟩ = some (.complex .f32 p3.re p3.im) ∧ w'.cell? ⟨gO, 3, none⟩ = some (.slice A4 lB.length k4) ∧ w'.cell? ⟨gO, 4, none⟩ = some (.slice A5 lT.length k5) ∧ w'.cell? ⟨gE, 1, none⟩ = some (.int .i64 q5) ∧ w'.cell? ⟨gE, 2, none⟩ = some (.bool false))) (by kernel_rfl) (by with_reducible exact ⟨d0, d1, d2, d3, d4, s1, s2⟩) (fun hHeld => ?_)
                  generalize wz.drew = we at *
                  refine wpAnyH_take (i := 0) (v := ?_) rfl (by kernel_rfl) (by kernel_rfl) (by kernel_rfl) (fun _ _ _ h => h) (Or.inl ⟨by rfl, ?_⟩) (by assumption) ?_
                  rotate_left
                  · (intro wS hSw; (try dsimp only at hSw); go_simp; try (with_reducible rfl))
                  try simp only [List.getElem_toArray, List.getElem_cons_succ, List.getElem_cons_zero, Act.put, List.setIfInBounds_toArray, List.set_cons_zero, List.set_cons_succ]
                  refine wpAnyH_take (i := 1) (v := ?_) rfl (by kernel_rfl) (by kernel_rfl) (by kernel_rfl) (fun _ _ _ h => h) (Or.inl ⟨by rfl, ?_⟩) (by assumption) ?_
                  rotate_left
                  · (intro wS hSw; (try dsimp only at hSw); go_simp; try (with_reducible rfl))
                  try simp only [List.getElem_toArray, List.getElem_cons_succ, List.getElem_cons_zero, Act.put, List.setIfInBounds_toArray, List.set_cons_zero, List.set_cons_succ]
                  refine wpAnyH_take (i := 2) (v := ?_) rfl (by kernel_rfl) (by kernel_rfl) (by kernel_rfl) (fun _ _ _ h => h) (Or.inl ⟨by rfl, ?_⟩) (by assumption) ?_
                  rotate_left
                  · (intro wS hSw; (try dsimp only at hSw); go_simp; try (with_reducible rfl))
                  try simp only [List.getElem_toArray, List.getElem_cons_succ, List.getElem_cons_zero, Act.put, List.setIfInBounds_toArray, List.set_cons_zero, List.set_cons_succ]
                  refine wpAnyH_ready (rs := [3]) (by kernel_rfl) (by simp) ?_
                  refine AllReadyH.cons rfl (fun K hK => ?_) AllReadyH.nil
                  go_simp
                  refine hK.out _ _ ?_ (fun hHeld2 => ?_)
                  · (exact ⟨(far5 hne1 _ _ _ _ _).trans d0, (far5 hne1 _ _ _ _ _).trans d1, (far5 hne1 _ _ _ _ _).trans d2, (far5 hne1 _ _ _ _ _).trans d3, (far5 hne1 _ _ _ _ _).trans d4, (far5 hne2 _ _ _ _ _).trans s1, (far5 hne2 _ _ _ _ _).trans s2⟩)
                  clear hK K
                  try simp only [List.getElem_toArray, List.getElem_cons_succ, List.getElem_cons_zero, Act.put, List.setIfInBounds_toArray, List.set_cons_zero, List.set_cons_succ]
                  rename_i hHeld
                  refine wpAnyH_take (i := 4) (v := ?_) rfl (by kernel_rfl) (by kernel_rfl) (by kernel_rfl) (fun _ _ _ h => h) (Or.inl ⟨by rfl, ?_⟩) (by assumption) ?_
                  rotate_left
                  · (intro wS hSw; (try dsimp only at hSw); go_simp; try (with_reducible rfl))
                  try simp only [List.getElem_toArray, List.getElem_cons_succ, List.getElem_cons_zero, Act.put, List.setIfInBounds_toArray, List.set_cons_zero, List.set_cons_succ]
                  refine wpAnyH_take (i := 5) (v := ?_) rfl (by kernel_rfl) (by kernel_rfl) (by kernel_rfl) (fun _ _ _ h => h) (Or.inl ⟨by rfl, ?_⟩) (by assumption) ?_
                  rotate_left
                  · (intro wS hSw; (try dsimp only at hSw); go_simp; try (with_reducible rfl))
                  try simp only [List.getElem_toArray, List.getElem_cons_succ, List.getElem_cons_zero, Act.put, List.setIfInBounds_toArray, List.set_cons_zero, List.set_cons_succ]
                  refine wpAnyH_done (by kernel_rfl) ?_ _
                  go_wp2
                  refine bodyPost_ret (results_ctt rfl _ _ w.heap.size 30 #[.complex .f32 p1.re p1.im, .complex .f32 p2.re p2.im, .complex .f32 p3.re p3.im, .slice A4 lB.length k4, .slice A5 lT.length k5] (0, 0) _ rfl (HG.out.five _ _ _ _ _ rfl).1 Try.underlying30 rfl (by kernel_rfl)) rfl ?_
                  exact ⟨.slice A4 lB.length k4, .slice A5 lT.length k5, by rfl, (HG.out.five _ _ _ _ _ rfl).2.1, (HG.out.five _ _ _ _ _ rfl).2.2.1, (HG.out.five _ _ _ _ _ rfl).2.2.2⟩
                · rw [if_neg ce] at H
                  unfold noGrd at H
                  simp only [Option.some.injEq, Prod.mk.injEq] at H
                  obtain ⟨rfl, rfl, rfl, rfl, rfl, rfl, rfl⟩ := H
                  have ceb : ((headT p1 p2 p3 lB lT).toList == (a0.extract 0 q5.toNat).toList) = false := by
                    have := (Go.Lib.bytes_beq_false_iff (headT p1 p2 p3 lB lT) (a0.extract 0 q5.toNat)).2 ce
                    exact this
                  have cen : ((headT p1 p2 p3 lB lT).toList != (a0.extract 0 q5.toNat).toList) = true := by
                    unfold bne; rw [ceb]; rfl
                  clear ce
                  refine wp_region_held_drew (S := (fun w' => w'.cell? ⟨gO, 0, none⟩ = some (.complex .f32 p1.re p1.im) ∧ w'.cell? ⟨gO, 1, none⟩ = some (.complex .f32 p2.re p2.im) ∧ w'.cell? ⟨gO, 2, none⟩ = some (.complex .f32 p3.re p3.im) ∧ w'.cell? ⟨gO, 3, none⟩ = some (.slice A4 lB.length k4) ∧ w'.cell? ⟨gO, 4, none⟩ = some (.slice A5 lT.length k5) ∧ w'.cell? ⟨gE, 1, none⟩ = some (.int .i64 q5) ∧ w'.cell? ⟨gE, 2, none⟩ = some (.bool false))) (by kernel_rfl) (by with_reducible exact ⟨d0, d1, d2, d3, d4, s1, s2⟩) (fun hHeld => ?_)
                  generalize wc.drew = wd at *
                  refine wpAnyH_take (i := 0) (v := ?_) rfl (by kernel_rfl) (by kernel_rfl) (by kernel_rfl) (fun _ _ _ h => h) (Or.inl ⟨by rfl, ?_⟩) (by assumption) ?_
                  rotate_left
                  · (intro wS hSw; (try dsimp only at hSw); go_simp; try (with_reducible rfl))
                  try simp only [List.getElem_toArray, List.getElem_cons_succ, List.getElem_cons_zero, Act.put, List.setIfInBounds_toArray, List.set_cons_zero, List.set_cons_succ]
                  refine wpAnyH_take (i := 1) (v := ?_) rfl (by kernel_rfl) (by kernel_rfl) (by kernel_rfl) (fun _ _ _ h => h) (Or.inl ⟨by rfl, ?_⟩) (by assumption) ?_
                  rotate_left
                  · (intro wS hSw; (try dsimp only at hSw); go_simp; try (with_reducible rfl))
                  try simp only [List.getElem_toArray, List.getElem_cons_succ, List.getElem_cons_zero, Act.put, List.setIfInBounds_toArray, List.set_cons_zero, List.set_cons_succ]
                  refine wpAnyH_take (i := 2) (v := ?_) rfl (by kernel_rfl) (by kernel_rfl) (by kernel_rfl) (fun _ _ _ h => h) (Or.inl ⟨by rfl, ?_⟩) (by assumption) ?_
                  rotate_left
                  · (intro wS hSw; (try dsimp only at hSw); go_simp; try (with_reducible rfl))
                  try simp only [List.getElem_toArray, List.getElem_cons_succ, List.getElem_cons_zero, Act.put, List.setIfInBounds_toArray, List.set_cons_zero, List.set_cons_succ]
                  refine wpAnyH_take (i := 3) (v := ?_) rfl (by kernel_rfl) (by kernel_rfl) (by kernel_rfl) (fun _ _ _ h => h) (Or.inl ⟨by rfl, ?_⟩) (by assumption) ?_
                  rotate_left
                  · (intro wS hSw; (try dsimp only at hSw); go_simp; try (with_reducible rfl))
                  try simp only [List.getElem_toArray, List.getElem_cons_succ, List.getElem_cons_zero, Act.put, List.setIfInBounds_toArray, List.set_cons_zero, List.set_cons_succ]
                  refine wpAnyH_ready (rs := [4]) (by kernel_rfl) (by simp) ?_
                  refine AllReadyH.cons rfl (fun K hK => ?_) AllReadyH.nil
                  go_simp
                  (go_at_call 44; (with_reducible refine (validGrid_any k p1 p2 p3 A4 k4 lB A5 k5 lT _ bV _ HV.out HT.out (Kd.C_below HC4.out HX.out) HLE.out.1 (Kd.C_below HC5.out HX.out) HLE.out.2 HL.out.1 HL.out.2).mono ?_); rintro e wz ⟨rfl, hbz⟩; have HX := Aside0.mk (below_then HX.out HX.out.size hbz); have HG := Aside0.mk (HG.out.step hbz); have HI := Aside0.mk (HI.out.below hbz); clear hbz; clear d0 d1 d2 d3 d4 x0 x1 x2 x3 x4 z0 z1 z2 z3 z4 s1 s2; obtain ⟨d0, d1, d2, d3, d4⟩ := HG.out.o5; obtain ⟨x0, x1, x2, x3, x4⟩ := HG.out.r0; obtain ⟨z0, z1, z2, z3, z4⟩ := HG.out.rz; have s1 := cellS78_1 HI.out.1; have s2 := cellS78_2 HI.out.1)
                  refine hK.out _ _ ?_ (fun hHeld2 => ?_)
                  · ((with_reducible exact ⟨d0, d1, d2, d3, d4, s1, s2⟩))
                  clear hK K
                  try simp only [List.getElem_toArray, List.getElem_cons_succ, List.getElem_cons_zero, Act.put, List.setIfInBounds_toArray, List.set_cons_zero, List.set_cons_succ]
                  rename_i hHeld
                  refine wpAnyH_take (i := 5) (v := ?_) rfl (by kernel_rfl) (by kernel_rfl) (by kernel_rfl) (fun _ _ _ h => h) (Or.inl ⟨by rfl, ?_⟩) (by assumption) ?_
                  rotate_left
                  · (intro wS hSw; (try dsimp only at hSw); go_simp; try (with_reducible rfl))
                  try simp only [List.getElem_toArray, List.getElem_cons_succ, List.getElem_cons_zero, Act.put, List.setIfInBounds_toArray, List.set_cons_zero, List.set_cons_succ]
                  refine wpAnyH_take (i := 6) (v := ?_) rfl (by kernel_rfl) (by kernel_rfl) (by kernel_rfl) (fun _ _ _ h => h) (Or.inl ⟨by rfl, ?_⟩) (by assumption) ?_
                  rotate_left
                  · (intro wS hSw; (try dsimp only at hSw); go_simp; try (with_reducible rfl))
                  try simp only [List.getElem_toArray, List.getElem_cons_succ, List.getElem_cons_zero, Act.put, List.setIfInBounds_toArray, List.set_cons_zero, List.set_cons_succ]
                  refine wpAnyH_take (i := 7) (v := ?_) rfl (by kernel_rfl) (by kernel_rfl) (by kernel_rfl) (fun _ _ _ h => h) (Or.inl ⟨by rfl, ?_⟩) (by assumption) ?_
                  rotate_left
                  · (intro wS hSw; (try dsimp only at hSw); go_simp; try (with_reducible rfl))
                  try simp only [List.getElem_toArray, List.getElem_cons_succ, List.getElem_cons_zero, Act.put, List.setIfInBounds_toArray, List.set_cons_zero, List.set_cons_succ]
                  refine wpAnyH_take (i := 8) (v := ?_) rfl (by kernel_rfl) (by kernel_rfl) (by kernel_rfl) (fun _ _ _ h => h) (Or.inl ⟨by rfl, ?_⟩) (by assumption) ?_
                  rotate_left
                  · (intro wS hSw; (try dsimp only at hSw); go_simp; try (with_reducible rfl))
                  try simp only [List.getElem_toArray, List.getElem_cons_succ, List.getElem_cons_zero, Act.put, List.setIfInBounds_toArray, List.set_cons_zero, List.set_cons_succ]
                  refine wpAnyH_take (i := 10) (v := ?_) rfl (by kernel_rfl) (by kernel_rfl) (by kernel_rfl) (fun _ _ _ h => h) (Or.inl ⟨by rfl, ?_⟩) (by assumption) ?_
                  rotate_left
                  · (intro wS hSw; (try dsimp only at hSw); go_simp; try (with_reducible rfl))
                  try simp only [List.getElem_toArray, List.getElem_cons_succ, List.getElem_cons_zero, Act.put, List.setIfInBounds_toArray, List.set_cons_zero, List.set_cons_succ]
                  refine wpAnyH_take (i := 11) (v := ?_) rfl (by kernel_rfl) (by kernel_rfl) (by kernel_rfl) (fun _ _ _ h => h) (Or.inl ⟨by rfl, ?_⟩) (by assumption) ?_
                  rotate_left
                  · (intro wS hSw; (try dsimp only at hSw); go_simp; try (with_reducible rfl))
                  try simp only [List.getElem_toArray, List.getElem_cons_succ, List.getElem_cons_zero, Act.put, List.setIfInBounds_toArray, List.set_cons_zero, List.set_cons_succ]
                  refine wpAnyH_take (i := 12) (v := ?_) rfl (by kernel_rfl) (by kernel_rfl) (by kernel_rfl) (fun _ _ _ h => h) (Or.inl ⟨by rfl, ?_⟩) (by assumption) ?_
                  rotate_left
                  · (intro wS hSw; (try dsimp only at hSw); go_simp; try (with_reducible rfl))
                  try simp only [List.getElem_toArray, List.getElem_cons_succ, List.getElem_cons_zero, Act.put, List.setIfInBounds_toArray, List.set_cons_zero, List.set_cons_succ]
                  refine wpAnyH_take (i := 13) (v := ?_) rfl (by kernel_rfl) (by kernel_rfl) (by kernel_rfl) (fun _ _ _ h => h) (Or.inl ⟨by rfl, ?_⟩) (by assumption) ?_
                  rotate_left
                  · (intro wS hSw; (try dsimp only at hSw); go_simp; rw [if_pos ⟨of_decide_eq_true q0b, of_decide_eq_true q1b⟩]; try (with_reducible rfl))
                  try simp only [List.getElem_toArray, List.getElem_cons_succ, List.getElem_cons_zero, Act.put, List.setIfInBounds_toArray, List.set_cons_zero, List.set_cons_succ]
                  refine wpAnyH_ready (rs := [9]) (by kernel_rfl) (by simp) ?_
                  refine AllReadyH.cons rfl (fun K hK => ?_) AllReadyH.nil
                  go_simp
                  (go_at_call 45; (with_reducible refine (stored_any p1 p2 p3 A4 k4 lB A5 k5 lT _ (Kd.C_below HC4.out HX.out) (Kd.C_below HC5.out HX.out) HQ.out.2 HQ.out.1 HSM.out).mono ?_); rintro e wz ⟨rfl, hbz⟩; have HX := Aside0.mk (below_then HX.out HX.out.size hbz); have HG := Aside0.mk (HG.out.step hbz); have HI := Aside0.mk (HI.out.below hbz); clear hbz; clear d0 d1 d2 d3 d4 x0 x1 x2 x3 x4 z0 z1 z2 z3 z4 s1 s2; obtain ⟨d0, d1, d2, d3, d4⟩ := HG.out.o5; obtain ⟨x0, x1, x2, x3, x4⟩ := HG.out.r0; obtain ⟨z0, z1, z2, z3, z4⟩ := HG.out.rz; have s1 := cellS78_1 HI.out.1; have s2 := cellS78_2 HI.out.1)
                  refine hK.out _ _ ?_ (fun hHeld2 => ?_)
                  · ((with_reducible exact ⟨d0, d1, d2, d3, d4, s1, s2⟩))
                  clear hK K
                  try simp only [List.getElem_toArray, List.getElem_cons_succ, List.getElem_cons_zero, Act.put, List.setIfInBounds_toArray, List.set_cons_zero, List.set_cons_succ]
                  rename_i hHeld
                  refine wpAnyH_take (i := 14) (v := ?_) rfl (by kernel_rfl) (by kernel_rfl) (by kernel_rfl) (fun _ _ _ h => h) (Or.inl ⟨by rfl, ?_⟩) (by assumption) ?_
                  rotate_left
                  · (intro wS hSw; (try dsimp only at hSw); go_simp; try (with_reducible rfl))
                  try simp only [List.getElem_toArray, List.getElem_cons_succ, List.getElem_cons_zero, Act.put, List.setIfInBounds_toArray, List.set_cons_zero, List.set_cons_succ]
                  refine wpAnyH_take (i := 15) (v := ?_) rfl (by kernel_rfl) (by kernel_rfl) (by kernel_rfl) (fun _ _ _ h => h) (Or.inl ⟨by rfl, ?_⟩) (by assumption) ?_
                  rotate_left
                  · (intro wS hSw; (try dsimp only at hSw); go_simp; try (with_reducible rfl))
                  try simp only [List.getElem_toArray, List.getElem_cons_succ, List.getElem_cons_zero, Act.put, List.setIfInBounds_toArray, List.set_cons_zero, List.set_cons_succ]
                  refine wpAnyH_done (by kernel_rfl) ?_ _
                  go_wp2
                  refine bodyPost_ret (results_ctt rfl _ _ w.heap.size 30 #[.complex .f32 0 0, .complex .f32 0 0, .complex .f32 0 0, .slice none 0 0, .slice none 0 0] (0, 0) _ rfl (HG.out.five _ _ _ _ _ rfl).1 Try.underlying30 rfl (by kernel_rfl)) rfl ?_
                  exact ⟨.slice none 0 0, .slice none 0 0, rfl, Kd.R_nil _ _ _ _ _, Kd.R_nil _ _ _ _ _, (HG.out.five _ _ _ _ _ rfl).2.2.2⟩
              · rw [if_neg cq] at H
                exact absurd H (by simp)
        · rw [if_neg cL] at H
          cases g5 with
          | false => rw [if_neg (by simp)] at H; exact absurd H (by simp)
          | true =>
            rw [if_pos rfl] at H
            unfold noGrd at H
            simp only [Option.some.injEq, Prod.mk.injEq] at H
            obtain ⟨rfl, rfl, rfl, rfl, rfl, rfl, rfl⟩ := H
            refine wp_region_held_drew (S := (fun w' => w'.cell? ⟨gO, 0, none⟩ = some (.complex .f32 p1.re p1.im) ∧ w'.cell? ⟨gO, 1, none⟩ = some (.complex .f32 p2.re p2.im) ∧ w'.cell? ⟨gO, 2, none⟩ = some (.complex .f32 p3.re p3.im) ∧ w'.cell? ⟨gO, 3, none⟩ = some (.slice A4 lB.length k4) ∧ w'.cell? ⟨gO, 4, none⟩ = some (.slice A5 lT.length k5) ∧ w'.cell? ⟨gE, 1, none⟩ = some (.int .i64 q5) ∧ w'.cell? ⟨gE, 2, none⟩ = some (.bool true))) (by kernel_rfl) (by with_reducible exact ⟨d0, d1, d2, d3, d4, s1, s2⟩) (fun hHeld => ?_)
            generalize wc.drew = wd at *
            refine wpAnyH_take (i := 0) (v := ?_) rfl (by kernel_rfl) (by kernel_rfl) (by kernel_rfl) (fun _ _ _ h => h) (Or.inl ⟨by rfl, ?_⟩) (by assumption) ?_
            rotate_left
            · (intro wS hSw; (try dsimp only at hSw); go_simp; try (with_reducible rfl))
            try simp only [List.getElem_toArray, List.getElem_cons_succ, List.getElem_cons_zero, Act.put, List.setIfInBounds_toArray, List.set_cons_zero, List.set_cons_succ]
            refine wpAnyH_take (i := 1) (v := ?_) rfl (by kernel_rfl) (by kernel_rfl) (by kernel_rfl) (fun _ _ _ h => h) (Or.inl ⟨by rfl, ?_⟩) (by assumption) ?_
            rotate_left
            · (intro wS hSw; (try dsimp only at hSw); go_simp; try (with_reducible rfl))
            try simp only [List.getElem_toArray, List.getElem_cons_succ, List.getElem_cons_zero, Act.put, List.setIfInBounds_toArray, List.set_cons_zero, List.set_cons_succ]
            refine wpAnyH_take (i := 2) (v := ?_) rfl (by kernel_rfl) (by kernel_rfl) (by kernel_rfl) (fun _ _ _ h => h) (Or.inl ⟨by rfl, ?_⟩) (by assumption) ?_
            rotate_left
            · (intro wS hSw; (try dsimp only at hSw); go_simp; try (with_reducible rfl))
            try simp only [List.getElem_toArray, List.getElem_cons_succ, List.getElem_cons_zero, Act.put, List.setIfInBounds_toArray, List.set_cons_zero, List.set_cons_succ]
            refine wpAnyH_take (i := 3) (v := undef) rfl (by kernel_rfl) (by kernel_rfl) (by kernel_rfl) (fun _ _ _ h => h) (Or.inr ⟨by kernel_rfl, rfl⟩) (by assumption) ?_
            try simp only [List.getElem_toArray, List.getElem_cons_succ, List.getElem_cons_zero, Act.put, List.setIfInBounds_toArray, List.set_cons_zero, List.set_cons_succ]
            refine wpAnyH_take (i := 4) (v := undef) rfl (by kernel_rfl) (by kernel_rfl) (by kernel_rfl) (fun _ _ _ h => h) (Or.inr ⟨by kernel_rfl, rfl⟩) (by assumption) ?_
            try simp only [List.getElem_toArray, List.getElem_cons_succ, List.getElem_cons_zero, Act.put, List.setIfInBounds_toArray, List.set_cons_zero, List.set_cons_succ]
            refine wpAnyH_take (i := 5) (v := undef) rfl (by kernel_rfl) (by kernel_rfl) (by kernel_rfl) (fun _ _ _ h => h) (Or.inr ⟨by kernel_rfl, rfl⟩) (by assumption) ?_
            try simp only [List.getElem_toArray, List.getElem_cons_succ, List.getElem_cons_zero, Act.put, List.setIfInBounds_toArray, List.set_cons_zero, List.set_cons_succ]
            refine wpAnyH_take (i := 6) (v := ?_) rfl (by kernel_rfl) (by kernel_rfl) (by kernel_rfl) (fun _ _ _ h => h) (Or.inl ⟨by rfl, ?_⟩) (by assumption) ?_
            rotate_left
            · (intro wS hSw; (try dsimp only at hSw); go_simp; try (with_reducible rfl))
            try simp only [List.getElem_toArray, List.getElem_cons_succ, List.getElem_cons_zero, Act.put, List.setIfInBounds_toArray, List.set_cons_zero, List.set_cons_succ]
            refine wpAnyH_take (i := 7) (v := ?_) rfl (by kernel_rfl) (by kernel_rfl) (by kernel_rfl) (fun _ _ _ h => h) (Or.inl ⟨by rfl, ?_⟩) (by assumption) ?_
            rotate_left
            · (intro wS hSw; (try dsimp only at hSw); go_simp; try (with_reducible rfl))
            try simp only [List.getElem_toArray, List.getElem_cons_succ, List.getElem_cons_zero, Act.put, List.setIfInBounds_toArray, List.set_cons_zero, List.set_cons_succ]
            refine wpAnyH_take (i := 8) (v := undef) rfl (by kernel_rfl) (by kernel_rfl) (by kernel_rfl) (fun _ _ _ h => h) (Or.inr ⟨by kernel_rfl, rfl⟩) (by assumption) ?_
            try simp only [List.getElem_toArray, List.getElem_cons_succ, List.getElem_cons_zero, Act.put, List.setIfInBounds_toArray, List.set_cons_zero, List.set_cons_succ]
            refine wpAnyH_take (i := 9) (v := undef) rfl (by kernel_rfl) (by kernel_rfl) (by kernel_rfl) (fun _ _ _ h => h) (Or.inr ⟨by kernel_rfl, rfl⟩) (by assumption) ?_
            try simp only [List.getElem_toArray, List.getElem_cons_succ, List.getElem_cons_zero, Act.put, List.setIfInBounds_toArray, List.set_cons_zero, List.set_cons_succ]
            refine wpAnyH_take (i := 10) (v := undef) rfl (by kernel_rfl) (by kernel_rfl) (by kernel_rfl) (fun _ _ _ h => h) (Or.inr ⟨by kernel_rfl, rfl⟩) (by assumption) ?_
            try simp only [List.getElem_toArray, List.getElem_cons_succ, List.getElem_cons_zero, Act.put, List.setIfInBounds_toArray, List.set_cons_zero, List.set_cons_succ]
            refine wpAnyH_take (i := 11) (v := undef) rfl (by kernel_rfl) (by kernel_rfl) (by kernel_rfl) (fun _ _ _ h => h) (Or.inr ⟨by kernel_rfl, rfl⟩) (by assumption) ?_
            try simp only [List.getElem_toArray, List.getElem_cons_succ, List.getElem_cons_zero, Act.put, List.setIfInBounds_toArray, List.set_cons_zero, List.set_cons_succ]
            refine wpAnyH_take (i := 12) (v := undef) rfl (by kernel_rfl) (by kernel_rfl) (by kernel_rfl) (fun _ _ _ h => h) (Or.inr ⟨by kernel_rfl, rfl⟩) (by assumption) ?_
            try simp only [List.getElem_toArray, List.getElem_cons_succ, List.getElem_cons_zero, Act.put, List.setIfInBounds_toArray, List.set_cons_zero, List.set_cons_succ]
            refine wpAnyH_take (i := 13) (v := undef) rfl (by kernel_rfl) (by kernel_rfl) (by kernel_rfl) (fun _ _ _ h => h) (Or.inr ⟨by kernel_rfl, rfl⟩) (by assumption) ?_
            try simp only [List.getElem_toArray, List.getElem_cons_succ, List.getElem_cons_zero, Act.put, List.setIfInBounds_toArray, List.set_cons_zero, List.set_cons_succ]
            refine wpAnyH_take (i := 14) (v := undef) rfl (by kernel_rfl) (by kernel_rfl) (by kernel_rfl) (fun _ _ _ h => h) (Or.inr ⟨by kernel_rfl, rfl⟩) (by assumption) ?_
            try simp only [List.getElem_toArray, List.getElem_cons_succ, List.getElem_cons_zero, Act.put, List.setIfInBounds_toArray, List.set_cons_zero, List.set_cons_succ]
            refine wpAnyH_take (i := 15) (v := ?_) rfl (by kernel_rfl) (by kernel_rfl) (by kernel_rfl) (fun _ _ _ h => h) (Or.inl ⟨by rfl, ?_⟩) (by assumption) ?_
            rotate_left
            · (intro wS hSw; (try dsimp only at hSw); go_simp; try (with_reducible rfl))
            try simp only [List.getElem_toArray, List.getElem_cons_succ, List.getElem_cons_zero, Act.put, List.setIfInBounds_toArray, List.set_cons_zero, List.set_cons_succ]
            refine wpAnyH_done (by kernel_rfl) ?_ _
            go_wp2
            refine bodyPost_ret (results_ctt rfl _ _ w.heap.size 30 #[.complex .f32 0 0, .complex .f32 0 0, .complex .f32 0 0, .slice none 0 0, .slice none 0 0] (0, 0) _ rfl (HG.out.five _ _ _ _ _ rfl).1 Try.underlying30 rfl (by kernel_rfl)) rfl ?_
            exact ⟨.slice none 0 0, .slice none 0 0, rfl, Kd.R_nil _ _ _ _ _, Kd.R_nil _ _ _ _ _, (HG.out.five _ _ _ _ _ rfl).2.2.2⟩
end Go.Proofs.Ytkkokkmhldceiaa.M
