/- The bytes of a grid, as the program writes them. -/
import Derived.Test.YtkkokkmhldceiaaAHPut
import Derived.Test.YtkkokkmhldceiaaAHHead
namespace Go.Proofs.Ytkkokkmhldceiaa.M
open Go.RowKit Go.Proofs.YtkkokkmhldceiaaW.PrintWords Go.Proofs.YtkkokkmhldceiaaW.PrintLast Go.Proofs.YtkkokkmhldceiaaW.PrintMore
set_option linter.unusedVariables false
set_option linter.unusedSimpArgs false

theorem isBuilder_below {T e : TypeId} {B b : Nat} {bs : List Value} {w w' : World} (h : Lib.IsBuilder T e B b bs w) (hb : Below w.heap.size w w') : Lib.IsBuilder T e B b bs w' := by
  have mv : ∀ p, Lib.BuilderAt T e B b p bs w → Lib.BuilderAt T e B b p bs w' := by
    rintro p ⟨h0, v, h1, h2, h3⟩
    exact ⟨h0, v, blk_below h1 hb, pw_own_below h2 hb, h3⟩
  rcases h with h | h
  · exact Or.inl (mv _ h)
  · exact Or.inr (mv _ h)
theorem isBuilder_below2 {T e : TypeId} {B b : Nat} {bs : List Value} {w w' : World} (hb : Below w.heap.size w w') (h : Lib.IsBuilder T e B b bs w) : Lib.IsBuilder T e B b bs w' := isBuilder_below h hb
theorem blk_below2 {w w1 : World} {g : Nat} {o : Obj} (hb : Below w.heap.size w w1) (h : w.heap[g]? = some o) : w1.heap[g]? = some o := blk_below h hb
theorem strCells_append (a b : ByteArray) : Lib.strCells (a ++ b) = Lib.strCells a ++ Lib.strCells b := by
  unfold Lib.strCells
  rw [ByteArray.data_append, Array.toList_append, List.map_append]
theorem mark4_size : mark4.size = 4 := rfl
theorem empty_size : (⟨#[]⟩ : ByteArray).size = 0 := rfl
theorem head_cells (s0 s1 s2 : Cx) (n : Nat) : Lib.strCells ⟨#[]⟩ ++ cellsOf [mark4, phB s0 s1 s2, wordB n 1] = Lib.strCells (headT0 s0 s1 s2 n) := by
  unfold headT0
  rw [strCells_append, strCells_append]
  simp [cellsOf, Lib.strCells]
theorem bus_cells (T : ByteArray) (x : S69) : Lib.strCells T ++ cellsOf [wordB (x.f0 + 1) 1, cxB x.f1, cxB x.f2, wordB x.f3 1, phB x.f4.f0 x.f4.f1 x.f4.f2, wordB x.f5 4] = Lib.strCells ((T ++ busT1 x) ++ busT2 x) := by
  unfold busT1 busT2
  simp only [strCells_append, cellsOf, List.flatMap_cons, List.flatMap_nil, List.append_nil, List.append_assoc]
theorem one_cells (T : ByteArray) (n : Nat) : Lib.strCells T ++ cellsOf [wordB n 1] = Lib.strCells (T ++ wordB n 1) := by
  simp only [strCells_append, cellsOf, List.flatMap_cons, List.flatMap_nil, List.append_nil]
theorem tie_cells (T : ByteArray) (x : S72) : Lib.strCells T ++ cellsOf [wordB x.f0 1, wordB x.f1 1, cxB x.f2, cxB x.f3, wordB x.f4 4] = Lib.strCells (T ++ tieT x) := by
  unfold tieT
  simp only [strCells_append, cellsOf, List.flatMap_cons, List.flatMap_nil, List.append_nil, List.append_assoc]
theorem string_back (T : ByteArray) : (⟨T.data.toList.toArray⟩ : ByteArray) = T := by cases T; simp
theorem blk_nb (W : World) (o : Obj) : (W.alloc o).heap[W.heap.size]? = some o := heap_alloc_new W o

set_option maxHeartbeats 8000000 in
set_option maxRecDepth 100000 in
theorem stored_any (s0 s1 s2 : Cx) (A4 : Option Addr) (c4 : Nat) (l4 : List S69) (A5 : Option Addr) (c5 : Nat) (l5 : List S72) (w : World)
    (hC4 : Kd.C k69 w A4 l4.length l4) (hC5 : Kd.C k72 w A5 l5.length l5) (hn4 : l4.length ≤ 100) (hn5 : l5.length ≤ 100)
    (hb4 : ∀ i : Nat, i < l4.length → -1 ≤ (rd_T69 l4 i).f0 ∧ (rd_T69 l4 i).f0 ≤ 1000) :
    Calls Try.prog 45 #[.agg #[.complex .f32 s0.re s0.im, .complex .f32 s1.re s1.im, .complex .f32 s2.re s2.im, .slice A4 l4.length c4, .slice A5 l5.length c5]] w fun e w' => e = .returned (.string (headT s0 s1 s2 l4 l5)) ∧ Below w.heap.size w w' := by
  generalize hr : headT s0 s1 s2 l4 l5 = r
  have HR := Lib.hid hr
  have HC4 := Aside0.mk hC4
  have HC5 := Aside0.mk hC5
  have HB4 := Aside0.mk hb4
  clear hr hC4 hC5 hb4
  have hmf : ∀ (fn : Fn) (first cap : Array Value) (w : World), (Instr.makeFunc fn first cap).run Try.prog w = .ok (.func fn first cap) w := fun _ _ _ _ => rfl
  obtain ⟨W0, hW0⟩ : ∃ W0 : World, (w.alloc (.cells #[.complex .f32 s0.re s0.im, .complex .f32 s1.re s1.im, .complex .f32 s2.re s2.im, .slice A4 l4.length c4, .slice A5 l5.length c5] 30)).alloc (.cells #[.pointer none, .slice none 0 0] 112) = W0 := ⟨_, rfl⟩
  have hsz : w.heap.size + 2 ≤ W0.heap.size := by rw [← hW0]; simp
  have HBW : Aside0 (Below w.heap.size w W0) := ⟨by rw [← hW0]; exact below_alloc (below_alloc (Below.refl _ _) _) _⟩
  have HBX : Aside0 (W0.heap[w.heap.size]? = some (.cells #[.complex .f32 s0.re s0.im, .complex .f32 s1.re s1.im, .complex .f32 s2.re s2.im, .slice A4 l4.length c4, .slice A5 l5.length c5] 30 (0, 0))) := ⟨by rw [← hW0]; exact blk_alloc (blk_nb w _) _⟩
  have HI : Aside0 (Lib.IsBuilder 112 5 (w.heap.size + 1) (w.heap.size + 1) (Lib.strCells ⟨#[]⟩) W0) := ⟨by
    rw [← hW0]
    have := Lib.fresh_isBuilder 112 5 (w.alloc (.cells #[.complex .f32 s0.re s0.im, .complex .f32 s1.re s1.im, .complex .f32 s2.re s2.im, .slice A4 l4.length c4, .slice A5 l5.length c5] 30))
    simpa [Lib.strCells] using this⟩
  have HX : Aside0 (Below (w.heap.size + 1) W0 W0) := ⟨Below.refl _ _⟩
  have HW0 := Lib.hid hW0
  clear hW0
  go_enter Try.func45, Try.ntmps45
  go_wp2
  rw [HW0.out]
  clear HW0
  have hd0 : W0.cell? ⟨w.heap.size, 0, none⟩ = some (.complex .f32 s0.re s0.im) := (blk_cell HBX.out 0).trans rfl
  have hd1 : W0.cell? ⟨w.heap.size, 1, none⟩ = some (.complex .f32 s1.re s1.im) := (blk_cell HBX.out 1).trans rfl
  have hd2 : W0.cell? ⟨w.heap.size, 2, none⟩ = some (.complex .f32 s2.re s2.im) := (blk_cell HBX.out 2).trans rfl
  have hd3 : W0.cell? ⟨w.heap.size, 3, none⟩ = some (.slice A4 l4.length c4) := (blk_cell HBX.out 3).trans rfl
  go_region_held3 (fun w' => w'.cell? ⟨w.heap.size, 0, none⟩ = some (.complex .f32 s0.re s0.im) ∧ w'.cell? ⟨w.heap.size, 1, none⟩ = some (.complex .f32 s1.re s1.im) ∧ w'.cell? ⟨w.heap.size, 2, none⟩ = some (.complex .f32 s2.re s2.im) ∧ w'.cell? ⟨w.heap.size, 3, none⟩ = some (.slice A4 l4.length c4))
    ((refine ⟨?_, ?_, ?_, ?_⟩ <;> first | exact (blk_cell HBX.out _).trans rfl | exact (blk_cell (blk_alloc HBX.out _) _).trans rfl))
    (first | (go_at_call 72; (with_reducible refine (phi_any _ _ _ _).mono ?_); rintro e wz ⟨rfl, hbz⟩; ((have HX := Aside0.mk (below_then (below_drew1 HX.out) (by have := HX.out.size; go_simp; omega) hbz))); have HI := Aside0.mk (isBuilder_below2 hbz HI.out); have HBX := Aside0.mk (blk_below2 hbz HBX.out)) | (go_at_call 29; (with_reducible refine (bytes_any1 _ _).mono ?_); rintro e wz ⟨rfl, hbz⟩; ((have HX := Aside0.mk (below_then HX.out (by have := HX.out.size; omega) hbz))); have HI := Aside0.mk (isBuilder_below2 hbz HI.out); have HBX := Aside0.mk (blk_below2 hbz HBX.out)) | (go_at_call 70; refine (put_any (w.heap.size + 1) (w.heap.size + 1) _ _ [mark4, phB s0 s1 s2, wordB (l4.length : Int) 1] _ _ (isBuilder_below HI.out (below_alloc (Below.refl _ _) _)) (heap_alloc_new _ _) (by have := HX.out.size; omega) (by simp) (by simp only [Lib.strCells_length, sizesOf, cellsOf, List.flatMap_cons, List.flatMap_nil, List.length_append, List.length_nil, cxB_size, wordB_size, phB_size]; (try simp only [mark4_size, empty_size]); omega) (by have := HX.out.size; go_simp; omega)).mono ?_; rintro e wz ⟨rfl, hi, hbB, hO⟩; have HX := Aside0.mk ((HX.out.alloc (by have := HX.out.size; omega) _).trans hbB); have HI := Aside0.mk hi; have HBX := Aside0.mk (hO _ _ (blk_alloc HBX.out _) (fun e => by injection e with e; omega) (fun c fz e => by injection e with _ e2; exact absurd e2 (by decide)))))
  rename_i hh
  clear hh
  replace HI : Aside0 (Lib.IsBuilder 112 5 (w.heap.size + 1) (w.heap.size + 1) (Lib.strCells (headT0 s0 s1 s2 l4.length)) wz) := ⟨by rw [← head_cells]; exact HI.out⟩
  have e3 : wz.cell? ⟨w.heap.size, 3, none⟩ = some (.slice A4 l4.length c4) := (blk_cell HBX.out 3).trans rfl
  clear hi hbB hO hd0 hd1 hd2 hd3
  go_wp2
  go_loopw [6, 27] (fun _ v27 wr => ∃ k : Nat, k ≤ l4.length ∧ v27 = .int .i64 k ∧ Aside0 (Lib.IsBuilder 112 5 (w.heap.size + 1) (w.heap.size + 1) (Lib.strCells (busesT (headT0 s0 s1 s2 l4.length) l4 k)) wr) ∧ Aside0 (Below (w.heap.size + 1) W0 wr) ∧ Aside0 (wr.heap[w.heap.size]? = some (.cells #[.complex .f32 s0.re s0.im, .complex .f32 s1.re s1.im, .complex .f32 s2.re s2.im, .slice A4 l4.length c4, .slice A5 l5.length c5] 30 (0, 0)))) (fun _ v27 _ => l4.length - (intOf v27).toNat)
  case atStart => exact ⟨0, by omega, rfl, HI, HX, HBX⟩
  case round =>
    clear HI HX HBX e3
    obtain ⟨k, hk, rfl, HI, HX, HBX⟩ := hrel
    rename_i wr
    by_cases hlt : k < l4.length
    · have f1 : decide ((k : Int) < (l4.length : Int)) = true := decide_eq_true (by omega)
      have f1n : decide (k < l4.length) = true := decide_eq_true hlt
      have p0 : 0 ≤ (k : Int) := by omega
      have p1 : (k : Int) < (l4.length : Int) := by omega
      have HC4r := Aside0.mk (Kd.C_below HC4.out (HBW.out.trans (HX.out.mono (Nat.le_succ _))))
      obtain ⟨ad, rfl, -⟩ := at_T69 HC4r.out (k : Int) p0 p1
      have BA : BusAt wr (ad.add (k * 8)) (rd_T69 l4 (k : Int)) := busAt_of HC4r.out (k : Int) p0 p1
      have hs := busesT_size (headT0 s0 s1 s2 l4.length) l4 k
      have hb4k := HB4.out k hlt
      have HSU := Lib.hid (busesT_succ (headT0 s0 s1 s2 l4.length) l4 k)
      rw [headT0_size] at hs
      clear HC4r
      generalize rd_T69 l4 (k : Int) = x at *
      generalize busesT (headT0 s0 s1 s2 l4.length) l4 k = out at *
      obtain ⟨x0a, x0b⟩ := hb4k
      have i0w : IntKind.i64.wrap (x.f0 + 1) = x.f0 + 1 := IntWalk.i64_in _ (by omega)
      have hso : out.size ≤ 10000 := by omega
      clear hs
      obtain ⟨t0, t1, t2, t3, t4, t5, t6, t7⟩ := BA
      obtain ⟨W1, hW1⟩ : ∃ W1 : World, wr.alloc (.cells #[.int .i64 x.f0, .complex .f32 x.f1.re x.f1.im, .complex .f32 x.f2.re x.f2.im, .int .i64 x.f3, .complex .f32 x.f4.f0.re x.f4.f0.im, .complex .f32 x.f4.f1.re x.f4.f1.im, .complex .f32 x.f4.f2.re x.f4.f2.im, .int .i64 x.f5] 69) = W1 := ⟨_, rfl⟩
      have hszr := HX.out.size
      have HN : Aside0 (W1.heap[wr.heap.size]? = some (.cells #[.int .i64 x.f0, .complex .f32 x.f1.re x.f1.im, .complex .f32 x.f2.re x.f2.im, .int .i64 x.f3, .complex .f32 x.f4.f0.re x.f4.f0.im, .complex .f32 x.f4.f1.re x.f4.f1.im, .complex .f32 x.f4.f2.re x.f4.f2.im, .int .i64 x.f5] 69 (0, 0))) := ⟨by rw [← hW1]; exact blk_nb _ _⟩
      replace HBX : Aside0 (W1.heap[w.heap.size]? = some (.cells #[.complex .f32 s0.re s0.im, .complex .f32 s1.re s1.im, .complex .f32 s2.re s2.im, .slice (some ad) l4.length c4, .slice A5 l5.length c5] 30 (0, 0))) := ⟨by rw [← hW1]; exact blk_alloc HBX.out _⟩
      replace HX : Aside0 (Below (w.heap.size + 1) W0 W1) := ⟨by rw [← hW1]; exact HX.out.alloc (by omega) _⟩
      replace HI : Aside0 (Lib.IsBuilder 112 5 (w.heap.size + 1) (w.heap.size + 1) (Lib.strCells out) W1) := ⟨by rw [← hW1]; exact isBuilder_below HI.out (below_alloc (Below.refl _ _) _)⟩
      have HNE : Aside0 (w.heap.size + 2 ≤ wr.heap.size) := ⟨by omega⟩
      have HW1 := Lib.hid hW1
      clear hW1
      go_wp2
      rw [HW1.out]
      clear HW1
      clear t0 t1 t2 t3 t4 t5 t6 t7 hszr
      generalize wr.heap.size = nb at *
      have u0 : W1.cell? ⟨nb, 0, none⟩ = some (.int .i64 x.f0) := (blk_cell HN.out 0).trans rfl
      have u1 : W1.cell? ⟨nb, 1, none⟩ = some (.complex .f32 x.f1.re x.f1.im) := (blk_cell HN.out 1).trans rfl
      have u2 : W1.cell? ⟨nb, 2, none⟩ = some (.complex .f32 x.f2.re x.f2.im) := (blk_cell HN.out 2).trans rfl
      have u3 : W1.cell? ⟨nb, 3, none⟩ = some (.int .i64 x.f3) := (blk_cell HN.out 3).trans rfl
      have u4 : W1.cell? ⟨nb, 4, none⟩ = some (.complex .f32 x.f4.f0.re x.f4.f0.im) := (blk_cell HN.out 4).trans rfl
      have u5 : W1.cell? ⟨nb, 5, none⟩ = some (.complex .f32 x.f4.f1.re x.f4.f1.im) := (blk_cell HN.out 5).trans rfl
      have u6 : W1.cell? ⟨nb, 6, none⟩ = some (.complex .f32 x.f4.f2.re x.f4.f2.im) := (blk_cell HN.out 6).trans rfl
      have u7 : W1.cell? ⟨nb, 7, none⟩ = some (.int .i64 x.f5) := (blk_cell HN.out 7).trans rfl
      go_region_held3 (fun w' => w'.cell? ⟨nb, 0, none⟩ = some (.int .i64 x.f0) ∧ w'.cell? ⟨nb, 1, none⟩ = some (.complex .f32 x.f1.re x.f1.im) ∧ w'.cell? ⟨nb, 2, none⟩ = some (.complex .f32 x.f2.re x.f2.im) ∧ w'.cell? ⟨nb, 3, none⟩ = some (.int .i64 x.f3) ∧ w'.cell? ⟨nb, 4, none⟩ = some (.complex .f32 x.f4.f0.re x.f4.f0.im) ∧ w'.cell? ⟨nb, 5, none⟩ = some (.complex .f32 x.f4.f1.re x.f4.f1.im) ∧ w'.cell? ⟨nb, 6, none⟩ = some (.complex .f32 x.f4.f2.re x.f4.f2.im) ∧ w'.cell? ⟨nb, 7, none⟩ = some (.int .i64 x.f5))
        ((refine ⟨?_, ?_, ?_, ?_, ?_, ?_, ?_, ?_⟩ <;> first | exact (blk_cell HN.out _).trans rfl | exact (blk_cell (blk_alloc HN.out _) _).trans rfl))
        (first | (go_at_call 29; (with_reducible refine (bytes_any1 _ _).mono ?_); rintro e wz ⟨rfl, hbz⟩; (first | (have HX := Aside0.mk (below_then HX.out (by have := HX.out.size; omega) hbz)) | (have HX := Aside0.mk (below_then (below_drew1 HX.out) (by have := HX.out.size; go_simp; omega) hbz))); have HI := Aside0.mk (isBuilder_below2 hbz HI.out); have HBX := Aside0.mk (blk_below2 hbz HBX.out); have HN := Aside0.mk (blk_below2 hbz HN.out)) | (go_at_call 29; (with_reducible refine (bytes_any4 _ _).mono ?_); rintro e wz ⟨rfl, hbz⟩; ((have HX := Aside0.mk (below_then HX.out (by have := HX.out.size; omega) hbz))); have HI := Aside0.mk (isBuilder_below2 hbz HI.out); have HBX := Aside0.mk (blk_below2 hbz HBX.out); have HN := Aside0.mk (blk_below2 hbz HN.out)) | (go_at_call 73; (with_reducible refine (pair_any _ _).mono ?_); rintro e wz ⟨rfl, hbz⟩; ((have HX := Aside0.mk (below_then HX.out (by have := HX.out.size; omega) hbz))); have HI := Aside0.mk (isBuilder_below2 hbz HI.out); have HBX := Aside0.mk (blk_below2 hbz HBX.out); have HN := Aside0.mk (blk_below2 hbz HN.out)) | (go_at_call 72; (with_reducible refine (phi_any _ _ _ _).mono ?_); rintro e wz ⟨rfl, hbz⟩; ((have HX := Aside0.mk (below_then HX.out (by have := HX.out.size; omega) hbz))); have HI := Aside0.mk (isBuilder_below2 hbz HI.out); have HBX := Aside0.mk (blk_below2 hbz HBX.out); have HN := Aside0.mk (blk_below2 hbz HN.out)) | (go_at_call 70; refine (put_any (w.heap.size + 1) (w.heap.size + 1) _ _ [wordB (x.f0 + 1) 1, cxB x.f1, cxB x.f2, wordB x.f3 1, phB x.f4.f0 x.f4.f1 x.f4.f2, wordB x.f5 4] _ _ (isBuilder_below HI.out (below_alloc (Below.refl _ _) _)) (heap_alloc_new _ _) (by have := HX.out.size; omega) (by simp) (by simp only [Lib.strCells_length, sizesOf, cellsOf, List.flatMap_cons, List.flatMap_nil, List.length_append, List.length_nil, cxB_size, wordB_size, phB_size]; (try simp only [mark4_size, empty_size]); omega) (by have := HX.out.size; go_simp; omega)).mono ?_; rintro e wz ⟨rfl, hi, hbB, hO⟩; have HX := Aside0.mk ((HX.out.alloc (by have := HX.out.size; omega) _).trans hbB); have HI := Aside0.mk hi; have HBX := Aside0.mk (hO _ _ (blk_alloc HBX.out _) (fun e => by injection e with e; omega) (fun c fz e => by injection e with _ e2; exact absurd e2 (by decide))); have HN := Aside0.mk (hO _ _ (blk_alloc HN.out _) (fun e => by injection e with e; have := HNE.out; omega) (fun c fz e => by injection e with _ e2; exact absurd e2 (by decide)))))
      rename_i hh
      clear hh
      replace HI : Aside0 (Lib.IsBuilder 112 5 (w.heap.size + 1) (w.heap.size + 1) (Lib.strCells (busesT (headT0 s0 s1 s2 l4.length) l4 (k + 1))) wz) := ⟨by rw [HSU.out, ← bus_cells]; exact HI.out⟩
      clear hi hbB hO
      go_wp2
      go_roundw
      case rel => exact ⟨k + 1, by omega, by go_num, HI, HX, HBX⟩
      case measure => simp [intOf]; omega
    · have f1 : decide ((k : Int) < (l4.length : Int)) = false := decide_eq_false (by omega)
      have f1n : decide (k < l4.length) = false := decide_eq_false hlt
      obtain rfl : k = l4.length := by omega
      have hs := busesT_size (headT0 s0 s1 s2 l4.length) l4 l4.length
      rw [headT0_size] at hs
      have HR2 : Hid (tiesT (busesT (headT0 s0 s1 s2 l4.length) l4 l4.length ++ wordB l5.length 1) l5 l5.length = r) := Lib.hid HR.out
      clear HR
      generalize busesT (headT0 s0 s1 s2 l4.length) l4 l4.length = out at *
      have hso : out.size ≤ 10000 := by omega
      clear hs
      have e4 : wr.cell? ⟨w.heap.size, 4, none⟩ = some (.slice A5 l5.length c5) := (blk_cell HBX.out 4).trans rfl
      go_wp2_with fail
      refine (bytes_any1 (l5.length : Int) _).mono ?_
      rintro e wz ⟨rfl, hbz⟩
      ((have HX := Aside0.mk (below_then HX.out (by have := HX.out.size; omega) hbz))); have HI := Aside0.mk (isBuilder_below2 hbz HI.out); have HBX := Aside0.mk (blk_below2 hbz HBX.out)
      clear hbz e4
      go_wp2_with fail
      refine (put_any (w.heap.size + 1) (w.heap.size + 1) _ _ [wordB (l5.length : Int) 1] _ _ (isBuilder_below HI.out (below_alloc (Below.refl _ _) _)) (heap_alloc_new _ _) (by have := HX.out.size; omega) (by simp) (by simp only [Lib.strCells_length, sizesOf, cellsOf, List.flatMap_cons, List.flatMap_nil, List.length_append, List.length_nil, wordB_size]; omega) (by have := HX.out.size; go_simp; omega)).mono ?_
      rintro e wy ⟨rfl, hi, hbB, hO⟩
      replace HX := Aside0.mk ((HX.out.alloc (by have := HX.out.size; omega) _).trans hbB)
      replace HI : Aside0 (Lib.IsBuilder 112 5 (w.heap.size + 1) (w.heap.size + 1) (Lib.strCells (out ++ wordB (l5.length : Int) 1)) wy) := ⟨by rw [← one_cells]; exact hi⟩
      replace HBX := Aside0.mk (hO _ _ (blk_alloc HBX.out _) (fun e => by injection e with e; omega) (fun c fz e => by injection e with _ e2; exact absurd e2 (by decide)))
      clear hi hbB hO
      have hbs : (out ++ wordB (l5.length : Int) 1).size ≤ 10001 := by rw [ByteArray.size_append, wordB_size]; omega
      have hb1 : 1 ≤ (out ++ wordB (l5.length : Int) 1).size := by rw [ByteArray.size_append, wordB_size]; omega
      generalize out ++ wordB (l5.length : Int) 1 = base at *
      have e4 : wy.cell? ⟨w.heap.size, 4, none⟩ = some (.slice A5 l5.length c5) := (blk_cell HBX.out 4).trans rfl
      go_wp2
      go_loopw [8, 64] (fun _ v64 wr => ∃ k : Nat, k ≤ l5.length ∧ v64 = .int .i64 k ∧ Aside0 (Lib.IsBuilder 112 5 (w.heap.size + 1) (w.heap.size + 1) (Lib.strCells (tiesT base l5 k)) wr) ∧ Aside0 (Below (w.heap.size + 1) W0 wr) ∧ Aside0 (wr.heap[w.heap.size]? = some (.cells #[.complex .f32 s0.re s0.im, .complex .f32 s1.re s1.im, .complex .f32 s2.re s2.im, .slice A4 l4.length c4, .slice A5 l5.length c5] 30 (0, 0)))) (fun _ v64 _ => l5.length - (intOf v64).toNat)
      case atStart => exact ⟨0, by omega, rfl, HI, HX, HBX⟩
      case round =>
        clear HI HX HBX e4
        obtain ⟨k, hk, rfl, HI, HX, HBX⟩ := hrel
        rename_i wr
        by_cases hlt : k < l5.length
        · have f1 : decide ((k : Int) < (l5.length : Int)) = true := decide_eq_true (by omega)
          have f1n : decide (k < l5.length) = true := decide_eq_true hlt
          have p0 : 0 ≤ (k : Int) := by omega
          have p1 : (k : Int) < (l5.length : Int) := by omega
          have HC5r := Aside0.mk (Kd.C_below HC5.out (HBW.out.trans (HX.out.mono (Nat.le_succ _))))
          obtain ⟨ad, rfl, -⟩ := at_T72 HC5r.out (k : Int) p0 p1
          have TA : TieAt wr (ad.add (k * 5)) (rd_T72 l5 (k : Int)) := tieAt_of HC5r.out (k : Int) p0 p1
          have hs := tiesT_size base l5 k
          have HSU := Lib.hid (tiesT_succ base l5 k)
          clear HC5r
          generalize rd_T72 l5 (k : Int) = x at *
          generalize tiesT base l5 k = out at *
          have hso : out.size ≤ 20000 := by omega
          clear hs
          obtain ⟨t0, t1, t2, t3, t4⟩ := TA
          obtain ⟨W1, hW1⟩ : ∃ W1 : World, wr.alloc (.cells #[.int .i64 x.f0, .int .i64 x.f1, .complex .f32 x.f2.re x.f2.im, .complex .f32 x.f3.re x.f3.im, .int .i64 x.f4] 72) = W1 := ⟨_, rfl⟩
          have hszr := HX.out.size
          have HN : Aside0 (W1.heap[wr.heap.size]? = some (.cells #[.int .i64 x.f0, .int .i64 x.f1, .complex .f32 x.f2.re x.f2.im, .complex .f32 x.f3.re x.f3.im, .int .i64 x.f4] 72 (0, 0))) := ⟨by rw [← hW1]; exact blk_nb _ _⟩
          replace HBX : Aside0 (W1.heap[w.heap.size]? = some (.cells #[.complex .f32 s0.re s0.im, .complex .f32 s1.re s1.im, .complex .f32 s2.re s2.im, .slice A4 l4.length c4, .slice (some ad) l5.length c5] 30 (0, 0))) := ⟨by rw [← hW1]; exact blk_alloc HBX.out _⟩
          replace HX : Aside0 (Below (w.heap.size + 1) W0 W1) := ⟨by rw [← hW1]; exact HX.out.alloc (by omega) _⟩
          replace HI : Aside0 (Lib.IsBuilder 112 5 (w.heap.size + 1) (w.heap.size + 1) (Lib.strCells out) W1) := ⟨by rw [← hW1]; exact isBuilder_below HI.out (below_alloc (Below.refl _ _) _)⟩
          have HNE : Aside0 (w.heap.size + 2 ≤ wr.heap.size) := ⟨by omega⟩
          have HW1 := Lib.hid hW1
          clear hW1
          go_wp2
          rw [HW1.out]
          clear HW1
          clear t0 t1 t2 t3 t4 hszr
          generalize wr.heap.size = nb at *
          have u0 : W1.cell? ⟨nb, 0, none⟩ = some (.int .i64 x.f0) := (blk_cell HN.out 0).trans rfl
          have u1 : W1.cell? ⟨nb, 1, none⟩ = some (.int .i64 x.f1) := (blk_cell HN.out 1).trans rfl
          have u2 : W1.cell? ⟨nb, 2, none⟩ = some (.complex .f32 x.f2.re x.f2.im) := (blk_cell HN.out 2).trans rfl
          have u3 : W1.cell? ⟨nb, 3, none⟩ = some (.complex .f32 x.f3.re x.f3.im) := (blk_cell HN.out 3).trans rfl
          have u4 : W1.cell? ⟨nb, 4, none⟩ = some (.int .i64 x.f4) := (blk_cell HN.out 4).trans rfl
          go_region_held3 (fun w' => w'.cell? ⟨nb, 0, none⟩ = some (.int .i64 x.f0) ∧ w'.cell? ⟨nb, 1, none⟩ = some (.int .i64 x.f1) ∧ w'.cell? ⟨nb, 2, none⟩ = some (.complex .f32 x.f2.re x.f2.im) ∧ w'.cell? ⟨nb, 3, none⟩ = some (.complex .f32 x.f3.re x.f3.im) ∧ w'.cell? ⟨nb, 4, none⟩ = some (.int .i64 x.f4))
            ((refine ⟨?_, ?_, ?_, ?_, ?_⟩ <;> first | exact (blk_cell HN.out _).trans rfl | exact (blk_cell (blk_alloc HN.out _) _).trans rfl))
            (first | (go_at_call 29; (with_reducible refine (bytes_any1 _ _).mono ?_); rintro e wz ⟨rfl, hbz⟩; (first | (have HX := Aside0.mk (below_then HX.out (by have := HX.out.size; omega) hbz)) | (have HX := Aside0.mk (below_then (below_drew1 HX.out) (by have := HX.out.size; go_simp; omega) hbz))); have HI := Aside0.mk (isBuilder_below2 hbz HI.out); have HBX := Aside0.mk (blk_below2 hbz HBX.out); have HN := Aside0.mk (blk_below2 hbz HN.out)) | (go_at_call 29; (with_reducible refine (bytes_any4 _ _).mono ?_); rintro e wz ⟨rfl, hbz⟩; ((have HX := Aside0.mk (below_then HX.out (by have := HX.out.size; omega) hbz))); have HI := Aside0.mk (isBuilder_below2 hbz HI.out); have HBX := Aside0.mk (blk_below2 hbz HBX.out); have HN := Aside0.mk (blk_below2 hbz HN.out)) | (go_at_call 73; (with_reducible refine (pair_any _ _).mono ?_); rintro e wz ⟨rfl, hbz⟩; ((have HX := Aside0.mk (below_then HX.out (by have := HX.out.size; omega) hbz))); have HI := Aside0.mk (isBuilder_below2 hbz HI.out); have HBX := Aside0.mk (blk_below2 hbz HBX.out); have HN := Aside0.mk (blk_below2 hbz HN.out)) | (go_at_call 70; refine (put_any (w.heap.size + 1) (w.heap.size + 1) _ _ [wordB x.f0 1, wordB x.f1 1, cxB x.f2, cxB x.f3, wordB x.f4 4] _ _ (isBuilder_below HI.out (below_alloc (Below.refl _ _) _)) (heap_alloc_new _ _) (by have := HX.out.size; omega) (by simp) (by simp only [Lib.strCells_length, sizesOf, cellsOf, List.flatMap_cons, List.flatMap_nil, List.length_append, List.length_nil, cxB_size, wordB_size, phB_size]; (try simp only [mark4_size, empty_size]); omega) (by have := HX.out.size; go_simp; omega)).mono ?_; rintro e wz ⟨rfl, hi, hbB, hO⟩; have HX := Aside0.mk ((HX.out.alloc (by have := HX.out.size; omega) _).trans hbB); have HI := Aside0.mk hi; have HBX := Aside0.mk (hO _ _ (blk_alloc HBX.out _) (fun e => by injection e with e; omega) (fun c fz e => by injection e with _ e2; exact absurd e2 (by decide))); have HN := Aside0.mk (hO _ _ (blk_alloc HN.out _) (fun e => by injection e with e; have := HNE.out; omega) (fun c fz e => by injection e with _ e2; exact absurd e2 (by decide)))))
          rename_i hh
          clear hh
          replace HI : Aside0 (Lib.IsBuilder 112 5 (w.heap.size + 1) (w.heap.size + 1) (Lib.strCells (tiesT base l5 (k + 1))) wz) := ⟨by rw [HSU.out, ← tie_cells]; exact HI.out⟩
          clear hi hbB hO
          go_wp2
          go_roundw
          case rel => exact ⟨k + 1, by omega, by go_num, HI, HX, HBX⟩
          case measure => simp [intOf]; omega
        · have f1 : decide ((k : Int) < (l5.length : Int)) = false := decide_eq_false (by omega)
          have f1n : decide (k < l5.length) = false := decide_eq_false hlt
          obtain rfl : k = l5.length := by omega
          rw [HR2.out] at HI
          have h0 : r.data.toList ≠ [] := by
            rw [← HR2.out]
            intro h
            have h2 := tiesT_size base l5 l5.length
            have h3 : (tiesT base l5 l5.length).data.toList.length = (tiesT base l5 l5.length).size := data_length _
            rw [h] at h3
            simp only [List.length_nil] at h3
            omega
          go_wp2_with fail
          refine (Try.Builder_String (w.heap.size + 1) (w.heap.size + 1) r.data.toList _ HI.out h0).mono ?_
          rintro e wy ⟨rfl, hb⟩
          go_wp2
          go_ret
          exact ⟨by rw [string_back]; rfl, HBW.out.trans ((HX.out.trans hb).mono (Nat.le_succ _))⟩
end Go.Proofs.Ytkkokkmhldceiaa.M
