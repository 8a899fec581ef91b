/- LoadGrid of the program tells of every text what the reference tells: the law, as a plain statement of the printed functions. -/
import Derived.Test.YtkkokkmhldceiaaAMf3
import Derived.Test.YtkkokkmhldceiaaAJPRead
namespace Go.Proofs.Ytkkokkmhldceiaa.Pure
open Go.RowKit Go.Proofs.Ytkkokkmhldceiaa.M Go.Proofs.YtkkokkmhldceiaaW.PrintWords Go.Proofs.YtkkokkmhldceiaaW.PrintLast

theorem grids_both (a : ByteArray) (hz : a.size ≤ 140737488351232) : ∃ (p1 p2 p3 : Cx) (B : List S69) (T : List S72) (ok : Bool),
    Ev (fun k => spec_LoadGrid.f k a) (p1, p2, p3, B, T, ok) ∧ Ev (fun k => impl_LoadGrid.f k a) (p1, p2, p3, B, T, ok) ∧ B.length ≤ 16 ∧ T.length ≤ 6 := by
  obtain ⟨⟨p1, p2, p3, B, T, p, ok⟩, y, hx, hy, h⟩ := load_both a hz
  rcases h with ⟨h1, rfl, hg, hp0, hp1⟩ | ⟨h1, rfl⟩
  · dsimp only at h1 hg
    subst h1
    obtain ⟨b1, b2, _⟩ := gridB_bounds hg
    by_cases c : p = a.size
    · refine ⟨p1, p2, p3, B, T, true, ?_, ?_, b1, b2⟩
      · unfold spec_LoadGrid.f
        refine Ev.bind hx (Ev.congr (fun k => ?_) (Ev.now _))
        simp only [if_true]
        rw [if_pos c]
      · unfold impl_LoadGrid.f
        refine Ev.bind hy (Ev.congr (fun k => ?_) (Ev.now _))
        simp only [if_true]
        rw [if_pos c]
    · refine ⟨⟨0, 0⟩, ⟨0, 0⟩, ⟨0, 0⟩, [], [], false, ?_, ?_, by simp, by simp⟩
      · unfold spec_LoadGrid.f
        refine Ev.bind hx (Ev.congr (fun k => ?_) (Ev.now _))
        simp only [if_true]
        rw [if_neg c]
      · unfold impl_LoadGrid.f
        refine Ev.bind hy (Ev.congr (fun k => ?_) (Ev.now _))
        simp only [if_true]
        rw [if_neg c]
  · dsimp only at h1
    subst h1
    refine ⟨⟨0, 0⟩, ⟨0, 0⟩, ⟨0, 0⟩, [], [], false, ?_, ?_, by simp, by simp⟩
    · unfold spec_LoadGrid.f
      refine Ev.bind hx (Ev.congr (fun k => ?_) (Ev.now _))
      rw [if_neg (by simp)]
    · unfold impl_LoadGrid.f
      refine Ev.bind hy (Ev.congr (fun k => ?_) (Ev.now _))
      unfold noGrd
      rw [if_neg (by simp)]

theorem FnExactLoadGrid : laws_FnExactLoadGrid.Pure := by
  intro a hz
  by_cases c : (a.size : Int) > 1048576
  · refine ⟨0, ?_⟩
    unfold laws_FnExactLoadGrid.f
    rw [if_pos c]
  · obtain ⟨p1, p2, p3, B, T, ok, ⟨K1, hs⟩, ⟨K2, hi⟩, hB, hT⟩ := grids_both a hz
    obtain ⟨K3, he⟩ := eqGrid_refl p1 p2 p3 B T (by omega) (by omega)
    obtain ⟨B', T', ⟨K4, hm⟩, ⟨K5, hh⟩⟩ := marks p1 p2 p3 B T 1 (by decide) hB hT (by decide)
    obtain ⟨n, hn⟩ : ∃ n : Int, (1 : Int) + 8 * B.length + 5 * T.length = n := ⟨_, rfl⟩
    have hn0 : ¬ n < 0 := by omega
    rw [hn] at hm hh
    have hk : (ok != ok) = false := by simp
    obtain ⟨K, hK⟩ : ∃ K, K1 ≤ K ∧ K2 ≤ K ∧ K3 ≤ K ∧ K4 ≤ K ∧ K5 ≤ K := ⟨K1 + K2 + K3 + K4 + K5, by omega⟩
    obtain ⟨k1, k2, k3, k4, k5⟩ := hK
    have J1 : laws_FnExactLoadGrid.j1 (K + 1) n false p1 p2 p3 B' T' = some true := by
      have h5 := hh K k5
      dsimp only at h5
      simp only [laws_FnExactLoadGrid.j1, h5, Option.bind_some, if_true]
      rw [if_neg (by simp), if_neg hn0]
    have J0 : laws_FnExactLoadGrid.j0 (K + 2) a ok false p1 p2 p3 B T p1 p2 p3 B T = some true := by
      have h2 := hi (K + 1) (by omega)
      have h3 := he (K + 1) (by omega)
      have h4 := hm (K + 1) (by omega)
      have h5 := hh (K + 1) (by omega)
      dsimp only at h2 h3 h4 h5
      show laws_FnExactLoadGrid.j0 (K + 1 + 1) a ok false p1 p2 p3 B T p1 p2 p3 B T = some true
      simp only [laws_FnExactLoadGrid.j0]
      rw [if_neg (by simp), h4]
      simp only [Option.bind_some, h5, if_true]
      rw [if_neg hn0, h2]
      simp only [Option.bind_some, h3, if_true, hk]
      exact J1
    refine ⟨K + 2, ?_⟩
    have h1 := hs (K + 2) (by omega)
    have h2 := hi (K + 2) (by omega)
    have h3 := he (K + 2) (by omega)
    dsimp only at h1 h2 h3
    unfold laws_FnExactLoadGrid.f
    rw [if_neg c, h1]
    simp only [Option.bind_some, h2, h3, if_true, hk]
    exact J0

end Go.Proofs.Ytkkokkmhldceiaa.Pure
