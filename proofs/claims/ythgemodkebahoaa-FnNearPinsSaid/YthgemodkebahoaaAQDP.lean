/- Plain facts on drawn pins. No condition. -/
import Derived.Test.YthgemodkebahoaaA0
import Derived.Test.YthgemodkebahoaaA2
import Derived.Test.YthgemodkebahoaaA5
import Derived.Test.YthgemodkebahoaaA10
import Derived.Test.YthgemodkebahoaaA12
import Derived.Test.YthgemodkebahoaaA13
import Derived.Test.YthgemodkebahoaaA14
import Derived.Test.YthgemodkebahoaaA15
import Derived.Test.YthgemodkebahoaaA16
import Derived.Test.YthgemodkebahoaaA17
import Derived.Test.YthgemodkebahoaaAQD
import Derived.Test.YthgemodkebahoaaAQP5
set_option linter.unusedVariables false
set_option linter.unusedSimpArgs false
namespace Go.Proofs.Ythgemodkebahoaa.A
open Go.RowKit Go.Proofs.YthgemodkebahoaaW.PrintWords Go.Proofs.YthgemodkebahoaaW.PrintLast Go.Proofs.YthgemodkebahoaaW.PrintMore

theorem pin_at {c : List Int} (hc : Bytes c) (a s : Int) (h0 : 0 ≤ a) (h1 : a ≤ 10000000000) : ∃ x y z a' s', spec_l1Cur_pin.f c a s = some (x, y, z, a', s') ∧ a ≤ a' ∧ a' ≤ a + 10 := by
  obtain ⟨r1, a1, s1, e1, b1, c1, _⟩ := pick_at hc a s 20 h0 (by omega) (by omega)
  obtain ⟨r2, a2, s2, e2, b2, c2, _⟩ := among_at hc a1 s1 [0, 1, 1, 2, r1] (by omega) (by omega) (by simp) (by simp)
  obtain ⟨r3, a3, s3, e3, b3, c3, _⟩ := pick_at hc a2 s2 360 (by omega) (by omega) (by omega)
  obtain ⟨r4, a4, s4, e4, b4, c4, _⟩ := among_at hc a3 s3 [0, 10, 90, 359, r3] (by omega) (by omega) (by simp) (by simp)
  obtain ⟨r5, a5, s5, e5, b5, c5, _⟩ := pick_at hc a4 s4 4 (by omega) (by omega) (by omega)
  unfold spec_l1Cur_pin.f
  simp only [e1, e2, e3, e4, e5, Option.bind_some]
  exact ⟨_, _, _, _, _, rfl, by omega, by omega⟩
theorem shiftOf_at {c : List Int} (hc : Bytes c) (a s : Int) (h0 : 0 ≤ a) (h1 : a ≤ 10000000000) : ∃ x a' s', spec_l1Cur_shiftOf.f c a s = some (x, a', s') ∧ a ≤ a' ∧ a' ≤ a + 4 := by
  obtain ⟨r1, a1, s1, e1, b1, c1, _⟩ := among_at hc a s [4, -1] h0 (by omega) (by simp) (by simp)
  obtain ⟨r2, a2, s2, e2, b2, c2, _⟩ := among_at hc a1 s1 [0, 1, 2, 3, 0, 1, r1] (by omega) (by omega) (by simp) (by simp)
  unfold spec_l1Cur_shiftOf.f
  simp only [e1, e2, Option.bind_some]
  exact ⟨_, _, _, rfl, by omega, by omega⟩
theorem gapOf_at {c : List Int} (hc : Bytes c) (a s : Int) (h0 : 0 ≤ a) (h1 : a ≤ 10000000000) : ∃ x a' s', spec_l1Cur_gapOf.f c a s = some (x, a', s') ∧ a ≤ a' ∧ a' ≤ a + 4 := by
  obtain ⟨r1, a1, s1, e1, b1, c1, _⟩ := among_at hc a s [0, 181] h0 (by omega) (by simp) (by simp)
  obtain ⟨r2, a2, s2, e2, b2, c2, _⟩ := among_at hc a1 s1 [1, 2, 5, 10, 30, 180, r1] (by omega) (by omega) (by simp) (by simp)
  unfold spec_l1Cur_gapOf.f
  simp only [e1, e2, Option.bind_some]
  exact ⟨_, _, _, rfl, by omega, by omega⟩
theorem angleOf_at {c : List Int} (hc : Bytes c) (a s : Int) (h0 : 0 ≤ a) (h1 : a ≤ 10000000000) : ∃ x a' s', spec_l1Cur_angleOf.f c a s = some (x, a', s') ∧ a ≤ a' ∧ a' ≤ a + 6 := by
  obtain ⟨r0, a0, s0, e0, b0, c0, _⟩ := pick_at hc a s 360 h0 (by omega) (by omega)
  obtain ⟨r1, a1, s1, e1, b1, c1, _⟩ := among_at hc a0 s0 [360, -1] (by omega) (by omega) (by simp) (by simp)
  obtain ⟨r2, a2, s2, e2, b2, c2, _⟩ := among_at hc a1 s1 [0, 1, 10, 90, r0, 359, r1] (by omega) (by omega) (by simp) (by simp)
  unfold spec_l1Cur_angleOf.f
  simp only [e0, e1, e2, Option.bind_some]
  exact ⟨_, _, _, rfl, by omega, by omega⟩
theorem sortRes_len' (l : List S39) : (sortRes l).1.length ≤ l.length := by
  unfold sortRes
  split
  · show (SA.isort SPin.ltB l).length ≤ _
    rw [SA.isort_length]; exact Nat.le_refl _
  · simp
theorem pins_l1 (s1 s2 : Int) : ∀ (m : Nat) (l : List S39) (i : Int), 61 ≤ l.length + m → ∃ r : List S39, Ev (fun k => spec_l1Cur_pins.l1 k s1 s2 l i) (r, s1, s2) ∧ r.length ≤ max 61 l.length := by
  intro m
  induction m with
  | zero =>
    intro l i h
    refine ⟨l, Ev.fuel ?_, by omega⟩
    simp only [spec_l1Cur_pins.l1, show ¬ ((l.length : Int) < 61) from by omega, ↓reduceIte]
    exact Ev.now _
  | succ m ih =>
    intro l i h
    by_cases g : (l.length : Int) < 61
    · obtain ⟨r, hr, hl⟩ := ih (l ++ [⟨19, wrap64 (5 * i), 3⟩]) (wrap64 (i + 1)) (by simp; omega)
      refine ⟨r, Ev.fuel ?_, by simp at hl; omega⟩
      simp only [spec_l1Cur_pins.l1, g, ↓reduceIte, show l.length < 5864062014805 from by omega]
      exact hr
    · refine ⟨l, Ev.fuel ?_, by omega⟩
      simp only [spec_l1Cur_pins.l1, g, ↓reduceIte]
      exact Ev.now _
theorem pins_j2 {c : List Int} (hc : Bytes c) (a s : Int) (h0 : 0 ≤ a) (h1 : a ≤ 1000000) (l : List S39) (hl : l.length ≤ 60) : ∃ r a' s', Ev (fun k => spec_l1Cur_pins.j2 k c a s l) (r, a', s') ∧ 0 ≤ a' ∧ a' ≤ 2000000 ∧ r.length ≤ 61 := by
  by_cases g : (l.length : Int) > 0
  · obtain ⟨r1, a1, s1, e1, b1, c1, d1, f1⟩ := pick_at hc a s l.length h0 (by omega) (by omega)
    have f1 := f1 (by omega)
    obtain ⟨r2, a2, s2, e2, b2, c2, d2, f2⟩ := pick_at hc a1 s1 36 (by omega) (by omega) (by omega)
    by_cases g0 : r2 = 0
    · obtain ⟨r3, a3, s3, e3, b3, c3, _⟩ := among_at hc a2 s2 [-1, 19, 20] (by omega) (by omega) (by simp) (by simp)
      refine ⟨l.set r1.toNat ⟨r3, (rd_T39 l r1).f1, (rd_T39 l r1).f2⟩, a3, s3, Ev.fuel ?_, by omega, by omega, ?_⟩
      · simp only [spec_l1Cur_pins.j2, g, e1, e2, e3, d1, f1, g0, ↓reduceIte, Option.bind_some]
        exact Ev.now _
      · rw [List.length_set]; omega
    · by_cases g1 : r2 = 1
      · obtain ⟨r3, a3, s3, e3, b3, c3, _⟩ := among_at hc a2 s2 [-1, 359, 360] (by omega) (by omega) (by simp) (by simp)
        refine ⟨l.set r1.toNat ⟨(rd_T39 l r1).f0, r3, (rd_T39 l r1).f2⟩, a3, s3, Ev.fuel ?_, by omega, by omega, ?_⟩
        · simp only [spec_l1Cur_pins.j2, g, e1, e2, e3, d1, f1, g0, g1, ↓reduceIte, Option.bind_some, show ¬ ((1 : Int) = 0) from by omega]
          exact Ev.now _
        · rw [List.length_set]; omega
      · by_cases g2 : r2 = 2
        · obtain ⟨r3, a3, s3, e3, b3, c3, _⟩ := among_at hc a2 s2 [-1, 3, 4] (by omega) (by omega) (by simp) (by simp)
          refine ⟨l.set r1.toNat ⟨(rd_T39 l r1).f0, (rd_T39 l r1).f1, r3⟩, a3, s3, Ev.fuel ?_, by omega, by omega, ?_⟩
          · simp only [spec_l1Cur_pins.j2, g, e1, e2, e3, d1, f1, g0, g1, g2, ↓reduceIte, Option.bind_some, show ¬ ((2 : Int) = 0) from by omega, show ¬ ((2 : Int) = 1) from by omega]
            exact Ev.now _
          · rw [List.length_set]; omega
        · by_cases g3 : r2 = 3
          · refine ⟨l ++ [⟨(rd_T39 l 0).f0, (rd_T39 l 0).f1, (rd_T39 l 0).f2⟩], a2, s2, Ev.fuel ?_, by omega, by omega, ?_⟩
            · simp only [spec_l1Cur_pins.j2, g, e1, e2, d1, f1, g3, ↓reduceIte, Option.bind_some, show ¬ ((3 : Int) = 0) from by omega, show ¬ ((3 : Int) = 1) from by omega, show ¬ ((3 : Int) = 2) from by omega, show l.length < 5864062014805 from by omega]
              exact Ev.now _
            · simp; omega
          · by_cases g4 : r2 = 4
            · obtain ⟨r, hr, hl'⟩ := pins_l1 a2 s2 61 l 0 (by omega)
              refine ⟨r, a2, s2, Ev.fuel ?_, by omega, by omega, by omega⟩
              simp only [spec_l1Cur_pins.j2, g, e1, e2, d1, f1, g4, ↓reduceIte, Option.bind_some, show ¬ ((4 : Int) = 0) from by omega, show ¬ ((4 : Int) = 1) from by omega, show ¬ ((4 : Int) = 2) from by omega, show ¬ ((4 : Int) = 3) from by omega]
              exact hr
            · refine ⟨l, a2, s2, Ev.fuel ?_, by omega, by omega, by omega⟩
              simp only [spec_l1Cur_pins.j2, g, e1, e2, d1, f1, g0, g1, g2, g3, g4, ↓reduceIte, Option.bind_some]
              exact Ev.now _
  · refine ⟨l, a, s, Ev.fuel ?_, by omega, by omega, by omega⟩
    simp only [spec_l1Cur_pins.j2, g, ↓reduceIte]
    exact Ev.now _
theorem pins_l0 {c : List Int} (hc : Bytes c) (n : Int) (hn : n ≤ 60) : ∀ (m : Nat) (i a s : Int) (l : List S39), i + m = 300 → 0 ≤ i → 0 ≤ a → a ≤ 1000 + 20 * i → l.length ≤ 60 → ∃ r a' s', Ev (fun k => spec_l1Cur_pins.l0 k c a s n i l) (r, a', s') ∧ 0 ≤ a' ∧ a' ≤ 2000000 ∧ r.length ≤ 61 := by
  intro m
  induction m with
  | zero =>
    intro i a s l h hi h0 h1 hl
    obtain ⟨r, a', s', e, q⟩ := pins_j2 hc a s h0 (by omega) l hl
    refine ⟨r, a', s', Ev.fuel ?_, q⟩
    by_cases g : (l.length : Int) < n
    · simp only [spec_l1Cur_pins.l0, g, show ¬ i < 300 from by omega, ↓reduceIte]; exact e
    · simp only [spec_l1Cur_pins.l0, g, ↓reduceIte]; exact e
  | succ m ih =>
    intro i a s l h hi h0 h1 hl
    by_cases g : (l.length : Int) < n
    · obtain ⟨x, y, z, a1, s1, e1, b1, c1⟩ := pin_at hc a s h0 (by omega)
      have hj : ∀ y z : Int, ∃ r a' s', Ev (fun k => spec_l1Cur_pins.j1 k c a1 s1 n i l x y z) (r, a', s') ∧ 0 ≤ a' ∧ a' ≤ 2000000 ∧ r.length ≤ 61 := by
        intro y z
        have hlen : ([] ++ l ++ [(⟨x, y, z⟩ : S39)]).length = l.length + 1 := by simp
        have hs := cySorted_ev ([] ++ l ++ [(⟨x, y, z⟩ : S39)]) (by omega)
        have hs2 := sortRes_len' ([] ++ l ++ [(⟨x, y, z⟩ : S39)])
        have hwi : wrap64 (i + 1) = i + 1 := w_id (by omega) (by omega)
        cases hb : (sortRes ([] ++ l ++ [(⟨x, y, z⟩ : S39)])).2 with
        | true =>
          obtain ⟨r, a', s', e, q⟩ := ih (i + 1) a1 s1 (sortRes ([] ++ l ++ [(⟨x, y, z⟩ : S39)])).1 (by omega) (by omega) (by omega) (by omega) (by omega)
          refine ⟨r, a', s', Ev.fuel ?_, q⟩
          simp only [spec_l1Cur_pins.j1, show ([] : List S39).length + l.length < 5864062014805 from by simp; omega, show (([] : List S39) ++ l).length < 5864062014805 from by simp; omega, ↓reduceIte, hwi]
          refine Ev.bind hs ?_
          simp only [hb, ↓reduceIte]
          exact e
        | false =>
          obtain ⟨r, a', s', e, q⟩ := ih (i + 1) a1 s1 l (by omega) (by omega) (by omega) (by omega) hl
          refine ⟨r, a', s', Ev.fuel ?_, q⟩
          simp only [spec_l1Cur_pins.j1, show ([] : List S39).length + l.length < 5864062014805 from by simp; omega, show (([] : List S39) ++ l).length < 5864062014805 from by simp; omega, ↓reduceIte, hwi]
          refine Ev.bind hs ?_
          simp only [hb, Bool.false_eq_true, ↓reduceIte]
          exact e
      by_cases g2 : n = 60
      · obtain ⟨r, a', s', e, q⟩ := hj (wrap64 (6 * Int.tmod i 60)) (Int.tmod i 4)
        refine ⟨r, a', s', Ev.fuel ?_, q⟩
        simp only [spec_l1Cur_pins.l0, g, show i < 300 from by omega, ↓reduceIte, e1, Option.bind_some, if_pos g2]
        exact e
      · obtain ⟨r, a', s', e, q⟩ := hj y z
        refine ⟨r, a', s', Ev.fuel ?_, q⟩
        simp only [spec_l1Cur_pins.l0, g, show i < 300 from by omega, ↓reduceIte, e1, Option.bind_some, if_neg g2]
        exact e
    · obtain ⟨r, a', s', e, q⟩ := pins_j2 hc a s h0 (by omega) l hl
      refine ⟨r, a', s', Ev.fuel ?_, q⟩
      simp only [spec_l1Cur_pins.l0, g, ↓reduceIte]; exact e
theorem pins_ev {c : List Int} (hc : Bytes c) : ∃ r a' s', Ev (fun k => spec_l1Cur_pins.f k c 0 0) (r, a', s') ∧ 0 ≤ a' ∧ a' ≤ 2000000 ∧ r.length ≤ 61 := by
  obtain ⟨r1, a1, s1, e1, b1, c1, d1, f1⟩ := pick_at hc 0 0 9 (by omega) (by omega) (by omega)
  have f1 := f1 (by omega)
  obtain ⟨b, a2, s2, e2, b2, c2⟩ := one_at hc a1 s1 24 (by omega) (by omega) (by omega)
  cases b with
  | true =>
    obtain ⟨r, a', s', e, q⟩ := pins_l0 hc 60 (by omega) 300 0 a2 s2 [] (by omega) (by omega) (by omega) (by omega) (by simp)
    refine ⟨r, a', s', ?_, q⟩
    unfold spec_l1Cur_pins.f
    simp only [e1, e2, Option.bind_some, ↓reduceIte]
    exact e
  | false =>
    obtain ⟨r, a', s', e, q⟩ := pins_l0 hc r1 (by omega) 300 0 a2 s2 [] (by omega) (by omega) (by omega) (by omega) (by simp)
    refine ⟨r, a', s', ?_, q⟩
    unfold spec_l1Cur_pins.f
    simp only [e1, e2, Option.bind_some, Bool.false_eq_true, ↓reduceIte]
    exact e
theorem DrawArePins_ev {c : List Int} (hc : Bytes c) : ∃ l : List S39, Ev (fun k => spec_DrawArePins.f k c) l ∧ l.length ≤ 61 := by
  obtain ⟨r, a, s, e, _, _, h⟩ := pins_ev hc
  exact ⟨r, by unfold spec_DrawArePins.f; exact Ev.bind e (Ev.now _), h⟩
theorem DrawGreatestGap_ev {c : List Int} (hc : Bytes c) : ∃ l : List S39, Ev (fun k => spec_DrawGreatestGap.f k c) l ∧ l.length ≤ 61 := by
  obtain ⟨r, e, h⟩ := DrawArePins_ev hc
  exact ⟨r, by unfold spec_DrawGreatestGap.f; exact Ev.bind e (Ev.now _), h⟩
theorem DrawBestTurn_ev {c : List Int} (hc : Bytes c) : ∃ (l : List S39) (x y : Int), Ev (fun k => spec_DrawBestTurn.f k c) (l, x, y) ∧ l.length ≤ 61 := by
  obtain ⟨r, a, s, e, h0, h1, h⟩ := pins_ev hc
  obtain ⟨x, a1, s1, e1, b1, c1⟩ := shiftOf_at hc a s h0 (by omega)
  obtain ⟨y, a2, s2, e2, b2, c2⟩ := gapOf_at hc a1 s1 (by omega) (by omega)
  refine ⟨r, x, y, ?_, h⟩
  unfold spec_DrawBestTurn.f
  refine Ev.bind e ?_
  simp only [e1, e2, Option.bind_some]
  exact Ev.now _
theorem DrawNearPins_ev {c : List Int} (hc : Bytes c) : ∃ (l : List S39) (x : Int), Ev (fun k => spec_DrawNearPins.f k c) (l, x) ∧ l.length ≤ 61 := by
  obtain ⟨r, a, s, e, h0, h1, h⟩ := pins_ev hc
  obtain ⟨x, a1, s1, e1, b1, c1⟩ := gapOf_at hc a s h0 (by omega)
  refine ⟨r, x, ?_, h⟩
  unfold spec_DrawNearPins.f
  refine Ev.bind e ?_
  simp only [e1, Option.bind_some]
  exact Ev.now _
theorem DrawTuneOf_ev {c : List Int} (hc : Bytes c) : ∃ (l : List S39) (x : Int), Ev (fun k => spec_DrawTuneOf.f k c) (l, x) ∧ l.length ≤ 61 := by
  obtain ⟨r, a, s, e, h0, h1, h⟩ := pins_ev hc
  obtain ⟨x, a1, s1, e1, b1, c1⟩ := shiftOf_at hc a s h0 (by omega)
  refine ⟨r, x, ?_, h⟩
  unfold spec_DrawTuneOf.f
  refine Ev.bind e ?_
  simp only [e1, Option.bind_some]
  exact Ev.now _
theorem DrawAddPin_ev {c : List Int} (hc : Bytes c) : ∃ (l : List S39) (x y z : Int), Ev (fun k => spec_DrawAddPin.f k c) (l, x, y, z) ∧ l.length ≤ 61 := by
  obtain ⟨r, a, s, e, h0, h1, h⟩ := pins_ev hc
  obtain ⟨x, y, z, a1, s1, e1, b1, c1⟩ := pin_at hc a s h0 (by omega)
  obtain ⟨b, a2, s2, e2, b2, c2⟩ := one_at hc a1 s1 16 (by omega) (by omega) (by omega)
  cases b with
  | true =>
    obtain ⟨u, a3, s3, e3, b3, c3⟩ := angleOf_at hc a2 s2 (by omega) (by omega)
    obtain ⟨v, a4, s4, e4, b4, c4⟩ := shiftOf_at hc a3 s3 (by omega) (by omega)
    refine ⟨r, x, u, v, ?_, h⟩
    unfold spec_DrawAddPin.f
    refine Ev.bind e ?_
    simp only [e1, e2, e3, e4, Option.bind_some, ↓reduceIte]
    exact Ev.now _
  | false =>
    refine ⟨r, x, y, z, ?_, h⟩
    unfold spec_DrawAddPin.f
    refine Ev.bind e ?_
    simp only [e1, e2, Option.bind_some, Bool.false_eq_true, ↓reduceIte]
    exact Ev.now _
end Go.Proofs.Ythgemodkebahoaa.A
