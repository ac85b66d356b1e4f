/- Plain facts on drawn instruments and scores. No condition. -/
import Derived.Test.YtlhhjdlaljmppaaT0
import Derived.Test.YtlhhjdlaljmppaaT3
import Derived.Test.YtlhhjdlaljmppaaT4
import Derived.Test.YtlhhjdlaljmppaaT5
import Derived.Test.YtlhhjdlaljmppaaT8
import Derived.Test.YtlhhjdlaljmppaaT12
import Derived.Test.YtlhhjdlaljmppaaT13
import Derived.Test.YtlhhjdlaljmppaaT14
import Derived.Test.YtlhhjdlaljmppaaT15
import Derived.Test.YtlhhjdlaljmppaaT16
import Derived.Test.YtlhhjdlaljmppaaT17
import Derived.Test.YtlhhjdlaljmppaaTQD
import Derived.Test.YtlhhjdlaljmppaaTQI
import Derived.Test.YtlhhjdlaljmppaaTQS2
set_option linter.unusedVariables false
set_option linter.unusedSimpArgs false
namespace Go.Proofs.Ytlhhjdlaljmppaa.T
open Go.RowKit Go.Proofs.YtlhhjdlaljmppaaW.PrintWords Go.Proofs.YtlhhjdlaljmppaaW.PrintLast Go.Proofs.YtlhhjdlaljmppaaW.PrintMore

theorem Ev.uniq {α : Type} {g : Nat → Option α} {a b : α} (h : Ev g a) (k : Ev g b) : a = b := by
  obtain ⟨K, h⟩ := h
  obtain ⟨J, k⟩ := k
  have h1 := h (max K J) (by omega)
  have h2 := k (max K J) (by omega)
  rw [h1] at h2
  injection h2
/-! ### Instruments -/
theorem Ev.ifT {α : Type} {C : Prop} [Decidable C] {a : α} (h : C) : Ev (fun _ => if C then some a else none) a := by simp only [h, ↓reduceIte]; exact Ev.now _
theorem l1Put_l0 (l : List Int) (v : Int) (hl : l.length ≤ 1000) : ∀ (m i : Nat), i + m = l.length → ∃ r : List Int, Ev (fun k => spec_l1Put.l0 k l v i) r ∧ 1 ≤ r.length ∧ r.length ≤ l.length + 1 := by
  have fin : ∀ i : Nat, i ≤ l.length → (l.take i ++ [v] ++ l.drop i).length = l.length + 1 := by
    intro i hi
    simp
    omega
  intro m
  induction m with
  | zero =>
    intro i h
    have hi : i = l.length := by omega
    subst hi
    refine ⟨l.take l.length ++ [v] ++ l.drop l.length, Ev.fuel ?_, by rw [fin _ (Nat.le_refl _)]; omega, by rw [fin _ (Nat.le_refl _)]; omega⟩
    simp only [spec_l1Put.l0, Int.lt_irrefl, ↓reduceIte, Option.bind_some, show (0 : Int) ≤ (l.length : Int) from by omega, Int.le_refl, Int.toNat_natCast, List.length_nil, List.nil_append, List.length_append, List.length_cons, List.length_take, List.length_drop,
      show (0 + min l.length l.length < 17592186044416) = True from eq_true (by omega), show (min l.length l.length < 17592186044416) = True from eq_true (by omega), show (min l.length l.length + (0 + 1) + (l.length - l.length) < 17592186044416) = True from eq_true (by omega)]
    exact Ev.ifT (by omega)
  | succ m ih =>
    intro i h
    have c1 : (i : Int) < (l.length : Int) := by omega
    have c2 : (0 : Int) ≤ (i : Int) := by omega
    by_cases g : rd l (i : Int) < v
    · obtain ⟨r, hr, q⟩ := ih (i + 1) (by omega)
      refine ⟨r, Ev.fuel ?_, q⟩
      simp only [spec_l1Put.l0, c1, c2, g, ↓reduceIte, wn i (by omega)]
      exact hr
    · by_cases g2 : rd l (i : Int) = v
      · refine ⟨l, Ev.fuel ?_, by omega, by omega⟩
        simp only [spec_l1Put.l0, c1, c2, g, g2, Int.lt_irrefl, ↓reduceIte]
        exact Ev.now _
      · refine ⟨l.take i ++ [v] ++ l.drop i, Ev.fuel ?_, by rw [fin _ (by omega)]; omega, by rw [fin _ (by omega)]; omega⟩
        simp only [spec_l1Put.l0, c1, c2, g, g2, ↓reduceIte, Option.bind_some, show (i : Int) ≤ (l.length : Int) from by omega, Int.toNat_natCast, List.length_nil, List.nil_append, List.length_append, List.length_cons, List.length_take, List.length_drop,
          show (0 + min i l.length < 17592186044416) = True from eq_true (by omega), show (min i l.length < 17592186044416) = True from eq_true (by omega), show (min i l.length + (0 + 1) + (l.length - i) < 17592186044416) = True from eq_true (by omega)]
        exact Ev.ifT (by omega)
theorem l1Put_ev (l : List Int) (v : Int) (hl : l.length ≤ 1000) : ∃ r : List Int, Ev (fun k => spec_l1Put.f k l v) r ∧ 1 ≤ r.length ∧ r.length ≤ l.length + 1 := l1Put_l0 l v hl l.length 0 (by omega)
theorem ins_l1 (c : List Int) (a s rep : Int) : ∀ (m : Nat) (l : List Int), 20 ≤ l.length + m → l.length ≤ 20 → ∃ r : List Int, Ev (fun k => spec_l1Cur_instrument.l1 k c a s l rep) (r, rep, a, s) ∧ 1 ≤ r.length ∧ r.length ≤ 20 := by
  intro m
  induction m with
  | zero =>
    intro l h h2
    refine ⟨l, Ev.fuel ?_, by omega, h2⟩
    simp only [spec_l1Cur_instrument.l1, show ¬ ((l.length : Int) < 20) from by omega, ↓reduceIte]
    exact Ev.now _
  | succ m ih =>
    intro l h h2
    by_cases g : (l.length : Int) < 20
    · obtain ⟨r, hr, q⟩ := ih (l ++ [wrap64 (48 + (l.length : Int))]) (by simp; omega) (by simp; omega)
      refine ⟨r, Ev.fuel ?_, q⟩
      simp only [spec_l1Cur_instrument.l1, g, ↓reduceIte, show l.length < 17592186044416 from by omega]
      exact hr
    · refine ⟨l, Ev.fuel ?_, by omega, h2⟩
      simp only [spec_l1Cur_instrument.l1, g, ↓reduceIte]
      exact Ev.now _
def InsOk (r : List Int) (a' lo hi : Int) : Prop := lo ≤ a' ∧ a' ≤ hi ∧ 1 ≤ r.length ∧ r.length ≤ 60
theorem ins_j3 {c : List Int} (hc : Bytes c) (a s rep : Int) (l : List Int) (h0 : 0 ≤ a) (h1 : a ≤ 1000000) (hl : 1 ≤ l.length ∧ l.length ≤ 60) : ∃ r a' s', Ev (fun k => spec_l1Cur_instrument.j3 k c a s l rep) (r, rep, a', s') ∧ InsOk r a' a (a + 2) := by
  obtain ⟨b, a1, s1, e1, b1, c1⟩ := one_at hc a s 20 h0 (by omega) (by omega)
  cases b with
  | true =>
    obtain ⟨r, hr, q1, q2⟩ := ins_l1 c a1 s1 rep 20 [] (by simp) (by simp)
    refine ⟨r, a1, s1, Ev.fuel ?_, by omega, by omega, q1, by omega⟩
    simp only [spec_l1Cur_instrument.j3, e1, Option.bind_some, ↓reduceIte]
    exact hr
  | false =>
    refine ⟨l, a1, s1, Ev.fuel ?_, by omega, by omega, hl.1, hl.2⟩
    simp only [spec_l1Cur_instrument.j3, e1, Option.bind_some, Bool.false_eq_true, ↓reduceIte]
    exact Ev.now _
theorem ins_j2 {c : List Int} (hc : Bytes c) (a s rep : Int) (l : List Int) (h0 : 0 ≤ a) (h1 : a ≤ 100000) (hl : 1 ≤ l.length ∧ l.length ≤ 60) : ∃ r a' s', Ev (fun k => spec_l1Cur_instrument.j2 k c a s l rep) (r, rep, a', s') ∧ InsOk r a' a (a + 4) := by
  obtain ⟨b, a1, s1, e1, b1, c1⟩ := one_at hc a s 12 h0 (by omega) (by omega)
  cases b with
  | true =>
    obtain ⟨r, a2, s2, hr, q1, q2, q3, q4⟩ := ins_j3 hc a1 s1 rep [60] (by omega) (by omega) (by simp)
    refine ⟨r, a2, s2, Ev.fuel ?_, by omega, by omega, q3, q4⟩
    simp only [spec_l1Cur_instrument.j2, e1, Option.bind_some, ↓reduceIte]
    exact hr
  | false =>
    obtain ⟨r, a2, s2, hr, q1, q2, q3, q4⟩ := ins_j3 hc a1 s1 rep l (by omega) (by omega) hl
    refine ⟨r, a2, s2, Ev.fuel ?_, by omega, by omega, q3, q4⟩
    simp only [spec_l1Cur_instrument.j2, e1, Option.bind_some, Bool.false_eq_true, ↓reduceIte]
    exact hr
theorem ins_j1 {c : List Int} (hc : Bytes c) (b : Bool) (a s rep : Int) (l : List Int) (h0 : 0 ≤ a) (h1 : a ≤ 10000) (hl : l.length ≤ 50) (hb : b = false → 1 ≤ l.length) : ∃ r a' s', Ev (fun k => spec_l1Cur_instrument.j1 k b c a s l rep) (r, rep, a', s') ∧ InsOk r a' a (a + 8) := by
  cases b with
  | true =>
    obtain ⟨v, a1, s1, e1, b1, c1, _⟩ := pick_at hc a s 73 h0 (by omega) (by omega)
    obtain ⟨v2, a2, s2, e2, b2, c2, _⟩ := among_at hc a1 s1 [24, 96, wrap64 (24 + v)] (by omega) (by omega) (by simp) (by simp)
    obtain ⟨p, hp, p1, p2⟩ := l1Put_ev l v2 (by omega)
    obtain ⟨r, a3, s3, hr, q1, q2, q3, q4⟩ := ins_j2 hc a2 s2 rep p (by omega) (by omega) ⟨p1, by omega⟩
    refine ⟨r, a3, s3, Ev.fuel ?_, by omega, by omega, q3, q4⟩
    simp only [spec_l1Cur_instrument.j1, e1, e2, Option.bind_some, ↓reduceIte]
    exact Ev.bind hp hr
  | false =>
    obtain ⟨r, a3, s3, hr, q1, q2, q3, q4⟩ := ins_j2 hc a s rep l (by omega) (by omega) ⟨hb rfl, by omega⟩
    refine ⟨r, a3, s3, Ev.fuel ?_, by omega, by omega, q3, q4⟩
    simp only [spec_l1Cur_instrument.j1, Bool.false_eq_true, ↓reduceIte]
    exact hr
theorem ins_l0 {c : List Int} (hc : Bytes c) (y : List Int) (hy : y.length = 15) (rep : Int) : ∀ (m i : Nat) (a s : Int) (l : List Int), i + m = 15 → 0 ≤ a → a ≤ 100 + 2 * i → l.length ≤ i → ∃ r a' s', Ev (fun k => spec_l1Cur_instrument.l0 k y (y.length : Int) i c a s l rep) (r, rep, a', s') ∧ InsOk r a' 0 300 := by
  intro m
  induction m with
  | zero =>
    intro i a s l h h0 h1 h2
    obtain ⟨b, a1, s1, e1, b1, c1⟩ := one_at hc a s 4 h0 (by omega) (by omega)
    cases b with
    | true =>
      obtain ⟨r, a2, s2, hr, q1, q2, q3, q4⟩ := ins_j1 hc true a1 s1 rep l (by omega) (by omega) (by omega) (by simp)
      refine ⟨r, a2, s2, Ev.fuel ?_, by omega, by omega, q3, q4⟩
      simp only [spec_l1Cur_instrument.l0, show ¬ ((i : Int) < (y.length : Int)) from by omega, e1, Option.bind_some, ↓reduceIte]
      exact hr
    | false =>
      obtain ⟨r, a2, s2, hr, q1, q2, q3, q4⟩ := ins_j1 hc ((l.length : Int) == 0) a1 s1 rep l (by omega) (by omega) (by omega) (by simp; intro h3; cases l with | nil => simp at h3 | cons x xs => simp)
      refine ⟨r, a2, s2, Ev.fuel ?_, by omega, by omega, q3, q4⟩
      simp only [spec_l1Cur_instrument.l0, show ¬ ((i : Int) < (y.length : Int)) from by omega, e1, Option.bind_some, Bool.false_eq_true, ↓reduceIte]
      exact hr
  | succ m ih =>
    intro i a s l h h0 h1 h2
    obtain ⟨b, a1, s1, e1, b1, c1⟩ := one_at hc a s 4 h0 (by omega) (by omega)
    cases b with
    | true =>
      obtain ⟨r, a2, s2, hr, q⟩ := ih (i + 1) a1 s1 l (by omega) (by omega) (by omega) (by omega)
      refine ⟨r, a2, s2, Ev.fuel ?_, q⟩
      simp only [spec_l1Cur_instrument.l0, show (i : Int) < (y.length : Int) from by omega, show (0 : Int) ≤ (i : Int) from by omega, e1, Option.bind_some, ↓reduceIte, wn i (by omega)]
      exact hr
    | false =>
      obtain ⟨r, a2, s2, hr, q⟩ := ih (i + 1) a1 s1 (l ++ [rd y i]) (by omega) (by omega) (by omega) (by simp; omega)
      refine ⟨r, a2, s2, Ev.fuel ?_, q⟩
      simp only [spec_l1Cur_instrument.l0, show (i : Int) < (y.length : Int) from by omega, show (0 : Int) ≤ (i : Int) from by omega, e1, Option.bind_some, Bool.false_eq_true, ↓reduceIte, wn i (by omega), show l.length < 17592186044416 from by omega]
      exact hr
theorem instrument_ev {c : List Int} (hc : Bytes c) : ∃ r rep a' s', Ev (fun k => spec_l1Cur_instrument.f k c 0 0) (r, rep, a', s') ∧ InsOk r a' 0 300 := by
  obtain ⟨v, a1, s1, e1, b1, c1, _⟩ := among_at hc 0 0 [1, 1, 2, 3, 4, 8, 20] (by omega) (by omega) (by simp) (by simp)
  obtain ⟨r, a2, s2, hr, q⟩ := ins_l0 hc [48, 50, 52, 53, 55, 57, 59, 60, 62, 64, 65, 67, 69, 71, 72] rfl v 15 0 a1 s1 [] (by omega) (by omega) (by omega) (by simp)
  refine ⟨r, v, a2, s2, ?_, q⟩
  unfold spec_l1Cur_instrument.f
  simp only [e1, Option.bind_some]
  exact hr
theorem anyIns_l0 (c : List Int) (a s rep : Int) : ∀ (m : Nat) (l : List Int), 21 ≤ l.length + m → l.length ≤ 21 → ∃ r : List Int, Ev (fun k => spec_l1Cur_anyInstrument.l0 k c a s l rep) (r, rep, a, s) ∧ r.length ≤ 60 := by
  intro m
  induction m with
  | zero =>
    intro l h h2
    refine ⟨l, Ev.fuel ?_, by omega⟩
    simp only [spec_l1Cur_anyInstrument.l0, show ¬ ((l.length : Int) < 21) from by omega, ↓reduceIte]
    exact Ev.now _
  | succ m ih =>
    intro l h h2
    by_cases g : (l.length : Int) < 21
    · obtain ⟨r, hr, q⟩ := ih (l ++ [wrap64 (48 + (l.length : Int))]) (by simp; omega) (by simp; omega)
      refine ⟨r, Ev.fuel ?_, q⟩
      simp only [spec_l1Cur_anyInstrument.l0, g, ↓reduceIte, show l.length < 17592186044416 from by omega]
      exact hr
    · refine ⟨l, Ev.fuel ?_, by omega⟩
      simp only [spec_l1Cur_anyInstrument.l0, g, ↓reduceIte]
      exact Ev.now _
theorem anyInstrument_ev {c : List Int} (hc : Bytes c) : ∃ r rep a' s', Ev (fun k => spec_l1Cur_anyInstrument.f k c 0 0) (r, rep, a', s') ∧ 0 ≤ a' ∧ a' ≤ 1000 ∧ r.length ≤ 60 := by
  obtain ⟨p, rep, a, s, e0, q1, q2, q3, q4⟩ := instrument_ev hc
  obtain ⟨v, a1, s1, e1, b1, c1, _⟩ := pick_at hc a s 30 q1 (by omega) (by omega)
  by_cases g0 : v = 0
  · obtain ⟨u, a2, s2, e2, b2, c2, _⟩ := among_at hc a1 s1 [0, 21] (by omega) (by omega) (by simp) (by simp)
    refine ⟨p, u, a2, s2, ?_, by omega, by omega, q4⟩
    unfold spec_l1Cur_anyInstrument.f
    refine Ev.bind e0 ?_
    simp only [e1, e2, g0, Option.bind_some, ↓reduceIte]
    exact Ev.now _
  · by_cases g1 : v = 1
    · obtain ⟨i, a2, s2, e2, b2, c2, d2, f2⟩ := pick_at hc a1 s1 p.length (by omega) (by omega) (by omega)
      obtain ⟨u, a3, s3, e3, b3, c3, _⟩ := among_at hc a2 s2 [23, 60, 97] (by omega) (by omega) (by simp) (by simp)
      refine ⟨p.set i.toNat u, rep, a3, s3, ?_, by omega, by omega, by rw [List.length_set]; exact q4⟩
      unfold spec_l1Cur_anyInstrument.f
      refine Ev.bind e0 ?_
      simp only [e1, e2, e3, g1, Option.bind_some, ↓reduceIte, d2, f2 (by omega), show ¬ ((1 : Int) = 0) from by omega]
      exact Ev.now _
    · by_cases g2 : v = 2
      · refine ⟨[], rep, a1, s1, ?_, by omega, by omega, by simp⟩
        unfold spec_l1Cur_anyInstrument.f
        refine Ev.bind e0 ?_
        simp only [e1, g2, Option.bind_some, ↓reduceIte, show ¬ ((2 : Int) = 0) from by omega, show ¬ ((2 : Int) = 1) from by omega]
        exact Ev.now _
      · by_cases g3 : v = 3
        · obtain ⟨r, hr, q⟩ := anyIns_l0 c a1 s1 rep 21 [] (by simp) (by simp)
          refine ⟨r, rep, a1, s1, ?_, by omega, by omega, q⟩
          unfold spec_l1Cur_anyInstrument.f
          refine Ev.bind e0 ?_
          simp only [e1, g3, Option.bind_some, ↓reduceIte, show ¬ ((3 : Int) = 0) from by omega, show ¬ ((3 : Int) = 1) from by omega, show ¬ ((3 : Int) = 2) from by omega]
          exact hr
        · refine ⟨p, rep, a1, s1, ?_, by omega, by omega, q4⟩
          unfold spec_l1Cur_anyInstrument.f
          refine Ev.bind e0 ?_
          simp only [e1, g0, g1, g2, g3, Option.bind_some, ↓reduceIte]
          exact Ev.now _
/-! ### Scores -/
theorem note_at {c : List Int} (hc : Bytes c) (a s : Int) (h0 : 0 ≤ a) (h1 : a ≤ 10000000000) : ∃ x y z a' s', spec_l1Cur_note.f c a s = some (x, y, z, a', s') ∧ a ≤ a' ∧ a' ≤ a + 12 := by
  obtain ⟨r1, a1, s1, e1, b1, c1, _⟩ := pick_at hc a s 73 h0 (by omega) (by omega)
  obtain ⟨r2, a2, s2, e2, b2, c2, _⟩ := among_at hc a1 s1 [48, 50, 52, 55, 60, 60, 62, 64, 67, 72, wrap64 (24 + r1)] (by omega) (by omega) (by simp) (by simp)
  obtain ⟨r3, a3, s3, e3, b3, c3, _⟩ := pick_at hc a2 s2 40 (by omega) (by omega) (by omega)
  obtain ⟨r4, a4, s4, e4, b4, c4, _⟩ := pick_at hc a3 s3 40 (by omega) (by omega) (by omega)
  obtain ⟨r5, a5, s5, e5, b5, c5, _⟩ := among_at hc a4 s4 [0, 2, 4, 8, r3, r4, 999] (by omega) (by omega) (by simp) (by simp)
  obtain ⟨r6, a6, s6, e6, b6, c6, _⟩ := among_at hc a5 s5 [1, 2, 2, 4, 8, 99] (by omega) (by omega) (by simp) (by simp)
  unfold spec_l1Cur_note.f
  simp only [e1, e2, e3, e4, e5, e6, Option.bind_some]
  exact ⟨_, _, _, _, _, rfl, by omega, by omega⟩
theorem scoreRes_30 {l : List S60} (h : (scoreRes l).2 = true) : (scoreRes l).1.length ≤ 30 := goodScore_len (scoreRes_good l)
theorem score_l0 {c : List Int} (hc : Bytes c) (n : Int) : ∀ (m : Nat) (i a s : Int) (l : List S60), i + m = 90 → 0 ≤ i → 0 ≤ a → a ≤ 2000 + 20 * i → l.length ≤ 30 → ∃ r a' s', Ev (fun k => spec_l1Cur_score.l0 k l n i c a s) (r, a', s') ∧ 0 ≤ a' ∧ a' ≤ 10000 ∧ r.length ≤ 30 := by
  intro m
  induction m with
  | zero =>
    intro i a s l h hi h0 h1 hl
    refine ⟨l, a, s, Ev.fuel ?_, h0, by omega, hl⟩
    have e : ∀ b : Bool, b = false → Ev (fun k => spec_l1Cur_score.j2 k l n i b c a s) (l, a, s) := by
      intro b hb
      subst hb
      refine Ev.fuel ?_
      simp only [spec_l1Cur_score.j2, Bool.false_eq_true, ↓reduceIte]
      exact Ev.now _
    simp only [spec_l1Cur_score.l0]
    split
    · exact e _ (by simp; omega)
    · exact e _ rfl
  | succ m ih =>
    intro i a s l h hi h0 h1 hl
    by_cases g : (l.length : Int) < n
    · have key : ∀ x y z a1 s1 : Int, 0 ≤ a1 → a1 ≤ 2000 + 20 * (i + 1) → ∃ r a' s', Ev (fun k => (spec_ntSorted.f k (l ++ [(⟨x, y, z⟩ : S60)])).bind fun bt => (if bt.2 = true then (spec_l1Cur_score.l0 k bt.1 n (wrap64 (i + 1)) c a1 s1) else (spec_l1Cur_score.l0 k l n (wrap64 (i + 1)) c a1 s1))) (r, a', s') ∧ 0 ≤ a' ∧ a' ≤ 10000 ∧ r.length ≤ 30 := by
        intro x y z a1 s1 h2 h3
        have hs := ntSorted_ev (l ++ [(⟨x, y, z⟩ : S60)]) (by simp; omega)
        rw [w_id (x := i + 1) (by omega) (by omega)]
        cases hb : (scoreRes (l ++ [(⟨x, y, z⟩ : S60)])).2 with
        | true =>
          obtain ⟨r, a', s', e, q⟩ := ih (i + 1) a1 s1 (scoreRes (l ++ [(⟨x, y, z⟩ : S60)])).1 (by omega) (by omega) h2 h3 (scoreRes_30 hb)
          refine ⟨r, a', s', Ev.bind hs ?_, q⟩
          simp only [hb, ↓reduceIte]
          exact e
        | false =>
          obtain ⟨r, a', s', e, q⟩ := ih (i + 1) a1 s1 l (by omega) (by omega) h2 h3 hl
          refine ⟨r, a', s', Ev.bind hs ?_, q⟩
          simp only [hb, Bool.false_eq_true, ↓reduceIte]
          exact e
      obtain ⟨x, y, z, a1, s1, e1, b1, c1⟩ := note_at hc a s h0 (by omega)
      by_cases g2 : n = 30
      · obtain ⟨v, a2, s2, e2, b2, c2, _⟩ := pick_at hc a1 s1 9 (by omega) (by omega) (by omega)
        obtain ⟨r, a', s', e, q⟩ := key (wrap64 (48 + wrap64 (2 * Int.tmod (l.length : Int) 10))) (wrap64 (3 * (l.length : Int))) (wrap64 (1 + v)) a2 s2 (by omega) (by omega)
        refine ⟨r, a', s', Ev.fuel ?_, q⟩
        simp only [spec_l1Cur_score.l0, g, show i < 90 from by omega, decide_true, ↓reduceIte]
        refine Ev.fuel ?_
        simp only [spec_l1Cur_score.j2, ↓reduceIte, e1, e2, Option.bind_some, if_pos g2, List.length_nil, List.nil_append, Nat.zero_add, List.length_cons, show (l.length < 5864062014805) = True from eq_true (by omega), show (l.length + 1 < 5864062014805) = True from eq_true (by omega)]
        exact e
      · obtain ⟨r, a', s', e, q⟩ := key x y z a1 s1 (by omega) (by omega)
        refine ⟨r, a', s', Ev.fuel ?_, q⟩
        simp only [spec_l1Cur_score.l0, g, show i < 90 from by omega, decide_true, ↓reduceIte]
        refine Ev.fuel ?_
        simp only [spec_l1Cur_score.j2, ↓reduceIte, e1, Option.bind_some, if_neg g2, List.length_nil, List.nil_append, Nat.zero_add, List.length_cons, show (l.length < 5864062014805) = True from eq_true (by omega), show (l.length + 1 < 5864062014805) = True from eq_true (by omega)]
        exact e
    · refine ⟨l, a, s, Ev.fuel ?_, h0, by omega, hl⟩
      simp only [spec_l1Cur_score.l0, g, ↓reduceIte]
      refine Ev.fuel ?_
      simp only [spec_l1Cur_score.j2, Bool.false_eq_true, ↓reduceIte]
      exact Ev.now _
theorem score_ev {c : List Int} (hc : Bytes c) (a s : Int) (h0 : 0 ≤ a) (h1 : a ≤ 1500) : ∃ r a' s', Ev (fun k => spec_l1Cur_score.f k c a s) (r, a', s') ∧ 0 ≤ a' ∧ a' ≤ 10000 ∧ r.length ≤ 30 := by
  obtain ⟨v, a1, s1, e1, b1, c1, _⟩ := pick_at hc a s 9 h0 (by omega) (by omega)
  obtain ⟨b, a2, s2, e2, b2, c2⟩ := one_at hc a1 s1 20 (by omega) (by omega) (by omega)
  have key : ∀ n : Int, ∃ r a' s', Ev (fun k => spec_l1Cur_score.l0 k ([] : List S60) n 0 c a2 s2) (r, a', s') ∧ 0 ≤ a' ∧ a' ≤ 10000 ∧ r.length ≤ 30 := fun n => score_l0 hc n 90 0 a2 s2 [] (by omega) (by omega) (by omega) (by omega) (by simp)
  cases b with
  | true =>
    obtain ⟨r, a', s', e, q⟩ := key 30
    refine ⟨r, a', s', ?_, q⟩
    unfold spec_l1Cur_score.f
    simp only [e1, e2, Option.bind_some, ↓reduceIte]
    exact e
  | false =>
    obtain ⟨r, a', s', e, q⟩ := key v
    refine ⟨r, a', s', ?_, q⟩
    unfold spec_l1Cur_score.f
    simp only [e1, e2, Option.bind_some, Bool.false_eq_true, ↓reduceIte]
    exact e
theorem anyScore_l0 (a s : Int) : ∀ (m : Nat) (l : List S60), 31 ≤ l.length + m → l.length ≤ 31 → ∃ r : List S60, Ev (fun k => spec_l1Cur_anyScore.l0 k a s l) (r, a, s) ∧ r.length ≤ 31 := by
  intro m
  induction m with
  | zero =>
    intro l h h2
    refine ⟨l, Ev.fuel ?_, h2⟩
    simp only [spec_l1Cur_anyScore.l0, show ¬ ((l.length : Int) < 31) from by omega, ↓reduceIte]
    exact Ev.now _
  | succ m ih =>
    intro l h h2
    by_cases g : (l.length : Int) < 31
    · obtain ⟨r, hr, q⟩ := ih (l ++ [⟨60, wrap64 (2 * (l.length : Int)), 1⟩]) (by simp; omega) (by simp; omega)
      refine ⟨r, Ev.fuel ?_, q⟩
      simp only [spec_l1Cur_anyScore.l0, g, ↓reduceIte, show l.length < 5864062014805 from by omega]
      exact hr
    · refine ⟨l, Ev.fuel ?_, h2⟩
      simp only [spec_l1Cur_anyScore.l0, g, ↓reduceIte]
      exact Ev.now _
theorem anyScore_ev {c : List Int} (hc : Bytes c) (a s : Int) (h0 : 0 ≤ a) (h1 : a ≤ 1500) : ∃ r a' s', Ev (fun k => spec_l1Cur_anyScore.f k c a s) (r, a', s') ∧ 0 ≤ a' ∧ a' ≤ 20000 ∧ r.length ≤ 31 := by
  obtain ⟨l, a0, s0, e0, q0, q1, q2⟩ := score_ev hc a s h0 h1
  by_cases g : (l.length : Int) > 0
  · obtain ⟨r1, a1, s1, e1, b1, c1, d1, f1⟩ := pick_at hc a0 s0 l.length q0 (by omega) (by omega)
    have f1 := f1 (by omega)
    obtain ⟨r2, a2, s2, e2, b2, c2, d2, f2⟩ := pick_at hc a1 s1 36 (by omega) (by omega) (by omega)
    by_cases g0 : r2 = 0
    · obtain ⟨r3, a3, s3, e3, b3, c3, _⟩ := among_at hc a2 s2 [23, 24, 96, 97] (by omega) (by omega) (by simp) (by simp)
      refine ⟨l.set r1.toNat ⟨r3, (rd_T60 l r1).f1, (rd_T60 l r1).f2⟩, a3, s3, ?_, by omega, by omega, by rw [List.length_set]; omega⟩
      unfold spec_l1Cur_anyScore.f
      refine Ev.bind e0 ?_
      simp only [g, e1, e2, e3, d1, f1, g0, ↓reduceIte, Option.bind_some]
      exact Ev.now _
    · by_cases g1 : r2 = 1
      · obtain ⟨r3, a3, s3, e3, b3, c3, _⟩ := among_at hc a2 s2 [-1, 0, 999, 1000] (by omega) (by omega) (by simp) (by simp)
        refine ⟨l.set r1.toNat ⟨(rd_T60 l r1).f0, r3, (rd_T60 l r1).f2⟩, a3, s3, ?_, by omega, by omega, by rw [List.length_set]; omega⟩
        unfold spec_l1Cur_anyScore.f
        refine Ev.bind e0 ?_
        simp only [g, e1, e2, e3, d1, f1, g0, g1, ↓reduceIte, Option.bind_some, show ¬ ((1 : Int) = 0) from by omega]
        exact Ev.now _
      · by_cases g2 : r2 = 2
        · obtain ⟨r3, a3, s3, e3, b3, c3, _⟩ := among_at hc a2 s2 [0, 99, 100] (by omega) (by omega) (by simp) (by simp)
          refine ⟨l.set r1.toNat ⟨(rd_T60 l r1).f0, (rd_T60 l r1).f1, r3⟩, a3, s3, ?_, by omega, by omega, by rw [List.length_set]; omega⟩
          unfold spec_l1Cur_anyScore.f
          refine Ev.bind e0 ?_
          simp only [g, e1, e2, e3, d1, f1, g0, g1, g2, ↓reduceIte, Option.bind_some, show ¬ ((2 : Int) = 0) from by omega, show ¬ ((2 : Int) = 1) from by omega]
          exact Ev.now _
        · by_cases g3 : r2 = 3
          · refine ⟨l ++ [⟨(rd_T60 l 0).f0, (rd_T60 l 0).f1, (rd_T60 l 0).f2⟩], a2, s2, ?_, by omega, by omega, by simp; omega⟩
            unfold spec_l1Cur_anyScore.f
            refine Ev.bind e0 ?_
            simp only [g, e1, e2, d1, f1, g3, ↓reduceIte, Option.bind_some, show ¬ ((3 : Int) = 0) from by omega, show ¬ ((3 : Int) = 1) from by omega, show ¬ ((3 : Int) = 2) from by omega, show l.length < 5864062014805 from by omega]
            exact Ev.now _
          · by_cases g4 : r2 = 4
            · obtain ⟨r, hr, hl'⟩ := anyScore_l0 a2 s2 31 [] (by simp) (by simp)
              refine ⟨r, a2, s2, ?_, by omega, by omega, hl'⟩
              unfold spec_l1Cur_anyScore.f
              refine Ev.bind e0 ?_
              simp only [g, e1, e2, d1, f1, g4, ↓reduceIte, Option.bind_some, show ¬ ((4 : Int) = 0) from by omega, show ¬ ((4 : Int) = 1) from by omega, show ¬ ((4 : Int) = 2) from by omega, show ¬ ((4 : Int) = 3) from by omega]
              exact hr
            · refine ⟨l, a2, s2, ?_, by omega, by omega, by omega⟩
              unfold spec_l1Cur_anyScore.f
              refine Ev.bind e0 ?_
              simp only [g, e1, e2, d1, f1, g0, g1, g2, g3, g4, ↓reduceIte, Option.bind_some]
              exact Ev.now _
  · refine ⟨l, a0, s0, ?_, by omega, by omega, by omega⟩
    unfold spec_l1Cur_anyScore.f
    refine Ev.bind e0 ?_
    simp only [g, ↓reduceIte]
    exact Ev.now _
/-! ### An instrument and a score -/
theorem scoreFor_l0 {c : List Int} (hc : Bytes c) (x : List S60) (hx : x.length ≤ 31) (ps : List Int) (rep : Int) (hp : 1 ≤ ps.length) (hp2 : ps.length ≤ 60) : ∀ (m i : Nat) (a s : Int) (mv : List S60), i + m = x.length → 0 ≤ a → a ≤ 30000 + 4 * i → mv.length ≤ 30 → ∃ r a' s', Ev (fun k => spec_l1Cur_scoreFor.l0 k x (x.length : Int) i ps rep c a s mv) (ps, rep, r, a', s') ∧ 0 ≤ a' ∧ a' ≤ 40000 ∧ r.length ≤ 30 := by
  intro m
  induction m with
  | zero =>
    intro i a s mv h h0 h1 hl
    refine ⟨mv, a, s, Ev.fuel ?_, h0, by omega, hl⟩
    simp only [spec_l1Cur_scoreFor.l0, show ¬ ((i : Int) < (x.length : Int)) from by omega, ↓reduceIte]
    exact Ev.now _
  | succ m ih =>
    intro i a s mv h h0 h1 hl
    have key : ∀ u v w a1 s1 : Int, 0 ≤ a1 → a1 ≤ 30000 + 4 * (i + 1) → ∃ r a' s', Ev (fun k => spec_l1Cur_scoreFor.j1 k x (x.length : Int) i ps rep c a1 s1 mv u v w) (ps, rep, r, a', s') ∧ 0 ≤ a' ∧ a' ≤ 40000 ∧ r.length ≤ 30 := by
      intro u v w a1 s1 h2 h3
      have hs := ntSorted_ev ([] ++ mv ++ [(⟨u, v, w⟩ : S60)]) (by simp; omega)
      cases hb : (scoreRes ([] ++ mv ++ [(⟨u, v, w⟩ : S60)])).2 with
      | true =>
        obtain ⟨r, a', s', e, q⟩ := ih (i + 1) a1 s1 (scoreRes ([] ++ mv ++ [(⟨u, v, w⟩ : S60)])).1 (by omega) h2 (by omega) (scoreRes_30 hb)
        refine ⟨r, a', s', Ev.fuel ?_, q⟩
        simp only [spec_l1Cur_scoreFor.j1, show ([] : List S60).length + mv.length < 5864062014805 from by simp; omega, show (([] : List S60) ++ mv).length < 5864062014805 from by simp; omega, ↓reduceIte, wn i (by omega)]
        refine Ev.bind hs ?_
        simp only [hb, ↓reduceIte]
        exact e
      | false =>
        obtain ⟨r, a', s', e, q⟩ := ih (i + 1) a1 s1 mv (by omega) h2 (by omega) hl
        refine ⟨r, a', s', Ev.fuel ?_, q⟩
        simp only [spec_l1Cur_scoreFor.j1, show ([] : List S60).length + mv.length < 5864062014805 from by simp; omega, show (([] : List S60) ++ mv).length < 5864062014805 from by simp; omega, ↓reduceIte, wn i (by omega)]
        refine Ev.bind hs ?_
        simp only [hb, Bool.false_eq_true, ↓reduceIte]
        exact e
    obtain ⟨b, a1, s1, e1, b1, c1⟩ := one_at hc a s 6 h0 (by omega) (by omega)
    cases b with
    | true =>
      obtain ⟨r, a', s', e, q⟩ := key _ _ _ a1 s1 (by omega) (by omega)
      refine ⟨r, a', s', Ev.fuel ?_, q⟩
      simp only [spec_l1Cur_scoreFor.l0, show (i : Int) < (x.length : Int) from by omega, show (0 : Int) ≤ (i : Int) from by omega, e1, Option.bind_some, ↓reduceIte]
      exact e
    | false =>
      obtain ⟨v, a2, s2, e2, b2, c2, d2, f2⟩ := pick_at hc a1 s1 ps.length (by omega) (by omega) (by omega)
      obtain ⟨r, a', s', e, q⟩ := key _ _ _ a2 s2 (by omega) (by omega)
      refine ⟨r, a', s', Ev.fuel ?_, q⟩
      simp only [spec_l1Cur_scoreFor.l0, show (i : Int) < (x.length : Int) from by omega, show (0 : Int) ≤ (i : Int) from by omega, e1, e2, d2, f2 (by omega), Option.bind_some, Bool.false_eq_true, ↓reduceIte]
      exact e
theorem scoreFor_ev {c : List Int} (hc : Bytes c) : ∃ p rep l a' s', Ev (fun k => spec_l1Cur_scoreFor.f k c 0 0) (p, rep, l, a', s') ∧ 0 ≤ a' ∧ a' ≤ 40000 ∧ p.length ≤ 60 ∧ l.length ≤ 31 := by
  obtain ⟨p, rep, a0, s0, e0, q1, q2, q3⟩ := anyInstrument_ev hc
  obtain ⟨l, a1, s1, e1, u1, u2, u3⟩ := anyScore_ev hc a0 s0 q1 (by omega)
  have ea := inAsked_ev p rep l (by omega) (by omega)
  cases hg : goodIns p rep && goodScore l with
  | false =>
    rw [hg] at ea
    refine ⟨p, rep, l, a1, s1, ?_, by omega, by omega, q3, u3⟩
    unfold spec_l1Cur_scoreFor.f
    refine Ev.bind e0 (Ev.bind e1 (Ev.bind ea ?_))
    simp only [Bool.false_eq_true, ↓reduceIte]
    exact Ev.now _
  | true =>
    rw [hg] at ea
    rw [Bool.and_eq_true] at hg
    have hp := ((goodIns_iff p rep).1 hg.1).1
    obtain ⟨b, a2, s2, e2, b2, c2⟩ := one_at hc a1 s1 4 u1 (by omega) (by omega)
    cases b with
    | true =>
      refine ⟨p, rep, l, a2, s2, ?_, by omega, by omega, q3, u3⟩
      unfold spec_l1Cur_scoreFor.f
      refine Ev.bind e0 (Ev.bind e1 (Ev.bind ea ?_))
      simp only [e2, Option.bind_some, ↓reduceIte]
      exact Ev.now _
    | false =>
      obtain ⟨r, a3, s3, e3, v1, v2, v3⟩ := scoreFor_l0 hc l u3 p rep hp.1 (by omega) l.length 0 a2 s2 [] (by omega) (by omega) (by omega) (by simp)
      refine ⟨p, rep, r, a3, s3, ?_, by omega, by omega, q3, by omega⟩
      unfold spec_l1Cur_scoreFor.f
      refine Ev.bind e0 (Ev.bind e1 (Ev.bind ea ?_))
      simp only [e2, Option.bind_some, Bool.false_eq_true, ↓reduceIte]
      exact e3
/-! ### Changed scores -/
def chOf (a b : Int) (l : List S60) : List S60 := l.map fun x => ⟨wrap64 (x.f0 + a), wrap64 (x.f1 + b), x.f2⟩
def chRes (l : List S60) : List S60 × Bool := if goodScore l = true then (l, true) else ([], false)
theorem chRes_len (l : List S60) : (chRes l).1.length ≤ 30 := by
  unfold chRes
  split
  · rename_i h; exact goodScore_len h
  · simp
theorem ntChanged_l0 (a b : Int) (l : List S60) (hl : l.length ≤ 1048576) : ∀ (suf pre : List S60), pre ++ suf = l → Ev (fun k => spec_ntChanged.l0 k a b (chOf a b pre) l (l.length : Int) pre.length) (chRes (chOf a b l)) := by
  intro suf
  induction suf with
  | nil =>
    intro pre h
    rw [List.append_nil] at h
    subst h
    refine Ev.fuel ?_
    simp only [spec_ntChanged.l0, Int.lt_irrefl, ↓reduceIte]
    refine Ev.bind (ntGood_ev _ (by simp [chOf]; exact hl)) ?_
    unfold chRes
    split
    · exact Ev.now _
    · exact Ev.now _
  | cons x suf ih =>
    intro pre h
    have hlen : l.length = pre.length + (suf.length + 1) := by rw [← h]; simp
    have c3 : rd_T60 l (pre.length : Int) = x := by rw [← h]; exact getD_mid _ _ _ _
    refine Ev.fuel ?_
    simp only [spec_ntChanged.l0, show (pre.length : Int) < (l.length : Int) from by omega, show (0 : Int) ≤ (pre.length : Int) from by omega, c3, ↓reduceIte, wn pre.length (by omega), show (chOf a b pre).length < 5864062014805 from by simp [chOf]; omega]
    have e := ih (pre ++ [x]) (by rw [← h]; simp)
    simpa [chOf] using e
theorem ntChanged_ev (a b : Int) (l : List S60) (hl : l.length ≤ 1048576) : Ev (fun k => spec_ntChanged.f k l a b) (chRes (chOf a b l)) := ntChanged_l0 a b l hl l [] rfl
theorem DrawLossTable_ev {c : List Int} (hc : Bytes c) : ∃ (p : List Int) (rep : Int) (l : List S60), Ev (fun k => spec_DrawLossTable.f k c) (p, rep, l) ∧ p.length ≤ 60 ∧ l.length ≤ 31 := by
  obtain ⟨p, rep, l, a, s, e, h0, h1, h2, h3⟩ := scoreFor_ev hc
  obtain ⟨b, a1, s1, e1, b1, c1⟩ := one_at hc a s 3 h0 (by omega) (by omega)
  cases b with
  | false =>
    refine ⟨p, rep, l, ?_, h2, h3⟩
    unfold spec_DrawLossTable.f
    refine Ev.bind e ?_
    simp only [e1, Option.bind_some, Bool.false_eq_true, ↓reduceIte]
    exact Ev.now _
  | true =>
    obtain ⟨v, a2, s2, e2, b2, c2, d2, f2⟩ := pick_at hc a1 s1 25 (by omega) (by omega) (by omega)
    have hch := ntChanged_ev (wrap64 (v - 12)) 0 l (by omega)
    have hlen := chRes_len (chOf (wrap64 (v - 12)) 0 l)
    have hgd := ntGood_ev l (by omega)
    by_cases g : (chRes (chOf (wrap64 (v - 12)) 0 l)).2 = true ∧ goodScore l = true
    · refine ⟨p, rep, (chRes (chOf (wrap64 (v - 12)) 0 l)).1, ?_, h2, by omega⟩
      unfold spec_DrawLossTable.f
      refine Ev.bind e ?_
      simp only [e1, e2, Option.bind_some, ↓reduceIte]
      refine Ev.bind hch ?_
      simp only [g.1, ↓reduceIte]
      refine Ev.bind hgd ?_
      simp only [g.2, ↓reduceIte]
      exact Ev.now _
    · refine ⟨p, rep, l, ?_, h2, h3⟩
      unfold spec_DrawLossTable.f
      refine Ev.bind e ?_
      simp only [e1, e2, Option.bind_some, ↓reduceIte]
      refine Ev.bind hch ?_
      by_cases g1 : (chRes (chOf (wrap64 (v - 12)) 0 l)).2 = true
      · simp only [g1, ↓reduceIte]
        refine Ev.bind hgd ?_
        simp only [show ¬ goodScore l = true from fun h => g ⟨g1, h⟩, ↓reduceIte]
        exact Ev.now _
      · simp only [g1, ↓reduceIte]
        exact Ev.now _
theorem DrawBestTransposition_ev {c : List Int} (hc : Bytes c) : ∃ (p : List Int) (rep : Int) (l : List S60), Ev (fun k => spec_DrawBestTransposition.f k c) (p, rep, l) ∧ p.length ≤ 60 ∧ l.length ≤ 31 := by
  obtain ⟨p, rep, l, e, q⟩ := DrawLossTable_ev hc
  exact ⟨p, rep, l, by unfold spec_DrawBestTransposition.f; exact Ev.bind e (Ev.now _), q⟩
theorem DrawTransposeLoss_ev {c : List Int} (hc : Bytes c) : ∃ (p : List Int) (rep : Int) (l : List S60) (b : Int), Ev (fun k => spec_DrawTransposeLoss.f k c) (p, rep, l, b) ∧ p.length ≤ 60 ∧ l.length ≤ 31 := by
  obtain ⟨p, rep, l, a, s, e, h0, h1, h2, h3⟩ := scoreFor_ev hc
  obtain ⟨v, a1, s1, e1, b1, c1, _⟩ := among_at hc a s [24, 25, -24, -25] h0 (by omega) (by simp) (by simp)
  obtain ⟨u, a2, s2, e2, b2, c2, _⟩ := among_at hc a1 s1 [0, 1, -1, 5, 12, -12, v] (by omega) (by omega) (by simp) (by simp)
  refine ⟨p, rep, l, u, ?_, h2, h3⟩
  unfold spec_DrawTransposeLoss.f
  refine Ev.bind e ?_
  simp only [e1, e2, Option.bind_some]
  exact Ev.now _
end Go.Proofs.Ytlhhjdlaljmppaa.T
