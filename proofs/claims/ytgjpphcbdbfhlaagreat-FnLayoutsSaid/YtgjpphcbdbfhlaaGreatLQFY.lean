/- The plain part of the law of layouts. No condition. -/
import Derived.Test.YtgjpphcbdbfhlaaGreatL0
import Derived.Test.YtgjpphcbdbfhlaaGreatL28
import Derived.Test.YtgjpphcbdbfhlaaGreatLQA
set_option linter.unusedVariables false
set_option linter.unusedSimpArgs false
namespace Go.Proofs.YtgjpphcbdbfhlaaGreat.L
open Go.RowKit Go.Proofs.YtgjpphcbdbfhlaaGreatW.PrintWords Go.Proofs.YtgjpphcbdbfhlaaGreatW.PrintLast Go.Proofs.YtgjpphcbdbfhlaaGreatW.PrintMore

theorem hf_nf {l : List Int} {r a b c : Int} (h : (hfRes l r a b c).2.2.2 = true) : nfRes l r (hfRes l r a b c).1 (hfRes l r a b c).2.1 (hfRes l r a b c).2.2.1 = (a, b, c, true) := by
  unfold hfRes at h ⊢
  split at h
  · rename_i hg
    rw [if_pos hg]
    obtain ⟨n1, n2⟩ := note_back hg.2 h
    have hb := layH_good h
    unfold nfRes
    rw [if_pos ⟨hg.1, hb⟩]
    have e : noteR l (layH l ⟨a, b, c⟩) = (a, b, c, true) := by
      unfold noteR
      rw [if_pos n2, n1]
    exact e
  · cases h
theorem nf_hf {l : List Int} {r a b c : Int} (h : (nfRes l r a b c).2.2.2 = true) : hfRes l r (nfRes l r a b c).1 (nfRes l r a b c).2.1 (nfRes l r a b c).2.2.1 = (a, b, c, true) := by
  unfold nfRes at h ⊢
  split at h
  · rename_i hg
    rw [if_pos hg]
    have ho : noteOk l ⟨a, b, c⟩ = true := by rw [← noteR_ok (l := l)]; exact h
    have e : noteR l ⟨a, b, c⟩ = ((noteH l ⟨a, b, c⟩).f0, (noteH l ⟨a, b, c⟩).f1, (noteH l ⟨a, b, c⟩).f2, true) := by unfold noteR; rw [if_pos ho]
    rw [e]
    have hn := ((noteOk_iff l _).1 ho).2
    have hb := hole_back (ins_lt hg.1) hg.2 ho
    unfold hfRes
    rw [if_pos ⟨hg.1, hn⟩]
    exact hb
  · cases h
theorem lf_mv {l : List Int} {r b : Int} {s : List S36} (h : (lfRes l r s b).2 = true) : (loRes l r s).2 = true ∧ mvRes (loRes l r s).1 b = ((lfRes l r s b).1, true) := by
  unfold lfRes at h ⊢
  split at h
  · rename_i hg
    rw [if_pos hg]
    have e1 : loRes l r s = layRes l r s := by unfold loRes; rw [if_pos ⟨hg.1, hg.2.1⟩]
    rw [e1]
    unfold fromRes at h ⊢
    split at h
    · rename_i h2
      rw [if_pos h2]
      refine ⟨h2, ?_⟩
      obtain ⟨q1, _, _, q4⟩ := layRes_ok (ins_lt hg.1) hg.2.1 h2
      unfold mvRes
      rw [if_pos ⟨by rw [q1]; exact q4, by omega⟩]
      have e2 : (layRes l r s).1.map (move1 b) = (layRes l r s).1.map (shiftH b) := rfl
      rw [e2]
      rw [← h]
    · cases h
  · cases h
theorem lo_back {l : List Int} {r : Int} {s : List S36} (h : (loRes l r s).2 = true) : goodIns l r = true ∧ goodScore s = true ∧ layAll l s = true ∧ (loRes l r s).1 = s.map (layH l) ∧ rbRes l r (loRes l r s).1 = (s, true) ∧ ilRes l r (loRes l r s).1 = (true, true) ∧ goodSheet (loRes l r s).1 = true := by
  unfold loRes at h ⊢
  split at h
  · rename_i hg
    rw [if_pos hg]
    obtain ⟨q1, q2, q3, q4⟩ := layRes_ok (ins_lt hg.1) hg.2 h
    rw [q1]
    refine ⟨hg.1, hg.2, q2, rfl, ?_, ?_, q4⟩
    · unfold rbRes
      rw [if_pos ⟨hg.1, q4⟩, read_of_lay hg.2 q2]
    · unfold ilRes
      rw [if_pos ⟨hg.1, q4⟩, read_of_lay hg.2 q2]
      simp only [q3, Bool.and_self]
  · cases h
theorem fy_l0 (p : List Int) (rep : Int) (l : List S36) (hp : p.length ≤ 1048576) (h : (loRes p rep l).2 = true) : ∀ (m i : Nat), i + m = l.length → Ev (fun k => laws_FnLayouts.l0 k (l.map (layH p)) l (l.length : Int) i p rep) true := by
  obtain ⟨hg, hs, ha, _⟩ := lo_back h
  have h30 := goodScore_len hs
  intro m
  induction m with
  | zero =>
    intro i hi
    refine Ev.fuel ?_
    simp only [laws_FnLayouts.l0, show ¬ ((i : Int) < (l.length : Int)) from by omega, ↓reduceIte]
    exact Ev.now _
  | succ m ih =>
    intro i hi
    have hlt : i < l.length := by omega
    have e1 : rd_T36 l (i : Int) = l[i] := by
      unfold rd_T36
      rw [Int.toNat_natCast, List.getD_eq_getElem?_getD, List.getElem?_eq_getElem hlt]; rfl
    have e2 : rd_T40 (l.map (layH p)) (i : Int) = layH p l[i] := by
      unfold rd_T40
      rw [Int.toNat_natCast, List.getD_eq_getElem?_getD, List.getElem?_map, List.getElem?_eq_getElem hlt]; rfl
    have hm : l[i] ∈ l := List.getElem_mem _
    have hx := goodScore_all hs _ hm
    have ho := List.all_eq_true.1 ha _ hm
    obtain ⟨eL, hb⟩ := layH_eq ho
    have eh : hfRes p rep l[i].f0 l[i].f1 l[i].f2 = ((layH p l[i]).f0, (layH p l[i]).f1, (layH p l[i]).f2, true) := by
      unfold hfRes
      rw [if_pos ⟨hg, hx⟩]
      have : holeOf p l[i] = ((layH p l[i]).f0, (layH p l[i]).f1, (layH p l[i]).f2, true) := by
        unfold layH
        simp only
        rw [← ho]
      exact this
    have n := (noteB_iff _).1 hx
    have et : (layH p l[i]).f2 - (layH p l[i]).f1 = 2 * l[i].f2 - 1 := by rw [eL]; simp only; omega
    refine Ev.fuel ?_
    simp only [laws_FnLayouts.l0, show (i : Int) < (l.length : Int) from by omega, show (0 : Int) ≤ (i : Int) from by omega, show (i : Int) < ((l.map (layH p)).length : Int) from by rw [List.length_map]; omega, e1, e2, ↓reduceIte, wn i (by omega), et, w_id (x := 2 * l[i].f2) (by omega) (by omega)]
    refine Ev.bind (hfBoth_ev p rep l[i].f0 l[i].f1 l[i].f2 hp).1 ?_
    rw [eh]
    simp only [beq_self_eq_true, Bool.not_true, Bool.or_self, Bool.false_eq_true, ↓reduceIte, et]
    exact ih (i + 1) (by omega)
theorem fy_j3 (p : List Int) (rep : Int) (l : List S36) (hp : p.length ≤ 60) (hl : l.length ≤ 31) : Ev (fun k => laws_FnLayouts.j3 k l (loRes p rep l).1 (loRes p rep l).2 (loRes p rep l).1 p rep) true := by
  cases h : (loRes p rep l).2 with
  | false =>
    refine Ev.fuel ?_
    simp only [laws_FnLayouts.j3, Bool.false_eq_true, ↓reduceIte]
    exact Ev.now _
  | true =>
    obtain ⟨hg, hs, ha, e1, e2, e3, e4⟩ := lo_back h
    have r1 := (rbBoth_ev p rep (loRes p rep l).1 (by omega) (loRes_len _ _ _)).1
    have r2 := (ilBoth_ev p rep (loRes p rep l).1 (by omega) (loRes_len _ _ _)).1
    rw [e2] at r1
    rw [e3] at r2
    refine Ev.fuel ?_
    simp only [laws_FnLayouts.j3, ↓reduceIte]
    refine Ev.bind r1 (Ev.bind r2 ?_)
    simp only [↓reduceIte]
    refine Ev.bind (qNotes_ev l (by omega)) ?_
    simp only [↓reduceIte]
    refine Ev.bind (IsSheet_ev _ (loRes_len _ _ _)) ?_
    have ne : (((loRes p rep l).1.length : Int) != (l.length : Int)) = false := by rw [e1]; simp
    simp only [e4, ↓reduceIte, ne]
    refine Ev.fuel ?_
    simp only [laws_FnLayouts.j4, Bool.false_eq_true, ↓reduceIte]
    rw [e1]
    exact fy_l0 p rep l (by omega) h l.length 0 (by omega)
theorem fy_j2 (p : List Int) (rep : Int) (l : List S36) (hp : p.length ≤ 60) (hl : l.length ≤ 31) (p2 : List Int) (rep2 : Int) (l2 : List S36) (b : Int) (hp2 : p2.length ≤ 60) (hl2 : l2.length ≤ 31) : Ev (fun k => laws_FnLayouts.j2 k l (loRes p rep l).1 (loRes p rep l).2 (loRes p rep l).1 l2 b (lfRes p2 rep2 l2 b).2 (lfRes p2 rep2 l2 b).1 p rep p2 rep2) true := by
  cases h : (lfRes p2 rep2 l2 b).2 with
  | false =>
    refine Ev.fuel ?_
    simp only [laws_FnLayouts.j2, Bool.false_eq_true, ↓reduceIte]
    exact fy_j3 p rep l hp hl
  | true =>
    obtain ⟨h1, h2⟩ := lf_mv h
    obtain ⟨a1, a2⟩ := loBoth_ev p2 rep2 l2 (by omega) (by omega)
    have a3 := mv_ev (loRes p2 rep2 l2).1 b (loRes_len _ _ _)
    rw [h2] at a3
    refine Ev.fuel ?_
    simp only [laws_FnLayouts.j2, ↓reduceIte]
    refine Ev.bind a1 (Ev.bind a3 (Ev.bind a2 ?_))
    simp only [h1, ↓reduceIte]
    refine Ev.bind (qSheet_ev _ (loRes_len _ _ _)) ?_
    simp only [↓reduceIte]
    refine Ev.bind (qSheet_ev _ (lfRes_len _ _ _ _)) ?_
    simp only [↓reduceIte]
    exact fy_j3 p rep l hp hl
theorem fy_j1 (p : List Int) (rep : Int) (l : List S36) (hp : p.length ≤ 60) (hl : l.length ≤ 31) (p2 : List Int) (rep2 : Int) (l2 : List S36) (b : Int) (hp2 : p2.length ≤ 60) (hl2 : l2.length ≤ 31) (p4 : List Int) (rep4 u v t : Int) (hp4 : p4.length ≤ 60) : Ev (fun k => laws_FnLayouts.j1 k l (loRes p rep l).1 (loRes p rep l).2 (loRes p rep l).1 l2 b (lfRes p2 rep2 l2 b).2 (lfRes p2 rep2 l2 b).1 (nfRes p4 rep4 u v t).2.2.2 p rep p2 rep2 p4 rep4 u v t (nfRes p4 rep4 u v t).1 (nfRes p4 rep4 u v t).2.1 (nfRes p4 rep4 u v t).2.2.1) true := by
  cases h : (nfRes p4 rep4 u v t).2.2.2 with
  | false =>
    refine Ev.fuel ?_
    simp only [laws_FnLayouts.j1, Bool.false_eq_true, ↓reduceIte]
    exact fy_j2 p rep l hp hl p2 rep2 l2 b hp2 hl2
  | true =>
    have a1 := (hfBoth_ev p4 rep4 (nfRes p4 rep4 u v t).1 (nfRes p4 rep4 u v t).2.1 (nfRes p4 rep4 u v t).2.2.1 (by omega)).1
    rw [nf_hf h] at a1
    refine Ev.fuel ?_
    simp only [laws_FnLayouts.j1, ↓reduceIte]
    refine Ev.bind a1 ?_
    simp only [beq_self_eq_true, Bool.not_true, Bool.or_self, Bool.false_eq_true, ↓reduceIte]
    exact fy_j2 p rep l hp hl p2 rep2 l2 b hp2 hl2
theorem fy_j0 (p : List Int) (rep : Int) (l : List S36) (hp : p.length ≤ 60) (hl : l.length ≤ 31) (p2 : List Int) (rep2 : Int) (l2 : List S36) (b : Int) (hp2 : p2.length ≤ 60) (hl2 : l2.length ≤ 31) (p3 : List Int) (rep3 x y z : Int) (hp3 : p3.length ≤ 60) (p4 : List Int) (rep4 u v t : Int) (hp4 : p4.length ≤ 60) : Ev (fun k => laws_FnLayouts.j0 k l (loRes p rep l).1 (loRes p rep l).2 (loRes p rep l).1 l2 b (lfRes p2 rep2 l2 b).2 (lfRes p2 rep2 l2 b).1 (hfRes p3 rep3 x y z).2.2.2 (nfRes p4 rep4 u v t).2.2.2 false p rep p2 rep2 p3 rep3 x y z (hfRes p3 rep3 x y z).1 (hfRes p3 rep3 x y z).2.1 (hfRes p3 rep3 x y z).2.2.1 p4 rep4 u v t (nfRes p4 rep4 u v t).1 (nfRes p4 rep4 u v t).2.1 (nfRes p4 rep4 u v t).2.2.1) true := by
  have hj := fy_j1 p rep l hp hl p2 rep2 l2 b hp2 hl2 p4 rep4 u v t hp4
  cases h : (hfRes p3 rep3 x y z).2.2.2 with
  | false =>
    refine Ev.fuel ?_
    simp only [laws_FnLayouts.j0, Bool.false_eq_true, ↓reduceIte]
    exact hj
  | true =>
    have a1 := (nfBoth_ev p3 rep3 (hfRes p3 rep3 x y z).1 (hfRes p3 rep3 x y z).2.1 (hfRes p3 rep3 x y z).2.2.1 (by omega)).1
    rw [hf_nf h] at a1
    refine Ev.fuel ?_
    simp only [laws_FnLayouts.j0, Bool.false_eq_true, ↓reduceIte]
    refine Ev.bind a1 ?_
    simp only [beq_self_eq_true, Bool.not_true, Bool.or_self, Bool.false_eq_true, ↓reduceIte]
    exact hj
theorem bytes_of {l : List Int} (h : l.length ≤ 9223372036854775807) (w : ∀ x ∈ l, (Lit.int .u8 x).wf = true) : Bytes l := ⟨h, fun x hx => by
  have hw := w x hx
  simp [Lit.wf] at hw
  have h1 : IntKind.u8.min = 0 := by decide
  have h2 : IntKind.u8.max = 255 := by decide
  omega⟩
theorem fy_ev (l0 l1 : List Int) (h0 : l0.length ≤ 9223372036854775807) (w0 : ∀ x ∈ l0, (Lit.int .u8 x).wf = true) (h1 : l1.length ≤ 9223372036854775807) (w1 : ∀ x ∈ l1, (Lit.int .u8 x).wf = true) : Ev (fun k => laws_FnLayouts.f k l0 l1) true := by
  have hc0 := bytes_of h0 w0
  have hc1 := bytes_of h1 w1
  unfold laws_FnLayouts.f
  by_cases g : (wrap64 ((l0.length : Int) + (l1.length : Int))) > 1048576
  · simp only [g, ↓reduceIte]
    exact Ev.now _
  · obtain ⟨p, rep, l, d1, hp, hl⟩ := DrawLayOut_ev hc0
    obtain ⟨p2, rep2, l2, b, d2, hp2, hl2⟩ := DrawLayOutFrom_ev hc1
    obtain ⟨p3, rep3, x, y, z, d3, hp3⟩ := DrawHoleFor_ev hc1
    obtain ⟨p4, rep4, u, v, t, d4, hp4⟩ := DrawNoteFor_ev hc1
    obtain ⟨i1, s1⟩ := loBoth_ev p rep l (by omega) (by omega)
    obtain ⟨i2, s2⟩ := lfBoth_ev p2 rep2 l2 b (by omega) (by omega)
    obtain ⟨i3, s3⟩ := hfBoth_ev p3 rep3 x y z (by omega)
    obtain ⟨i4, s4⟩ := nfBoth_ev p4 rep4 u v t (by omega)
    simp only [g, ↓reduceIte]
    refine Ev.bind d1 (Ev.bind i1 (Ev.bind s1 (Ev.bind d2 (Ev.bind i2 (Ev.bind s2 (Ev.bind d3 (Ev.bind i3 (Ev.bind s3 (Ev.bind d4 (Ev.bind i4 (Ev.bind s4 ?_)))))))))))
    simp only [bne_self_eq_false, Bool.false_eq_true, ↓reduceIte]
    refine Ev.bind (qSheet_ev _ (loRes_len _ _ _)) ?_
    simp only [↓reduceIte]
    refine Ev.bind (qSheet_ev _ (lfRes_len _ _ _ _)) ?_
    simp only [beq_self_eq_true, Bool.not_true, Bool.or_self, Bool.false_eq_true, ↓reduceIte]
    exact fy_j0 p rep l hp hl p2 rep2 l2 b hp2 hl2 p3 rep3 x y z hp3 p4 rep4 u v t hp4
end Go.Proofs.YtgjpphcbdbfhlaaGreat.L
