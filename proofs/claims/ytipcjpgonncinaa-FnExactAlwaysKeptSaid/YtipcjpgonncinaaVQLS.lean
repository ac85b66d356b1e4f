/- Plain facts on searches for parts with the least loss. No condition. -/
import Derived.Test.YtipcjpgonncinaaV0
import Derived.Test.YtipcjpgonncinaaV3
import Derived.Test.YtipcjpgonncinaaV5
import Derived.Test.YtipcjpgonncinaaV6
import Derived.Test.YtipcjpgonncinaaV7
import Derived.Test.YtipcjpgonncinaaVQLA
set_option linter.unusedVariables false
set_option linter.unusedSimpArgs false
namespace Go.Proofs.Ytipcjpgonncinaa.V
open Go.RowKit Go.Proofs.YtipcjpgonncinaaW.PrintWords Go.Proofs.YtipcjpgonncinaaW.PrintLast Go.Proofs.YtipcjpgonncinaaW.PrintMore

/-! ### Playable parts -/
theorem fastFrom_app (rep : Int) : ∀ (a b r : List S51), fastFrom rep r (a ++ b) = fastFrom rep r a ++ fastFrom rep (a.reverse ++ r) b
  | [], b, r => by simp [fastFrom]
  | x :: a, b, r => by
    simp only [List.cons_append, fastFrom, fastFrom_app rep a b (x :: r), List.append_assoc, List.reverse_cons, List.nil_append]
theorem mostOf_le (v : Int) (s : List S51) : ∀ (xs : List S51) (m : Int), mostOf s xs m ≤ v ↔ m ≤ v ∧ ∀ x ∈ xs, (countAt x.f1 s : Int) ≤ v
  | [], m => by simp [mostOf]
  | x :: xs, m => by
    unfold mostOf
    rw [mostOf_le v s xs]
    constructor
    · rintro ⟨h1, h2⟩
      split at h1
      · exact ⟨h1, fun y hy => by rcases List.mem_cons.1 hy with rfl | hy; omega; exact h2 y hy⟩
      · exact ⟨by omega, fun y hy => by rcases List.mem_cons.1 hy with rfl | hy; exact h1; exact h2 y hy⟩
    · rintro ⟨h1, h2⟩
      have := h2 x (by simp)
      refine ⟨?_, fun y hy => h2 y (by simp [hy])⟩
      split <;> omega
theorem countAt_app (t : Int) (a b : List S51) : countAt t a ≤ countAt t (a ++ b) := by
  unfold countAt
  rw [List.filter_append, List.length_append]
  omega
theorem playable_pre (l : List Int) (r : Int) (s : List S51) (v : Int) (A B : List Int) (h : playableB l r s v (A ++ B) = true) : playableB l r s v A = true := by
  unfold playableB playsB at h ⊢
  have e : keptOf s (A ++ B) = keptOf s A ++ keptOf s B := by simp [keptOf]
  rw [e] at h
  simp only [Bool.and_eq_true, decide_eq_true_eq, List.all_append, fastFrom_app, List.append_eq_nil_iff] at h ⊢
  obtain ⟨⟨⟨h1, _⟩, h2, _⟩, h3⟩ := h
  refine ⟨⟨h1, h2⟩, ?_⟩
  rw [mostOf_le] at h3 ⊢
  refine ⟨h3.1, fun x hx => ?_⟩
  have := h3.2 x (List.mem_append_left _ hx)
  have := countAt_app x.f1 (keptOf s A) (keptOf s B)
  omega
theorem playable_nil (l : List Int) (r : Int) (s : List S51) (v : Int) (hv : 0 ≤ v) : playableB l r s v [] = true := by
  simp [playableB, playsB, keptOf, fastFrom, mostOf, hv]
theorem playable_many (l : List Int) (r : Int) (s : List S51) (v w : Int) (K : List Int) (hv : (K.length : Int) ≤ v) (hw : (K.length : Int) ≤ w) : playableB l r s v K = playableB l r s w K := by
  unfold playableB
  have hk := keptOf_len s K
  have h : ∀ u : Int, (K.length : Int) ≤ u → mostOf (keptOf s K) (keptOf s K) 0 ≤ u := by
    intro u hu
    rw [mostOf_le]
    refine ⟨by omega, fun x _ => ?_⟩
    have := countAt_le x.f1 (keptOf s K)
    omega
  rw [decide_eq_true (h v hv), decide_eq_true (h w hw)]
/-! ### Losses -/
theorem lossS_app (K : List Int) (x : S51) : ∀ (a : List S51) (i : Int), lossS K (a ++ [x]) i = lossS K a i + (if i + a.length ∈ K then 0 else x.f2)
  | [], i => by simp [lossS]
  | y :: a, i => by
    simp only [List.cons_append, lossS, lossS_app K x a (i + 1), List.length_cons]
    rw [show i + 1 + (a.length : Int) = i + ((a.length + 1 : Nat) : Int) by omega]
    omega
theorem lossS_with (K : List Int) (n : Int) : ∀ (a : List S51) (i : Int), i + a.length ≤ n → lossS (K ++ [n]) a i = lossS K a i
  | [], i, _ => rfl
  | y :: a, i, h => by
    simp only [List.length_cons] at h
    simp only [lossS, lossS_with K n a (i + 1) (by omega), List.mem_append, List.mem_singleton, show (i = n) ↔ False from ⟨fun h => by omega, False.elim⟩, or_false]
theorem lossS_in {K : List Int} {pre : List S51} {x : S51} : lossS (K ++ [(pre.length : Int)]) (pre ++ [x]) 0 = lossS K pre 0 := by
  rw [lossS_app, lossS_with _ _ _ _ (by omega), if_pos (by simp), Int.add_zero]
theorem lossS_out {K : List Int} {pre : List S51} {x : S51} (h : IncFrom (pre.length : Int) 0 K) : lossS K (pre ++ [x]) 0 = lossS K pre 0 + x.f2 := by
  rw [lossS_app, if_neg]
  intro hm
  have := (h.ge _ hm).2
  omega
/-! ### Sets of digits -/
theorem bit_eq (x i : Nat) (hx : x < 4096) (hi : i ≤ 12) : bits .and .i64 (shr .i64 (x : Int) (i : Int)) 1 = ((x / 2 ^ i % 2 : Nat) : Int) := by
  have h1 : shr .i64 (x : Int) (i : Int) = ((x / 2 ^ i : Nat) : Int) := by
    unfold shr
    rw [Int.toNat_natCast, show min i (IntKind.bits .i64) = i from Nat.min_eq_left (by show i ≤ 64; omega)]
    rw [show ((2 : Int) ^ i) = ((2 ^ i : Nat) : Int) from by simp]
    rfl
  rw [h1]
  have hy : x / 2 ^ i < 4096 := Nat.lt_of_le_of_lt (Nat.div_le_self _ _) hx
  generalize x / 2 ^ i = y at hy
  unfold bits
  have h2 : (BitVec.ofInt (IntKind.bits .i64) (y : Int) &&& BitVec.ofInt (IntKind.bits .i64) 1).toNat = y % 2 := by
    rw [BitVec.toNat_and, BitVec.toNat_ofInt, BitVec.toNat_ofInt]
    have e1 : ((y : Int) % ((2 ^ (IntKind.bits .i64) : Nat) : Int)).toNat = y := by
      show ((y : Int) % ((2 ^ 64 : Nat) : Int)).toNat = y
      omega
    have e2 : ((1 : Int) % ((2 ^ (IntKind.bits .i64) : Nat) : Int)).toNat = 1 := by decide
    rw [e1, e2, Nat.and_one_is_mod]
  simp only [h2]
  rw [i64_w]
  exact w_id (by omega) (by omega)
theorem shl_eq (n : Nat) (hn : n ≤ 12) : shl .i64 1 (n : Int) = ((2 ^ n : Nat) : Int) := by
  have h : 2 ^ n ≤ 2 ^ 12 := Nat.pow_le_pow_right (by omega) hn
  unfold shl
  rw [Int.toNat_natCast, show min n (IntKind.bits .i64) = n from Nat.min_eq_left (by show n ≤ 64; omega), show ((2 : Int) ^ n) = ((2 ^ n : Nat) : Int) from by simp, Int.one_mul, i64_w]
  generalize 2 ^ n = y at h
  exact w_id (by omega) (by omega)
theorem partOf_l0 (x n : Nat) (hx : x < 4096) (hn : n ≤ 12) : ∀ (m i : Nat) (acc : List Int), i + m = n → acc.length ≤ i → Ev (fun k => impl_partOf.l0 k x n acc i) (acc ++ partR m i (x / 2 ^ i)) := by
  intro m
  induction m with
  | zero =>
    intro i acc h ha
    refine Ev.fuel ?_
    simp only [impl_partOf.l0, show ¬ ((i : Int) < (n : Int)) from by omega, ↓reduceIte, partR, List.append_nil]
    exact Ev.now _
  | succ m ih =>
    intro i acc h ha
    have h1 : (i : Int) < (n : Int) := by omega
    have h2 : (0 : Int) ≤ (i : Int) := by omega
    have hl : acc.length < 17592186044416 := by omega
    refine Ev.fuel ?_
    simp only [impl_partOf.l0, h1, h2, hl, ↓reduceIte, wn i (by omega), bit_eq x i hx (by omega)]
    have ed : x / 2 ^ i / 2 = x / 2 ^ (i + 1) := by rw [Nat.div_div_eq_div_mul, Nat.pow_succ]
    unfold partR
    by_cases hb : x / 2 ^ i % 2 = 1
    · rw [if_pos hb, hb, ed]
      have := ih (i + 1) (acc ++ [(i : Int)]) (by omega) (by simp; omega)
      simpa using this
    · rw [if_neg hb, ed]
      have hb' : ¬ (((x / 2 ^ i % 2 : Nat) : Int) = 1) := by omega
      simp only [hb', ↓reduceIte]
      exact ih (i + 1) acc (by omega) (by omega)
theorem partOf_ev (x n : Nat) (hx : x < 4096) (hn : n ≤ 12) : Ev (fun k => impl_partOf.f k x n) (partR n 0 x) := by
  have := partOf_l0 x n hx hn n 0 [] (by omega) (by simp)
  simpa [impl_partOf.f] using this
theorem leastParts_l0 (l : List Int) (r : Int) (s : List S51) (v : Int) (hl : l.length ≤ 1048576) (hs : s.length ≤ 12) (hn : ∀ x ∈ s, noteB x = true) : ∀ (m j : Nat) (st : List (List Int) × Int), j + m = 2 ^ s.length → st.1.length ≤ j →
    Ev (fun k => impl_leastParts.l0 k s v st.1 st.2 j l r) (((List.range' j m).map (partR s.length 0)).foldl (stepP (playableB l r s v) (fun K => lossS K s 0)) st) := by
  intro m
  have hp : 2 ^ s.length ≤ 2 ^ 12 := Nat.pow_le_pow_right (by omega) hs
  induction m with
  | zero =>
    intro j st h hj
    refine Ev.fuel ?_
    simp only [impl_leastParts.l0, shl_eq _ hs, show ¬ ((j : Int) < ((2 ^ s.length : Nat) : Int)) from by omega, ↓reduceIte, List.range'_zero, List.map_nil, List.foldl_nil]
    exact Ev.now _
  | succ m ih =>
    intro j st h hj
    have hK : IncFrom s.length 0 (partR s.length 0 j) := by simpa using partR_inc s.length 0 j
    have e1 := partOf_ev j s.length (by omega) hs
    have e2 := thinLoss_ev s _ (by omega) hn hK
    have e3 := isPlayable_ev l r s v _ hl (by omega) hn hK
    simp only [List.range'_succ, List.map_cons, List.foldl_cons]
    generalize hK' : partR s.length 0 j = K at *
    refine Ev.fuel ?_
    simp only [impl_leastParts.l0, shl_eq _ hs, show (j : Int) < ((2 ^ s.length : Nat) : Int) from by omega, ↓reduceIte]
    refine Ev.bind e1 (Ev.bind e2 ?_)
    have stay : stepP (playableB l r s v) (fun K => lossS K s 0) st K = st → Ev (fun k => impl_leastParts.j1 k s v st.1 st.2 j K (lossS K s 0) true l r) (((List.range' (j + 1) m).map (partR s.length 0)).foldl (stepP (playableB l r s v) (fun K => lossS K s 0)) (stepP (playableB l r s v) (fun K => lossS K s 0) st K)) := by
      intro e
      rw [e]
      refine Ev.fuel ?_
      simp only [impl_leastParts.j1, ↓reduceIte, wn j (by omega)]
      exact ih (j + 1) st (by omega) (by omega)
    have go : playableB l r s v K = true → ¬ (st.2 ≥ 0 ∧ lossS K s 0 > st.2) → Ev (fun k => impl_leastParts.j1 k s v st.1 st.2 j K (lossS K s 0) false l r) (((List.range' (j + 1) m).map (partR s.length 0)).foldl (stepP (playableB l r s v) (fun K => lossS K s 0)) (stepP (playableB l r s v) (fun K => lossS K s 0) st K)) := by
      intro hp hc
      refine Ev.fuel ?_
      have hz : ([] : List (List Int)).length < 5864062014805 := by simp
      have hz1 : st.1.length < 5864062014805 := by omega
      simp only [impl_leastParts.j1, Bool.false_eq_true, ↓reduceIte, wn j (by omega), hz, hz1, List.nil_append]
      have hst : stepP (playableB l r s v) (fun K => lossS K s 0) st K = if lossS K s 0 = st.2 then (st.1 ++ [K], st.2) else ([K], lossS K s 0) := by
        unfold stepP
        rw [if_neg (by rw [hp]; simpa using hc)]
      rw [hst]
      by_cases g : lossS K s 0 = st.2
      · rw [if_pos g]
        simp only [g, ↓reduceIte]
        exact ih (j + 1) (st.1 ++ [K], st.2) (by omega) (by simp; omega)
      · rw [if_neg g]
        simp only [g, ↓reduceIte]
        exact ih (j + 1) ([K], lossS K s 0) (by omega) (by simp)
    have no : playableB l r s v K = false → stepP (playableB l r s v) (fun K => lossS K s 0) st K = st := fun h => by unfold stepP; rw [if_pos (.inr h)]
    by_cases h0 : st.2 ≥ 0
    · simp only [h0, ↓reduceIte]
      by_cases h1 : lossS K s 0 > st.2
      · simp only [h1, ↓reduceIte]
        exact stay (by unfold stepP; rw [if_pos (.inl ⟨h0, h1⟩)])
      · simp only [h1, ↓reduceIte]
        refine Ev.bind e3 ?_
        cases hq : playableB l r s v K with
        | false => exact stay (no hq)
        | true => exact go hq (fun h => h1 h.2)
    · simp only [h0, ↓reduceIte]
      refine Ev.bind e3 ?_
      cases hq : playableB l r s v K with
      | false => exact stay (no hq)
      | true => exact go hq (fun h => h0 h.1)
theorem leastParts_ev (l : List Int) (r : Int) (s : List S51) (v : Int) (hl : l.length ≤ 1048576) (hs : s.length ≤ 12) (hn : ∀ x ∈ s, noteB x = true) : Ev (fun k => impl_leastParts.f k l r s v) (listed s.length (playableB l r s v) (fun K => lossS K s 0)) := by
  have := leastParts_l0 l r s v hl hs hn (2 ^ s.length) 0 ([], -1) (by omega) (by simp)
  unfold impl_leastParts.f listed allParts
  exact this
theorem before_l0 (a b : List Int) (ha : a.length ≤ 1048576) : ∀ (suf pre sufb : List Int), pre ++ suf = a → pre ++ sufb = b → Ev (fun k => spec_thBefore.l0 k a b a a.length pre.length) (lexB suf sufb) := by
  intro suf
  induction suf with
  | nil =>
    intro pre sufb h1 h2
    refine Ev.fuel ?_
    simp only [spec_thBefore.l0, show ¬ ((pre.length : Int) < (a.length : Int)) from by rw [← h1]; simp, ↓reduceIte]
    have e : lexB [] sufb = decide ((a.length : Int) < (b.length : Int)) := by
      rw [← h1, ← h2]
      cases sufb with
      | nil => simp [lexB]
      | cons y ys => simp [lexB]; omega
    rw [e]
    exact Ev.now _
  | cons x suf ih =>
    intro pre sufb h1 h2
    have hla : a.length = pre.length + (suf.length + 1) := by rw [← h1]; simp
    have c1 : (pre.length : Int) < (a.length : Int) := by omega
    have c2 : (0 : Int) ≤ (pre.length : Int) := by omega
    have c3 : rd a (pre.length : Int) = x := by rw [← h1]; exact getD_mid _ _ _ _
    refine Ev.fuel ?_
    cases sufb with
    | nil =>
      have hb : (pre.length : Int) = (b.length : Int) := by rw [← h2]; simp
      have hb2 : ¬ ((b.length : Int) < (b.length : Int)) := by omega
      have c1' : (b.length : Int) < (a.length : Int) := by omega
      have c2' : (0 : Int) ≤ (b.length : Int) := by omega
      simp only [spec_thBefore.l0, hb, c1', c2', hb2, ↓reduceIte, lexB]
      exact Ev.now _
    | cons y ys =>
      have hlb : b.length = pre.length + (ys.length + 1) := by rw [← h2]; simp
      have c4 : ¬ ((pre.length : Int) = (b.length : Int)) := by omega
      have c5 : (pre.length : Int) < (b.length : Int) := by omega
      have c6 : rd b (pre.length : Int) = y := by rw [← h2]; exact getD_mid _ _ _ _
      simp only [spec_thBefore.l0, c1, c2, c3, c4, c5, c6, ↓reduceIte, wn pre.length (by omega), lexB]
      by_cases e : x = y
      · subst e
        simp only [↓reduceIte]
        have := ih (pre ++ [x]) ys (by rw [← h1]; simp) (by rw [← h2]; simp)
        simpa using this
      · simp only [e, ↓reduceIte]
        exact Ev.now _
theorem before_ev (a b : List Int) (ha : a.length ≤ 1048576) : Ev (fun k => spec_thBefore.f k a b) (lexB a b) := by
  unfold spec_thBefore.f
  exact before_l0 a b ha a [] b rfl rfl
theorem look_l2 : ∀ (k : Nat) (a : List Int) (b c d : Int) (e : List Bool) (f : List Int), spec_look.l2 k a b c d e f = spec_look.l1 k a b c d e f := by
  intro k
  induction k with
  | zero => intros; rfl
  | succ k ih => intros; simp only [spec_look.l2, spec_look.l1, ih]
theorem look_l3 : ∀ (k : Nat) (a : List Int) (b c d : Int) (e : List Bool) (f : List Int), spec_look.l3 k a b c d e f = spec_look.l1 k a b c d e f := by
  intro k
  induction k with
  | zero => intros; rfl
  | succ k ih => intros; simp only [spec_look.l3, spec_look.l1, ih]
theorem look_l1 (kp : List Int) (le : Int) (K : List Int) (n : Nat) (hn : n ≤ 1000) (hK : K.length ≤ 1048576) : ∀ (m i : Nat) (al : List Bool), i + m = n → al.length = n →
    Ev (fun k => spec_look.l1 k kp le n i al K) (kp, le, (List.range n).map fun q => if q < i then al.getD q false else al.getD q false && decide ((q : Int) ∈ K)) := by
  intro m
  induction m with
  | zero =>
    intro i al h ha
    refine Ev.fuel ?_
    simp only [spec_look.l1, show ¬ ((i : Int) < (n : Int)) from by omega, ↓reduceIte]
    have e : ((List.range n).map fun q => if q < i then al.getD q false else al.getD q false && decide ((q : Int) ∈ K)) = al := by
      refine List.ext_getElem (by simp [ha]) fun q h1 h2 => ?_
      simp only [List.length_map, List.length_range] at h1
      simp only [List.getElem_map, List.getElem_range, show q < i from by omega, ↓reduceIte]
      rw [List.getD_eq_getElem?_getD, List.getElem?_eq_getElem h2]
      rfl
    rw [e]
    exact Ev.now _
  | succ m ih =>
    intro i al h ha
    have h1 : (i : Int) < (n : Int) := by omega
    have h2 : (0 : Int) ≤ (i : Int) := by omega
    have h3 : (i : Int) < (al.length : Int) := by omega
    have key : ∀ b : Bool, b = (al.getD i false && decide ((i : Int) ∈ K)) → ((List.range n).map fun q => if q < i + 1 then (al.set i b).getD q false else (al.set i b).getD q false && decide ((q : Int) ∈ K)) = (List.range n).map fun q => if q < i then al.getD q false else al.getD q false && decide ((q : Int) ∈ K) := by
      intro b hb
      refine List.map_congr_left fun q hq => ?_
      have hq := List.mem_range.1 hq
      rw [List.getD_eq_getElem?_getD, List.getD_eq_getElem?_getD, List.getElem?_set]
      by_cases e : i = q
      · subst e
        rw [if_pos rfl, if_pos (by omega), if_pos (by omega), if_neg (by omega)]
        rw [hb, List.getD_eq_getElem?_getD]
        rfl
      · rw [if_neg e]
        by_cases e2 : q < i
        · rw [if_pos (by omega), if_pos e2]
        · rw [if_neg (by omega), if_neg e2]
    refine Ev.fuel ?_
    simp only [spec_look.l1, h1, h2, h3, ↓reduceIte, wn i (by omega), Int.toNat_natCast]
    have hr : rdOf false al (i : Int) = al.getD i false := by unfold rdOf; rw [Int.toNat_natCast]
    by_cases g : rdOf false al (i : Int) = true
    · simp only [g, ↓reduceIte]
      refine Ev.bind (l1Has_ev K i hK) ?_
      have := ih (i + 1) (al.set i (decide ((i : Int) ∈ K))) (by omega) (by simp [ha])
      rw [key _ (by rw [← hr, g]; rfl)] at this
      exact this
    · simp only [g, ↓reduceIte]
      have := ih (i + 1) (al.set i false) (by omega) (by simp [ha])
      rw [key _ (by rw [← hr, Bool.eq_false_iff.mpr g]; rfl)] at this
      exact this
theorem look_and (kp : List Int) (le : Int) (K : List Int) (n : Nat) (hn : n ≤ 1000) (hK : K.length ≤ 1048576) (al : List Bool) (ha : al.length = n) : Ev (fun k => spec_look.l1 k kp le n 0 al K) (kp, le, andK n al K) := by
  have := look_l1 kp le K n hn hK n 0 al (by omega) ha
  simpa [andK] using this
theorem look_l0 (kp : List Int) (le : Int) (K : List Int) (s : List S51) (hn : s.length ≤ 1000) (hK : K.length ≤ 1048576) : ∀ (m i : Nat) (al : List Bool), i + m = s.length → al.length = s.length → (∀ q, q < i → al.getD q false = true) →
    Ev (fun k => spec_look.l0 k kp le s.length i al s K) (kp, le, andK s.length (List.replicate s.length true) K) := by
  intro m
  induction m with
  | zero =>
    intro i al h ha hq
    refine Ev.fuel ?_
    simp only [spec_look.l0, show ¬ ((i : Int) < (s.length : Int)) from by omega, ↓reduceIte]
    have e : al = List.replicate s.length true := by
      refine List.ext_getElem (by simp [ha]) fun q h1 h2 => ?_
      have := hq q (by omega)
      rw [List.getD_eq_getElem?_getD, List.getElem?_eq_getElem h1] at this
      simpa using this
    rw [e]
    exact look_and kp le K s.length hn hK _ (by simp)
  | succ m ih =>
    intro i al h ha hq
    refine Ev.fuel ?_
    simp only [spec_look.l0, show (i : Int) < (s.length : Int) from by omega, show (0 : Int) ≤ (i : Int) from by omega, show (i : Int) < (al.length : Int) from by omega, ↓reduceIte, wn i (by omega), Int.toNat_natCast]
    refine ih (i + 1) (al.set i true) (by omega) (by simp [ha]) fun q h1 => ?_
    rw [List.getD_eq_getElem?_getD, List.getElem?_set]
    by_cases e : i = q
    · subst e; rw [if_pos rfl, if_pos (by omega)]; rfl
    · rw [if_neg e, ← List.getD_eq_getElem?_getD]; exact hq q (by omega)
theorem Ev.late {α : Type} {g h : Nat → Option α} {r : α} (e : ∃ k0, ∀ k, k0 ≤ k → g k = h k) (k : Ev h r) : Ev g r := by
  obtain ⟨k0, e⟩ := e
  obtain ⟨K, k⟩ := k
  exact ⟨max k0 K, fun n hn => (e n (by omega)).trans (k n (by omega))⟩
def Okst (n : Nat) (st : LSt) : Prop := (0 ≤ st.2.1 → st.2.2.length = n) ∧ st.1.length ≤ 1000
theorem Okst.step {n : Nat} {L : List Int → Int} {st : LSt} (h : Okst n st) {K : List Int} (hK : K.length ≤ 1000) : Okst n (stepS n L st K) := by
  unfold stepS
  split
  · exact h
  · split
    · exact ⟨fun _ => by simp [andK], hK⟩
    · refine ⟨fun _ => by simp [andK], ?_⟩
      show (if lexB K st.1 = true then K else st.1).length ≤ 1000
      split
      · exact hK
      · exact h.2
theorem Okst.foldl {n : Nat} {L : List Int → Int} : ∀ (Ks : List (List Int)) {st : LSt}, Okst n st → (∀ K ∈ Ks, K.length ≤ 1000) → Okst n (Ks.foldl (stepS n L) st)
  | [], _, h, _ => h
  | K :: Ks, _, h, hK => Okst.foldl Ks (h.step (hK K (by simp))) fun K' h' => hK K' (by simp [h'])
theorem stepS_none {n : Nat} {L : List Int → Int} : ∀ (Ks : List (List Int)) {st : LSt}, 0 ≤ st.2.1 → (∀ K ∈ Ks, st.2.1 < L K) → Ks.foldl (stepS n L) st = st
  | [], _, _, _ => rfl
  | K :: Ks, st, h0, h => by
    rw [List.foldl_cons, show stepS n L st K = st from by unfold stepS; rw [if_pos ⟨h0, h K (by simp)⟩]]
    exact stepS_none Ks h0 fun K' h' => h K' (by simp [h'])
theorem leaves_loss (P : List Int → Bool) (s : List S51) (hn : ∀ x ∈ s, noteB x = true) : ∀ (suf pre : List S51) (K : List Int), pre ++ suf = s → IncFrom (pre.length : Int) 0 K → ∀ K' ∈ leaves P suf.length pre.length K, lossS K pre 0 ≤ lossS K' s 0 := by
  intro suf
  induction suf with
  | nil =>
    intro pre K h hK K' h'
    simp only [List.length_nil, leaves, List.mem_singleton] at h'
    subst h'
    rw [← h, List.append_nil]
    exact Int.le_refl _
  | cons x suf ih =>
    intro pre K h hK K' h'
    have hx := noteB_iff x |>.1 (hn x (by rw [← h]; simp))
    have e : ((pre ++ [x]).length : Int) = (pre.length : Int) + 1 := by simp
    have hs : pre ++ [x] ++ suf = s := by rw [← h]; simp
    simp only [List.length_cons, leaves, List.mem_append] at h'
    rcases h' with h' | h'
    · split at h'
      · have := ih (pre ++ [x]) (K ++ [(pre.length : Int)]) hs (by rw [e]; exact hK.snoc (by omega)) K' (by rw [e]; exact h')
        rw [lossS_in] at this
        exact this
      · simp at h'
    · have := ih (pre ++ [x]) K hs (by rw [e]; exact hK.up (by omega)) K' (by rw [e]; exact h')
      rw [lossS_out hK] at this
      omega
theorem leaves_len {P : List Int → Bool} (hP : ∀ A B, P (A ++ B) = true → P A = true) {m : Nat} {i : Nat} {K K' : List Int} (hK : IncFrom (i : Int) 0 K) (h : K' ∈ leaves P m i K) : K'.length ≤ i + m := by
  obtain ⟨T, rfl, h1, _⟩ := (leaves_iff hP m i K K').1 h
  have h2 := hK.len (by omega)
  have h3 := h1.len (by omega)
  simp only [List.length_append]
  omega
theorem look_ev (l : List Int) (r : Int) (s : List S51) (v : Int) (hl : l.length ≤ 1048576) (hs : s.length ≤ 12) (hn : ∀ x ∈ s, noteB x = true) (ha : Apart s) : ∀ (suf pre : List S51) (K : List Int) (st : LSt) (d : Nat → Nat), pre ++ suf = s → IncFrom (pre.length : Int) 0 K → Okst s.length st → (∃ k0, ∀ k, k0 ≤ k → suf.length + 1 ≤ d k) →
    Ev (fun k => spec_look.f (d k) k l r s v st.1 st.2.1 st.2.2 K pre.length (lossS K pre 0)) ((leaves (playableB l r s v) suf.length pre.length K).foldl (stepS s.length (fun K => lossS K s 0)) st) := by
  intro suf
  induction suf with
  | nil =>
    intro pre K st d h hK hst hd
    obtain ⟨k0, hd⟩ := hd
    refine Ev.late (h := fun k => spec_look.f (d k - 1 + 1) k l r s v st.1 st.2.1 st.2.2 K pre.length (lossS K pre 0)) ⟨k0, fun k hk => by rw [show d k - 1 + 1 = d k from by have := hd k hk; omega]⟩ ?_
    have hpre : pre = s := by simpa using h
    subst hpre
    have hk := hK.len (by omega)
    simp only [List.length_nil, leaves, List.foldl_cons, List.foldl_nil]
    simp only [spec_look.f]
    have hj : ¬ (st.2.1 ≥ 0 ∧ lossS K pre 0 > st.2.1) → Ev (fun k => spec_look.j0 (spec_look.f (d k - 1)) k l r pre v st.1 st.2.1 st.2.2 K pre.length (lossS K pre 0)) (stepS pre.length (fun K => lossS K pre 0) st K) := by
      intro hc
      have e1 : spec_l1Own.f K = some K := own_eq K (by omega)
      have jn : Ev (fun k => spec_look.j1 k l r pre v st.1 st.2.1 st.2.2 K pre.length (lossS K pre 0)) (K, lossS K pre 0, andK pre.length (List.replicate pre.length true) K) := by
        refine Ev.fuel ?_
        simp only [spec_look.j1, e1, Option.bind_some, show ((pre.length : Int)) ≤ 35184372088832 from by omega, ↓reduceIte, Int.toNat_natCast, List.length_replicate]
        exact look_l0 K _ K pre (by omega) (by omega) pre.length 0 _ (by omega) (by simp) (by omega)
      unfold stepS
      rw [if_neg hc]
      refine Ev.fuel ?_
      simp only [spec_look.j0, ↓reduceIte]
      by_cases h1 : st.2.1 < 0
      · simp only [h1, true_or, ↓reduceIte]
        exact jn
      · by_cases h2 : lossS K pre 0 < st.2.1
        · simp only [h1, h2, or_true, ↓reduceIte]
          exact jn
        · simp only [h1, h2, or_self, ↓reduceIte]
          have hal := hst.1 (by omega)
          refine Ev.bind (before_ev K st.1 (by omega)) ?_
          cases hb : lexB K st.1 with
          | true =>
            simp only [↓reduceIte, e1, Option.bind_some, look_l3]
            exact look_and K _ K pre.length (by omega) (by omega) _ hal
          | false =>
            simp only [Bool.false_eq_true, ↓reduceIte, look_l2]
            exact look_and st.1 _ K pre.length (by omega) (by omega) _ hal
    by_cases h0 : st.2.1 ≥ 0
    · simp only [h0, ↓reduceIte]
      by_cases h1 : lossS K pre 0 > st.2.1
      · simp only [h1, ↓reduceIte]
        rw [show stepS pre.length (fun K => lossS K pre 0) st K = st from by unfold stepS; rw [if_pos ⟨h0, h1⟩]]
        exact Ev.now _
      · simp only [h1, ↓reduceIte]
        exact hj fun h => h1 h.2
    · simp only [h0, ↓reduceIte]
      exact hj fun h => h0 h.1
  | cons x suf ih =>
    intro pre K st d h hK hst hd
    obtain ⟨k0, hd⟩ := hd
    refine Ev.late (h := fun k => spec_look.f (d k - 1 + 1) k l r s v st.1 st.2.1 st.2.2 K pre.length (lossS K pre 0)) ⟨k0, fun k hk => by rw [show d k - 1 + 1 = d k from by have := hd k hk; omega]⟩ ?_
    have hlen : s.length = pre.length + (suf.length + 1) := by rw [← h]; simp
    have hk := hK.len (by omega)
    have hx := noteB_iff x |>.1 (hn x (by rw [← h]; simp))
    have e : ((pre ++ [x]).length : Int) = (pre.length : Int) + 1 := by simp
    have hs' : pre ++ [x] ++ suf = s := by rw [← h]; simp
    have hKi : IncFrom ((pre ++ [x]).length : Int) 0 (K ++ [(pre.length : Int)]) := by rw [e]; exact hK.snoc (by omega)
    have hKo : IncFrom ((pre ++ [x]).length : Int) 0 K := by rw [e]; exact hK.up (by omega)
    have hS : IncFrom (s.length : Int) 0 (K ++ [(pre.length : Int)]) := hKi.up (by rw [e]; omega)
    have hP := playable_pre l r s v
    have e1 : spec_l1Own.f K = some K := own_eq K (by omega)
    have e2 := thIs_ev l r s v (K ++ [(pre.length : Int)]) hl (by omega) hn ha hS
    have c3 : rd_T51 s (pre.length : Int) = x := by rw [← h]; exact getD_mid _ _ _ _
    have hloss := lossS_range K pre 0 (fun y hy => hn y (by rw [← h]; simp [hy]))
    have hj2 : ∀ (st' : LSt), Okst s.length st' → ∀ d' : Nat → Nat, (∃ k0, ∀ k, k0 ≤ k → suf.length + 1 ≤ d' k) → Ev (fun k => spec_look.j2 (spec_look.f (d' k)) k l r s v st'.1 st'.2.1 st'.2.2 K pre.length (lossS K pre 0)) ((leaves (playableB l r s v) suf.length ((pre.length : Int) + 1) K).foldl (stepS s.length (fun K => lossS K s 0)) st') := by
      intro st' hst' d' hd'
      obtain ⟨k1, hd'⟩ := hd'
      refine Ev.fuel ?_
      simp only [spec_look.j2, show (0 : Int) ≤ (pre.length : Int) from by omega, show (pre.length : Int) < (s.length : Int) from by omega, ↓reduceIte, c3, w_id (x := (pre.length : Int) + 1) (by omega) (by omega), w_id (x := lossS K pre 0 + x.f2) (by omega) (by omega)]
      have := ih (pre ++ [x]) K st' (fun k => d' (k + 1)) hs' hKo hst' ⟨k1, fun k hk => hd' (k + 1) (by omega)⟩
      rw [lossS_out hK, e] at this
      exact Ev.bind this (Ev.now _)
    have hj : ¬ (st.2.1 ≥ 0 ∧ lossS K pre 0 > st.2.1) → Ev (fun k => spec_look.j0 (spec_look.f (d k - 1)) k l r s v st.1 st.2.1 st.2.2 K pre.length (lossS K pre 0)) ((leaves (playableB l r s v) (suf.length + 1) pre.length K).foldl (stepS s.length (fun K => lossS K s 0)) st) := by
      intro _
      refine Ev.fuel ?_
      simp only [spec_look.j0, show ¬ ((pre.length : Int) = (s.length : Int)) from by omega, ↓reduceIte, e1, Option.bind_some, show K.length < 17592186044416 from by omega]
      refine Ev.bind e2 ?_
      simp only [leaves, List.foldl_append]
      cases hp : playableB l r s v (K ++ [(pre.length : Int)]) with
      | true =>
        simp only [↓reduceIte, w_id (x := (pre.length : Int) + 1) (by omega) (by omega)]
        have h1 := ih (pre ++ [x]) (K ++ [(pre.length : Int)]) st (fun k => d (k + 1) - 1) hs' hKi hst ⟨k0, fun k hk => by have := hd (k + 1) (by omega); simp only [List.length_cons] at this; omega⟩
        rw [lossS_in, e] at h1
        refine Ev.bind h1 ?_
        refine hj2 _ (Okst.foldl _ hst fun K' h' => ?_) (fun k => d (k + 1) - 1) ⟨k0, fun k hk => by have := hd (k + 1) (by omega); simp only [List.length_cons] at this; omega⟩
        have := leaves_len (i := (pre ++ [x]).length) hP hKi (by rw [e]; exact h')
        simp only [List.length_append, List.length_cons, List.length_nil] at this
        omega
      | false =>
        simp only [Bool.false_eq_true, ↓reduceIte, List.foldl_nil]
        exact hj2 st hst (fun k => d (k + 1) - 1) ⟨k0, fun k hk => by have := hd (k + 1) (by omega); simp only [List.length_cons] at this; omega⟩
    simp only [List.length_cons, spec_look.f]
    by_cases h0 : st.2.1 ≥ 0
    · simp only [h0, ↓reduceIte]
      by_cases h1 : lossS K pre 0 > st.2.1
      · simp only [h1, ↓reduceIte]
        rw [stepS_none _ h0 fun K' h' => by have := leaves_loss (playableB l r s v) s hn (x :: suf) pre K h hK K' h'; show st.2.1 < lossS K' s 0; omega]
        exact Ev.now _
      · simp only [h1, ↓reduceIte]
        exact hj fun h => h1 h.2
    · simp only [h0, ↓reduceIte]
      exact hj fun h => h0 h.1
theorem search_ev (l : List Int) (r : Int) (s : List S51) (v : Int) (hl : l.length ≤ 1048576) (hs : s.length ≤ 12) (hn : ∀ x ∈ s, noteB x = true) (ha : Apart s) : Ev (fun k => spec_thSearch.f k l r s v) (found s.length (playableB l r s v) (fun K => lossS K s 0)) := by
  have := look_ev l r s v hl hs hn ha s [] [] ([], -1, []) (fun k => k) rfl (.nil _) ⟨fun h => absurd h (by decide), by simp⟩ ⟨s.length + 1, fun k hk => hk⟩
  unfold spec_thSearch.f found
  exact Ev.bind this (Ev.now _)
theorem loss_nonneg (s : List S51) (hn : ∀ x ∈ s, noteB x = true) (K : List Int) : 0 ≤ lossS K s 0 := (lossS_range K s 0 hn).1
end Go.Proofs.Ytipcjpgonncinaa.V
