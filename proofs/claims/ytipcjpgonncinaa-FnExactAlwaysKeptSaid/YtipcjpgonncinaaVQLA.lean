/- Parts of a score in plain words: all parts as sets of digits, a search through parts, and what both come to. No condition. -/
import Derived.Test.YtipcjpgonncinaaV0
import Derived.Test.YtipcjpgonncinaaVQG
set_option linter.unusedVariables false
set_option linter.unusedSimpArgs false
namespace Go.Proofs.Ytipcjpgonncinaa.V
open Go.RowKit Go.Proofs.YtipcjpgonncinaaW.PrintWords Go.Proofs.YtipcjpgonncinaaW.PrintLast Go.Proofs.YtipcjpgonncinaaW.PrintMore

/-! ### Parts as sets of digits -/
def partR : Nat → Nat → Nat → List Int
  | 0, _, _ => []
  | m + 1, i, x => if x % 2 = 1 then (i : Int) :: partR m (i + 1) (x / 2) else partR m (i + 1) (x / 2)
theorem partR_inc : ∀ (m i x : Nat), IncFrom ((i + m : Nat) : Int) i (partR m i x)
  | 0, i, x => .nil _
  | m + 1, i, x => by
    have h := partR_inc m (i + 1) (x / 2)
    rw [show i + 1 + m = i + (m + 1) by omega, show ((i + 1 : Nat) : Int) = (i : Int) + 1 by omega] at h
    unfold partR
    split
    · exact .cons (Int.le_refl _) (by omega) h
    · exact h.weaken (by omega)
theorem partR_all : ∀ (m i : Nat) (K : List Int), IncFrom ((i + m : Nat) : Int) i K → ∃ x, x < 2 ^ m ∧ partR m i x = K
  | 0, i, K, h => by
    cases h with
    | nil => exact ⟨0, by simp, rfl⟩
    | cons h0 h1 h => omega
  | m + 1, i, K, h => by
    have e : ((i + 1 : Nat) : Int) = (i : Int) + 1 := by omega
    by_cases hh : ∃ T, K = (i : Int) :: T
    · obtain ⟨T, rfl⟩ := hh
      cases h with
      | cons h0 h1 h =>
        obtain ⟨x, x1, x2⟩ := partR_all m (i + 1) T (by rw [e, show i + 1 + m = i + (m + 1) by omega]; exact h)
        refine ⟨2 * x + 1, by rw [Nat.pow_succ]; omega, ?_⟩
        unfold partR
        rw [if_pos (by omega), show (2 * x + 1) / 2 = x by omega, x2]
    · have h' : IncFrom ((i + 1 + m : Nat) : Int) ((i + 1 : Nat) : Int) K := by
        rw [e, show i + 1 + m = i + (m + 1) by omega]
        cases h with
        | nil => exact .nil _
        | @cons _ y ys h0 h1 h =>
          have : y ≠ i := fun e => hh ⟨ys, by rw [e]⟩
          exact .cons (by omega) h1 h
      obtain ⟨x, x1, x2⟩ := partR_all m (i + 1) K h'
      refine ⟨2 * x, by rw [Nat.pow_succ]; omega, ?_⟩
      unfold partR
      rw [if_neg (by omega), show 2 * x / 2 = x by omega, x2]
def allParts (n : Nat) : List (List Int) := (List.range' 0 (2 ^ n)).map (partR n 0)
theorem allParts_iff (n : Nat) (K : List Int) : K ∈ allParts n ↔ IncFrom (n : Int) 0 K := by
  unfold allParts
  rw [List.mem_map]
  constructor
  · rintro ⟨x, _, rfl⟩
    have := partR_inc n 0 x
    simpa using this
  · intro h
    obtain ⟨x, x1, x2⟩ := partR_all n 0 K (by simpa using h)
    exact ⟨x, by rw [List.mem_range'_1]; omega, x2⟩
/-! ### The search -/
def leaves (P : List Int → Bool) : Nat → Int → List Int → List (List Int)
  | 0, _, K => [K]
  | m + 1, i, K => (if P (K ++ [i]) = true then leaves P m (i + 1) (K ++ [i]) else []) ++ leaves P m (i + 1) K
theorem leaves_iff {P : List Int → Bool} (hP : ∀ A B, P (A ++ B) = true → P A = true) : ∀ (m : Nat) (i : Int) (K K' : List Int), K' ∈ leaves P m i K ↔ ∃ T, K' = K ++ T ∧ IncFrom (i + m) i T ∧ (T ≠ [] → P K' = true) := by
  intro m
  induction m with
  | zero =>
    intro i K K'
    simp only [leaves, List.mem_singleton]
    constructor
    · rintro rfl; exact ⟨[], by simp, .nil _, fun h => absurd rfl h⟩
    · rintro ⟨T, rfl, h, _⟩
      cases h with
      | nil => simp
      | cons h0 h1 h => omega
  | succ m ih =>
    intro i K K'
    simp only [leaves, List.mem_append]
    have e : i + 1 + (m : Int) = i + ((m + 1 : Nat) : Int) := by omega
    constructor
    · rintro (h | h)
      · split at h
        · rename_i hp
          obtain ⟨T, rfl, h1, h2⟩ := (ih _ _ _).1 h
          rw [e] at h1
          refine ⟨i :: T, by simp, .cons (Int.le_refl _) (by omega) h1, fun _ => ?_⟩
          by_cases hT : T = []
          · subst hT; simpa using hp
          · exact h2 hT
        · simp at h
      · obtain ⟨T, rfl, h1, h2⟩ := (ih _ _ _).1 h
        rw [e] at h1
        exact ⟨T, rfl, h1.weaken (by omega), h2⟩
    · rintro ⟨T, rfl, h1, h2⟩
      by_cases hh : ∃ T', T = i :: T'
      · obtain ⟨T', rfl⟩ := hh
        left
        have hp : P (K ++ [i]) = true := hP (K ++ [i]) T' (by simpa using h2 (by simp))
        rw [if_pos hp]
        cases h1 with
        | cons h0 h1 h =>
          exact (ih _ _ _).2 ⟨T', by simp, by rw [e]; exact h, fun _ => h2 (by simp)⟩
      · right
        refine (ih _ _ _).2 ⟨T, rfl, ?_, h2⟩
        rw [e]
        cases h1 with
        | nil => exact .nil _
        | @cons _ y ys h0 h1 h =>
          have : y ≠ i := fun e => hh ⟨ys, by rw [e]⟩
          exact .cons (by omega) h1 h
/-! ### What the search keeps -/
abbrev LSt := List Int × Int × List Bool
def lexB : List Int → List Int → Bool
  | [], b => !b.isEmpty
  | _ :: _, [] => false
  | x :: a, y :: b => if x = y then lexB a b else decide (x < y)
theorem lexB_irr : ∀ a : List Int, lexB a a = false
  | [] => rfl
  | x :: a => by unfold lexB; rw [if_pos rfl]; exact lexB_irr a
theorem lexB_trans : ∀ a b c : List Int, lexB a b = true → lexB b c = true → lexB a c = true
  | [], b, [], h, k => by cases b <;> simp [lexB] at h k
  | [], b, z :: c, h, k => by simp [lexB]
  | x :: a, [], c, h, k => by simp [lexB] at h
  | x :: a, y :: b, [], h, k => by simp [lexB] at k
  | x :: a, y :: b, z :: c, h, k => by
    unfold lexB at h k ⊢
    by_cases e1 : x = y
    · subst e1
      by_cases e2 : x = z
      · subst e2
        rw [if_pos rfl] at h k ⊢
        exact lexB_trans a b c h k
      · rw [if_neg e2] at k ⊢; exact k
    · rw [if_neg e1] at h
      have h := of_decide_eq_true h
      by_cases e2 : y = z
      · subst e2; rw [if_neg e1]; exact decide_eq_true h
      · rw [if_neg e2] at k
        have k := of_decide_eq_true k
        rw [if_neg (by omega)]
        exact decide_eq_true (by omega)
def andK (n : Nat) (al : List Bool) (K : List Int) : List Bool := (List.range n).map fun q => al.getD q false && decide ((q : Int) ∈ K)
def stepS (n : Nat) (L : List Int → Int) (st : LSt) (K : List Int) : LSt :=
  if st.2.1 ≥ 0 ∧ L K > st.2.1 then st
  else if st.2.1 < 0 ∨ L K < st.2.1 then (K, L K, andK n (List.replicate n true) K)
  else (if lexB K st.1 = true then K else st.1, st.2.1, andK n st.2.2 K)
def allw (L : List Int → Int) (Ks : List (List Int)) (c : Int) (q : Nat) : Bool := Ks.all fun K => !decide (L K = c) || decide ((q : Int) ∈ K)
def BestD (n : Nat) (L : List Int → Int) (Ks : List (List Int)) (st : LSt) : Prop :=
  (Ks = [] ∧ st.2.1 = -1) ∨
  (0 ≤ st.2.1 ∧ st.1 ∈ Ks ∧ L st.1 = st.2.1 ∧ (∀ K ∈ Ks, st.2.1 ≤ L K) ∧ (∀ K ∈ Ks, L K = st.2.1 → lexB K st.1 = false) ∧ st.2.2 = (List.range n).map (allw L Ks st.2.1))
theorem andK_map (n : Nat) (f : Nat → Bool) (K : List Int) : andK n ((List.range n).map f) K = (List.range n).map fun q => f q && decide ((q : Int) ∈ K) := by
  unfold andK
  refine List.map_congr_left fun q hq => ?_
  have hq := List.mem_range.1 hq
  rw [List.getD_eq_getElem?_getD, List.getElem?_map, List.getElem?_range hq]
  rfl
theorem rep_map (n : Nat) : List.replicate n true = (List.range n).map fun _ => true := by
  refine List.ext_getElem (by simp) fun i h1 h2 => by simp
theorem BestD.step {n : Nat} {L : List Int → Int} {Ks : List (List Int)} {st : LSt} (h : BestD n L Ks st) {K : List Int} (hK : 0 ≤ L K) : BestD n L (Ks ++ [K]) (stepS n L st K) := by
  unfold stepS
  rcases h with ⟨rfl, h⟩ | ⟨h0, h1, h2, h3, h4, h5⟩
  · rw [if_neg (by omega), if_pos (by omega)]
    refine .inr ⟨hK, by simp, rfl, fun K' h' => ?_, fun K' h' _ => ?_, ?_⟩
    · simp at h'; subst h'; exact Int.le_refl _
    · simp at h'; subst h'; exact lexB_irr _
    · rw [rep_map, andK_map]
      refine List.map_congr_left fun q _ => ?_
      simp [allw]
  · by_cases g1 : L K > st.2.1
    · rw [if_pos ⟨h0, g1⟩]
      refine .inr ⟨h0, by simp [h1], h2, fun K' h' => ?_, fun K' h' e => ?_, ?_⟩
      · rcases List.mem_append.1 h' with h' | h'
        · exact h3 K' h'
        · simp at h'; subst h'; omega
      · rcases List.mem_append.1 h' with h' | h'
        · exact h4 K' h' e
        · simp at h'; subst h'; omega
      · rw [h5]
        refine List.map_congr_left fun q _ => ?_
        simp only [allw, List.all_append, List.all_cons, List.all_nil, Bool.and_true]
        rw [show decide (L K = st.2.1) = false from decide_eq_false (by omega)]
        simp
    · rw [if_neg (by omega)]
      by_cases g2 : L K < st.2.1
      · rw [if_pos (.inr g2)]
        refine .inr ⟨hK, by simp, rfl, fun K' h' => ?_, fun K' h' e => ?_, ?_⟩
        · rcases List.mem_append.1 h' with h' | h'
          · have := h3 K' h'; show L K ≤ L K'; omega
          · simp at h'; subst h'; exact Int.le_refl _
        · rcases List.mem_append.1 h' with h' | h'
          · have := h3 K' h'; have e : L K' = L K := e; omega
          · simp at h'; subst h'; exact lexB_irr _
        · rw [rep_map, andK_map]
          refine List.map_congr_left fun q _ => ?_
          simp only [allw, List.all_append, List.all_cons, List.all_nil, Bool.and_true, Bool.true_and]
          rw [show (Ks.all fun K' => !decide (L K' = L K) || decide ((q : Int) ∈ K')) = true from List.all_eq_true.2 fun K' h' => by
            have := h3 K' h'
            rw [show decide (L K' = L K) = false from decide_eq_false (by omega)]
            rfl]
          simp
      · rw [if_neg (by omega)]
        have e : L K = st.2.1 := by omega
        refine .inr ⟨h0, ?_, ?_, fun K' h' => ?_, fun K' h' e' => ?_, ?_⟩
        · show (if lexB K st.1 = true then K else st.1) ∈ _
          split
          · simp
          · simp [h1]
        · show L (if lexB K st.1 = true then K else st.1) = st.2.1
          split
          · exact e
          · exact h2
        · rcases List.mem_append.1 h' with h' | h'
          · exact h3 K' h'
          · simp at h'; subst h'; show st.2.1 ≤ L K'; omega
        · show lexB K' (if lexB K st.1 = true then K else st.1) = false
          have e' : L K' = st.2.1 := e'
          rcases List.mem_append.1 h' with h' | h'
          · have h6 := h4 K' h' e'
            split
            · rename_i hl
              cases hc : lexB K' K with
              | false => rfl
              | true => rw [lexB_trans _ _ _ hc hl] at h6; cases h6
            · exact h6
          · simp at h'; subst h'
            split
            · exact lexB_irr _
            · rename_i hl; simpa using hl
        · show andK n st.2.2 K = _
          rw [h5, andK_map]
          refine List.map_congr_left fun q _ => ?_
          simp only [allw, List.all_append, List.all_cons, List.all_nil, Bool.and_true]
          rw [show decide (L K = st.2.1) = true from decide_eq_true e]
          simp
theorem BestD.foldl {n : Nat} {L : List Int → Int} : ∀ (Ks Js : List (List Int)) (st : LSt), BestD n L Js st → (∀ K ∈ Ks, 0 ≤ L K) → BestD n L (Js ++ Ks) (Ks.foldl (stepS n L) st)
  | [], Js, st, h, _ => by simpa using h
  | K :: Ks, Js, st, h, hK => by
    have := BestD.foldl Ks (Js ++ [K]) _ (h.step (hK K (by simp))) (fun K' h' => hK K' (by simp [h']))
    simpa using this
/-! ### What all parts come to -/
def stepP (P : List Int → Bool) (L : List Int → Int) (st : List (List Int) × Int) (K : List Int) : List (List Int) × Int :=
  if (st.2 ≥ 0 ∧ L K > st.2) ∨ P K = false then st else if L K = st.2 then (st.1 ++ [K], st.2) else ([K], L K)
def BestP (P : List Int → Bool) (L : List Int → Int) (Ks : List (List Int)) (st : List (List Int) × Int) : Prop :=
  (st.2 = -1 ∧ st.1 = [] ∧ ∀ K ∈ Ks, P K = false) ∨
  (0 ≤ st.2 ∧ (∃ K ∈ Ks, P K = true ∧ L K = st.2) ∧ (∀ K ∈ Ks, P K = true → st.2 ≤ L K) ∧ ∀ K, K ∈ st.1 ↔ K ∈ Ks ∧ P K = true ∧ L K = st.2)
theorem BestP.step {P : List Int → Bool} {L : List Int → Int} {Ks : List (List Int)} {st : List (List Int) × Int} (h : BestP P L Ks st) {K : List Int} (hK : 0 ≤ L K) : BestP P L (Ks ++ [K]) (stepP P L st K) := by
  unfold stepP
  cases hp : P K with
  | false =>
    rw [if_pos (.inr rfl)]
    rcases h with ⟨h0, h1, h2⟩ | ⟨h0, ⟨K1, k1, k2, k3⟩, h2, h3⟩
    · refine .inl ⟨h0, h1, fun K' h' => ?_⟩
      rcases List.mem_append.1 h' with h' | h'
      · exact h2 K' h'
      · simp at h'; subst h'; exact hp
    · refine .inr ⟨h0, ⟨K1, by simp [k1], k2, k3⟩, fun K' h' e => ?_, fun K' => ?_⟩
      · rcases List.mem_append.1 h' with h' | h'
        · exact h2 K' h' e
        · simp at h'; subst h'; rw [hp] at e; cases e
      · rw [h3, List.mem_append]
        constructor
        · rintro ⟨a, b⟩; exact ⟨.inl a, b⟩
        · rintro ⟨a | a, b⟩
          · exact ⟨a, b⟩
          · simp at a; subst a; rw [hp] at b; cases b.1
  | true =>
    rcases h with ⟨h0, h1, h2⟩ | ⟨h0, ⟨K1, k1, k2, k3⟩, h2, h3⟩
    · rw [if_neg (by simp; omega), if_neg (by omega)]
      refine .inr ⟨hK, ⟨K, by simp, hp, rfl⟩, fun K' h' e => ?_, fun K' => ?_⟩
      · rcases List.mem_append.1 h' with h' | h'
        · rw [h2 K' h'] at e; cases e
        · simp at h'; subst h'; exact Int.le_refl _
      · simp only [List.mem_singleton, List.mem_append]
        constructor
        · rintro rfl; exact ⟨.inr rfl, hp, rfl⟩
        · rintro ⟨a | a, b, _⟩
          · rw [h2 K' a] at b; cases b
          · exact a
    · by_cases g1 : L K > st.2
      · rw [if_pos (.inl ⟨h0, g1⟩)]
        refine .inr ⟨h0, ⟨K1, by simp [k1], k2, k3⟩, fun K' h' e => ?_, fun K' => ?_⟩
        · rcases List.mem_append.1 h' with h' | h'
          · exact h2 K' h' e
          · simp at h'; subst h'; omega
        · rw [h3, List.mem_append]
          constructor
          · rintro ⟨a, b⟩; exact ⟨.inl a, b⟩
          · rintro ⟨a | a, b, c⟩
            · exact ⟨a, b, c⟩
            · simp at a; subst a; omega
      · rw [if_neg (by simp; omega)]
        by_cases g2 : L K = st.2
        · rw [if_pos g2]
          refine .inr ⟨h0, ⟨K1, by simp [k1], k2, k3⟩, fun K' h' e => ?_, fun K' => ?_⟩
          · rcases List.mem_append.1 h' with h' | h'
            · exact h2 K' h' e
            · simp at h'; subst h'; show st.2 ≤ L K'; omega
          · show K' ∈ st.1 ++ [K] ↔ _
            simp only [List.mem_append, List.mem_singleton, h3]
            constructor
            · rintro (⟨a, b⟩ | rfl)
              · exact ⟨.inl a, b⟩
              · exact ⟨.inr rfl, hp, g2⟩
            · rintro ⟨a | a, b⟩
              · exact .inl ⟨a, b⟩
              · exact .inr a
        · rw [if_neg g2]
          have g3 : L K < st.2 := by omega
          refine .inr ⟨hK, ⟨K, by simp, hp, rfl⟩, fun K' h' e => ?_, fun K' => ?_⟩
          · rcases List.mem_append.1 h' with h' | h'
            · have := h2 K' h' e; show L K ≤ L K'; omega
            · simp at h'; subst h'; exact Int.le_refl _
          · simp only [List.mem_singleton, List.mem_append]
            constructor
            · rintro rfl; exact ⟨.inr rfl, hp, rfl⟩
            · rintro ⟨a | a, b, c⟩
              · have := h2 K' a b; omega
              · exact a
theorem BestP.foldl {P : List Int → Bool} {L : List Int → Int} : ∀ (Ks Js : List (List Int)) (st : List (List Int) × Int), BestP P L Js st → (∀ K ∈ Ks, 0 ≤ L K) → BestP P L (Js ++ Ks) (Ks.foldl (stepP P L) st)
  | [], Js, st, h, _ => by simpa using h
  | K :: Ks, Js, st, h, hK => by
    have := BestP.foldl Ks (Js ++ [K]) _ (h.step (hK K (by simp))) (fun K' h' => hK K' (by simp [h']))
    simpa using this
/-! ### Both -/
def found (n : Nat) (P : List Int → Bool) (L : List Int → Int) : LSt := (leaves P n 0 []).foldl (stepS n L) ([], -1, [])
def listed (n : Nat) (P : List Int → Bool) (L : List Int → Int) : List (List Int) × Int := (allParts n).foldl (stepP P L) ([], -1)
theorem search_iff {P : List Int → Bool} (hP : ∀ A B, P (A ++ B) = true → P A = true) (h0 : P [] = true) (n : Nat) (K : List Int) : K ∈ leaves P n 0 [] ↔ IncFrom (n : Int) 0 K ∧ P K = true := by
  rw [leaves_iff hP]
  constructor
  · rintro ⟨T, e, h1, h2⟩
    rw [List.nil_append] at e
    rw [← e, Int.zero_add] at h1
    rw [← e] at h2
    refine ⟨h1, ?_⟩
    by_cases hT : K = []
    · rw [hT]; exact h0
    · exact h2 hT
  · rintro ⟨h1, h2⟩
    exact ⟨K, by simp, by simpa using h1, fun _ => h2⟩
theorem found_at {n : Nat} {P : List Int → Bool} {L : List Int → Int} (hP : ∀ A B, P (A ++ B) = true → P A = true) (h0 : P [] = true) (hL : ∀ K, IncFrom (n : Int) 0 K → 0 ≤ L K) :
    0 ≤ (found n P L).2.1 ∧ (found n P L).1 ∈ leaves P n 0 [] ∧ L (found n P L).1 = (found n P L).2.1 ∧ (∀ K ∈ leaves P n 0 [], (found n P L).2.1 ≤ L K) ∧ (∀ K ∈ leaves P n 0 [], L K = (found n P L).2.1 → lexB K (found n P L).1 = false) ∧ (found n P L).2.2 = (List.range n).map (allw L (leaves P n 0 []) (found n P L).2.1) := by
  have h := BestD.foldl (n := n) (L := L) (leaves P n 0 []) [] ([], -1, []) (.inl ⟨rfl, rfl⟩) (fun K hK => hL K ((search_iff hP h0 n K).1 hK).1)
  rw [List.nil_append] at h
  rcases h with ⟨h, _⟩ | h
  · have := (search_iff hP h0 n []).2 ⟨.nil _, h0⟩
    rw [h] at this
    simp at this
  · exact h
theorem listed_at {n : Nat} {P : List Int → Bool} {L : List Int → Int} (h0 : P [] = true) (hL : ∀ K, IncFrom (n : Int) 0 K → 0 ≤ L K) :
    0 ≤ (listed n P L).2 ∧ (∃ K ∈ allParts n, P K = true ∧ L K = (listed n P L).2) ∧ (∀ K ∈ allParts n, P K = true → (listed n P L).2 ≤ L K) ∧ ∀ K, K ∈ (listed n P L).1 ↔ K ∈ allParts n ∧ P K = true ∧ L K = (listed n P L).2 := by
  have h := BestP.foldl (P := P) (L := L) (allParts n) [] ([], -1) (.inl ⟨rfl, rfl, by simp⟩) (fun K hK => hL K ((allParts_iff n K).1 hK))
  rw [List.nil_append] at h
  rcases h with ⟨_, _, h⟩ | h
  · have := h [] ((allParts_iff n []).2 (.nil _))
    rw [h0] at this
    cases this
  · exact h
theorem least_same {n : Nat} {P : List Int → Bool} {L : List Int → Int} (hP : ∀ A B, P (A ++ B) = true → P A = true) (h0 : P [] = true) (hL : ∀ K, IncFrom (n : Int) 0 K → 0 ≤ L K) : (found n P L).2.1 = (listed n P L).2 := by
  obtain ⟨a0, a1, a2, a3, _⟩ := found_at hP h0 hL
  obtain ⟨b0, ⟨K, k1, k2, k3⟩, b2, _⟩ := listed_at h0 hL
  have h1 := a3 K ((search_iff hP h0 n K).2 ⟨(allParts_iff n K).1 k1, k2⟩)
  have h2 := (search_iff hP h0 n _).1 a1
  have h3 := b2 _ ((allParts_iff n _).2 h2.1) h2.2
  omega
theorem always_same {n : Nat} {P : List Int → Bool} {L : List Int → Int} (hP : ∀ A B, P (A ++ B) = true → P A = true) (h0 : P [] = true) (hL : ∀ K, IncFrom (n : Int) 0 K → 0 ≤ L K) (q : Nat) : allw L (leaves P n 0 []) (found n P L).2.1 q = (listed n P L).1.all fun K => decide ((q : Int) ∈ K) := by
  obtain ⟨b0, _, _, b3⟩ := listed_at h0 hL
  have hs := least_same hP h0 hL
  rw [Bool.eq_iff_iff]
  unfold allw
  rw [List.all_eq_true, List.all_eq_true]
  constructor
  · intro h K hK
    obtain ⟨k1, k2, k3⟩ := (b3 K).1 hK
    have := h K ((search_iff hP h0 n K).2 ⟨(allParts_iff n K).1 k1, k2⟩)
    rw [show decide (L K = (found n P L).2.1) = true from decide_eq_true (by omega)] at this
    simpa using this
  · intro h K hK
    obtain ⟨k1, k2⟩ := (search_iff hP h0 n K).1 hK
    by_cases e : L K = (found n P L).2.1
    · have := h K ((b3 K).2 ⟨(allParts_iff n K).2 k1, k2, by omega⟩)
      rw [this]; simp
    · rw [decide_eq_false e]; rfl
end Go.Proofs.Ytipcjpgonncinaa.V
