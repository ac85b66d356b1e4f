/- The stable sort of the sort package's text, step for step, over arrays, and that it leaves a permutation in order. No program in sight. No condition. -/
import Derived.Sort.LotA
set_option linter.unusedVariables false
set_option linter.unusedSimpArgs false
namespace Go.Proofs.YtgjpphcbdbfhlaaGreat.SA
open Go.Sort
variable {α : Type} [Inhabited α]

/-! ### the steps -/
def swr (a b : Nat) : Nat → Nat → Array α → Array α
  | 0, _, d => d
  | m + 1, i, d => swr a b m (i + 1) (swp d (a + i) (b + i))
def rotGo (m : Nat) : Nat → Nat → Nat → Array α → Array α
  | 0, _, _, d => d
  | f + 1, i, j, d => if i = j then swr (m - i) m i 0 d else if i > j then rotGo m f (i - j) j (swr (m - i) m j 0 d) else rotGo m f i (j - i) (swr (m - i) (m + j - i) i 0 d)
def rot (a m b : Nat) (d : Array α) : Array α := rotGo m (b - a) (m - a) (b - m) d
def bsr (p : Nat → Bool) : Nat → Nat → Nat → Nat
  | 0, i, _ => i
  | f + 1, i, j => if i < j then (if p ((i + j) / 2) = true then bsr p f ((i + j) / 2 + 1) j else bsr p f i ((i + j) / 2)) else i
def upS : Nat → Nat → Array α → Array α
  | 0, _, d => d
  | n + 1, k, d => upS n (k + 1) (swp d k (k + 1))
def dnS : Nat → Nat → Array α → Array α
  | 0, _, d => d
  | n + 1, k, d => dnS n (k - 1) (swp d k (k - 1))
section
variable (lt : α → α → Bool)
def startOf (a m b : Nat) (d : Array α) : Nat :=
  bsr (fun c => !lt d[(a + b) / 2 + m - 1 - c]! d[c]!) (b - a) (if m > (a + b) / 2 then (a + b) / 2 + m - b else a) (if m > (a + b) / 2 then (a + b) / 2 else m)
def sym : Nat → Nat → Nat → Nat → Array α → Array α
  | 0, _, _, _, d => d
  | f + 1, a, m, b, d =>
    if m - a = 1 then upS (bsr (fun h => lt d[h]! d[a]!) (b - m) m b - 1 - a) a d
    else if b - m = 1 then dnS (m - bsr (fun h => !lt d[m]! d[h]!) (m - a) a m) m d
    else
      let s := startOf lt a m b d
      let mid := (a + b) / 2
      let e := mid + m - s
      let d1 := if s < m ∧ m < e then rot s m e d else d
      let d2 := if a < s ∧ s < mid then sym f a s mid d1 else d1
      if mid < e ∧ e < b then sym f mid e b d2 else d2
def blk1 (n : Nat) : Nat → Nat → Array α → Array α
  | 0, a, d => insertionSort lt d a n
  | f + 1, a, d => if a + 20 ≤ n then blk1 n f (a + 20) (insertionSort lt d a (a + 20)) else insertionSort lt d a n
def inner2 (n bs : Nat) : Nat → Nat → Array α → Array α
  | 0, a, d => if a + bs < n then sym lt n a (a + bs) n d else d
  | f + 1, a, d => if a + 2 * bs ≤ n then inner2 n bs f (a + 2 * bs) (sym lt n a (a + bs) (a + 2 * bs) d) else if a + bs < n then sym lt n a (a + bs) n d else d
def outer2 (n : Nat) : Nat → Nat → Array α → Array α
  | 0, _, d => d
  | f + 1, bs, d => if bs < n then outer2 n f (bs * 2) (inner2 lt n bs n 0 d) else d
def stableA (n : Nat) (d : Array α) : Array α := outer2 lt n n 20 (blk1 lt n n 0 d)
end

/-! ### swaps of ranges -/
theorem size_swr (a b : Nat) : ∀ (m i : Nat) (d : Array α), (swr a b m i d).size = d.size := by
  intro m
  induction m with
  | zero => intro i d; rfl
  | succ m ih => intro i d; rw [swr, ih, swp_size]
theorem get_swr (a b : Nat) : ∀ (m i : Nat) (d : Array α), a + i + m ≤ d.size → b + i + m ≤ d.size → (a + i + m ≤ b + i ∨ b + i + m ≤ a + i) → ∀ p,
    (swr a b m i d)[p]! = if a + i ≤ p ∧ p < a + i + m then d[p - a + b]! else if b + i ≤ p ∧ p < b + i + m then d[p - b + a]! else d[p]! := by
  intro m
  induction m with
  | zero => intro i d _ _ _ p; rw [if_neg (by omega), if_neg (by omega)]; rfl
  | succ m ih =>
    intro i d h1 h2 h3 p
    have g := fun q => swp_get d (i := a + i) (j := b + i) (by omega) (by omega) q
    rw [swr, ih (i + 1) _ (by rw [swp_size]; omega) (by rw [swp_size]; omega) (by omega) p]
    rw [g, g, g]
    by_cases c1 : a + i ≤ p ∧ p < a + i + (m + 1)
    · by_cases c2 : p = a + i
      · subst c2
        rw [if_neg (by omega), if_neg (by omega), if_pos c1, show a + i - a + b = b + i by omega]
        by_cases c3 : a + i = b + i
        · rw [if_pos c3]; rw [c3]
        · rw [if_neg c3, if_pos rfl]
      · rw [if_pos (by omega), if_pos c1, if_neg (by omega), if_neg (by omega)]
    · by_cases c2 : b + i ≤ p ∧ p < b + i + (m + 1)
      · by_cases c3 : p = b + i
        · subst c3
          rw [if_neg (by omega), if_neg (by omega), if_neg c1, if_pos c2, if_pos rfl, show b + i - b + a = a + i by omega]
        · rw [if_neg (by omega), if_pos (by omega), if_neg c1, if_pos c2, if_neg (by omega), if_neg (by omega)]
      · rw [if_neg (by omega), if_neg (by omega), if_neg c1, if_neg c2, if_neg (by omega), if_neg (by omega)]

/-! ### rotations -/
def Rotated (a m b : Nat) (d r : Array α) : Prop := r.size = d.size ∧ ∀ p, r[p]! = if a ≤ p ∧ p < a + (b - m) then d[p + (m - a)]! else if a + (b - m) ≤ p ∧ p < b then d[p - (b - m)]! else d[p]!
theorem rotGo_spec (m : Nat) : ∀ (f i j : Nat) (d : Array α), 0 < i → 0 < j → i ≤ m → m + j ≤ d.size → i + j ≤ f → Rotated (m - i) m (m + j) d (rotGo m f i j d) := by
  intro f
  induction f with
  | zero => intro i j d h1 h2 _ _ h; omega
  | succ f ih =>
    intro i j d hi hj him hmj hf
    by_cases e : i = j
    · subst e
      rw [rotGo, if_pos rfl]
      refine ⟨size_swr .., fun p => ?_⟩
      rw [get_swr _ _ _ _ _ (by omega) (by omega) (by omega)]
      by_cases c1 : m - i ≤ p ∧ p < m
      · rw [if_pos (by omega), if_pos (by omega)]; congr 1; omega
      · by_cases c2 : m ≤ p ∧ p < m + i
        · rw [if_neg (by omega), if_pos (by omega), if_neg (by omega), if_pos (by omega)]; congr 1; omega
        · rw [if_neg (by omega), if_neg (by omega), if_neg (by omega), if_neg (by omega)]
    · by_cases g : i > j
      · rw [rotGo, if_neg e, if_pos g]
        have sz := size_swr (m - i) m j 0 d
        obtain ⟨r1, r2⟩ := ih (i - j) j (swr (m - i) m j 0 d) (by omega) hj (by omega) (by omega) (by omega)
        refine ⟨r1.trans sz, fun p => ?_⟩
        rw [r2]
        have gs := get_swr (m - i) m j 0 d (by omega) (by omega) (by omega)
        rw [gs, gs, gs]
        (repeat' split) <;> first | rfl | (exfalso; omega) | (congr 1; omega)
      · rw [rotGo, if_neg e, if_neg g]
        have sz := size_swr (m - i) (m + j - i) i 0 d
        obtain ⟨r1, r2⟩ := ih i (j - i) (swr (m - i) (m + j - i) i 0 d) hi (by omega) him (by omega) (by omega)
        refine ⟨r1.trans sz, fun p => ?_⟩
        rw [r2]
        have gs := get_swr (m - i) (m + j - i) i 0 d (by omega) (by omega) (by omega)
        rw [gs, gs, gs]
        (repeat' split) <;> first | rfl | (exfalso; omega) | (congr 1; omega)

/-! ### swaps inside a range -/
inductive SwapsIn (a b : Nat) : Array α → Array α → Prop
  | refl (d : Array α) : SwapsIn a b d d
  | step {d d' : Array α} {i j : Nat} (h : SwapsIn a b d d') (hi : a ≤ i) (hi' : i < b) (hj : a ≤ j) (hj' : j < b) : SwapsIn a b d (swp d' i j)
theorem SwapsIn.trans {a b : Nat} {d d' d'' : Array α} (h : SwapsIn a b d d') (k : SwapsIn a b d' d'') : SwapsIn a b d d'' := by
  induction k with
  | refl => exact h
  | step _ h1 h2 h3 h4 ih => exact .step ih h1 h2 h3 h4
theorem SwapsIn.widen {a b a' b' : Nat} {d d' : Array α} (h : SwapsIn a b d d') (ha : a' ≤ a) (hb : b ≤ b') : SwapsIn a' b' d d' := by
  induction h with
  | refl => exact .refl _
  | step _ h1 h2 h3 h4 ih => exact .step ih (by omega) (by omega) (by omega) (by omega)
theorem SwapsIn.size {a b : Nat} {d d' : Array α} (h : SwapsIn a b d d') : d'.size = d.size := by
  induction h with
  | refl => rfl
  | step _ _ _ _ _ ih => rw [swp_size, ih]
theorem SwapsIn.perm {a b : Nat} {d d' : Array α} (h : SwapsIn a b d d') (hb : b ≤ d.size) : PermIn a b d d' := by
  induction h with
  | refl => exact permIn_refl _ _ _
  | step h h1 h2 h3 h4 ih => exact permIn_trans _ _ _ _ _ ih (swp_permIn _ _ _ _ _ h1 h2 h3 h4 (by rw [h.size]; exact hb))
theorem swr_in (a b lo hi : Nat) : ∀ (m i : Nat) (d : Array α), lo ≤ a + i → lo ≤ b + i → a + i + m ≤ hi → b + i + m ≤ hi → SwapsIn lo hi d (swr a b m i d) := by
  intro m
  induction m with
  | zero => intro i d _ _ _ _; exact .refl _
  | succ m ih =>
    intro i d h1 h2 h3 h4
    exact ((SwapsIn.refl d).step (i := a + i) (j := b + i) (by omega) (by omega) (by omega) (by omega)).trans (ih (i + 1) _ (by omega) (by omega) (by omega) (by omega))
theorem rotGo_in (m : Nat) : ∀ (f i j : Nat) (d : Array α), 0 < i → 0 < j → i ≤ m → SwapsIn (m - i) (m + j) d (rotGo m f i j d) := by
  intro f
  induction f with
  | zero => intro i j d _ _ _; exact .refl _
  | succ f ih =>
    intro i j d hi hj him
    rw [rotGo]
    split
    · exact swr_in _ _ _ _ _ _ _ (by omega) (by omega) (by omega) (by omega)
    · split
      · exact (swr_in _ _ _ _ _ _ _ (by omega) (by omega) (by omega) (by omega)).trans ((ih (i - j) j _ (by omega) hj (by omega)).widen (by omega) (by omega))
      · exact (swr_in _ _ _ _ _ _ _ (by omega) (by omega) (by omega) (by omega)).trans ((ih i (j - i) _ hi (by omega) him).widen (by omega) (by omega))
theorem upS_in (lo hi : Nat) : ∀ (n k : Nat) (d : Array α), lo ≤ k → k + n < hi → SwapsIn lo hi d (upS n k d) := by
  intro n
  induction n with
  | zero => intro k d _ _; exact .refl _
  | succ n ih =>
    intro k d h1 h2
    exact ((SwapsIn.refl d).step (i := k) (j := k + 1) (by omega) (by omega) (by omega) (by omega)).trans (ih (k + 1) _ (by omega) (by omega))
theorem dnS_in (lo hi : Nat) : ∀ (n k : Nat) (d : Array α), lo + n ≤ k → k < hi → SwapsIn lo hi d (dnS n k d) := by
  intro n
  induction n with
  | zero => intro k d _ _; exact .refl _
  | succ n ih =>
    intro k d h1 h2
    exact ((SwapsIn.refl d).step (i := k) (j := k - 1) (by omega) (by omega) (by omega) (by omega)).trans (ih (k - 1) _ (by omega) (by omega))
theorem get_upS : ∀ (n k : Nat) (d : Array α), k + n < d.size → ∀ p, (upS n k d)[p]! = if k ≤ p ∧ p < k + n then d[p + 1]! else if p = k + n then d[k]! else d[p]! := by
  intro n
  induction n with
  | zero => intro k d h p; rw [if_neg (by omega)]; split; · rename_i e; subst e; rfl
            · rfl
  | succ n ih =>
    intro k d h p
    have g := fun q => swp_get d (i := k) (j := k + 1) (by omega) (by omega) q
    rw [upS, ih (k + 1) _ (by rw [swp_size]; omega), g, g, g]
    (repeat' split) <;> first | rfl | (exfalso; omega) | (congr 1; omega)
theorem get_dnS : ∀ (n k : Nat) (d : Array α), n ≤ k → k < d.size → ∀ p, (dnS n k d)[p]! = if k - n < p ∧ p ≤ k then d[p - 1]! else if p = k - n then d[k]! else d[p]! := by
  intro n
  induction n with
  | zero => intro k d _ h p; rw [if_neg (by omega)]; split; · rename_i e; subst e; rfl
            · rfl
  | succ n ih =>
    intro k d hk h p
    have g := fun q => swp_get d (i := k) (j := k - 1) (by omega) (by omega) q
    rw [dnS, ih (k - 1) _ (by omega) (by rw [swp_size]; omega), g, g, g]
    (repeat' split) <;> first | rfl | (exfalso; omega) | (congr 1; omega)

/-! ### the search -/
theorem bsr_spec (p : Nat → Bool) : ∀ (f i j : Nat), j - i ≤ f → i ≤ j → i ≤ bsr p f i j ∧ bsr p f i j ≤ j ∧ (i < bsr p f i j → p (bsr p f i j - 1) = true) ∧ (bsr p f i j < j → p (bsr p f i j) = false) := by
  intro f
  induction f with
  | zero => intro i j h1 h2; exact ⟨Nat.le_refl _, h2, fun h => by simp [bsr] at h, fun h => by simp only [bsr] at h; omega⟩
  | succ f ih =>
    intro i j h1 h2
    by_cases h : i < j
    · by_cases hp : p ((i + j) / 2) = true
      · rw [bsr, if_pos h, if_pos hp]
        obtain ⟨q1, q2, q3, q4⟩ := ih ((i + j) / 2 + 1) j (by omega) (by omega)
        refine ⟨by omega, q2, fun _ => ?_, q4⟩
        by_cases e : (i + j) / 2 + 1 < bsr p f ((i + j) / 2 + 1) j
        · exact q3 e
        · rw [show bsr p f ((i + j) / 2 + 1) j - 1 = (i + j) / 2 by omega]; exact hp
      · rw [bsr, if_pos h, if_neg hp]
        obtain ⟨q1, q2, q3, q4⟩ := ih i ((i + j) / 2) (by omega) (by omega)
        refine ⟨q1, by omega, q3, fun _ => ?_⟩
        by_cases e : bsr p f i ((i + j) / 2) < (i + j) / 2
        · exact q4 e
        · rw [show bsr p f i ((i + j) / 2) = (i + j) / 2 by omega]; simpa using hp
    · rw [bsr, if_neg h]
      exact ⟨Nat.le_refl _, h2, fun q => absurd q (by omega), fun q => absurd q h⟩

/-! ### the merge -/
section
variable {lt : α → α → Bool}
omit [Inhabited α] in
theorem SWO.cmp (hS : SWO lt) {x y z : α} (h : lt x z = true) : lt x y = true ∨ lt y z = true := by
  cases h1 : lt x y with
  | true => exact Or.inl rfl
  | false =>
    cases h2 : lt y z with
    | true => exact Or.inr rfl
    | false => rw [hS.ntrans x y z h1 h2] at h; cases h
theorem le_of (hS : SWO lt) {lo hi : Nat} {d : Array α} (h : SortedIn lt lo hi d) {i j : Nat} (hi1 : lo ≤ i) (hij : i ≤ j) (hj : j < hi) : lt d[j]! d[i]! = false := by
  by_cases e : i = j
  · subst e; exact hS.irrefl _
  · exact h i j hi1 (by omega) hj
theorem sym_one (hS : SWO lt) (a b : Nat) (d : Array α) (hab : a + 1 < b) (hb : b ≤ d.size) (h2 : SortedIn lt (a + 1) b d) (i : Nat) (hi1 : a + 1 ≤ i) (hi2 : i ≤ b) (hl : a + 1 < i → lt d[i - 1]! d[a]! = true) (hr : i < b → lt d[i]! d[a]! = false) :
    SortedIn lt a b (upS (i - 1 - a) a d) := by
  intro p q hp hpq hq
  have g := get_upS (i - 1 - a) a d (by omega)
  rw [g, g]
  have lo : ∀ p, a ≤ p → p < i - 1 → lt d[a]! d[p + 1]! = false := fun p h1 h2' => by
    have hx := hl (by omega)
    cases hc : lt d[a]! d[p + 1]! with
    | false => rfl
    | true =>
      have := hS.trans _ _ _ hx hc
      rw [le_of hS h2 (i := p + 1) (j := i - 1) (by omega) (by omega) (by omega)] at this
      cases this
  have up : ∀ q, i ≤ q → q < b → lt d[q]! d[a]! = false := fun q h1 h2' =>
    hS.ntrans _ _ _ (le_of hS h2 (i := i) (j := q) (by omega) h1 h2') (hr (by omega))
  by_cases c1 : a ≤ p ∧ p < a + (i - 1 - a)
  · rw [if_pos c1]
    by_cases c2 : a ≤ q ∧ q < a + (i - 1 - a)
    · rw [if_pos c2]; exact h2 _ _ (by omega) (by omega) (by omega)
    · rw [if_neg c2]
      by_cases c3 : q = a + (i - 1 - a)
      · rw [if_pos c3]; exact lo p hp (by omega)
      · rw [if_neg c3]; exact h2 _ _ (by omega) (by omega) (by omega)
  · rw [if_neg c1, if_neg (show ¬ (a ≤ q ∧ q < a + (i - 1 - a)) by omega), if_neg (show ¬ q = a + (i - 1 - a) by omega)]
    by_cases c3 : p = a + (i - 1 - a)
    · rw [if_pos c3]; exact up q (by omega) hq
    · rw [if_neg c3]; exact h2 _ _ (by omega) hpq hq
theorem sym_last (hS : SWO lt) (a m : Nat) (d : Array α) (ham : a < m) (hb : m + 1 ≤ d.size) (h1 : SortedIn lt a m d) (i : Nat) (hi1 : a ≤ i) (hi2 : i ≤ m) (hl : a < i → lt d[m]! d[i - 1]! = false) (hr : i < m → lt d[m]! d[i]! = true) :
    SortedIn lt a (m + 1) (dnS (m - i) m d) := by
  intro p q hp hpq hq
  have g := get_dnS (m - i) m d (by omega) (by omega)
  rw [g, g]
  have lo : ∀ p, a ≤ p → p < i → lt d[m]! d[p]! = false := fun p h1' h2' =>
    hS.ntrans _ _ _ (hl (by omega)) (le_of hS h1 (i := p) (j := i - 1) h1' (by omega) (by omega))
  have up : ∀ q, i ≤ q → q < m → lt d[q]! d[m]! = false := fun q h1' h2' => by
    have hx := hr (by omega)
    cases hc : lt d[q]! d[m]! with
    | false => rfl
    | true =>
      have := hS.trans _ _ _ hc hx
      rw [le_of hS h1 (i := i) (j := q) hi1 h1' h2'] at this
      cases this
  by_cases c1 : m - (m - i) < q ∧ q ≤ m
  · rw [if_pos c1]
    by_cases c2 : m - (m - i) < p ∧ p ≤ m
    · rw [if_pos c2]; exact h1 _ _ (by omega) (by omega) (by omega)
    · rw [if_neg c2]
      by_cases c3 : p = m - (m - i)
      · rw [if_pos c3]; exact up (q - 1) (by omega) (by omega)
      · rw [if_neg c3]; exact h1 _ _ hp (by omega) (by omega)
  · rw [if_neg c1, if_neg (show ¬ (m - (m - i) < p ∧ p ≤ m) by omega), if_neg (show ¬ p = m - (m - i) by omega)]
    by_cases c3 : q = m - (m - i)
    · rw [if_pos c3]; exact lo p hp (by omega)
    · rw [if_neg c3]; exact h1 _ _ hp hpq (by omega)
theorem sym_size_step (f a m b : Nat) (d : Array α) (hb : b ≤ d.size) (ham : a < m) (hmb : m < b) : ∀ (hrec : ∀ a m b (d : Array α), a < m → m < b → b ≤ d.size → SwapsIn a b d (sym lt f a m b d)), SwapsIn a b d (sym lt (f + 1) a m b d) := by
  intro hrec
  rw [sym]
  split
  · rename_i h
    have q := bsr_spec (fun h => lt d[h]! d[a]!) (b - m) m b (Nat.le_refl _) (by omega)
    exact upS_in _ _ _ _ _ (Nat.le_refl _) (by omega)
  · split
    · rename_i h
      have q := bsr_spec (fun h => !lt d[m]! d[h]!) (m - a) a m (Nat.le_refl _) (by omega)
      exact dnS_in _ _ _ _ _ (by omega) (by omega)
    · have q := bsr_spec (fun c => !lt d[(a + b) / 2 + m - 1 - c]! d[c]!) (b - a) (if m > (a + b) / 2 then (a + b) / 2 + m - b else a) (if m > (a + b) / 2 then (a + b) / 2 else m) (by split <;> omega) (by split <;> omega)
      have hs : a ≤ startOf lt a m b d ∧ startOf lt a m b d ≤ m ∧ startOf lt a m b d ≤ (a + b) / 2 ∧ m ≤ (a + b) / 2 + m - startOf lt a m b d ∧ (a + b) / 2 + m - startOf lt a m b d ≤ b ∧ (a + b) / 2 ≤ (a + b) / 2 + m - startOf lt a m b d := by
        unfold startOf
        obtain ⟨q1, q2, _⟩ := q
        by_cases c : m > (a + b) / 2
        · simp only [c, ↓reduceIte] at q1 q2 ⊢; omega
        · simp only [c, ↓reduceIte] at q1 q2 ⊢; omega
      generalize startOf lt a m b d = s at hs
      have s1 : SwapsIn a b d (if s < m ∧ m < (a + b) / 2 + m - s then rot s m ((a + b) / 2 + m - s) d else d) := by
        split
        · rename_i c
          have := rotGo_in m ((a + b) / 2 + m - s - s) (m - s) ((a + b) / 2 + m - s - m) d (by omega) (by omega) (by omega)
          exact this.widen (by omega) (by omega)
        · exact .refl _
      show SwapsIn a b d (if (a + b) / 2 < (a + b) / 2 + m - s ∧ (a + b) / 2 + m - s < b then sym lt f ((a + b) / 2) ((a + b) / 2 + m - s) b (if a < s ∧ s < (a + b) / 2 then sym lt f a s ((a + b) / 2) (if s < m ∧ m < (a + b) / 2 + m - s then rot s m ((a + b) / 2 + m - s) d else d) else (if s < m ∧ m < (a + b) / 2 + m - s then rot s m ((a + b) / 2 + m - s) d else d)) else (if a < s ∧ s < (a + b) / 2 then sym lt f a s ((a + b) / 2) (if s < m ∧ m < (a + b) / 2 + m - s then rot s m ((a + b) / 2 + m - s) d else d) else (if s < m ∧ m < (a + b) / 2 + m - s then rot s m ((a + b) / 2 + m - s) d else d)))
      generalize (if s < m ∧ m < (a + b) / 2 + m - s then rot s m ((a + b) / 2 + m - s) d else d) = d1 at s1 ⊢
      have z1 := s1.size
      have s2 : SwapsIn a b d (if a < s ∧ s < (a + b) / 2 then sym lt f a s ((a + b) / 2) d1 else d1) := by
        split
        · rename_i c
          exact s1.trans ((hrec a s ((a + b) / 2) d1 c.1 c.2 (by omega)).widen (Nat.le_refl _) (by omega))
        · exact s1
      generalize (if a < s ∧ s < (a + b) / 2 then sym lt f a s ((a + b) / 2) d1 else d1) = d2 at s2 ⊢
      have z2 := s2.size
      split
      · rename_i c
        exact s2.trans ((hrec ((a + b) / 2) ((a + b) / 2 + m - s) b d2 c.1 c.2 (by omega)).widen (by omega) (Nat.le_refl _))
      · exact s2
theorem sym_in : ∀ (f a m b : Nat) (d : Array α), a < m → m < b → b ≤ d.size → SwapsIn a b d (sym lt f a m b d) := by
  intro f
  induction f with
  | zero => intro a m b d _ _ _; exact .refl _
  | succ f ih => intro a m b d h1 h2 h3; exact sym_size_step f a m b d h3 h1 h2 ih
theorem sym_sorted (hS : SWO lt) : ∀ (f a m b : Nat) (d : Array α), a < m → m < b → b ≤ d.size → b - a ≤ f → SortedIn lt a m d → SortedIn lt m b d → SortedIn lt a b (sym lt f a m b d) := by
  intro f
  induction f with
  | zero => intro a m b d h1 h2 _ h; omega
  | succ f ih =>
    intro a m b d ham hmb hb hf h1 h2
    rw [sym]
    split
    · rename_i h
      obtain rfl : m = a + 1 := by omega
      obtain ⟨q1, q2, q3, q4⟩ := bsr_spec (fun h => lt d[h]! d[a]!) (b - (a + 1)) (a + 1) b (Nat.le_refl _) (by omega)
      exact sym_one hS a b d hmb hb h2 _ q1 q2 q3 q4
    · rename_i hne
      split
      · rename_i h
        obtain rfl : b = m + 1 := by omega
        obtain ⟨q1, q2, q3, q4⟩ := bsr_spec (fun h => !lt d[m]! d[h]!) (m - a) a m (Nat.le_refl _) (by omega)
        exact sym_last hS a m d ham hb h1 _ q1 q2 (fun h => by simpa using q3 h) (fun h => by simpa using q4 h)
      · rename_i hne2
        have hmid : a < (a + b) / 2 ∧ (a + b) / 2 < b := by omega
        have fact : ∃ s, startOf lt a m b d = s ∧ a ≤ s ∧ s ≤ m ∧ s ≤ (a + b) / 2 ∧ m ≤ (a + b) / 2 + m - s ∧ (a + b) / 2 + m - s ≤ b ∧ (a + b) / 2 ≤ (a + b) / 2 + m - s ∧
            ((a < s ∧ (a + b) / 2 + m - s < b) → lt d[(a + b) / 2 + m - s]! d[s - 1]! = false) ∧ ((s < m ∧ m < (a + b) / 2 + m - s) → lt d[(a + b) / 2 + m - s - 1]! d[s]! = true) := by
          have q := bsr_spec (fun c => !lt d[(a + b) / 2 + m - 1 - c]! d[c]!) (b - a) (if m > (a + b) / 2 then (a + b) / 2 + m - b else a) (if m > (a + b) / 2 then (a + b) / 2 else m) (by split <;> omega) (by split <;> omega)
          refine ⟨_, rfl, ?_⟩
          unfold startOf
          obtain ⟨q1, q2, q3, q4⟩ := q
          by_cases c : m > (a + b) / 2
          · simp only [c, ↓reduceIte] at q1 q2 q3 q4 ⊢
            generalize bsr (fun c => !lt d[(a + b) / 2 + m - 1 - c]! d[c]!) (b - a) ((a + b) / 2 + m - b) ((a + b) / 2) = s at q1 q2 q3 q4 ⊢
            refine ⟨by omega, by omega, by omega, by omega, by omega, by omega, fun h => ?_, fun h => ?_⟩
            · have := q3 (by omega)
              rw [show (a + b) / 2 + m - 1 - (s - 1) = (a + b) / 2 + m - s by omega] at this
              simpa using this
            · have := q4 (by omega)
              rw [show (a + b) / 2 + m - 1 - s = (a + b) / 2 + m - s - 1 by omega] at this
              simpa using this
          · simp only [c, ↓reduceIte] at q1 q2 q3 q4 ⊢
            generalize bsr (fun c => !lt d[(a + b) / 2 + m - 1 - c]! d[c]!) (b - a) a m = s at q1 q2 q3 q4 ⊢
            refine ⟨by omega, by omega, by omega, by omega, by omega, by omega, fun h => ?_, fun h => ?_⟩
            · have := q3 (by omega)
              rw [show (a + b) / 2 + m - 1 - (s - 1) = (a + b) / 2 + m - s by omega] at this
              simpa using this
            · have := q4 (by omega)
              rw [show (a + b) / 2 + m - 1 - s = (a + b) / 2 + m - s - 1 by omega] at this
              simpa using this
        obtain ⟨s, hs, f1, f2, f3, f4, f5, f6, f7, f8⟩ := fact
        show SortedIn lt a b (if (a + b) / 2 < (a + b) / 2 + m - startOf lt a m b d ∧ (a + b) / 2 + m - startOf lt a m b d < b then sym lt f ((a + b) / 2) ((a + b) / 2 + m - startOf lt a m b d) b (if a < startOf lt a m b d ∧ startOf lt a m b d < (a + b) / 2 then sym lt f a (startOf lt a m b d) ((a + b) / 2) (if startOf lt a m b d < m ∧ m < (a + b) / 2 + m - startOf lt a m b d then rot (startOf lt a m b d) m ((a + b) / 2 + m - startOf lt a m b d) d else d) else (if startOf lt a m b d < m ∧ m < (a + b) / 2 + m - startOf lt a m b d then rot (startOf lt a m b d) m ((a + b) / 2 + m - startOf lt a m b d) d else d)) else (if a < startOf lt a m b d ∧ startOf lt a m b d < (a + b) / 2 then sym lt f a (startOf lt a m b d) ((a + b) / 2) (if startOf lt a m b d < m ∧ m < (a + b) / 2 + m - startOf lt a m b d then rot (startOf lt a m b d) m ((a + b) / 2 + m - startOf lt a m b d) d else d) else (if startOf lt a m b d < m ∧ m < (a + b) / 2 + m - startOf lt a m b d then rot (startOf lt a m b d) m ((a + b) / 2 + m - startOf lt a m b d) d else d)))
        rw [hs]
        generalize hmd : (a + b) / 2 = mid at *
        generalize he : mid + m - s = e at *
        have r1 : Rotated s m e d (if s < m ∧ m < e then rot s m e d else d) := by
          split
          · rename_i c
            have := rotGo_spec m (e - s) (m - s) (e - m) d (by omega) (by omega) (by omega) (by omega) (by omega)
            rw [show m - (m - s) = s by omega, show m + (e - m) = e by omega] at this
            exact this
          · refine ⟨rfl, fun p => ?_⟩
            by_cases c1 : s = m
            · (repeat' split) <;> first | rfl | (exfalso; omega) | (congr 1; omega)
            · (repeat' split) <;> first | rfl | (exfalso; omega) | (congr 1; omega)
        generalize (if s < m ∧ m < e then rot s m e d else d) = d1 at r1 ⊢
        obtain ⟨z1, g⟩ := r1
        -- the four pieces, and the two halves apart
        have cross : ∀ x y, a ≤ x → x < mid → mid ≤ y → y < b → lt d1[y]! d1[x]! = false := by
          intro x y hx1 hx2 hy1 hy2
          rw [g, g]
          by_cases cx : x < s
          · rw [if_neg (show ¬ (s ≤ x ∧ x < s + (e - m)) by omega), if_neg (show ¬ (s + (e - m) ≤ x ∧ x < e) by omega), if_neg (show ¬ (s ≤ y ∧ y < s + (e - m)) by omega)]
            by_cases cy : y < e
            · rw [if_pos (by omega)]; exact le_of hS h1 (by omega) (by omega) (by omega)
            · rw [if_neg (by omega)]
              exact hS.ntrans _ _ _ (le_of hS h2 (i := e) (j := y) (by omega) (by omega) hy2) (hS.ntrans _ _ _ (f7 ⟨by omega, by omega⟩) (le_of hS h1 (i := x) (j := s - 1) hx1 (by omega) (by omega)))
          · rw [if_pos (show s ≤ x ∧ x < s + (e - m) by omega), if_neg (show ¬ (s ≤ y ∧ y < s + (e - m)) by omega)]
            by_cases cy : y < e
            · rw [if_pos (by omega)]
              have hx := f8 ⟨by omega, by omega⟩
              have l1 : lt d[e - 1]! d[x + (m - s)]! = false := le_of hS h2 (by omega) (by omega) (by omega)
              have l2 : lt d[y - (e - m)]! d[s]! = false := le_of hS h1 (by omega) (by omega) (by omega)
              rcases SWO.cmp hS (y := d[x + (m - s)]!) hx with k | k
              · rw [l1] at k; cases k
              · rcases SWO.cmp hS (y := d[y - (e - m)]!) k with k2 | k2
                · exact hS.asymmA k2
                · rw [l2] at k2; cases k2
            · rw [if_neg (by omega)]
              exact le_of hS h2 (by omega) (by omega) hy2
        have p1 : SortedIn lt a s d1 := fun p q hp hpq hq => by
          rw [g, g, if_neg (by omega), if_neg (by omega), if_neg (by omega), if_neg (by omega)]; exact h1 p q hp hpq (by omega)
        have p2 : SortedIn lt s mid d1 := fun p q hp hpq hq => by
          rw [g, g, if_pos (by omega), if_pos (by omega)]; exact h2 _ _ (by omega) (by omega) (by omega)
        have p3 : SortedIn lt mid e d1 := fun p q hp hpq hq => by
          rw [g, g, if_neg (by omega), if_pos (by omega), if_neg (by omega), if_pos (by omega)]; exact h1 _ _ (by omega) (by omega) (by omega)
        have p4 : SortedIn lt e b d1 := fun p q hp hpq hq => by
          rw [g, g, if_neg (by omega), if_neg (by omega), if_neg (by omega), if_neg (by omega)]; exact h2 _ _ (by omega) hpq hq
        -- the left half
        have w2 : SwapsIn a mid d1 (if a < s ∧ s < mid then sym lt f a s mid d1 else d1) := by
          split
          · rename_i c; exact sym_in f a s mid d1 c.1 c.2 (by omega)
          · exact .refl _
        have o2 : SortedIn lt a mid (if a < s ∧ s < mid then sym lt f a s mid d1 else d1) := by
          split
          · rename_i c; exact ih a s mid d1 c.1 c.2 (by omega) (by omega) p1 p2
          · rename_i c
            by_cases c1 : s = a
            · subst c1; exact p2
            · obtain rfl : s = mid := by omega
              exact p1
        generalize (if a < s ∧ s < mid then sym lt f a s mid d1 else d1) = d2 at w2 o2 ⊢
        have z2 := w2.size
        have e2 := (w2.perm (by omega)).2.1
        have p3' : SortedIn lt mid e d2 := fun p q hp hpq hq => by rw [e2 p (Or.inr hp), e2 q (Or.inr (by omega))]; exact p3 p q hp hpq hq
        have p4' : SortedIn lt e b d2 := fun p q hp hpq hq => by rw [e2 p (Or.inr (by omega)), e2 q (Or.inr (by omega))]; exact p4 p q hp hpq hq
        have cross2 : ∀ x y, a ≤ x → x < mid → mid ≤ y → y < b → lt d2[y]! d2[x]! = false := fun x y hx1 hx2 hy1 hy2 => by
          have := permIn_all d1 d2 a mid (fun v => lt d1[y]! v = false) (by omega) (w2.perm (by omega)) (fun i hi1 hi2 => cross i y hi1 hi2 hy1 hy2) x hx1 hx2
          rw [e2 y (Or.inr hy1)]; exact this
        -- the right half
        have w3 : SwapsIn mid b d2 (if mid < e ∧ e < b then sym lt f mid e b d2 else d2) := by
          split
          · rename_i c; exact sym_in f mid e b d2 c.1 c.2 (by omega)
          · exact .refl _
        have o3 : SortedIn lt mid b (if mid < e ∧ e < b then sym lt f mid e b d2 else d2) := by
          split
          · rename_i c; exact ih mid e b d2 c.1 c.2 (by omega) (by omega) p3' p4'
          · rename_i c
            by_cases c1 : e = mid
            · subst c1; exact p4'
            · obtain rfl : e = b := by omega
              exact p3'
        generalize (if mid < e ∧ e < b then sym lt f mid e b d2 else d2) = d3 at w3 o3 ⊢
        have e3 := (w3.perm (by omega)).2.1
        intro p q hp hpq hq
        by_cases c1 : q < mid
        · rw [e3 p (Or.inl (by omega)), e3 q (Or.inl c1)]; exact o2 p q hp hpq c1
        · by_cases c2 : mid ≤ p
          · exact o3 p q c2 hpq hq
          · rw [e3 p (Or.inl (by omega))]
            exact permIn_all d2 d3 mid b (fun v => lt v d2[p]! = false) (by omega) (w3.perm (by omega)) (fun i hi1 hi2 => cross2 p i hp (by omega) hi1 hi2) q (by omega) hq

/-! ### the blocks -/
theorem ins_in (a b : Nat) (d : Array α) (hb : b ≤ d.size) : SwapsIn a b d (insertionSort lt d a b) := by
  have inner : ∀ (j : Nat) (d : Array α), a ≤ j → j < b → SwapsIn a b d (insInner lt a j d) := by
    intro j
    induction j with
    | zero => intro d _ _; exact .refl _
    | succ j ih =>
      intro d h1 h2
      rw [insInner]
      split
      · rename_i c
        simp only [Bool.and_eq_true, decide_eq_true_eq] at c
        exact ((SwapsIn.refl d).step (i := j + 1) (j := j) (by omega) h2 (by omega) (by omega)).trans (ih _ (by omega) (by omega))
      · exact .refl _
  have outer : ∀ (n i : Nat) (d : Array α), b - i = n → a ≤ i → SwapsIn a b d (insOuter lt a b i d) := by
    intro n
    induction n with
    | zero => intro i d h h1; rw [insOuter, if_neg (by omega)]; exact .refl _
    | succ n ih =>
      intro i d h h1
      rw [insOuter, if_pos (by omega)]
      exact (inner i d h1 (by omega)).trans (ih (i + 1) _ (by omega) (by omega))
  exact outer _ (a + 1) d rfl (by omega)
/-- Sorted in blocks of a size, up to n. -/
def Blocks (lt : α → α → Bool) (bs lo n : Nat) (d : Array α) : Prop := ∀ q, lo ≤ q * bs → SortedIn lt (q * bs) (min (q * bs + bs) n) d
theorem blk1_in (n : Nat) : ∀ (f a : Nat) (d : Array α), n ≤ d.size → a ≤ n → SwapsIn a n d (blk1 lt n f a d) := by
  intro f
  induction f with
  | zero => intro a d h _; exact ins_in a n d h
  | succ f ih =>
    intro a d h ha
    rw [blk1]
    split
    · rename_i c
      have h1 := ins_in (lt := lt) a (a + 20) d (by omega)
      exact (h1.widen (Nat.le_refl _) c).trans ((ih (a + 20) _ (by rw [h1.size]; exact h) c).widen (by omega) (Nat.le_refl _))
    · exact ins_in a n d h
theorem sorted_out {lo hi a b : Nat} {d d' : Array α} (h : SortedIn lt a b d) (hw : SwapsIn lo hi d d') (hs : hi ≤ d.size) (ho : b ≤ lo ∨ hi ≤ a) : SortedIn lt a b d' := fun p q hp hpq hq => by
  have e := (hw.perm hs).2.1
  rw [e p (by omega), e q (by omega)]
  exact h p q hp hpq hq
theorem blk1_sorted (hS : SWO lt) (n : Nat) : ∀ (f q0 : Nat) (d : Array α), n ≤ d.size → q0 * 20 ≤ n → n < q0 * 20 + 20 * f + 20 → Blocks lt 20 (q0 * 20) n (blk1 lt n f (q0 * 20) d) := by
  intro f
  induction f with
  | zero =>
    intro q0 d h h1 h2 q hq
    by_cases e : q = q0
    · subst e
      intro i j hi hij hj
      exact (insertionSort_holds (lt := lt) hS d (q * 20) n h1 h).2 i j hi hij (by omega)
    · intro i j hi hij hj; omega
  | succ f ih =>
    intro q0 d h h1 h2
    rw [blk1]
    split
    · rename_i c
      have s1 := ins_in (lt := lt) (q0 * 20) (q0 * 20 + 20) d (by omega)
      have e := ih (q0 + 1) (insertionSort lt d (q0 * 20) (q0 * 20 + 20)) (by rw [s1.size]; exact h) (by omega) (by omega)
      rw [show (q0 + 1) * 20 = q0 * 20 + 20 by omega] at e
      intro q hq
      by_cases e0 : q = q0
      · subst e0
        have srt : SortedIn lt (q * 20) (q * 20 + 20) (insertionSort lt d (q * 20) (q * 20 + 20)) := (insertionSort_holds (lt := lt) hS d (q * 20) (q * 20 + 20) (by omega) (by omega)).2
        have w := blk1_in (lt := lt) n f (q * 20 + 20) (insertionSort lt d (q * 20) (q * 20 + 20)) (by rw [s1.size]; exact h) c
        have := sorted_out srt w (by rw [s1.size]; exact h) (Or.inl (Nat.le_refl _))
        intro i j hi hij hj
        exact this i j hi hij (by omega)
      · exact e q (by omega)
    · rename_i c
      intro q hq
      by_cases e0 : q = q0
      · subst e0
        intro i j hi hij hj
        exact (insertionSort_holds (lt := lt) hS d (q * 20) n h1 h).2 i j hi hij (by omega)
      · intro i j hi hij hj; omega
theorem inner2_in (n bs : Nat) (hbs : 0 < bs) : ∀ (f a : Nat) (d : Array α), n ≤ d.size → a ≤ n → SwapsIn a n d (inner2 lt n bs f a d) := by
  intro f
  induction f with
  | zero =>
    intro a d h ha
    rw [inner2]
    split
    · exact sym_in _ _ _ _ _ (by omega) (by assumption) h
    · exact .refl _
  | succ f ih =>
    intro a d h ha
    rw [inner2]
    split
    · rename_i c
      have h1 := sym_in (lt := lt) n a (a + bs) (a + 2 * bs) d (by omega) (by omega) (by omega)
      exact (h1.widen (Nat.le_refl _) c).trans ((ih (a + 2 * bs) _ (by rw [h1.size]; exact h) c).widen (by omega) (Nat.le_refl _))
    · split
      · exact sym_in _ _ _ _ _ (by omega) (by assumption) h
      · exact .refl _
theorem inner2_sorted (hS : SWO lt) (n bs : Nat) (hbs : 0 < bs) : ∀ (f q0 : Nat) (d : Array α), n ≤ d.size → q0 * (2 * bs) ≤ n → n < q0 * (2 * bs) + f + 1 → Blocks lt bs (q0 * (2 * bs)) n d →
    Blocks lt (2 * bs) (q0 * (2 * bs)) n (inner2 lt n bs f (q0 * (2 * bs)) d) := by
  have two : ∀ q, (2 * q) * bs = q * (2 * bs) ∧ (2 * q + 1) * bs = q * (2 * bs) + bs := fun q => by
    rw [Nat.add_mul, Nat.one_mul, Nat.mul_comm 2 q, Nat.mul_assoc]; exact ⟨rfl, rfl⟩
  have last : ∀ (q0 : Nat) (d : Array α), n ≤ d.size → q0 * (2 * bs) ≤ n → ¬ q0 * (2 * bs) + 2 * bs ≤ n → Blocks lt bs (q0 * (2 * bs)) n d →
      Blocks lt (2 * bs) (q0 * (2 * bs)) n (if q0 * (2 * bs) + bs < n then sym lt n (q0 * (2 * bs)) (q0 * (2 * bs) + bs) n d else d) := by
    intro q0 d h h1 h2 hB q hq
    have b1 := hB (2 * q0) (by rw [(two q0).1]; exact Nat.le_refl _)
    have b2 := hB (2 * q0 + 1) (by rw [(two q0).2]; omega)
    rw [(two q0).1] at b1
    rw [(two q0).2] at b2
    by_cases e : q = q0
    · subst e
      split
      · rename_i c
        have := sym_sorted hS n (q * (2 * bs)) (q * (2 * bs) + bs) n d (by omega) c h (by omega) (fun i j hi hij hj => b1 i j hi hij (by omega)) (fun i j hi hij hj => b2 i j hi hij (by omega))
        intro i j hi hij hj
        exact this i j hi hij (by omega)
      · rename_i c
        intro i j hi hij hj
        exact b1 i j hi hij (by omega)
    · intro i j hi hij hj
      have : q0 + 1 ≤ q := by
        by_cases lt' : q < q0
        · exfalso
          have := Nat.mul_le_mul_right (2 * bs) (show q + 1 ≤ q0 from lt')
          rw [Nat.add_mul, Nat.one_mul] at this
          omega
        · omega
      have := Nat.mul_le_mul_right (2 * bs) this
      rw [Nat.add_mul, Nat.one_mul] at this
      omega
  intro f
  induction f with
  | zero =>
    intro q0 d h h1 h2 hB
    exact last q0 d h h1 (by omega) hB
  | succ f ih =>
    intro q0 d h h1 h2 hB
    rw [inner2]
    split
    · rename_i c
      have s1 := sym_in (lt := lt) n (q0 * (2 * bs)) (q0 * (2 * bs) + bs) (q0 * (2 * bs) + 2 * bs) d (by omega) (by omega) (by omega)
      have b1 := hB (2 * q0) (by rw [(two q0).1]; exact Nat.le_refl _)
      have b2 := hB (2 * q0 + 1) (by rw [(two q0).2]; omega)
      rw [(two q0).1] at b1
      rw [(two q0).2] at b2
      have srt := sym_sorted hS n (q0 * (2 * bs)) (q0 * (2 * bs) + bs) (q0 * (2 * bs) + 2 * bs) d (by omega) (by omega) (by omega) (by omega) (fun i j hi hij hj => b1 i j hi hij (by omega)) (fun i j hi hij hj => b2 i j hi hij (by omega))
      have nx : (q0 + 1) * (2 * bs) = q0 * (2 * bs) + 2 * bs := by rw [Nat.add_mul, Nat.one_mul]
      have hB' : Blocks lt bs ((q0 + 1) * (2 * bs)) n (sym lt n (q0 * (2 * bs)) (q0 * (2 * bs) + bs) (q0 * (2 * bs) + 2 * bs) d) := fun q hq =>
        sorted_out (hB q (by omega)) s1 (by omega) (Or.inr (by omega))
      have e := ih (q0 + 1) (sym lt n (q0 * (2 * bs)) (q0 * (2 * bs) + bs) (q0 * (2 * bs) + 2 * bs) d) (by rw [s1.size]; exact h) (by omega) (by omega) hB'
      rw [nx] at e
      intro q hq
      by_cases e0 : q = q0
      · subst e0
        have w := inner2_in (lt := lt) n bs hbs f (q * (2 * bs) + 2 * bs) (sym lt n (q * (2 * bs)) (q * (2 * bs) + bs) (q * (2 * bs) + 2 * bs) d) (by rw [s1.size]; exact h) c
        have := sorted_out srt w (by rw [s1.size]; exact h) (Or.inl (Nat.le_refl _))
        intro i j hi hij hj
        exact this i j hi hij (by omega)
      · refine e q ?_
        have : q0 + 1 ≤ q := by
          by_cases lt' : q < q0
          · exfalso
            have := Nat.mul_le_mul_right (2 * bs) (show q + 1 ≤ q0 from lt')
            rw [Nat.add_mul, Nat.one_mul] at this
            omega
          · omega
        have := Nat.mul_le_mul_right (2 * bs) this
        rw [nx] at this
        exact this
    · rename_i c
      exact last q0 d h h1 c hB
theorem outer2_in (n : Nat) : ∀ (f bs : Nat) (d : Array α), 0 < bs → n ≤ d.size → SwapsIn 0 n d (outer2 lt n f bs d) := by
  intro f
  induction f with
  | zero => intro bs d _ _; exact .refl _
  | succ f ih =>
    intro bs d hbs h
    rw [outer2]
    split
    · have h1 := inner2_in (lt := lt) n bs hbs n 0 d h (Nat.zero_le _)
      exact h1.trans (ih (bs * 2) _ (by omega) (by rw [h1.size]; exact h))
    · exact .refl _
theorem outer2_sorted (hS : SWO lt) (n : Nat) : ∀ (f bs : Nat) (d : Array α), 0 < bs → n ≤ d.size → n ≤ bs + f → Blocks lt bs 0 n d → SortedIn lt 0 n (outer2 lt n f bs d) := by
  intro f
  induction f with
  | zero =>
    intro bs d hbs h h1 hB
    rw [outer2]
    have := hB 0 (by omega)
    intro i j hi hij hj
    exact this i j (by omega) hij (by omega)
  | succ f ih =>
    intro bs d hbs h h1 hB
    rw [outer2]
    split
    · rename_i c
      have w := inner2_in (lt := lt) n bs hbs n 0 d h (Nat.zero_le _)
      have e := inner2_sorted hS n bs hbs n 0 d h (by omega) (by omega) (by rw [Nat.zero_mul]; exact hB)
      rw [Nat.zero_mul] at e
      rw [Nat.mul_comm bs 2]
      exact ih (2 * bs) _ (by omega) (by rw [w.size]; exact h) (by omega) e
    · rename_i c
      have := hB 0 (by omega)
      intro i j hi hij hj
      exact this i j (by omega) hij (by omega)
/-- **The stable sort's text leaves a permutation, in order.** -/
theorem stableA_spec (hS : SWO lt) (d : Array α) : PermIn 0 d.size d (stableA lt d.size d) ∧ SortedIn lt 0 d.size (stableA lt d.size d) := by
  have w1 := blk1_in (lt := lt) d.size d.size 0 d (Nat.le_refl _) (Nat.zero_le _)
  have w2 := outer2_in (lt := lt) d.size d.size 20 (blk1 lt d.size d.size 0 d) (by omega) (by rw [w1.size]; exact Nat.le_refl _)
  refine ⟨(w1.trans w2).perm (Nat.le_refl _), ?_⟩
  have b := blk1_sorted hS d.size d.size 0 d (Nat.le_refl _) (by omega) (by omega)
  rw [Nat.zero_mul] at b
  exact outer2_sorted hS d.size d.size 20 _ (by omega) (by rw [w1.size]; exact Nat.le_refl _) (by omega) b
end
end Go.Proofs.YtgjpphcbdbfhlaaGreat.SA
