/- Plain facts on parts of a score: which are parts, what they lose, the notes that are kept. No condition. -/
import Derived.Test.YtipcjpgonncinaaV0
import Derived.Test.YtipcjpgonncinaaV3
import Derived.Test.YtipcjpgonncinaaV5
import Derived.Test.YtipcjpgonncinaaVQV
set_option linter.unusedVariables false
set_option linter.unusedSimpArgs false
namespace Go.Proofs.Ytipcjpgonncinaa.V
open Go.RowKit Go.Proofs.YtipcjpgonncinaaW.PrintWords Go.Proofs.YtipcjpgonncinaaW.PrintLast Go.Proofs.YtipcjpgonncinaaW.PrintMore

def isPartB (n : Nat) (kept : List Int) : Bool := risFrom 0 ((n : Int) - 1) none kept
/-- Increasing indices from a number on. -/
inductive IncFrom (hi : Int) : Int → List Int → Prop
  | nil (b : Int) : IncFrom hi b []
  | cons {b x : Int} {xs : List Int} (h0 : b ≤ x) (h1 : x < hi) (h : IncFrom hi (x + 1) xs) : IncFrom hi b (x :: xs)
theorem ris_inc (n : Int) : ∀ (l : List Int) (p : Option Int), risFrom 0 (n - 1) p l = true → IncFrom n (match p with | none => 0 | some y => y + 1) l := by
  intro l
  induction l with
  | nil => intro p _; exact .nil _
  | cons x xs ih =>
    intro p h
    cases p with
    | none =>
      simp only [risFrom, Bool.and_eq_true, decide_eq_true_eq] at h
      exact .cons h.1.1 (by omega) (ih _ h.2)
    | some y =>
      simp only [risFrom, Bool.and_eq_true, decide_eq_true_eq] at h
      exact .cons (by show y + 1 ≤ x; omega) (by omega) (ih _ h.2.2)
theorem isPart_inc {n : Nat} {kept : List Int} (h : isPartB n kept = true) : IncFrom n 0 kept := ris_inc n kept none h
theorem IncFrom.ge {hi b : Int} {l : List Int} (h : IncFrom hi b l) : ∀ x ∈ l, b ≤ x ∧ x < hi := by
  induction h with
  | nil b => intro x hx; simp at hx
  | cons h0 h1 _ ih =>
    intro y hy
    rcases List.mem_cons.1 hy with rfl | hy
    · exact ⟨h0, h1⟩
    · have := ih y hy; omega
theorem IncFrom.len {hi b : Int} {l : List Int} (h : IncFrom hi b l) : b ≤ hi → (l.length : Int) ≤ hi - b := by
  induction h with
  | nil b => intro hb; simp; omega
  | cons h0 h1 _ ih => intro hb; have := ih (by omega); simp only [List.length_cons]; omega
theorem IncFrom.weaken {hi b c : Int} {l : List Int} (h : IncFrom hi b l) (hc : c ≤ b) : IncFrom hi c l := by
  cases h with
  | nil => exact .nil _
  | cons h0 h1 h => exact .cons (by omega) h1 h

/-! losses -/
def sumLen : List S51 → Int
  | [] => 0
  | x :: xs => x.f2 + sumLen xs
def lossS (kept : List Int) : List S51 → Int → Int
  | [], _ => 0
  | x :: xs, i => (if i ∈ kept then 0 else x.f2) + lossS kept xs (i + 1)
def keptLen (s : List S51) : List Int → Int
  | [] => 0
  | k :: ks => (rd_T51 s k).f2 + keptLen s ks
theorem sumLen_range : ∀ (s : List S51), (∀ x ∈ s, noteB x = true) → 0 ≤ sumLen s ∧ sumLen s ≤ 99 * s.length := by
  intro s
  induction s with
  | nil => intro _; simp [sumLen]
  | cons x xs ih =>
    intro h
    have h1 := (noteB_iff x).1 (h x (by simp))
    have h2 := ih (fun y hy => h y (by simp [hy]))
    simp only [sumLen, List.length_cons]
    omega
theorem lossS_range (kept : List Int) : ∀ (s : List S51) (i : Int), (∀ x ∈ s, noteB x = true) → 0 ≤ lossS kept s i ∧ lossS kept s i ≤ 99 * s.length := by
  intro s
  induction s with
  | nil => intro i _; simp [lossS]
  | cons x xs ih =>
    intro i h
    have h1 := (noteB_iff x).1 (h x (by simp))
    have h2 := ih (i + 1) (fun y hy => h y (by simp [hy]))
    simp only [lossS, List.length_cons]
    split <;> omega
theorem lossS_congr (a b : List Int) : ∀ (s : List S51) (i : Int), (∀ j, i ≤ j → (j ∈ a ↔ j ∈ b)) → lossS a s i = lossS b s i := by
  intro s
  induction s with
  | nil => intro i _; rfl
  | cons x xs ih =>
    intro i h
    simp only [lossS, ih (i + 1) (fun j hj => h j (by omega))]
    by_cases hi : i ∈ a
    · rw [if_pos hi, if_pos ((h i (by omega)).1 hi)]
    · rw [if_neg hi, if_neg (fun q => hi ((h i (by omega)).2 q))]
theorem loss_same (s : List S51) : ∀ (suf pre : List S51) (K : List Int), pre ++ suf = s → IncFrom s.length pre.length K → lossS K suf pre.length = sumLen suf - keptLen s K := by
  intro suf
  induction suf with
  | nil =>
    intro pre K h hK
    cases hK with
    | nil => simp [lossS, sumLen, keptLen]
    | cons h0 h1 _ => exfalso; have : s.length = pre.length := by rw [← h]; simp
                      omega
  | cons x suf ih =>
    intro pre K h hK
    have ec : ((pre ++ [x]).length : Int) = (pre.length : Int) + 1 := by simp
    have hx : rd_T51 s (pre.length : Int) = x := by rw [← h]; exact getD_mid _ _ _ _
    by_cases hm : (pre.length : Int) ∈ K
    · cases hK with
      | nil => simp at hm
      | @cons _ k ks h0 h1 hks =>
        have hk : k = (pre.length : Int) := by
          rcases List.mem_cons.1 hm with e | e
          · exact e.symm
          · have := (hks.ge _ e).1; omega
        subst hk
        have e := ih (pre ++ [x]) ks (by rw [← h]; simp) (by rw [ec]; exact hks)
        rw [ec] at e
        have c := lossS_congr ((pre.length : Int) :: ks) ks suf ((pre.length : Int) + 1) (fun j hj => by simp only [List.mem_cons]; exact ⟨fun q => by rcases q with q | q; omega; exact q, Or.inr⟩)
        simp only [lossS, hm, ↓reduceIte, c, e, sumLen, keptLen, hx]
        omega
    · have hK' : IncFrom s.length ((pre ++ [x]).length : Int) K := by
        cases hK with
        | nil => exact .nil _
        | @cons _ k ks h0 h1 hks =>
          refine .cons ?_ h1 hks
          rw [ec]
          have : k ≠ (pre.length : Int) := fun e => hm (by simp [e])
          omega
      have e := ih (pre ++ [x]) K (by rw [← h]; simp) hK'
      rw [ec] at e
      simp only [lossS, hm, ↓reduceIte, e, sumLen]
      omega
theorem l1Has_l0 (l : List Int) (v : Int) (hl : l.length ≤ 1048576) : ∀ (suf pre : List Int), pre ++ suf = l → Ev (fun k => spec_l1Has.l0 k v l l.length pre.length) (decide (v ∈ suf)) := by
  intro suf
  induction suf with
  | nil =>
    intro pre h
    have hn : ¬ ((pre.length : Int) < (l.length : Int)) := by rw [← h]; simp
    refine Ev.fuel ?_
    simp only [spec_l1Has.l0, hn, ↓reduceIte]
    exact Ev.const (dec_f (by simp))
  | cons x suf ih =>
    intro pre h
    have hlen : l.length = pre.length + (suf.length + 1) := by rw [← h]; simp
    have h1 : (pre.length : Int) < (l.length : Int) := by omega
    have h2 : (0 : Int) ≤ (pre.length : Int) := by omega
    have h3 : rd l (pre.length : Int) = x := by rw [← h]; exact getD_mid _ _ _ _
    refine Ev.fuel ?_
    by_cases hx : x = v
    · simp only [spec_l1Has.l0, h1, h2, h3, hx, ↓reduceIte]
      exact Ev.const (dec_t (by simp))
    · simp only [spec_l1Has.l0, h1, h2, h3, hx, ↓reduceIte, wn pre.length (by omega)]
      have e := ih (pre ++ [x]) (by rw [← h]; simp)
      rw [show decide (v ∈ x :: suf) = decide (v ∈ suf) by congr 1; simp only [List.mem_cons, eq_iff_iff]; exact ⟨fun q => q.elim (fun z => absurd z.symm hx) id, Or.inr⟩]
      simpa using e
theorem l1Has_ev (l : List Int) (v : Int) (hl : l.length ≤ 1048576) : Ev (fun k => spec_l1Has.f k l v) (decide (v ∈ l)) := by
  unfold spec_l1Has.f
  exact l1Has_l0 l v hl l [] rfl
theorem thinLoss_l1 (s : List S51) (K : List Int) (hs : s.length ≤ 1000) (hn : ∀ x ∈ s, noteB x = true) (hk : K.length ≤ 1000) (hK : ∀ k ∈ K, 0 ≤ k ∧ k < s.length) : ∀ (suf pre : List Int) (m : Int), pre ++ suf = K → m ≤ 1000000 → -1000000 ≤ m - 99 * suf.length →
    Ev (fun k => impl_thinLoss.l1 k s m K K.length pre.length) (m - keptLen s suf) := by
  intro suf
  induction suf with
  | nil =>
    intro pre m h h0 h1
    have hn : ¬ ((pre.length : Int) < (K.length : Int)) := by rw [← h]; simp
    refine Ev.fuel ?_
    simp only [impl_thinLoss.l1, hn, ↓reduceIte]
    exact Ev.const (by simp [keptLen])
  | cons x suf ih =>
    intro pre m h h0 h1
    have hlen : K.length = pre.length + (suf.length + 1) := by rw [← h]; simp
    have c1 : (pre.length : Int) < (K.length : Int) := by omega
    have c2 : (0 : Int) ≤ (pre.length : Int) := by omega
    have c3 : rd K (pre.length : Int) = x := by rw [← h]; exact getD_mid _ _ _ _
    have hx := hK x (by rw [← h]; simp)
    have hin : rd_T51 s x ∈ s := by
      unfold rd_T51
      rw [List.getD_eq_getElem?_getD, List.getElem?_eq_getElem (by omega)]
      exact List.getElem_mem _
    have hy := (noteB_iff _).1 (hn _ hin)
    simp only [List.length_cons] at h1
    refine Ev.fuel ?_
    simp only [impl_thinLoss.l1, c1, c2, c3, hx, and_self, ↓reduceIte, wn pre.length (by omega), w_id (x := m - (rd_T51 s x).f2) (by omega) (by omega), keptLen]
    have e := ih (pre ++ [x]) (m - (rd_T51 s x).f2) (by rw [← h]; simp) (by omega) (by omega)
    rw [show m - ((rd_T51 s x).f2 + keptLen s suf) = m - (rd_T51 s x).f2 - keptLen s suf by omega]
    simpa using e
theorem thinLoss_l0 (s : List S51) (K : List Int) (hs : s.length ≤ 1000) (hn : ∀ x ∈ s, noteB x = true) (hk : K.length ≤ 1000) (hK : ∀ k ∈ K, 0 ≤ k ∧ k < s.length) : ∀ (suf pre : List S51) (m : Int), pre ++ suf = s → 0 ≤ m → m ≤ 99 * pre.length →
    Ev (fun k => impl_thinLoss.l0 k s K m s s.length pre.length) (m + sumLen suf - keptLen s K) := by
  intro suf
  induction suf with
  | nil =>
    intro pre m h h0 h1
    have hp : pre.length ≤ 1000 := by rw [← h] at hs; simpa using hs
    have hn' : ¬ ((pre.length : Int) < (s.length : Int)) := by rw [← h]; simp
    refine Ev.fuel ?_
    simp only [impl_thinLoss.l0, hn', ↓reduceIte, sumLen, Int.add_zero]
    exact thinLoss_l1 s K hs hn hk hK K [] m rfl (by omega) (by omega)
  | cons x suf ih =>
    intro pre m h h0 h1
    have hlen : s.length = pre.length + (suf.length + 1) := by rw [← h]; simp
    have c1 : (pre.length : Int) < (s.length : Int) := by omega
    have c2 : (0 : Int) ≤ (pre.length : Int) := by omega
    have c3 : rd_T51 s (pre.length : Int) = x := by rw [← h]; exact getD_mid _ _ _ _
    have hx := (noteB_iff x).1 (hn x (by rw [← h]; simp))
    refine Ev.fuel ?_
    simp only [impl_thinLoss.l0, c1, c2, c3, ↓reduceIte, wn pre.length (by omega), w_id (x := m + x.f2) (by omega) (by omega), sumLen]
    have e := ih (pre ++ [x]) (m + x.f2) (by rw [← h]; simp) (by omega) (by simp; omega)
    rw [show m + (x.f2 + sumLen suf) = m + x.f2 + sumLen suf by omega]
    simpa using e
theorem thinLoss_ev (s : List S51) (K : List Int) (hs : s.length ≤ 1000) (hn : ∀ x ∈ s, noteB x = true) (hK : IncFrom s.length 0 K) : Ev (fun k => impl_thinLoss.f k s K) (lossS K s 0) := by
  unfold impl_thinLoss.f
  have hl := hK.len (by omega)
  have e := thinLoss_l0 s K hs hn (by omega) hK.ge s [] 0 rfl (by omega) (by simp)
  have q := loss_same s s [] K rfl hK
  simp only [List.length_nil, Int.natCast_zero] at q
  rw [q]
  rw [Int.zero_add] at e
  exact e

/-! kept notes -/
def keptOf (s : List S51) (K : List Int) : List S51 := K.map (rd_T51 s)
theorem thKept_l0 (s : List S51) (K : List Int) (hs : s.length ≤ 1000) (hk : K.length ≤ 1000) (hK : ∀ k ∈ K, 0 ≤ k ∧ k < s.length) : ∀ (suf pre : List Int) (acc : List S51), pre ++ suf = K → acc.length ≤ pre.length →
    Ev (fun k => spec_thKept.l0 k s acc K K.length pre.length) (acc ++ keptOf s suf) := by
  intro suf
  induction suf with
  | nil =>
    intro pre acc h ha
    have hn : ¬ ((pre.length : Int) < (K.length : Int)) := by rw [← h]; simp
    refine Ev.fuel ?_
    simp only [spec_thKept.l0, hn, ↓reduceIte]
    exact Ev.const (by simp [keptOf])
  | cons x suf ih =>
    intro pre acc h ha
    have hlen : K.length = pre.length + (suf.length + 1) := by rw [← h]; simp
    have c1 : (pre.length : Int) < (K.length : Int) := by omega
    have c2 : (0 : Int) ≤ (pre.length : Int) := by omega
    have c3 : rd K (pre.length : Int) = x := by rw [← h]; exact getD_mid _ _ _ _
    have hx := hK x (by rw [← h]; simp)
    have h4 : acc.length < 5864062014805 := by omega
    refine Ev.fuel ?_
    simp only [spec_thKept.l0, c1, c2, c3, hx, h4, and_self, ↓reduceIte, wn pre.length (by omega)]
    have e := ih (pre ++ [x]) (acc ++ [rd_T51 s x]) (by rw [← h]; simp) (by simp; omega)
    simpa [keptOf] using e
theorem thKept_ev (s : List S51) (K : List Int) (hs : s.length ≤ 1000) (hk : K.length ≤ 1000) (hK : ∀ k ∈ K, 0 ≤ k ∧ k < s.length) : Ev (fun k => spec_thKept.f k s K) (keptOf s K) := by
  unfold spec_thKept.f
  exact thKept_l0 s K hs hk hK K [] [] rfl (Nat.le_refl _)
theorem keptNotes_l0 : ∀ (k : Nat) (a b : List S51) (c : List Int) (d e : Int), impl_keptNotes.l0 k a b c d e = spec_thKept.l0 k a b c d e := by
  intro k
  induction k with
  | zero => intros; rfl
  | succ k ih => intros; simp only [impl_keptNotes.l0, spec_thKept.l0, ih]
theorem keptNotes_ev (s : List S51) (K : List Int) (hs : s.length ≤ 1000) (hk : K.length ≤ 1000) (hK : ∀ k ∈ K, 0 ≤ k ∧ k < s.length) : Ev (fun k => impl_keptNotes.f k s K) (keptOf s K) := by
  have e := thKept_ev s K hs hk hK
  unfold spec_thKept.f at e
  unfold impl_keptNotes.f
  simpa only [keptNotes_l0] using e
theorem keptOf_len (s : List S51) (K : List Int) : (keptOf s K).length = K.length := by simp [keptOf]
end Go.Proofs.Ytipcjpgonncinaa.V
