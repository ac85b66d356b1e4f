/- Insertion as the reference does it, and that it leaves what the stable sort leaves: one order alone is in order. No program in sight. No condition. -/
import Derived.Test.YtgjpphcbdbfhlaaGreatLSA
set_option linter.unusedVariables false
set_option linter.unusedSimpArgs false
set_option linter.unusedSectionVars false
namespace Go.Proofs.YtgjpphcbdbfhlaaGreat.SA
open Go.Sort
variable {α : Type} [Inhabited α] (lt : α → α → Bool)

/-- Where the reference's inner loop stands still, begun at k. -/
def insPos (x : α) (l : List α) : Nat → Nat
  | 0 => 0
  | k + 1 => if lt x (l.getD k default) = true then insPos x l k else k + 1
def insL (x : α) (l : List α) : List α := l.take (insPos lt x l l.length) ++ ([x] ++ l.drop (insPos lt x l l.length))
def isortFrom (acc : List α) : List α → List α
  | [] => acc
  | x :: xs => isortFrom (insL lt x acc) xs
def isort (l : List α) : List α := isortFrom lt [] l
def srtL (l : List α) : List α := (stableA lt l.length l.toArray).toList

theorem insPos_le (x : α) (l : List α) : ∀ k, insPos lt x l k ≤ k := by
  intro k
  induction k with
  | zero => exact Nat.le_refl _
  | succ k ih =>
    unfold insPos
    split
    · omega
    · exact Nat.le_refl _
theorem insL_perm (x : α) (l : List α) : (insL lt x l).Perm (x :: l) := by
  unfold insL
  have h : (l.take (insPos lt x l l.length) ++ ([x] ++ l.drop (insPos lt x l l.length))).Perm ([x] ++ (l.take (insPos lt x l l.length) ++ l.drop (insPos lt x l l.length))) := by
    rw [← List.append_assoc, ← List.append_assoc]
    exact List.Perm.append_right _ List.perm_append_comm
  rw [List.take_append_drop] at h
  exact h
theorem insL_length (x : α) (l : List α) : (insL lt x l).length = l.length + 1 := by
  have := (insL_perm lt x l).length_eq
  simpa using this
theorem isortFrom_perm (l : List α) : ∀ acc, (isortFrom lt acc l).Perm (acc ++ l) := by
  induction l with
  | nil => intro acc; simp [isortFrom]
  | cons x xs ih =>
    intro acc
    unfold isortFrom
    refine (ih _).trans ?_
    refine ((insL_perm lt x acc).append_right xs).trans ?_
    exact List.perm_middle.symm
theorem isort_perm (l : List α) : (isort lt l).Perm l := by
  have := isortFrom_perm lt l []
  simpa [isort] using this
theorem isortFrom_snoc (l : List α) (x : α) : ∀ acc, isortFrom lt acc (l ++ [x]) = insL lt x (isortFrom lt acc l) := by
  induction l with
  | nil => intro acc; rfl
  | cons y ys ih => intro acc; exact ih _

/-- In order: no later one is less than an earlier one. -/
def Asc (l : List α) : Prop := l.Pairwise fun a b => lt b a = false

theorem insPos_spec (x : α) (l : List α) : ∀ k, k ≤ l.length → (∀ j, insPos lt x l k ≤ j → j < k → lt x (l.getD j default) = true) ∧ (0 < insPos lt x l k → lt x (l.getD (insPos lt x l k - 1) default) = false) := by
  intro k
  induction k with
  | zero => intro _; exact ⟨fun j _ h => absurd h (by omega), fun h => absurd h (by simp [insPos])⟩
  | succ k ih =>
    intro hk
    obtain ⟨h1, h2⟩ := ih (by omega)
    by_cases hc : lt x (l.getD k default) = true
    · have e : insPos lt x l (k + 1) = insPos lt x l k := by rw [insPos, if_pos hc]
      rw [e]
      refine ⟨fun j hj hjk => ?_, h2⟩
      by_cases hjk' : j = k
      · rw [hjk']; exact hc
      · exact h1 j hj (by omega)
    · have e : insPos lt x l (k + 1) = k + 1 := by rw [insPos, if_neg hc]
      rw [e]
      exact ⟨fun j hj hjk => absurd hjk (by omega), fun _ => by simpa using hc⟩
theorem insL_asc (hS : SWO lt) (x : α) (l : List α) (h : Asc lt l) : Asc lt (insL lt x l) := by
  obtain ⟨h1, h2⟩ := insPos_spec lt x l l.length (Nat.le_refl _)
  have hle := insPos_le lt x l l.length
  unfold insL
  generalize insPos lt x l l.length = p at h1 h2 hle
  have hall := List.pairwise_iff_getElem.1 h
  have htk : ∀ y ∈ l.take p, lt x y = false := by
    intro y hy
    obtain ⟨i, hi, rfl⟩ := List.getElem_of_mem hy
    have hip : i < p := by simp at hi; omega
    have hp := h2 (by omega)
    rw [List.getElem_take]
    by_cases e : i = p - 1
    · subst e
      rw [List.getD_eq_getElem?_getD, List.getElem?_eq_getElem (by omega)] at hp
      exact hp
    · have h3 := hall i (p - 1) (by omega) (by omega) (by omega)
      rw [List.getD_eq_getElem?_getD, List.getElem?_eq_getElem (by omega)] at hp
      exact hS.ntrans _ _ _ hp h3
  have hdr : ∀ y ∈ l.drop p, lt y x = false := by
    intro y hy
    obtain ⟨i, hi, rfl⟩ := List.getElem_of_mem hy
    rw [List.getElem_drop]
    have hil : p + i < l.length := by simp at hi; omega
    have h3 := h1 (p + i) (by omega) hil
    rw [List.getD_eq_getElem?_getD, List.getElem?_eq_getElem hil] at h3
    have h3' : lt x l[p + i] = true := h3
    cases hc : lt l[p + i] x with
    | false => rfl
    | true => have := hS.trans _ _ _ h3' hc; rw [hS.irrefl] at this; cases this
  have hpw : (l.take p ++ l.drop p).Pairwise fun a b => lt b a = false := by rw [List.take_append_drop]; exact h
  obtain ⟨q1, q2, q3⟩ := List.pairwise_append.1 hpw
  refine List.pairwise_append.2 ⟨q1, ?_, ?_⟩
  · exact List.pairwise_cons.2 ⟨hdr, q2⟩
  · intro a ha b hb
    rcases List.mem_cons.1 hb with rfl | hb
    · exact htk a ha
    · exact q3 a ha b hb
theorem isortFrom_asc (hS : SWO lt) (l : List α) : ∀ acc, Asc lt acc → Asc lt (isortFrom lt acc l) := by
  induction l with
  | nil => intro acc h; exact h
  | cons x xs ih => intro acc h; exact ih _ (insL_asc lt hS x acc h)
theorem isort_asc (hS : SWO lt) (l : List α) : Asc lt (isort lt l) := isortFrom_asc lt hS l [] List.Pairwise.nil

theorem srtL_perm (hS : SWO lt) (l : List α) : (srtL lt l).Perm l := by
  have h := (stableA_spec hS l.toArray).1
  have hp := h.2.2
  have hz := h.1
  unfold srtL
  have e1 : (l.toArray.extract 0 l.toArray.size).toList = l := by simp
  have e2 : ((stableA lt l.toArray.size l.toArray).extract 0 l.toArray.size).toList = (stableA lt l.toArray.size l.toArray).toList := by
    generalize stableA lt l.toArray.size l.toArray = d at hz ⊢
    rw [← hz]; simp
  rw [e1, e2] at hp
  simpa using hp
theorem srtL_asc (hS : SWO lt) (l : List α) : Asc lt (srtL lt l) := by
  have h := (stableA_spec hS l.toArray).2
  have hz := (stableA_spec hS l.toArray).1.1
  have e : l.toArray.size = l.length := by simp
  rw [e] at h hz
  unfold srtL Asc
  rw [List.pairwise_iff_getElem]
  intro i j hi hj hij
  have hi' : i < l.length := by simp at hi; omega
  have hj' : j < l.length := by simp at hj; omega
  have := h i j (Nat.zero_le _) hij hj'
  rw [getElem!_pos _ i (by omega), getElem!_pos _ j (by omega)] at this
  simpa using this
theorem srtL_length (hS : SWO lt) (l : List α) : (srtL lt l).length = l.length := (srtL_perm lt hS l).length_eq
theorem isort_length (l : List α) : (isort lt l).length = l.length := (isort_perm lt l).length_eq

theorem asc_unique : ∀ (a b : List α), a.Perm b → Asc lt a → Asc lt b → (∀ x ∈ a, ∀ y ∈ a, lt x y = false → lt y x = false → x = y) → a = b := by
  intro a
  induction a with
  | nil => intro b hp _ _ _; exact hp.nil_eq
  | cons x xs ih =>
    intro b hp ha hb hu
    cases b with
    | nil => exact absurd hp.symm.nil_eq (by simp)
    | cons y ys =>
      obtain ⟨a1, a2⟩ := List.pairwise_cons.1 ha
      obtain ⟨b1, b2⟩ := List.pairwise_cons.1 hb
      have hy : y ∈ x :: xs := hp.symm.subset (List.mem_cons_self)
      have hx : x ∈ y :: ys := hp.subset (List.mem_cons_self)
      have e : x = y := by
        rcases List.mem_cons.1 hy with h | h
        · exact h.symm
        · rcases List.mem_cons.1 hx with h' | h'
          · exact h'
          · exact hu x List.mem_cons_self y hy (b1 x h') (a1 y h)
      subst e
      rw [ih ys hp.cons_inv a2 b2 (fun p hp' q hq => hu p (List.mem_cons_of_mem _ hp') q (List.mem_cons_of_mem _ hq))]
/-- Where no two differ without one being less: one order alone. -/
theorem srt_isort (hS : SWO lt) (hT : ∀ x y, lt x y = false → lt y x = false → x = y) (l : List α) : srtL lt l = isort lt l :=
  asc_unique lt _ _ ((srtL_perm lt hS l).trans (isort_perm lt l).symm) (srtL_asc lt hS l) (isort_asc lt hS l) fun x _ y _ => hT x y
/-- Rising: each is less than the later ones. -/
def Rising (l : List α) : Prop := l.Pairwise fun a b => lt a b = true
theorem rising_only (hS : SWO lt) (l : List α) (h : Rising lt l) : ∀ x ∈ l, ∀ y ∈ l, lt x y = false → lt y x = false → x = y := by
  induction l with
  | nil => intro x hx; cases hx
  | cons z zs ih =>
    obtain ⟨h1, h2⟩ := List.pairwise_cons.1 h
    intro x hx y hy hxy hyx
    rcases List.mem_cons.1 hx with e | hx' <;> rcases List.mem_cons.1 hy with e' | hy'
    · rw [e, e']
    · rw [e, h1 y hy'] at hxy; cases hxy
    · rw [e', h1 x hx'] at hyx; cases hyx
    · exact ih h2 x hx' y hy' hxy hyx
/-- A row that rises is the one order of its elements. -/
theorem asc_rising (hS : SWO lt) (a b : List α) (hp : a.Perm b) (ha : Rising lt a) (hb : Asc lt b) : a = b := by
  refine asc_unique lt a b hp ?_ hb (rising_only lt hS a ha)
  refine ha.imp fun {x y} h => ?_
  cases hc : lt y x with
  | false => rfl
  | true => have := hS.trans _ _ _ h hc; rw [hS.irrefl] at this; cases this
/-- Either both rise and are the same, or neither rises. -/
theorem srt_isort_rising (hS : SWO lt) (l : List α) (h : Rising lt (srtL lt l) ∨ Rising lt (isort lt l)) : srtL lt l = isort lt l := by
  have hp : (srtL lt l).Perm (isort lt l) := (srtL_perm lt hS l).trans (isort_perm lt l).symm
  rcases h with h | h
  · exact asc_rising lt hS _ _ hp h (isort_asc lt hS l)
  · exact (asc_rising lt hS _ _ hp.symm h (srtL_asc lt hS l)).symm
end Go.Proofs.YtgjpphcbdbfhlaaGreat.SA
