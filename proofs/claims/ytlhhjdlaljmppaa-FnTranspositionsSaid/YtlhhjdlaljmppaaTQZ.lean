/- Plain facts on rows of whole numbers: a number put into a rising row, rows sorted, and each number once. No condition. -/
import Derived.Test.YtlhhjdlaljmppaaT0
import Derived.Test.YtlhhjdlaljmppaaT1
import Derived.Test.YtlhhjdlaljmppaaT3
import Derived.Test.YtlhhjdlaljmppaaTQB
import Derived.Test.YtlhhjdlaljmppaaTIA
import Derived.Test.YtlhhjdlaljmppaaTIB
set_option linter.unusedVariables false
set_option linter.unusedSimpArgs false
namespace Go.Proofs.Ytlhhjdlaljmppaa.T
open Go.RowKit Go.Proofs.YtlhhjdlaljmppaaW.PrintWords Go.Proofs.YtlhhjdlaljmppaaW.PrintLast Go.Proofs.YtlhhjdlaljmppaaW.PrintMore

def putZ (n : Int) : List Int → List Int
  | [] => [n]
  | x :: xs => if x < n then x :: putZ n xs else if x = n then x :: xs else n :: x :: xs
theorem putZ_len (n : Int) (l : List Int) : (putZ n l).length ≤ l.length + 1 := by
  induction l with
  | nil => simp [putZ]
  | cons x xs ih => unfold putZ; (repeat' split) <;> simp <;> omega
theorem mem_putZ (n : Int) (l : List Int) : ∀ y, y ∈ putZ n l ↔ y = n ∨ y ∈ l := by
  induction l with
  | nil => intro y; simp [putZ]
  | cons x xs ih =>
    intro y
    unfold putZ
    split
    · rw [List.mem_cons, ih, List.mem_cons]
      constructor
      · rintro (h | h | h)
        · exact .inr (.inl h)
        · exact .inl h
        · exact .inr (.inr h)
      · rintro (h | h | h)
        · exact .inr (.inl h)
        · exact .inl h
        · exact .inr (.inr h)
    · split
      · rename_i h1 h2
        rw [List.mem_cons]
        constructor
        · exact .inr
        · rintro (h | h)
          · exact .inl (h.trans h2.symm)
          · exact h
      · rw [List.mem_cons]
theorem putZ_lt (n : Int) (l : List Int) (h : l.Pairwise (· < ·)) : (putZ n l).Pairwise (· < ·) := by
  induction l with
  | nil => simp [putZ]
  | cons x xs ih =>
    obtain ⟨h1, h2⟩ := List.pairwise_cons.1 h
    unfold putZ
    split
    · rename_i hx
      refine List.pairwise_cons.2 ⟨fun y hy => ?_, ih h2⟩
      rcases (mem_putZ n xs y).1 hy with rfl | hy
      · exact hx
      · exact h1 y hy
    · split
      · exact h
      · refine List.pairwise_cons.2 ⟨fun y hy => ?_, h⟩
        rcases List.mem_cons.1 hy with rfl | hy
        · omega
        · have := h1 y hy; omega
theorem zPut_l0 (l : List Int) (n : Int) (hl : l.length ≤ 1048576) : ∀ (suf pre : List Int), pre ++ suf = l → Ev (fun k => spec_l1Put.l0 k l n pre.length) (pre ++ putZ n suf) := by
  intro suf
  induction suf with
  | nil =>
    intro pre h
    have hn : ¬ ((pre.length : Int) < (l.length : Int)) := by rw [← h]; simp
    have e : pre = l := by rw [← h]; simp
    have h2 : (0 : Int) ≤ (pre.length : Int) := by omega
    have h3 : (pre.length : Int) ≤ (l.length : Int) := by rw [e]; exact Int.le_refl _
    have ht : l.take ((pre.length : Int)).toNat = l := by rw [e]; simp
    have hd : l.drop ((pre.length : Int)).toNat = [] := by rw [e]; simp
    refine Ev.fuel ?_
    simp only [spec_l1Put.l0, hn, ↓reduceIte, Option.bind_some, h2, h3, ht, hd, List.length_nil, List.nil_append, Nat.zero_add, show l.length < 17592186044416 from by omega, show (l ++ [n]).length + 0 < 17592186044416 from by simp; omega, List.append_nil]
    rw [e]
    exact Ev.now _
  | cons x suf ih =>
    intro pre h
    have hlen : l.length = pre.length + (suf.length + 1) := by rw [← h]; simp
    have h1 : (pre.length : Int) < (l.length : Int) := by omega
    have h2 : (0 : Int) ≤ (pre.length : Int) := by omega
    have h3 : rd l (pre.length : Int) = x := by rw [← h]; exact getD_mid _ _ _ _
    have h4 : (pre.length : Int) ≤ (l.length : Int) := by omega
    have ht : l.take ((pre.length : Int)).toNat = pre := by rw [← h]; simp
    have hd : l.drop ((pre.length : Int)).toNat = x :: suf := by rw [← h]; simp
    have e : Ev (fun k => spec_l1Put.l0 k l n ((pre.length + 1 : Nat) : Int)) (pre ++ (x :: putZ n suf)) := by simpa using ih (pre ++ [x]) (by rw [← h]; simp)
    refine Ev.fuel ?_
    simp only [spec_l1Put.l0, h1, h2, h3, h4, ht, hd, ↓reduceIte, wn pre.length (by omega), Option.bind_some, List.length_nil, List.nil_append, Nat.zero_add, show pre.length < 17592186044416 from by omega, show (pre ++ [n]).length + (x :: suf).length < 17592186044416 from by simp; omega]
    unfold putZ
    by_cases hx : x < n
    · simp only [hx, ↓reduceIte]; exact e
    · by_cases hx' : x = n
      · simp only [hx, hx', ↓reduceIte]
        rw [show l = pre ++ n :: suf by rw [← h, hx']]
        simp only [Int.lt_irrefl, ↓reduceIte]
        exact Ev.now _
      · simp only [hx, hx', ↓reduceIte]
        rw [show pre ++ n :: x :: suf = (pre ++ [n]) ++ (x :: suf) by simp]
        exact Ev.now _
theorem zPut_ev (l : List Int) (n : Int) (hl : l.length ≤ 1048576) : Ev (fun k => spec_l1Put.f k l n) (putZ n l) := by
  unfold spec_l1Put.f
  exact zPut_l0 l n hl l [] rfl
def putAll : List Int → List Int → List Int
  | acc, [] => acc
  | acc, x :: xs => putAll (putZ x acc) xs
theorem mem_putAll : ∀ (l acc : List Int) (y : Int), y ∈ putAll acc l ↔ y ∈ acc ∨ y ∈ l := by
  intro l
  induction l with
  | nil => intro acc y; simp [putAll]
  | cons x xs ih =>
    intro acc y
    unfold putAll
    rw [ih, mem_putZ, List.mem_cons]
    constructor
    · rintro ((h | h) | h)
      · exact .inr (.inl h)
      · exact .inl h
      · exact .inr (.inr h)
    · rintro (h | h | h)
      · exact .inl (.inr h)
      · exact .inl (.inl h)
      · exact .inr h
theorem putAll_lt : ∀ (l acc : List Int), acc.Pairwise (· < ·) → (putAll acc l).Pairwise (· < ·) := by
  intro l
  induction l with
  | nil => intro acc h; exact h
  | cons x xs ih => intro acc h; exact ih _ (putZ_lt x acc h)
theorem putAll_len : ∀ (l acc : List Int), (putAll acc l).length ≤ acc.length + l.length := by
  intro l
  induction l with
  | nil => intro acc; simp [putAll]
  | cons x xs ih =>
    intro acc
    have h1 := ih (putZ x acc)
    have h2 := putZ_len x acc
    unfold putAll
    simp only [List.length_cons]
    omega
theorem lt_unique : ∀ (a b : List Int), a.Pairwise (· < ·) → b.Pairwise (· < ·) → (∀ x, x ∈ a ↔ x ∈ b) → a = b := by
  intro a
  induction a with
  | nil =>
    intro b _ _ h
    cases b with
    | nil => rfl
    | cons y ys => exact absurd ((h y).2 List.mem_cons_self) (by simp)
  | cons x xs ih =>
    intro b ha hb h
    cases b with
    | nil => exact absurd ((h x).1 List.mem_cons_self) (by simp)
    | cons y ys =>
      obtain ⟨a1, a2⟩ := List.pairwise_cons.1 ha
      obtain ⟨b1, b2⟩ := List.pairwise_cons.1 hb
      have e : x = y := by
        rcases List.mem_cons.1 ((h x).1 List.mem_cons_self) with e | hx
        · exact e
        · rcases List.mem_cons.1 ((h y).2 List.mem_cons_self) with e | hy
          · exact e.symm
          · have := b1 x hx; have := a1 y hy; omega
      subst e
      rw [ih ys a2 b2 fun z => ?_]
      constructor
      · intro hz
        rcases List.mem_cons.1 ((h z).1 (List.mem_cons_of_mem _ hz)) with e | h'
        · have := a1 z hz; omega
        · exact h'
      · intro hz
        rcases List.mem_cons.1 ((h z).2 (List.mem_cons_of_mem _ hz)) with e | h'
        · have := b1 z hz; omega
        · exact h'
/-- A row in which no number stands twice: sorted, it is what the reference puts together. -/
theorem sortF_put (l : List Int) (hn : l.Pairwise (· ≠ ·)) : SI.sortF l = putAll [] l := by
  refine lt_unique _ _ ?_ (putAll_lt l [] List.Pairwise.nil) fun x => ?_
  · have h1 := SI.sortF_asc l
    have h2 : (SI.sortF l).Pairwise (· ≠ ·) := (SI.sortF_perm l).symm.pairwise hn (fun h => Ne.symm h)
    exact (h1.and h2).imp fun h => by omega
  · rw [mem_putAll, (SI.sortF_perm l).mem_iff]
    simp
theorem compact_lt (l : List Int) (h : l.Pairwise (· ≤ ·)) : (Lib.compact l).Pairwise (· < ·) := by
  unfold Lib.compact Lib.compactUpTo
  rw [List.pairwise_map]
  have hr : (List.range l.length).Pairwise (· < ·) := List.pairwise_lt_range
  have hf := hr.filter (Lib.keeps l.toArray)
  refine List.Pairwise.imp_of_mem (R := (· < ·)) ?_ hf
  intro i j hi hj hij
  have hjl : j < l.length := by simpa using (List.mem_filter.1 hj).1
  have hk := (List.mem_filter.1 hj).2
  unfold Lib.keeps at hk
  rw [decide_eq_true_eq] at hk
  have hall := List.pairwise_iff_getElem.1 h
  have e1 : l.toArray[j]! = l[j] := by rw [getElem!_pos _ _ (by simpa using hjl)]; simp
  have e2 : l.toArray[j - 1]! = l[j - 1] := by rw [getElem!_pos _ _ (by simp; omega)]; simp
  have e3 : l.toArray[i]! = l[i] := by rw [getElem!_pos _ _ (by simp; omega)]; simp
  rw [e1, e2] at hk
  rw [e1, e3]
  have h1 : l[j - 1] ≤ l[j] := hall (j - 1) j (by omega) hjl (by omega)
  have h2 : l[i] ≤ l[j - 1] := by
    by_cases e : i = j - 1
    · subst e; exact Int.le_refl _
    · exact hall i (j - 1) (by omega) (by omega) (by omega)
  rcases hk with hk | hk
  · omega
  · omega
theorem mem_compact (l : List Int) (x : Int) : x ∈ Lib.compact l ↔ x ∈ l := by
  unfold Lib.compact Lib.compactUpTo
  rw [List.mem_map]
  constructor
  · rintro ⟨i, hi, rfl⟩
    have hil : i < l.length := by simpa using (List.mem_filter.1 hi).1
    rw [getElem!_pos _ _ (by simpa using hil)]
    simp
  · intro hx
    obtain ⟨i, hi, he⟩ := List.getElem_of_mem hx
    have key : ∀ (n i : Nat), i ≤ n → ∀ (hi : i < l.length), l[i] = x → ∃ j, j ∈ (List.range l.length).filter (Lib.keeps l.toArray) ∧ l.toArray[j]! = x := by
      intro n
      induction n with
      | zero =>
        intro i hin hi he
        obtain rfl : i = 0 := by omega
        refine ⟨0, List.mem_filter.2 ⟨by simpa using hi, by simp [Lib.keeps]⟩, ?_⟩
        rw [getElem!_pos _ _ (by simpa using hi)]; simpa using he
      | succ n ih =>
        intro i hin hi he
        by_cases h0 : i = 0
        · exact ih i (by omega) hi he
        · by_cases hp : l[i - 1]'(by omega) = x
          · exact ih (i - 1) (by omega) (by omega) hp
          · refine ⟨i, List.mem_filter.2 ⟨by simpa using hi, ?_⟩, ?_⟩
            · unfold Lib.keeps
              rw [decide_eq_true_eq]
              right
              rw [getElem!_pos _ _ (by simpa using hi), getElem!_pos _ _ (by simp; omega)]
              simp only [List.getElem_toArray]
              rw [he]
              exact fun e => hp e.symm
            · rw [getElem!_pos _ _ (by simpa using hi)]; simpa using he
    exact key i i (Nat.le_refl _) hi he
/-- The program's set of numbers is what the reference puts together. -/
theorem set_put (l : List Int) : Lib.compact (SI.sortF l) = putAll [] l := by
  refine lt_unique _ _ (compact_lt _ (SI.sortF_asc l)) (putAll_lt l [] List.Pairwise.nil) fun x => ?_
  rw [mem_compact, mem_putAll, (SI.sortF_perm l).mem_iff]
  simp
theorem sortedSet_eq (l : List Int) (hl : l.length ≤ 1048576) : impl_sortedSet.f l = some (putAll [] l) := by
  unfold impl_sortedSet.f SI.setF
  rw [if_pos hl, set_put]
end Go.Proofs.Ytlhhjdlaljmppaa.T
