/- Plain facts on the helpers that all laws of this seat use: bounds, copies, comparisons, marks. No condition. -/
import Derived.Test.YtgjpphcbdbfhlaaGreatL0
set_option linter.unusedVariables false
set_option linter.unusedSimpArgs false
namespace Go.Proofs.YtgjpphcbdbfhlaaGreat.L
open Go.RowKit Go.Proofs.YtgjpphcbdbfhlaaGreatW.PrintWords Go.Proofs.YtgjpphcbdbfhlaaGreatW.PrintLast Go.Proofs.YtgjpphcbdbfhlaaGreatW.PrintMore

theorem wn (n : Nat) (h : n < 4611686018427387904) : wrap64 ((n : Int) + 1) = ((n + 1 : Nat) : Int) := by unfold wrap64; omega
theorem w_id {x : Int} (h0 : -9223372036854775808 ≤ x) (h1 : x ≤ 9223372036854775807) : wrap64 x = x := by unfold wrap64; omega
theorem getD_mid {α : Type} (z : α) (pre suf : List α) (x : α) : (pre ++ x :: suf).getD ((pre.length : Int)).toNat z = x := by
  simp [List.getD_eq_getElem?_getD]
theorem Ev.fuel {α : Type} {g : Nat → Option α} {r : α} (h : Ev (fun k => g (k + 1)) r) : Ev g r := Ev.step (fun _ => rfl) h
theorem Ev.const {α : Type} {a : Option α} {r : α} (h : a = some r) : Ev (fun _ => a) r := ⟨0, fun _ _ => h⟩
theorem Ev.back {α : Type} {g : Nat → Option α} {r : α} (h : Ev g r) : Ev (fun k => g (k + 1)) r := by
  obtain ⟨K, h⟩ := h
  exact ⟨K, fun k hk => h (k + 1) (by omega)⟩
theorem nil_or_snoc {α : Type} (l : List α) : l = [] ∨ ∃ p y, l = p ++ [y] := by
  rcases List.eq_nil_or_concat l with h | ⟨p, y, h⟩
  · exact Or.inl h
  · exact Or.inr ⟨p, y, by simpa using h⟩
theorem dec_eq {p q : Prop} [Decidable p] [Decidable q] (h : p ↔ q) : (some (decide p)) = some (decide q) := by
  by_cases hp : p
  · rw [decide_eq_true hp, decide_eq_true (h.1 hp)]
  · rw [decide_eq_false hp, decide_eq_false (fun x => hp (h.2 x))]
theorem dec_f {q : Prop} [Decidable q] (h : ¬ q) : (some false) = some (decide q) := by rw [decide_eq_false h]
theorem dec_t {q : Prop} [Decidable q] (h : q) : (some true) = some (decide q) := by rw [decide_eq_true h]


end Go.Proofs.YtgjpphcbdbfhlaaGreat.L
