/- Plain facts on playable parts of a score. No condition. -/
import Derived.Test.YtipcjpgonncinaaV0
import Derived.Test.YtipcjpgonncinaaV4
import Derived.Test.YtipcjpgonncinaaV5
import Derived.Test.YtipcjpgonncinaaV6
import Derived.Test.YtipcjpgonncinaaVQF
import Derived.Test.YtipcjpgonncinaaVQH
set_option linter.unusedVariables false
set_option linter.unusedSimpArgs false
namespace Go.Proofs.Ytipcjpgonncinaa.V
open Go.RowKit Go.Proofs.YtipcjpgonncinaaW.PrintWords Go.Proofs.YtipcjpgonncinaaW.PrintLast Go.Proofs.YtipcjpgonncinaaW.PrintMore

theorem rd_mem (s : List S51) {k : Int} (h0 : 0 ≤ k) (h1 : k < s.length) : rd_T51 s k ∈ s := by
  unfold rd_T51
  rw [List.getD_eq_getElem?_getD, List.getElem?_eq_getElem (by omega)]
  exact List.getElem_mem _
theorem keptOf_sub (s : List S51) : ∀ (K : List Int) (b : Nat), IncFrom s.length b K → (keptOf s K).Sublist (s.drop b) := by
  intro K
  induction K with
  | nil => intro b _; simp [keptOf]
  | cons k ks ih =>
    intro b h
    cases h with
    | cons h0 h1 h =>
      obtain ⟨n, rfl⟩ : ∃ n : Nat, k = (n : Int) := ⟨k.toNat, by omega⟩
      have e := ih (n + 1) h
      have hd : s.drop n = rd_T51 s (n : Int) :: s.drop (n + 1) := by
        rw [List.drop_eq_getElem_cons (by omega)]
        congr 1
        unfold rd_T51
        rw [List.getD_eq_getElem?_getD, Int.toNat_natCast, List.getElem?_eq_getElem (by omega)]
        rfl
      have h2 : (s.drop n).Sublist (s.drop b) := by
        rw [show n = b + (n - b) by omega, ← List.drop_drop]
        exact List.drop_sublist _ _
      refine List.Sublist.trans ?_ h2
      rw [hd]
      exact List.Sublist.cons_cons _ e
theorem keptOf_notes {s : List S51} {K : List Int} (hn : ∀ x ∈ s, noteB x = true) (h : IncFrom s.length 0 K) : ∀ x ∈ keptOf s K, noteB x = true := fun x hx =>
  hn x (List.mem_of_mem_drop ((keptOf_sub s K 0 h).subset hx))
theorem keptOf_apart {s : List S51} {K : List Int} (ha : Apart s) (h : IncFrom s.length 0 K) : Apart (keptOf s K) := by
  have := keptOf_sub s K 0 h
  rw [List.drop_zero] at this
  exact List.Pairwise.sublist this ha
def playableB (l : List Int) (r : Int) (s : List S51) (v : Int) (K : List Int) : Bool := playsB l r (keptOf s K) && decide (mostOf (keptOf s K) (keptOf s K) 0 ≤ v)
theorem thIs_ev (l : List Int) (r : Int) (s : List S51) (v : Int) (K : List Int) (hl : l.length ≤ 1048576) (hs : s.length ≤ 1000) (hn : ∀ x ∈ s, noteB x = true) (ha : Apart s) (hK : IncFrom s.length 0 K) : Ev (fun k => spec_thIs.f k l r s v K) (playableB l r s v K) := by
  have hk := hK.len (by omega)
  have kl := keptOf_len s K
  unfold spec_thIs.f playableB
  refine Ev.bind (thKept_ev s K hs (by omega) hK.ge) ?_
  refine Ev.bind (inPlays_ev l r _ hl (by omega) (keptOf_notes hn hK)) ?_
  by_cases h : playsB l r (keptOf s K) = true
  · simp only [h, ↓reduceIte, Bool.true_and]
    exact Ev.bind (thVoices_ev _ (by omega) (keptOf_notes hn hK) (keptOf_apart ha hK)) (Ev.now _)
  · simp only [Bool.eq_false_iff.mpr h, Bool.false_eq_true, ↓reduceIte, Bool.false_and]; exact Ev.now _
theorem isPlayable_ev (l : List Int) (r : Int) (s : List S51) (v : Int) (K : List Int) (hl : l.length ≤ 1048576) (hs : s.length ≤ 1000) (hn : ∀ x ∈ s, noteB x = true) (hK : IncFrom s.length 0 K) : Ev (fun k => impl_isPlayable.f k l r s v K) (playableB l r s v K) := by
  have hk := hK.len (by omega)
  have kl := keptOf_len s K
  unfold impl_isPlayable.f playableB
  refine Ev.bind (keptNotes_ev s K hs (by omega) hK.ge) ?_
  refine Ev.bind (canPlay_ev l r _ hl (by omega) (keptOf_notes hn hK)) ?_
  by_cases h : playsB l r (keptOf s K) = true
  · simp only [h, ↓reduceIte, Bool.true_and]
    exact Ev.bind (mostVoices_ev _ (by omega) (keptOf_notes hn hK)) (Ev.now _)
  · simp only [Bool.eq_false_iff.mpr h, Bool.false_eq_true, ↓reduceIte, Bool.false_and]; exact Ev.now _
theorem isVoices_eq (a : Int) : impl_isVoices.f a = some (decide (1 ≤ a ∧ a ≤ 20)) := by
  unfold impl_isVoices.f
  split <;> (first | exact dec_eq (by omega) | exact dec_f (by omega))
theorem thAsked_ev (l : List Int) (r : Int) (s : List S51) (v : Int) (hl : l.length ≤ 1048576) (hs : s.length ≤ 1048576) : Ev (fun k => spec_thAsked.f k l r s v) (goodIns l r && (goodThin s && decide (1 ≤ v ∧ v ≤ 20))) := by
  unfold spec_thAsked.f
  refine Ev.bind (inGood_ev l r hl) ?_
  by_cases h : goodIns l r = true
  · simp only [h, ↓reduceIte, Bool.true_and]
    refine Ev.bind (thGood_ev s hs) ?_
    by_cases h2 : goodThin s = true
    · simp only [h2, ↓reduceIte, Bool.true_and, l1In_eq, Option.bind_some]; exact Ev.now _
    · simp only [Bool.eq_false_iff.mpr h2, Bool.false_eq_true, ↓reduceIte, Bool.false_and]; exact Ev.now _
  · simp only [Bool.eq_false_iff.mpr h, Bool.false_eq_true, ↓reduceIte, Bool.false_and]; exact Ev.now _
end Go.Proofs.Ytipcjpgonncinaa.V
