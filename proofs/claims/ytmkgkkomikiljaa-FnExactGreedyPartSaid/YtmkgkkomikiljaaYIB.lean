/- Rows of whole numbers: slices.Clone, and the program's sortedSet. No condition. -/
import Derived.Test.YtmkgkkomikiljaaYIA
set_option linter.unusedVariables false
set_option linter.unusedSimpArgs false
namespace Go.Proofs.Ytmkgkkomikiljaa.SI
open Go.Shelf Go.RowKit Go.Sort Go.Proofs Go.Proofs.Ytmkgkkomikiljaa.SA

def cloneF (l0 : List Int) : Option (List Int) := if l0.length ≤ 1048576 then some l0 else none
set_option maxHeartbeats 2000000 in
set_option maxRecDepth 100000 in
theorem clone_some (c0 : Nat) (l0 : List Int) (w : World) (ad : Addr) (hr0 : Go.Proofs.YtmkgkkomikiljaaW.PrintWords.Kd.C KI w (some ad) l0.length l0) (hb : l0.length ≤ 1048576) :
    Calls Try.prog 81 #[.slice (some ad) l0.length c0] w fun e w' => ∃ v', e = .returned v' ∧ w'.ownsRow w.heap.size 3 1 v' l0.length (ints l0) ∧ v' ≠ .slice none 0 0 ∧ Go.RowKit.Below w.heap.size w w' := by
  have cells := cells_of_C hr0
  have one := ints_one l0
  have len := ints_len l0
  have A : Hid (∀ j u, (ints l0)[j]? = some u → w.cell? (ad.add j) = some u) := Lib.hid cells
  have O : Hid (∀ u ∈ ints l0, u.oneCell' = true) := Lib.hid one
  have Ln : Hid ((ints l0).length = l0.length * 1) := Lib.hid (by rw [len, Nat.mul_one])
  generalize ints l0 = news at A O Ln ⊢
  generalize l0.length = n at A O Ln hb ⊢
  clear cells one len hr0
  have mixed : Try.prog.follows .mixedOrders = true := by kernel_rfl
  have qsl : ∀ (w : World) (a : Option Addr) (n c n' c' : Nat), (binOp .eql 30 (.slice a n c) (.slice none n' c')).run Try.prog w = .ok (.bool a.isNone) w := fun w a n c n' c' => Lib.run_eql_slice_nil w _ _ a n c n' c' Try.underlying30
  go_enter Try.func81, Try.ntmps81
  go_wp2_with (at_builtin; refine wpList_append_own _ rfl _ _ 30 rfl w.heap.size 3 infI (.int .i64 0) 1 8 Try.underlying30 (by kernel_rfl) (by kernel_rfl) (by kernel_rfl) (by kernel_rfl) (by kernel_rfl) (by omega) _ _ _ rfl (World.ownsRow_made w #[] 0 (Nat.le_refl _) (Nat.zero_le _) (by simp)) ad n c0 news rfl ?qc1 ?qc2 ?qc3 ?qc4 ?qc5 ?qc6 ?_)
  case qc1 => exact Ln.out
  case qc2 => exact fun j u hj => Lib.cell?_alloc_some _ (A.out j u hj)
  case qc3 => exact O.out
  case qc4 => unfold maxLen; omega
  case qc5 => omega
  case qc6 => simp
  intro v' w1 hown hgrow hnil
  go_wp2
  go_ret
  exact ⟨v', rfl, by simpa using hown, hnil, ((Go.RowKit.Below.refl _ w).alloc (Nat.le_refl _) _).grown hgrow (by simp) (by intro k hk; simp [Value.ownBlock] at hk; omega)⟩
set_option maxHeartbeats 2000000 in
set_option maxRecDepth 100000 in
theorem clone_none (c0 n : Nat) (w : World) : Calls Try.prog 81 #[.slice none n c0] w fun e w' => e = .returned (.slice none 0 0) ∧ w' = w := by
  have mixed : Try.prog.follows .mixedOrders = true := by kernel_rfl
  have qsl : ∀ (w : World) (a : Option Addr) (n c n' c' : Nat), (binOp .eql 30 (.slice a n c) (.slice none n' c')).run Try.prog w = .ok (.bool a.isNone) w := fun w a n c n' c' => Lib.run_eql_slice_nil w _ _ a n c n' c' Try.underlying30
  go_enter Try.func81, Try.ntmps81
  go_wp2
  go_ret
  exact ⟨rfl, rfl⟩
theorem clone_calls (A0 : Option Addr) (c0 : Nat) (l0 : List Int) (r1 : List Int) (w : World) (hr0 : Go.Proofs.YtmkgkkomikiljaaW.PrintWords.Kd.C KI w A0 l0.length l0) (hc0 : l0.length ≤ c0) (h : cloneF l0 = some r1) :
    Calls Try.prog 81 #[.slice A0 l0.length c0] w fun e w' => ∃ v0_, e = .returned v0_ ∧ Go.Proofs.YtmkgkkomikiljaaW.PrintWords.Kd.R KI 3 w' w.heap.size (fun _ => True) v0_ r1 ∧ Go.RowKit.Below w.heap.size w w' := by
  unfold cloneF at h
  by_cases hb : l0.length ≤ 1048576
  · rw [if_pos hb] at h
    cases h
    cases A0 with
    | none =>
      have hl := C_none hr0
      subst hl
      refine (clone_none c0 _ w).mono ?_
      rintro e w' ⟨rfl, rfl⟩
      exact ⟨_, rfl, Go.Proofs.YtmkgkkomikiljaaW.PrintWords.Kd.R_nil _ _ _ _ _, Go.RowKit.Below.refl _ _⟩
    | some ad =>
      refine (clone_some c0 l0 w ad hr0 hb).mono ?_
      rintro e w' ⟨v', rfl, hown, _, hbl⟩
      exact ⟨v', rfl, R_of_own (fun _ _ => trivial) hown, hbl⟩
  · rw [if_neg hb] at h; cases h
end Go.Proofs.Ytmkgkkomikiljaa.SI
