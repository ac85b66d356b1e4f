/- impl.pinsOf: what it hands back, at every slice. No condition. -/
import Derived.Test.YtgjpphcbdbfhlaaGreatLFGN
set_option linter.unusedVariables false
set_option linter.unusedSimpArgs false
namespace Go.Proofs.YtgjpphcbdbfhlaaGreat.SNote
open Go.Shelf Go.RowKit Go.Lib Go.Sort Go.Proofs Go.Proofs.YtgjpphcbdbfhlaaGreat.SA

set_option maxHeartbeats 4000000 in
set_option maxRecDepth 100000 in
theorem of_none (c0 : Nat) (l0 : List PN) (r0 : List PN) (w : World) (hr0 : Go.Proofs.YtgjpphcbdbfhlaaGreatW.PrintWords.Kd.C Go.Proofs.YtgjpphcbdbfhlaaGreat.L.k36 w none l0.length l0) (h : ofF l0 = some r0) :
    Calls Tryz.prog 99 #[.slice none l0.length c0] w fun e w' => ∃ v0_, e = .returned v0_ ∧ Go.Proofs.YtgjpphcbdbfhlaaGreatW.PrintWords.Kd.R Go.Proofs.YtgjpphcbdbfhlaaGreat.L.k36 36 w' w.heap.size (fun _ => True) v0_ r0 ∧ Go.RowKit.Below w.heap.size w w' := by
  have mixed : Tryz.prog.follows .mixedOrders = true := by kernel_rfl
  have hl : l0 = [] := by
    rcases l0 with _ | ⟨x, xs⟩
    · rfl
    · obtain ⟨ad, e, _⟩ := hr0.2.2 (by simp)
      cases e
  subst hl
  unfold ofF at h
  rw [if_pos (by simp), show srt [] = [] from by unfold srt srtL; rw [show ([] : List PN).length = 0 from rfl, stableA_tiny ltB 0 _ (by omega)]] at h
  simp only [Option.some.injEq] at h
  subst h
  clear hr0
  have hc : Calls Tryz.prog 112 #[.slice none ([] : List PN).length c0] w fun e w' => e = .returned (.slice none 0 0) ∧ w' = w := AnyE.slices_Clone_nil Tryz.slCloneNote _ _ w
  have hp : ∀ (W : World) (lb : Array Value), Calls Tryz.prog 108 #[.iface 26 (.slice none 0 0), .func (.func 113) #[] lb] W fun e w' => e = .returned (.tuple #[]) ∧ ∃ os, w' = grow W os := fun W lb =>
    Any.sort_SliceStable_tiny Tryz.slStable 26 36 svT svE (by kernel_rfl) (by kernel_rfl) (by kernel_rfl) (by kernel_rfl) 25 (fun _ => by kernel_rfl) none 0 0 (by omega) 122 (by kernel_rfl) (.func 113) #[] lb W
  have hg : Hid (∀ os, (grow (w.alloc (.cells #[.slice none 0 0] 26)) os).cell? ⟨w.heap.size, 0, none⟩ = some (.slice none 0 0) ∧ w.heap.size < (grow (w.alloc (.cells #[.slice none 0 0] 26)) os).heap.size ∧ Go.RowKit.Below w.heap.size w (grow (w.alloc (.cells #[.slice none 0 0] 26)) os)) := by
    intro os
    have hs : w.heap.size < (w.alloc (.cells #[.slice none 0 0] 26)).heap.size := by simp
    refine ⟨by rw [cell?_grow _ _ _ (by exact hs)]; simp, by rw [size_grow]; omega, ?_⟩
    have hb := (Go.RowKit.Below.refl w.heap.size w).alloc (Nat.le_refl _) (.cells #[.slice none 0 0] 26)
    refine hb.trans ⟨rfl, rfl, rfl, by rw [size_grow]; omega, fun q hq => ?_⟩
    show ((w.alloc (.cells #[.slice none 0 0] 26)).heap ++ os)[q]? = _
    rw [Array.getElem?_append_left (by omega)]
  go_enter Tryz.func99, Tryz.ntmps99
  go_wp2_with (first
    | (go_at_call 112; refine hc.mono ?_; rintro e w1 ⟨rfl, rfl⟩)
    | (go_at_call 108; refine (hp _ _).mono ?_; rintro e W3 ⟨rfl, os, hW3⟩; have g3 := hg.out os; rw [← hW3] at g3; obtain ⟨cb3, hz3, hb3⟩ := g3; have HB3 : Hid _ := hb3; clear hW3 hb3))
  go_ret
  exact ⟨_, rfl, Go.Proofs.YtgjpphcbdbfhlaaGreatW.PrintWords.Kd.R_nil _ _ _ _ _, HB3.out⟩

theorem of_calls (A0 : Option Addr) (c0 : Nat) (l0 : List PN) (r0 : List PN) (w : World) (hr0 : Go.Proofs.YtgjpphcbdbfhlaaGreatW.PrintWords.Kd.C Go.Proofs.YtgjpphcbdbfhlaaGreat.L.k36 w A0 l0.length l0) (hc0 : l0.length ≤ c0) (h : ofF l0 = some r0) :
    Calls Tryz.prog 99 #[.slice A0 l0.length c0] w fun e w' => ∃ v0_, e = .returned v0_ ∧ Go.Proofs.YtgjpphcbdbfhlaaGreatW.PrintWords.Kd.R Go.Proofs.YtgjpphcbdbfhlaaGreat.L.k36 36 w' w.heap.size (fun _ => True) v0_ r0 ∧ Go.RowKit.Below w.heap.size w w' := by
  cases A0 with
  | none => exact of_none c0 l0 r0 w hr0 h
  | some ad => exact of_some ad c0 l0 r0 w hr0 h
end Go.Proofs.YtgjpphcbdbfhlaaGreat.SNote
