/- impl.pinsOf: what it hands back, at every slice. No condition. -/
import Derived.Test.YtgjpphcbdbfhlaaGreatLFGH
set_option linter.unusedVariables false
set_option linter.unusedSimpArgs false
namespace Go.Proofs.YtgjpphcbdbfhlaaGreat.SHole
open Go.Shelf Go.RowKit Go.Lib Go.Sort Go.Proofs Go.Proofs.YtgjpphcbdbfhlaaGreat.SA

set_option maxHeartbeats 4000000 in
set_option maxRecDepth 100000 in
theorem of_none (k : Nat) (c0 : Nat) (l0 : List PN) (r0 : List PN) (r1 : Bool) (w : World) (hr0 : Go.Proofs.YtgjpphcbdbfhlaaGreatW.PrintWords.Kd.C Go.Proofs.YtgjpphcbdbfhlaaGreat.L.k40 w none l0.length l0) (h : ofF k l0 = some (r0, r1)) :
    Calls Tryz.prog 86 #[.slice none l0.length c0] w fun e w' => ∃ v0_, e = .returned (.tuple #[v0_, .bool r1]) ∧ Go.Proofs.YtgjpphcbdbfhlaaGreatW.PrintWords.Kd.R Go.Proofs.YtgjpphcbdbfhlaaGreat.L.k40 40 w' w.heap.size (fun _ => True) v0_ r0 ∧ Go.RowKit.Below w.heap.size w w' := by
  have mixed : Tryz.prog.follows .mixedOrders = true := by kernel_rfl
  have hl : l0 = [] := by
    rcases l0 with _ | ⟨x, xs⟩
    · rfl
    · obtain ⟨ad, e, _⟩ := hr0.2.2 (by simp)
      cases e
  subst hl
  unfold ofF at h
  rw [if_pos (by simp), show srt [] = [] from by unfold srt srtL; rw [show ([] : List PN).length = 0 from rfl, stableA_tiny ltB 0 _ (by omega)]] at h
  obtain ⟨t, hAt, hq⟩ := Option.bind_eq_some_iff.mp h
  clear h hr0
  have hc : Calls Tryz.prog 91 #[.slice none ([] : List PN).length c0] w fun e w' => e = .returned (.slice none 0 0) ∧ w' = w := AnyE.slices_Clone_nil Tryz.slCloneHole _ _ w
  have hp : ∀ (W : World) (lb : Array Value), Calls Tryz.prog 108 #[.iface 29 (.slice none 0 0), .func (.func 109) #[] lb] W fun e w' => e = .returned (.tuple #[]) ∧ ∃ os, w' = grow W os := fun W lb =>
    Any.sort_SliceStable_tiny Tryz.slStable 29 40 svT svE (by kernel_rfl) (by kernel_rfl) (by kernel_rfl) (by kernel_rfl) 25 (fun _ => by kernel_rfl) none 0 0 (by omega) 122 (by kernel_rfl) (.func 109) #[] lb W
  have hA : ∀ W3, Calls Tryz.prog 22 #[.slice none 0 0] W3 fun e w' => e = .returned (.bool t) ∧ Go.RowKit.Below W3.heap.size W3 w' := fun W3 =>
    Go.Proofs.YtgjpphcbdbfhlaaGreat.L.impl_IsSheet.calls k none 0 [] t W3 ⟨rfl, by simp, fun h => absurd h (by simp)⟩ (by simp) hAt
  have hg : Hid (∀ os, (grow (w.alloc (.cells #[.slice none 0 0] 29)) os).cell? ⟨w.heap.size, 0, none⟩ = some (.slice none 0 0) ∧ w.heap.size < (grow (w.alloc (.cells #[.slice none 0 0] 29)) os).heap.size ∧ Go.RowKit.Below w.heap.size w (grow (w.alloc (.cells #[.slice none 0 0] 29)) os)) := by
    intro os
    have hs : w.heap.size < (w.alloc (.cells #[.slice none 0 0] 29)).heap.size := by simp
    refine ⟨by rw [cell?_grow _ _ _ (by exact hs)]; simp, by rw [size_grow]; omega, ?_⟩
    have hb := (Go.RowKit.Below.refl w.heap.size w).alloc (Nat.le_refl _) (.cells #[.slice none 0 0] 29)
    refine hb.trans ⟨rfl, rfl, rfl, by rw [size_grow]; omega, fun q hq => ?_⟩
    show ((w.alloc (.cells #[.slice none 0 0] 29)).heap ++ os)[q]? = _
    rw [Array.getElem?_append_left (by omega)]
  clear hAt
  cases t with
  | true =>
    simp only [↓reduceIte, Option.some.injEq, Prod.mk.injEq] at hq
    obtain ⟨rfl, rfl⟩ := hq
    go_enter Tryz.func86, Tryz.ntmps86
    go_wp2_with (first
      | (go_at_call 91; refine hc.mono ?_; rintro e w1 ⟨rfl, rfl⟩)
      | (go_at_call 108; refine (hp _ _).mono ?_; rintro e W3 ⟨rfl, os, hW3⟩; have g3 := hg.out os; rw [← hW3] at g3; obtain ⟨cb3, hz3, hb3⟩ := g3; have HB3 : Hid _ := hb3; clear hW3 hb3)
      | (go_at_call 22; refine (hA _).mono ?_; rintro e w4 ⟨rfl, hb4⟩; have HB4 : Hid _ := hb4; have cb4 := below_cell hb4 hz3 cb3; clear hb4))
    go_ret2
    exact ⟨_, rfl, Go.Proofs.YtgjpphcbdbfhlaaGreatW.PrintWords.Kd.R_nil _ _ _ _ _, HB3.out.trans (HB4.out.mono HB3.out.size)⟩
  | false =>
    simp only [Bool.false_eq_true, ↓reduceIte, Option.some.injEq, Prod.mk.injEq] at hq
    obtain ⟨rfl, rfl⟩ := hq
    go_enter Tryz.func86, Tryz.ntmps86
    go_wp2_with (first
      | (go_at_call 91; refine hc.mono ?_; rintro e w1 ⟨rfl, rfl⟩)
      | (go_at_call 108; refine (hp _ _).mono ?_; rintro e W3 ⟨rfl, os, hW3⟩; have g3 := hg.out os; rw [← hW3] at g3; obtain ⟨cb3, hz3, hb3⟩ := g3; have HB3 : Hid _ := hb3; clear hW3 hb3)
      | (go_at_call 22; refine (hA _).mono ?_; rintro e w4 ⟨rfl, hb4⟩; have HB4 : Hid _ := hb4; have cb4 := below_cell hb4 hz3 cb3; clear hb4))
    go_ret2
    exact ⟨_, rfl, Go.Proofs.YtgjpphcbdbfhlaaGreatW.PrintWords.Kd.R_nil _ _ _ _ _, HB3.out.trans (HB4.out.mono HB3.out.size)⟩

theorem of_calls (k : Nat) (A0 : Option Addr) (c0 : Nat) (l0 : List PN) (r0 : List PN) (r1 : Bool) (w : World) (hr0 : Go.Proofs.YtgjpphcbdbfhlaaGreatW.PrintWords.Kd.C Go.Proofs.YtgjpphcbdbfhlaaGreat.L.k40 w A0 l0.length l0) (hc0 : l0.length ≤ c0) (h : ofF k l0 = some (r0, r1)) :
    Calls Tryz.prog 86 #[.slice A0 l0.length c0] w fun e w' => ∃ v0_, e = .returned (.tuple #[v0_, .bool r1]) ∧ Go.Proofs.YtgjpphcbdbfhlaaGreatW.PrintWords.Kd.R Go.Proofs.YtgjpphcbdbfhlaaGreat.L.k40 40 w' w.heap.size (fun _ => True) v0_ r0 ∧ Go.RowKit.Below w.heap.size w w' := by
  cases A0 with
  | none => exact of_none k c0 l0 r0 r1 w hr0 h
  | some ad => exact of_some k ad c0 l0 r0 r1 w hr0 h
end Go.Proofs.YtgjpphcbdbfhlaaGreat.SHole
