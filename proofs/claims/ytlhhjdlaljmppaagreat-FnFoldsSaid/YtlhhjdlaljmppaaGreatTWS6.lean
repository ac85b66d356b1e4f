/- sort.SliceStable at a row of structs of whatever length, whatever the closure that compares may lay. Over any program. No condition. -/
import Derived.Test.YtlhhjdlaljmppaaGreatTWS5
set_option linter.unusedVariables false
set_option linter.unusedSimpArgs false
namespace Go.Proofs.YtlhhjdlaljmppaaGreat.SA
open Go.Shelf Go.RowKit Go.Lib Go.Sort Go.Proofs
variable {P : Program} {ρ : Ren} {α : Type} [Inhabited α]

theorem stableA_tiny (lt : α → α → Bool) (n : Nat) (d : Array α) (h : n ≤ 1) : stableA lt n d = d := by
  have e : Sort.insertionSort lt d 0 n = d := by
    unfold Sort.insertionSort
    exact insOuter_stop _ _ _ _ _ (by omega)
  have b : blk1 lt n n 0 d = d := by
    rcases n with _ | n
    · exact e
    · rw [blk1, if_neg (by omega)]; exact e
  unfold stableA
  rw [b]
  rcases n with _ | n
  · rfl
  · rw [outer2, if_neg (by omega)]

theorem sliceStable_w (L : LaysGt.n8 P ρ) (t e : TypeId) (i ie : TypeInfo) (hi : P.info? t = some i) (hd : i.desc = .slice e) (hpk : P.packed t = false) (hie : P.info? e = some ie) (ke : Nat) (hke : ∀ w, (Extern.Rtype.kind e).run P w = .ok ke w)
    (enc : α → List Value) (k : Nat) (hk : ∀ x, (enc x).length = k) (hs1 : ie.size = k) (hagg : ∀ w, (isAgg e).run P w = .ok true w) (h1 : ∀ x, ∀ v ∈ enc x, v.oneCell' = true) (lt : α → α → Bool) (g : Nat) (lb : Array Value)
    (eg : ∀ args w, (callFunc g args).run P w = .ok (.enter g args) w) (blk off c : Nat) (d : Array α) (hsz : d.size < 1152921504606846976)
    (f : Nat) (hf : P.funcs.findIdx? (·.name == "internal/reflectlite" ++ ".Swapper$" ++ toString (swapperK d.size ie ke)) = some f)
    (gS : Bool) (hx : 2 ≤ d.size → ∀ args W, (callFunc f args).run P W = ((Extern.ReflectliteSwapper.swap gS args).run P W).andThen fun v w' => .ok (.value v) w')
    (w : World) (hless : LessLaysK P g lb enc k lt blk off d.size w) (hH : HoldsK enc k w blk off d) (hblk : blk < w.heap.size) :
    Calls P (ρ.f 8) #[.iface t (.slice (some ⟨blk, off, none⟩) d.size c), .func (.func g) #[] lb] w fun e w' =>
      e = .returned (.tuple #[]) ∧ SWD enc k w blk off (stableA lt d.size d) w' := by
  by_cases h2 : 2 ≤ d.size
  · refine Any.sort_SliceStable_of_stable L t e i ie hi hd hpk hie ke hke _ d.size c (by omega) f hf (.func g) #[] lb w _ ?_
    have hB : sliceBound P e ie ke (some ⟨blk, off, none⟩) d.size c = #[.slice (some ⟨blk, off, none⟩) d.size c, typeHandle P e] := by
      unfold sliceBound; rw [if_neg (swapperK_gt _ _ _ h2)]
    have hW : SWD enc k w blk off d (stableWorld P ρ t (some ⟨blk, off, none⟩) d.size c w) := by
      unfold stableWorld
      exact ((SWD.start hH).alloc _).alloc _
    generalize stableWorld P ρ t (some ⟨blk, off, none⟩) d.size c w = w1 at hW ⊢
    rw [hB]
    have E0 : SE P enc k lt g lb f #[.slice (some ⟨blk, off, none⟩) d.size c, typeHandle P e] blk off w d :=
      ⟨hk, eg, hless, swapSwapsK_of_literal gS f (hx h2) e ie hie enc k hk hs1 hagg h1 blk off d.size c, hH, hblk, by omega⟩
    refine (stable_w (P := P) (ρ := ρ) { L with } (E0.move hW rfl) d.size (Nat.le_refl _) hsz).mono ?_
    rintro e w' ⟨rfl, hS⟩
    have hz : (stableA lt d.size d).size = d.size := by
      have b0 := blk1_in (lt := lt) d.size d.size 0 d (Nat.le_refl _) (Nat.zero_le _)
      have b1 := outer2_in (lt := lt) d.size d.size 20 (blk1 lt d.size d.size 0 d) (by omega) (by rw [b0.size]; exact Nat.le_refl _)
      exact b1.size.trans b0.size
    exact ⟨rfl, sw_trans hW hblk hz hS⟩
  · refine (Any.sort_SliceStable_tiny L t e i ie hi hd hpk hie ke hke _ d.size c (by omega) f hf (.func g) #[] lb w).mono ?_
    rintro e w' ⟨rfl, os, rfl⟩
    exact ⟨rfl, by rw [stableA_tiny lt d.size d (by omega)]; exact sw_grow (SWD.start hH) os⟩
end Go.Proofs.YtlhhjdlaljmppaaGreat.SA
