/- A region that draws its order, whose reads and calls leave every older block alone: one walk in the text's order. Over any program. No condition. -/
import Derived.Below
import Derived.WalkKit
import Derived.BigQuiet
import Derived.Deep.QuietTactic
import Derived.Deep.Draws
import Derived.Laws.AppendOwn
import Derived.Laws.OwnMore
import Derived.Deep.AppendLies
set_option linter.unusedVariables false
set_option linter.unusedSimpArgs false
namespace Go.Proofs.YtgjpphcbdbfhlaaGreat.SA
open Go.RowKit Go.Proofs

structure BelowW (w : World) where
  world : World
  ok : Go.RowKit.Below w.heap.size w world

instance (w : World) : Inhabited (BelowW w) := ⟨⟨w, Go.RowKit.Below.refl _ w⟩⟩

theorem wp_region_quiet_below {P : Program} {id : Nat} {Q : Exit → Act → World → Prop} {a : Act} {w : World} {l : List Oper} (hm : P.follows .mixedOrders = true) (hB : Region.lexB .any l.toArray = true)
    (h : wpQuiet P l.toArray (fun w' => ∃ p : BelowW w, w' = p.world) (fun a' => ∀ w', (∃ p : BelowW w, w' = p.world) → Q .normal a' w') l a) : (Code.region id l.toArray true).wp P Q a w :=
  wp_region_quiet (C := fun w' => ∃ p : BelowW w, w' = p.world) hm hB ⟨⟨w.drew, (Go.RowKit.Below.refl _ w).drew⟩, rfl⟩ (by simpa using h)

theorem below_cell {B : Nat} {w w' : World} (h : Go.RowKit.Below B w w') {a : Addr} {v : Value} (ha : a.block < B) (hc : w.cell? a = some v) : w'.cell? a = some v := by
  unfold World.cell? at hc ⊢
  rw [h.block _ ha]; exact hc
theorem BelowW.cell {w : World} (p : BelowW w) {a : Addr} {v : Value} (hc : w.cell? a = some v) : p.world.cell? a = some v := below_cell p.ok (World.block_lt_of_cell? w a hc) hc

/-- The shape of a row of one's own, with what may be read of it. -/
theorem own_shape {w : World} {base : Nat} {e : TypeId} {size : Nat} {v : Value} {n : Nat} {xs : List Value} (h : w.ownsRow base e size v n xs) :
    ∃ A c, v = .slice A n c ∧ n ≤ c ∧ c ≤ maxLen ∧ (A = none → n = 0 ∧ c = 0) ∧ ∀ ad, A = some ad → ∃ g, ad = ⟨g, 0, none⟩ ∧ base ≤ g ∧ g < w.heap.size ∧ ∀ (j : Nat) (u : Value), xs[j]? = some u → w.cell? ⟨g, j, none⟩ = some u := by
  have hx := h.1
  rcases h.2 with ⟨hv, h0⟩ | ⟨g, cap, cur, hv, hb, hg, h1, h2, h3, h4⟩
  · exact ⟨none, 0, by rw [hv, h0], by omega, by unfold maxLen; omega, fun _ => ⟨h0, rfl⟩, (fun ad e => by cases e)⟩
  · refine ⟨some ⟨g, 0, none⟩, cap, hv, h1, h2, (fun e => by cases e), fun ad e => ?_⟩
    cases e
    have hgl : g < w.heap.size := by
      rcases Nat.lt_or_ge g w.heap.size with hlt | hge
      · exact hlt
      · rw [Array.getElem?_eq_none hge] at hg; cases hg
    refine ⟨g, rfl, hb, hgl, fun j u hu => ?_⟩
    rw [← h4, List.getElem?_take] at hu
    split at hu
    · unfold World.cell?
      simp only [hg]
      simpa using hu
    · cases hu
theorem own_below {w w1 : World} {base : Nat} {e : TypeId} {size n : Nat} {v : Value} {xs : List Value} (h : w.ownsRow base e size v n xs) (hb : Go.RowKit.Below w.heap.size w w1) : w1.ownsRow base e size v n xs :=
  h.kept (row := none) ⟨hb.os, hb.tape, hb.output, hb.size, fun i hi _ => hb.block i hi⟩ (by cases v.ownBlock <;> simp)
theorem lit_own {e : TypeId} {size : Nat} {base : Nat} (w : World) (cs : Array Value) (n g : Nat) (hg : g = w.heap.size) (hb : base ≤ w.heap.size) (hm : n ≤ 1) (hs : cs.size = n * size) : (w.alloc (.cells cs e)).ownsRow base e size (.slice (some ⟨g, 0, none⟩) n n) n cs.toList := by
  subst hg
  exact ⟨by simpa using hs, .inr ⟨w.heap.size, n, cs, rfl, hb, heap_alloc_new w _, Nat.le_refl _, by unfold maxLen; omega, hs, List.take_of_length_le (by rw [Array.length_toList, hs]; exact Nat.le_refl _)⟩⟩
theorem blk_new (w : World) (o : Obj) (g : Nat) (h : g = w.heap.size) : (w.alloc o).heap[g]? = some o := by rw [h]; exact heap_alloc_new w o
theorem own_at {w : World} {base : Nat} {e : TypeId} {size : Nat} {ad : Addr} {n c m : Nat} {xs : List Value} (h : w.ownsRow base e size (.slice (some ad) m c) n xs) :
    ∃ g, ad = ⟨g, 0, none⟩ ∧ base ≤ g ∧ g < w.heap.size ∧ ∀ (j : Nat) (u : Value), xs[j]? = some u → w.cell? ⟨g, j, none⟩ = some u := by
  obtain ⟨A, c', e1, _, _, _, h6⟩ := own_shape h
  cases e1
  exact h6 ad rfl
end Go.Proofs.YtgjpphcbdbfhlaaGreat.SA
