/- A row of structs behind the sort: what the slice's block holds. No condition. -/
import Derived.Test.YtgjpphcbdbfhlaaGreatLWSA
set_option linter.unusedVariables false
set_option linter.unusedSimpArgs false
namespace Go.Proofs.YtgjpphcbdbfhlaaGreat.SA
open Go.Shelf Go.RowKit Go.Lib Go.Sort Go.Proofs
variable {α : Type} [Inhabited α] {enc : α → List Value} {k : Nat} {blk : Nat} {w W : World} {d : Array α}

theorem block_after (h : SWD enc k w blk 0 d W) (hblk : blk < w.heap.size) {cur : Array Value} {e : TypeId} {fz : Nat × Nat} (h0 : w.heap[blk]? = some (.cells cur e fz)) :
    W.heap[blk]? = some (.cells (putCells id 0 (flatK enc k d) cur) e fz) := by
  obtain ⟨D, n, os, rfl⟩ := h
  show ((w.heap.modify blk (onCells (putCells id 0 (flatK enc k d)))) ++ os)[blk]? = _
  rw [Array.getElem?_append_left (by simpa using hblk), Array.getElem?_modify, if_pos rfl, h0]
  rfl
theorem size_putCells (d : Array Value) (cur : Array Value) : (putCells id 0 d cur).size = cur.size := by simp [putCells]
theorem take_putCells (d cur : Array Value) (h : d.size ≤ cur.size) : (putCells id 0 d cur).toList.take d.size = d.toList := by
  apply List.ext_getElem?
  intro i
  by_cases hi : i < d.size
  · rw [List.getElem?_take_of_lt hi]
    have : i < cur.size := by omega
    simp [putCells, this, hi, getElem!_pos d i hi]
  · rw [List.getElem?_take, if_neg hi]
    rw [List.getElem?_eq_none (by simpa using hi)]
theorem below_after (h : SWD enc k w blk 0 d W) {B : Nat} (hB : B ≤ blk) (hBs : B ≤ w.heap.size) : Go.RowKit.Below B w W := by
  obtain ⟨D, n, os, rfl⟩ := h
  refine ⟨rfl, rfl, rfl, ?_, fun q hq => ?_⟩
  · show w.heap.size ≤ ((w.heap.modify blk _) ++ os).size
    simp
  · show ((w.heap.modify blk (onCells (putCells id 0 (flatK enc k d)))) ++ os)[q]? = _
    rw [Array.getElem?_append_left (by simp; omega), Array.getElem?_modify, if_neg (by omega)]
/-- The slice behind the sort, as one of the call's own. -/
theorem own_after (h : SWD enc k w blk 0 d W) (hblk : blk < w.heap.size) (hk : ∀ x, (enc x).length = k) {base e n cap : Nat} {news : List Value} (hn : n = d.size)
    (ho : w.ownsRow base e k (.slice (some ⟨blk, 0, none⟩) n cap) n news) : W.ownsRow base e k (.slice (some ⟨blk, 0, none⟩) n cap) n (flatK enc k d).toList := by
  refine ⟨by rw [hn]; simp, Or.inr ?_⟩
  rcases ho.2 with ⟨hv, _⟩ | ⟨g, cap', cur, hv, hb, hg, h1, h2, h3, h4⟩
  · cases hv
  · simp only [Value.slice.injEq, Option.some.injEq, Addr.mk.injEq] at hv
    obtain ⟨⟨rfl, _⟩, _, rfl⟩ := hv
    refine ⟨blk, cap, putCells id 0 (flatK enc k d) cur, rfl, hb, block_after h hblk hg, h1, h2, by rw [size_putCells]; exact h3, ?_⟩
    have hz : n * k = (flatK enc k d).size := by rw [hn]; simp
    rw [hz]
    exact take_putCells _ _ (by rw [← hz, h3]; exact Nat.mul_le_mul_right k h1)
theorem holds_of_own {cur : Array Value} {e : TypeId} (h0 : w.heap[blk]? = some (.cells cur e (0, 0))) (ht : cur.toList.take (flatK enc k d).size = (flatK enc k d).toList) : HoldsK enc k w blk 0 d := by
  intro j hj
  have e1 := congrArg (fun l => l[j]?) ht
  simp only [List.getElem?_take_of_lt hj, Array.getElem?_toList] at e1
  rw [Array.getElem?_eq_getElem hj] at e1
  have e2 : (flatK enc k d)[j]! = (flatK enc k d)[j] := getElem!_pos _ j hj
  refine ⟨?_, ?_⟩
  · unfold World.cell?
    simp only [h0, Nat.zero_add, e1, e2, id]
    rfl
  · unfold World.frozen?
    simp only [h0]
    simp
theorem stableA_size (lt : α → α → Bool) (n : Nat) (d : Array α) (hn : n ≤ d.size) : (stableA lt n d).size = d.size := by
  have b0 := blk1_in (lt := lt) n n 0 d hn (Nat.zero_le _)
  have b1 := outer2_in (lt := lt) n n 20 (blk1 lt n n 0 d) (by omega) (by rw [b0.size]; exact hn)
  exact b1.size.trans b0.size
end Go.Proofs.YtgjpphcbdbfhlaaGreat.SA
