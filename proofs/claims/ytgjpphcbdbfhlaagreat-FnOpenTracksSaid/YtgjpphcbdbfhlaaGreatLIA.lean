/- Rows of whole numbers: copied, sorted in place, made a set, by the library's contracts. No condition. -/
import Derived.Test.YtgjpphcbdbfhlaaGreatLV
import Derived.Test.YtgjpphcbdbfhlaaGreatLFQ
import Derived.Test.YtgjpphcbdbfhlaaGreatProg
import Derived.Test.YtgjpphcbdbfhlaaGreatLIL
import Derived.Shelf.Sort.Plain
import Derived.Shelf.Slices.In.SortNone2
import Derived.Shelf.Slices.CompactI
import Derived.Lib.Hide
import Derived.OwnWalk
set_option linter.unusedVariables false
set_option linter.unusedSimpArgs false
namespace Go.Proofs.YtgjpphcbdbfhlaaGreat.SI
open Go.RowKit Go.Sort Go.Proofs Go.Proofs.YtgjpphcbdbfhlaaGreat.SA
abbrev KI : Go.Proofs.YtgjpphcbdbfhlaaGreatW.PrintWords.Kd Int := Go.Proofs.YtgjpphcbdbfhlaaGreatW.PrintWords.Kd.int .i64
def ints (l : List Int) : List Value := l.map (Value.int .i64)
theorem ints_len (l : List Int) : (ints l).length = l.length := by simp [ints]
theorem ints_one (l : List Int) : ∀ u ∈ ints l, u.oneCell' = true := by
  intro u hu
  unfold ints at hu
  obtain ⟨x, _, rfl⟩ := List.mem_map.1 hu
  rfl
theorem reps_ints (w : World) (base : Nat) (ok : Nat → Prop) (l : List Int) : Go.Proofs.YtgjpphcbdbfhlaaGreatW.PrintWords.Reps (KI.M w base ok) 1 l (ints l) := by
  refine ⟨by rw [ints_len, Nat.mul_one], fun j p hj => ?_⟩
  have : ((ints l).drop (j * 1)).take 1 = [.int .i64 p] := by
    rw [Nat.mul_one]
    apply List.ext_getElem?
    intro i
    by_cases hi : i < 1
    · obtain rfl : i = 0 := by omega
      rw [List.getElem?_take_of_lt hi, List.getElem?_drop, Nat.add_zero, ints, List.getElem?_map, hj]; rfl
    · rw [List.getElem?_take, if_neg hi, List.getElem?_eq_none (by show 1 ≤ i; omega)]
  rw [this]
  rfl
theorem R_of_own {w : World} {base : Nat} {ok : Nat → Prop} {v : Value} {l : List Int} (hok : ∀ k, v.ownBlock = some k → ok k) (h : w.ownsRow base 3 1 v l.length (ints l)) : Go.Proofs.YtgjpphcbdbfhlaaGreatW.PrintWords.Kd.R KI 3 w base ok v l :=
  ⟨hok, ints l, h, reps_ints _ _ _ l⟩
theorem reps_eq {w : World} {base : Nat} {ok : Nat → Prop} {l : List Int} {inner : List Value} (h : Go.Proofs.YtgjpphcbdbfhlaaGreatW.PrintWords.Reps (KI.M w base ok) 1 l inner) : inner = ints l := by
  obtain ⟨h1, h2⟩ := h
  apply List.ext_getElem?
  intro j
  by_cases hj : j < l.length
  · have := h2 j l[j] (List.getElem?_eq_getElem hj)
    have e : (inner.drop (j * 1)).take 1 = [Value.int .i64 l[j]] := this
    have e2 := congrArg (fun z => z[0]?) e
    simp only [Nat.mul_one, List.getElem?_take, List.getElem?_drop, Nat.add_zero] at e2
    rw [ints, List.getElem?_map, List.getElem?_eq_getElem hj]
    simpa using e2
  · rw [List.getElem?_eq_none (by omega), List.getElem?_eq_none (by rw [ints_len]; omega)]
theorem own_of_R {w : World} {base : Nat} {ok : Nat → Prop} {v : Value} {l : List Int} (h : Go.Proofs.YtgjpphcbdbfhlaaGreatW.PrintWords.Kd.R KI 3 w base ok v l) : w.ownsRow base 3 1 v l.length (ints l) := by
  obtain ⟨_, inner, ho, hr⟩ := h
  rw [reps_eq hr] at ho
  exact ho
theorem cells_of_C {w : World} {ad : Addr} {n : Nat} {l : List Int} (h : Go.Proofs.YtgjpphcbdbfhlaaGreatW.PrintWords.Kd.C KI w (some ad) n l) : ∀ j u, (ints l)[j]? = some u → w.cell? (ad.add j) = some u := by
  intro j u hj
  have hjl : j < l.length := by rw [← ints_len]; exact (List.getElem?_eq_some_iff.mp hj).1
  have hn : l.length = n := h.1
  obtain ⟨ad', e1, hcell⟩ := h.2.2 (by omega)
  cases e1
  obtain ⟨c, hc, hK, hcc⟩ := hcell j _ (List.getElem?_eq_getElem hjl)
  have hK' : c = [Value.int .i64 l[j]] := hK
  have e : u = Value.int .i64 l[j] := by
    rw [ints, List.getElem?_map, List.getElem?_eq_getElem hjl] at hj
    simpa using hj.symm
  have := hcc 0 u (by rw [hK', e]; rfl)
  rw [show KI.sz = 1 from rfl, Nat.mul_one, Nat.add_zero] at this
  exact this
theorem C_none {w : World} {n : Nat} {l : List Int} (h : Go.Proofs.YtgjpphcbdbfhlaaGreatW.PrintWords.Kd.C KI w none n l) : l = [] := by
  rcases l with _ | ⟨x, xs⟩
  · rfl
  · have hn : (x :: xs).length = n := h.1
    obtain ⟨ad, e, _⟩ := h.2.2 (by rw [← hn]; simp)
    cases e

/-- A row of one's own is what the library's words ask. -/
theorem holds_of_own {w : World} {base g n c : Nat} {l : List Int} (h : w.ownsRow base 3 1 (.slice (some ⟨g, 0, none⟩) n c) l.length (ints l)) : Holds (Value.int .i64) w g 0 l.toArray ∧ g < w.heap.size ∧ base ≤ g ∧ l.length ≤ c ∧ n = l.length := by
  rcases h.2 with ⟨hv, _⟩ | ⟨g', cap, cur, hv, hb, hg, h1, h2, h3, h4⟩
  · cases hv
  · injection hv with e1 e2 e3
    injection e1 with e1
    injection e1 with e1
    subst e1 e2 e3
    have hgl : g < w.heap.size := by
      rcases Nat.lt_or_ge g w.heap.size with hlt | hge
      · exact hlt
      · rw [Array.getElem?_eq_none hge] at hg; cases hg
    refine ⟨fun j hj => ?_, hgl, hb, h1, rfl⟩
    have hjl : j < l.length := by simpa using hj
    have e := congrArg (fun z => z[j]?) h4
    simp only [Nat.mul_one, List.getElem?_take_of_lt hjl, Array.getElem?_toList] at e
    rw [ints, List.getElem?_map, List.getElem?_eq_getElem hjl] at e
    refine ⟨?_, ?_⟩
    · unfold World.cell?
      simp only [hg, Nat.zero_add]
      simp only [Option.isSome_none, Bool.false_eq_true, ↓reduceIte]
      rw [e]
      simp [hjl]
    · unfold World.frozen?
      simp [hg]
/-- The row holds other numbers, draws and new blocks aside: still one of one's own. -/
theorem own_put {w : World} {base g c q : Nat} {l d : List Int} {os : Array Obj} (h : w.ownsRow base 3 1 (.slice (some ⟨g, 0, none⟩) l.length c) l.length (ints l)) (hd : d.length = l.length) :
    (grow (putRow (Value.int .i64) (Go.Sort.ahead w q) g 0 d.toArray) os).ownsRow base 3 1 (.slice (some ⟨g, 0, none⟩) d.length c) d.length (ints d) := by
  refine ⟨by rw [ints_len, Nat.mul_one], Or.inr ?_⟩
  rcases h.2 with ⟨hv, _⟩ | ⟨g', cap, cur, hv, hb, hg, h1, h2, h3, h4⟩
  · cases hv
  · injection hv with e1 e2 e3
    injection e1 with e1
    injection e1 with e1
    subst e1 e3
    have hgl : g < w.heap.size := by
      rcases Nat.lt_or_ge g w.heap.size with hlt | hge
      · exact hlt
      · rw [Array.getElem?_eq_none hge] at hg; cases hg
    refine ⟨g, c, putCells (Value.int .i64) 0 d.toArray cur, rfl, hb, ?_, by omega, h2, by simpa [putCells] using h3, ?_⟩
    · show ((w.heap.modify g (onCells (putCells (Value.int .i64) 0 d.toArray))) ++ os)[g]? = _
      rw [Array.getElem?_append_left (by simpa using hgl), Array.getElem?_modify, if_pos rfl, hg]
      rfl
    · apply List.ext_getElem?
      intro i
      by_cases hi : i < d.length
      · have hic : i < cur.size := by omega
        rw [Nat.mul_one, List.getElem?_take_of_lt hi, ints, List.getElem?_map, List.getElem?_eq_getElem hi]
        simp [putCells, hic, hi]
      · rw [Nat.mul_one, List.getElem?_take, if_neg hi, List.getElem?_eq_none (by rw [ints_len]; omega)]
theorem below_put {w : World} {B g q : Nat} {d : Array Int} {os : Array Obj} (hB : B ≤ g) (hBs : B ≤ w.heap.size) : Go.RowKit.Below B w (grow (putRow (Value.int .i64) (Go.Sort.ahead w q) g 0 d) os) := by
  refine ⟨rfl, rfl, rfl, ?_, fun k hk => ?_⟩
  · show w.heap.size ≤ ((w.heap.modify g _) ++ os).size
    simp
  · show ((w.heap.modify g (onCells (putCells (Value.int .i64) 0 d))) ++ os)[k]? = _
    rw [Array.getElem?_append_left (by simp; omega), Array.getElem?_modify, if_neg (by omega)]
theorem own_shorter {w : World} {base g n c m : Nat} {xs : List Value} (h : w.ownsRow base 3 1 (.slice (some ⟨g, 0, none⟩) n c) n xs) (hm : m ≤ n) : w.ownsRow base 3 1 (.slice (some ⟨g, 0, none⟩) m c) m (xs.take m) := by
  obtain ⟨h1, h2⟩ := h
  refine ⟨by rw [List.length_take, h1]; omega, .inr ?_⟩
  rcases h2 with ⟨hv, _⟩ | ⟨g', cap, cur, hv, hb, hg, h3, h4, h5, h6⟩
  · cases hv
  · injection hv with e1 e2 e3
    injection e1 with e1
    injection e1 with e1
    subst e1 e3
    exact ⟨g, c, cur, rfl, hb, hg, by omega, h4, h5, by rw [← h6, List.take_take, Nat.mul_one, Nat.mul_one, Nat.min_eq_left hm]⟩

def sortF (l : List Int) : List Int := l.mergeSort fun x y => decide (x ≤ y)
theorem sortF_len (l : List Int) : (sortF l).length = l.length := List.length_mergeSort _
theorem sortF_perm (l : List Int) : (sortF l).Perm l := List.mergeSort_perm _ _
theorem sortF_asc (l : List Int) : (sortF l).Pairwise (· ≤ ·) := by
  have h := List.pairwise_mergeSort (le := fun x y : Int => decide (x ≤ y)) (fun a b c hab hbc => by simp only [decide_eq_true_eq] at *; omega) (fun a b => by simp only [Bool.or_eq_true, decide_eq_true_eq]; omega) l
  exact h.imp fun h => by simpa using h
noncomputable def infI : TypeInfo := (Tryz.prog.info? 3).get (by kernel_rfl)
def sortIntsF (l0 : List Int) : Option (List Int) := if l0.length ≤ 1048576 then some (sortF l0) else none
theorem sortInts_calls (P0_ : Nat → Prop) (u9000_ : Value) (l0 : List Int) (r : List Int) (w0 w : World) (hB : Go.RowKit.Below w0.heap.size w0 w) (ho0 : Go.Proofs.YtgjpphcbdbfhlaaGreatW.PrintWords.Kd.R KI 3 w w0.heap.size P0_ u9000_ l0) (h : sortIntsF l0 = some r) :
    Calls Tryz.prog 115 #[u9000_] w fun e w' => e = .returned (.tuple #[]) ∧ Go.Proofs.YtgjpphcbdbfhlaaGreatW.PrintWords.Kd.R KI 3 w' w0.heap.size (fun k_ => (P0_ k_ ∨ w.heap.size ≤ k_)) u9000_ r ∧ Go.RowKit.Below w0.heap.size w0 w' ∧ Go.Proofs.YtgjpphcbdbfhlaaGreatW.PrintWords.Kept w w' (fun k_ => P0_ k_) := by
  unfold sortIntsF at h
  by_cases hb : l0.length ≤ 1048576
  · rw [if_pos hb] at h
    cases h
    have hown := own_of_R ho0
    obtain ⟨A, c, rfl, hc, hm, hn, ha⟩ := own_shape hown
    cases A with
    | none =>
      obtain ⟨h1, rfl⟩ := hn rfl
      have hl : l0 = [] := List.eq_nil_of_length_eq_zero h1
      subst hl
      refine (Any.sort_Ints_none Tryz.slSortInts none 0 w).mono ?_
      rintro e w' ⟨rfl, rfl⟩
      have hs : sortF [] = [] := by simp [sortF]
      rw [hs]
      exact ⟨rfl, Go.Proofs.YtgjpphcbdbfhlaaGreatW.PrintWords.Kd.R_nil _ _ _ _ _, hB, Go.Proofs.YtgjpphcbdbfhlaaGreatW.PrintWords.Kept.refl _ _⟩
    | some ad =>
      obtain ⟨g, rfl, hg1, hg2, hg3⟩ := ha ad rfl
      obtain ⟨hH, q1, q2, q3, _⟩ := holds_of_own hown
      refine (Any.sort_Ints Tryz.slSortInts g 0 c l0 w hH q1 (by omega)).mono ?_
      rintro e w' ⟨rfl, n, os, rfl⟩
      have ho := own_put (q := n) (os := os) hown (sortF_len l0)
      rw [show (Value.slice (some ⟨g, 0, none⟩) (sortF l0).length c) = .slice (some ⟨g, 0, none⟩) l0.length c by rw [sortF_len]] at ho
      refine ⟨rfl, R_of_own (fun k hk => Or.inl (ho0.1 k hk)) ho, hB.trans (below_put q2 hB.size), ?_, fun i hi hni => ?_⟩
      · show w.heap.size ≤ ((w.heap.modify g _) ++ os).size
        simp
      · have hne : g ≠ i := fun e => hni (ho0.1 i (by rw [← e]; rfl))
        show ((w.heap.modify g (onCells (putCells (Value.int .i64) 0 (sortF l0).toArray))) ++ os)[i]? = _
        rw [Array.getElem?_append_left (by simpa using hi), Array.getElem?_modify, if_neg hne]
  · rw [if_neg hb] at h; cases h
end Go.Proofs.YtgjpphcbdbfhlaaGreat.SI
