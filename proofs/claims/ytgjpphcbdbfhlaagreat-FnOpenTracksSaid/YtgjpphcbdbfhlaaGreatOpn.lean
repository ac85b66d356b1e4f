/- Arguments opened to plain lists: slices of numbers, slices of structs of three numbers, structs. Plain lemmas; no condition. -/
import Derived.Deep.Slices
import Derived.Deep.Fields
import Derived.ChangeSame
import Derived.Lib.SmallJoins
import Derived.ProofKit
import Derived.OpenShut
import Derived.ChangeOld
set_option linter.unusedVariables false
namespace Go.Proofs.YtgjpphcbdbfhlaaGreat.Opn
open Go.ChangeShapes Go.WideShapes Go.Deep Go.RowKit
section
variable {H : Type} {enc : TypeId × Value → H} {P : Program} {w : World} {base : Nat} {held : Bool}

theorem pick {α : Type} [Inhabited α] {n : Nat} {Q : Nat → α → Prop} (h : ∀ i, i < n → ∃ x, Q i x) : ∃ zs : List α, zs.length = n ∧ ∀ i x, zs[i]? = some x → i < n ∧ Q i x := by
  refine ⟨(List.range n).map fun i => if h' : i < n then (h i h').choose else default, by simp, fun i x hx => ?_⟩
  rw [List.getElem?_map] at hx
  by_cases hi : i < n
  · rw [List.getElem?_range hi] at hx
    simp only [Option.map_some, Option.some.injEq, dif_pos hi] at hx
    subst hx
    exact ⟨hi, (h i hi).choose_spec⟩
  · rw [List.getElem?_eq_none (by simpa using hi)] at hx
    simp at hx

theorem int_cell {n : Nat} {t : TypeId} {k : IntKind} {c : Value} {y : DataW H × List MemPlace} {sp : Nat → Bool} (ht : P.underlying t = some (.int k)) (h : DataW.trod enc P w base sp held n t [c] = some y) :
    ∃ z : Int, c = .int k z ∧ (Lit.int k z).wf = true := by
  obtain ⟨z, hz, _, hw⟩ := DataW.trod_int ht h
  simp only [List.cons.injEq, and_true] at hz
  exact ⟨z, hz, hw⟩

/-- A slice of whole numbers. -/
theorem rows1 {t e : TypeId} {k : IntKind} {a : Option Addr} {len cap fuel : Nat} {x : DataW H × List MemPlace} (ht : P.underlying t = some (.slice e)) (he : P.underlying e = some (.int k)) (hC : P.cellsOf e = 1)
    (h : DataW.trod enc P w base (fun _ => true) held fuel t [.slice a len cap] = some x) :
    ∃ zs : List Int, zs.length = len ∧ len ≤ cap ∧ cap ≤ maxLen ∧ (∀ z ∈ zs, (Lit.int k z).wf = true) ∧ (0 < len → ∃ ad, a = some ad ∧ ∀ j z, zs[j]? = some z → ∀ i u, [Value.int k z][i]? = some u → w.cell? (ad.add (j * 1 + i)) = some u) := by
  rcases open_slice ht h with ⟨hcs, _⟩ | ⟨ad, len', cap', m, n, D, Pl, hcs, hb, hl, hm, hmm, hx, hi⟩
  · simp only [List.cons.injEq, Value.slice.injEq, and_true] at hcs
    obtain ⟨rfl, rfl, rfl⟩ := hcs
    exact ⟨[], rfl, Nat.le_refl _, by unfold maxLen; omega, by simp, fun h => absurd h (by omega)⟩
  · simp only [List.cons.injEq, Value.slice.injEq, and_true] at hcs
    obtain ⟨rfl, rfl, rfl⟩ := hcs
    have key : ∀ i, i < len → ∃ z : Int, (Lit.int k z).wf = true ∧ ∀ q u, [Value.int k z][q]? = some u → w.cell? (ad.add (i * 1 + q)) = some u := by
      intro i hil
      obtain ⟨cs', hc, ht'⟩ := hi i (by rw [hmm]; simp; omega)
      rw [hC] at hc
      obtain ⟨_, hcl, hat⟩ := World.cells?_some hc
      obtain ⟨c0, rfl⟩ : ∃ c0, cs' = [c0] := by
        match cs', hcl with
        | [c0], _ => exact ⟨c0, rfl⟩
      obtain ⟨z, rfl, hz⟩ := int_cell he ht'
      refine ⟨z, hz, fun q u hu => ?_⟩
      match q with
      | 0 =>
        have h0 := hat 0 (by omega)
        simp only [List.getElem?_cons_zero, Option.some.injEq] at hu
        rw [← Go.Deep.add_add, h0, ← hu]
        rfl
      | q + 1 => simp at hu
    obtain ⟨zs, hzl, hz⟩ := pick key
    refine ⟨zs, hzl, hl, hm, fun z hz' => ?_, fun _ => ⟨ad, rfl, fun j z hj => (hz j z hj).2.2⟩⟩
    obtain ⟨j, hj⟩ := List.mem_iff_getElem?.1 hz'
    exact (hz j z hj).2.1

/-- A slice of structs of three numbers. -/
theorem rows3 {t e : TypeId} {f0 f1 f2 : Field} {a : Option Addr} {len cap fuel : Nat} {x : DataW H × List MemPlace} (ht : P.underlying t = some (.slice e)) (he : P.underlying e = some (.struct #[f0, f1, f2]))
    (h0 : P.underlying f0.type = some (.int .i64)) (h1 : P.underlying f1.type = some (.int .i64)) (h2 : P.underlying f2.type = some (.int .i64)) (hone : oneCellFields P #[f0, f1, f2] = true) (hC : P.cellsOf e = 3)
    (h : DataW.trod enc P w base (fun _ => true) held fuel t [.slice a len cap] = some x) :
    ∃ zs : List (Int × Int × Int), zs.length = len ∧ len ≤ cap ∧ cap ≤ maxLen ∧ (∀ z ∈ zs, (Lit.int .i64 z.1).wf = true ∧ (Lit.int .i64 z.2.1).wf = true ∧ (Lit.int .i64 z.2.2).wf = true) ∧
      (0 < len → ∃ ad, a = some ad ∧ ∀ j z, zs[j]? = some z → ∀ i u, [Value.int .i64 z.1, .int .i64 z.2.1, .int .i64 z.2.2][i]? = some u → w.cell? (ad.add (j * 3 + i)) = some u) := by
  rcases open_slice ht h with ⟨hcs, _⟩ | ⟨ad, len', cap', m, n, D, Pl, hcs, hb, hl, hm, hmm, hx, hi⟩
  · simp only [List.cons.injEq, Value.slice.injEq, and_true] at hcs
    obtain ⟨rfl, rfl, rfl⟩ := hcs
    exact ⟨[], rfl, Nat.le_refl _, by unfold maxLen; omega, by simp, fun h => absurd h (by omega)⟩
  · simp only [List.cons.injEq, Value.slice.injEq, and_true] at hcs
    obtain ⟨rfl, rfl, rfl⟩ := hcs
    have key : ∀ i, i < len → ∃ z : Int × Int × Int, ((Lit.int .i64 z.1).wf = true ∧ (Lit.int .i64 z.2.1).wf = true ∧ (Lit.int .i64 z.2.2).wf = true) ∧
        ∀ q u, [Value.int .i64 z.1, .int .i64 z.2.1, .int .i64 z.2.2][q]? = some u → w.cell? (ad.add (i * 3 + q)) = some u := by
      intro i hil
      obtain ⟨cs', hc, ht'⟩ := hi i (by rw [hmm]; simp; omega)
      rw [hC] at hc
      obtain ⟨_, hcl, hat⟩ := World.cells?_some hc
      obtain ⟨c0, c1, c2, rfl⟩ : ∃ c0 c1 c2, cs' = [c0, c1, c2] := by
        match cs', hcl with
        | [c0, c1, c2], _ => exact ⟨c0, c1, c2, rfl⟩
      obtain ⟨ys, n', hn', hy, hlen, hyl, hf⟩ := DataW.trod_struct he ht'
      match ys, hyl with
      | [y0, y1, y2], _ =>
        obtain ⟨o0, k0⟩ := hone_of hone 0 f0 rfl
        obtain ⟨o1, k1⟩ := hone_of hone 1 f1 rfl
        obtain ⟨o2, k2⟩ := hone_of hone 2 f2 rfl
        have g0 := hf 0 f0 rfl
        have g1 := hf 1 f1 rfl
        have g2 := hf 2 f2 rfl
        rw [o0, k0] at g0
        rw [o1, k1] at g1
        rw [o2, k2] at g2
        obtain ⟨z0, rfl, w0⟩ := int_cell h0 (show DataW.trod enc P w base (fun _ => true) held n' f0.type [c0] = some y0 from g0)
        obtain ⟨z1, rfl, w1⟩ := int_cell h1 (show DataW.trod enc P w base (fun _ => true) held n' f1.type [c1] = some y1 from g1)
        obtain ⟨z2, rfl, w2⟩ := int_cell h2 (show DataW.trod enc P w base (fun _ => true) held n' f2.type [c2] = some y2 from g2)
        refine ⟨(z0, z1, z2), ⟨w0, w1, w2⟩, fun q u hu => ?_⟩
        have hq : q < 3 := (List.getElem?_eq_some_iff.1 hu).1
        rw [← Go.Deep.add_add, hat q hq]
        exact hu
    obtain ⟨zs, hzl, hz⟩ := pick key
    refine ⟨zs, hzl, hl, hm, fun z hz' => ?_, fun _ => ⟨ad, rfl, fun j z hj => (hz j z hj).2.2⟩⟩
    obtain ⟨j, hj⟩ := List.mem_iff_getElem?.1 hz'
    exact (hz j z hj).2.1

/-- A struct of three numbers, by value. -/
theorem val3 {r : Reach} {b0 : Nat} {t : TypeId} {f0 f1 f2 : Field} {v : Value} {d : DataW H} {p : List MemPlace} {sp : Nat → Bool} (hs : P.underlying t = some (.struct #[f0, f1, f2])) (hone : oneCellFields P #[f0, f1, f2] = true) (hC : P.cellsOf t = 3)
    (h0 : P.underlying f0.type = some (.int .i64)) (h1 : P.underlying f1.type = some (.int .i64)) (h2 : P.underlying f2.type = some (.int .i64))
    (hv : Value.okWide P w r b0 t v) (h : DataW.Trod enc P w base sp held t v d p) :
    ∃ z0 z1 z2 : Int, v = .agg #[.int .i64 z0, .int .i64 z1, .int .i64 z2] ∧ (Lit.int .i64 z0).wf = true ∧ (Lit.int .i64 z1).wf = true ∧ (Lit.int .i64 z2).wf = true := by
  obtain ⟨v0, v1, v2, y0, y1, y2, n, rfl, _, _, g0, g1, g2⟩ := Go.Joins.open_agg3 hs hone hC hv h
  obtain ⟨z0, rfl, w0⟩ := int_cell h0 g0
  obtain ⟨z1, rfl, w1⟩ := int_cell h1 g1
  obtain ⟨z2, rfl, w2⟩ := int_cell h2 g2
  exact ⟨z0, z1, z2, rfl, w0, w1, w2⟩

/-- A struct of a slice of numbers and a number, by value. -/
theorem val2 {r : Reach} {b0 : Nat} {t e : TypeId} {f0 f1 : Field} {v : Value} {d : DataW H} {p : List MemPlace} (hs : P.underlying t = some (.struct #[f0, f1])) (hone : oneCellFields P #[f0, f1] = true) (hC : P.cellsOf t = 2)
    (h0 : P.underlying f0.type = some (.slice e)) (he : P.underlying e = some (.int .i64)) (hE : P.cellsOf e = 1) (h1 : P.underlying f1.type = some (.int .i64))
    (hv : Value.okWide P w r b0 t v) (h : DataW.Trod enc P w base (fun _ => true) held t v d p) :
    ∃ (a : Option Addr) (len cap : Nat) (z1 : Int) (zs : List Int), v = .agg #[.slice a len cap, .int .i64 z1] ∧ (Lit.int .i64 z1).wf = true ∧ zs.length = len ∧ len ≤ cap ∧ cap ≤ maxLen ∧ (∀ z ∈ zs, (Lit.int .i64 z).wf = true) ∧
      (0 < len → ∃ ad, a = some ad ∧ ∀ j z, zs[j]? = some z → ∀ i u, [Value.int .i64 z][i]? = some u → w.cell? (ad.add (j * 1 + i)) = some u) := by
  obtain ⟨v0, v1, y0, y1, n, rfl, _, _, g0, g1⟩ := Go.Joins.open_agg2 hs hone hC hv h
  obtain ⟨z1, rfl, w1⟩ := int_cell h1 g1
  obtain ⟨a, len, cap, rfl⟩ : ∃ a len cap, v0 = .slice a len cap := by
    rcases open_slice h0 g0 with ⟨hcs, _⟩ | ⟨ad, len', cap', m, n, D, Pl, hcs, _⟩
    · simp only [List.cons.injEq, and_true] at hcs
      exact ⟨_, _, _, hcs⟩
    · simp only [List.cons.injEq, and_true] at hcs
      exact ⟨_, _, _, hcs⟩
  obtain ⟨zs, q1, q2, q3, q4, q5⟩ := rows1 h0 he hE g0
  exact ⟨a, len, cap, z1, zs, rfl, w1, q1, q2, q3, q4, q5⟩
end
end Go.Proofs.YtgjpphcbdbfhlaaGreat.Opn
