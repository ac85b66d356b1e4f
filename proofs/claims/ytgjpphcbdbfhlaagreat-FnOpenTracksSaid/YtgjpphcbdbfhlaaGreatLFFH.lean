/- slices.Clone at a row of structs. No condition. -/
import Derived.Test.YtgjpphcbdbfhlaaGreatLFDH
import Derived.Test.YtgjpphcbdbfhlaaGreatLFE
set_option linter.unusedVariables false
set_option linter.unusedSimpArgs false
namespace Go.Proofs.YtgjpphcbdbfhlaaGreat.SHole
open Go.Shelf Go.RowKit Go.Lib Go.Sort Go.Proofs Go.Proofs.YtgjpphcbdbfhlaaGreat.SA

abbrev srt (l : List PN) : List PN := srtL ltB l
theorem flat3_flatK (l : List PN) : (flatK enc3 3 l.toArray).toList = flat3 l := by
  apply List.ext_getElem?
  intro t
  by_cases ht : t < l.length * 3
  · have h1 : t / 3 < l.length := by omega
    have hg := get_flatK enc3 3 l.toArray t (by simpa using ht)
    have e := flat3_get l (t / 3) (t % 3) l[t / 3] (List.getElem?_eq_getElem h1) (by omega)
    rw [show t / 3 * 3 + t % 3 = t by omega] at e
    rw [e, Array.getElem?_toList, getElem?_pos _ t (by simpa using ht)]
    rw [getElem!_pos _ t (by simpa using ht)] at hg
    rw [hg]
    have e4 : l.toArray[t / 3]! = l[t / 3] := by rw [getElem!_pos _ _ (by simpa using h1)]; simp
    rw [e4, getElem!_pos _ (t % 3) (by show t % 3 < 3; omega), List.getElem?_eq_getElem (by show t % 3 < 3; omega)]
  · rw [List.getElem?_eq_none (by simp; omega), List.getElem?_eq_none (by rw [flat3_len]; omega)]

set_option maxHeartbeats 2000000 in
set_option maxRecDepth 100000 in
theorem clone_some (c0 : Nat) (l0 : List PN) (w : World) (ad : Addr) (hr0 : Go.Proofs.YtgjpphcbdbfhlaaGreatW.PrintWords.Kd.C Go.Proofs.YtgjpphcbdbfhlaaGreat.L.k40 w (some ad) l0.length l0) (hb : l0.length ≤ 1048576) :
    Calls Tryz.prog 91 #[.slice (some ad) l0.length c0] w fun e w' => ∃ v', e = .returned v' ∧ w'.ownsRow w.heap.size 40 3 v' l0.length (flat3 l0) ∧ v' ≠ .slice none 0 0 ∧ Go.RowKit.Below w.heap.size w w' := by
  have cells := cells_of_C hr0
  have one := flat3_one_cell l0
  have len := flat3_len l0
  have A : Aside (∀ j u, (flat3 l0)[j]? = some u → w.cell? (ad.add j) = some u) := cells
  have O : Aside (∀ u ∈ flat3 l0, u.oneCell' = true) := one
  have Ln : Aside ((flat3 l0).length = l0.length * 3) := len
  generalize flat3 l0 = news at A O Ln ⊢
  generalize l0.length = n at A O Ln hb ⊢
  clear cells one len hr0
  have mixed : Tryz.prog.follows .mixedOrders = true := by kernel_rfl
  have qsl : ∀ (w : World) (a : Option Addr) (n c n' c' : Nat), (binOp .eql 29 (.slice a n c) (.slice none n' c')).run Tryz.prog w = .ok (.bool a.isNone) w := fun w a n c n' c' => Lib.run_eql_slice_nil w _ _ a n c n' c' Tryz.underlying29
  go_enter Tryz.func91, Tryz.ntmps91
  go_wp2_with (at_builtin; refine wpList_append_own _ rfl _ _ 29 rfl w.heap.size 40 svE (.agg #[.int .i64 0, .int .i64 0, .int .i64 0]) 3 24 Tryz.underlying29 (by kernel_rfl) (by kernel_rfl) (by kernel_rfl) (by kernel_rfl) (by kernel_rfl) (by omega) _ _ _ rfl (World.ownsRow_made w #[] 0 (Nat.le_refl _) (Nat.zero_le _) (by simp)) ad n c0 news rfl ?qc1 ?qc2 ?qc3 ?qc4 ?qc5 ?qc6 ?_)
  case qc1 => exact Ln.out
  case qc2 => exact fun j u hj => Lib.cell?_alloc_some _ (A.out j u hj)
  case qc3 => exact O.out
  case qc4 => unfold maxLen; omega
  case qc5 => omega
  case qc6 => simp
  intro v' w1 hown hgrow hnil
  go_wp2
  go_ret
  exact ⟨v', rfl, by simpa using hown, hnil, ((Go.RowKit.Below.refl _ w).alloc (Nat.le_refl _) _).grown hgrow (by simp) (by intro k hk; simp [Value.ownBlock] at hk; omega)⟩
end Go.Proofs.YtgjpphcbdbfhlaaGreat.SHole
