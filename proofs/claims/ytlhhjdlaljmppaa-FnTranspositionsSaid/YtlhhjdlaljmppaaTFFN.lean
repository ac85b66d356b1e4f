/- slices.Clone at a row of structs. No condition. -/
import Derived.Test.YtlhhjdlaljmppaaTFBN
import Derived.Test.YtlhhjdlaljmppaaTFQ
import Derived.Test.YtlhhjdlaljmppaaTFL
set_option linter.unusedVariables false
set_option linter.unusedSimpArgs false
namespace Go.Proofs.Ytlhhjdlaljmppaa.SNote
open Go.Shelf Go.RowKit Go.Lib Go.Sort Go.Proofs Go.Proofs.Ytlhhjdlaljmppaa.SA

noncomputable def svE : TypeInfo := (Try.prog.info? 60).get (by kernel_rfl)

set_option maxHeartbeats 2000000 in
set_option maxRecDepth 100000 in
theorem clone_some (c0 : Nat) (l0 : List PN) (w : World) (ad : Addr) (hr0 : Go.Proofs.YtlhhjdlaljmppaaW.PrintWords.Kd.C Go.Proofs.Ytlhhjdlaljmppaa.T.k60 w (some ad) l0.length l0) (hb : l0.length ≤ 1048576) :
    Calls Try.prog 34 #[.slice (some ad) l0.length c0] w fun e w' => ∃ v', e = .returned v' ∧ w'.ownsRow w.heap.size 60 3 v' l0.length (flat3 l0) ∧ v' ≠ .slice none 0 0 ∧ Go.RowKit.Below w.heap.size w w' := by
  have cells := cells_of_C hr0
  have one := flat3_one_cell l0
  have len := flat3_len l0
  have A : Aside (∀ j u, (flat3 l0)[j]? = some u → w.cell? (ad.add j) = some u) := cells
  have O : Aside (∀ u ∈ flat3 l0, u.oneCell' = true) := one
  have Ln : Aside ((flat3 l0).length = l0.length * 3) := len
  generalize flat3 l0 = news at A O Ln ⊢
  generalize l0.length = n at A O Ln hb ⊢
  clear cells one len hr0
  have mixed : Try.prog.follows .mixedOrders = true := by kernel_rfl
  have qsl : ∀ (w : World) (a : Option Addr) (n c n' c' : Nat), (binOp .eql 27 (.slice a n c) (.slice none n' c')).run Try.prog w = .ok (.bool a.isNone) w := fun w a n c n' c' => Lib.run_eql_slice_nil w _ _ a n c n' c' Try.underlying27
  go_enter Try.func34, Try.ntmps34
  go_wp2_with (at_builtin; refine wpList_append_own _ rfl _ _ 27 rfl w.heap.size 60 svE (.agg #[.int .i64 0, .int .i64 0, .int .i64 0]) 3 24 Try.underlying27 (by kernel_rfl) (by kernel_rfl) (by kernel_rfl) (by kernel_rfl) (by kernel_rfl) (by omega) _ _ _ rfl (World.ownsRow_made w #[] 0 (Nat.le_refl _) (Nat.zero_le _) (by simp)) ad n c0 news rfl ?qc1 ?qc2 ?qc3 ?qc4 ?qc5 ?qc6 ?_)
  case qc1 => exact Ln.out
  case qc2 => exact fun j u hj => Lib.cell?_alloc_some _ (A.out j u hj)
  case qc3 => exact O.out
  case qc4 => unfold maxLen; omega
  case qc5 => omega
  case qc6 => simp
  intro v' w1 hown hgrow hnil
  go_wp2
  go_ret
  exact ⟨v', rfl, by simpa using hown, hnil, ((Go.RowKit.Below.refl _ w).alloc (Nat.le_refl _) _).grown hgrow (by simp) (by intro k hk; simp [Value.ownBlock] at hk; omega)⟩
end Go.Proofs.Ytlhhjdlaljmppaa.SNote
