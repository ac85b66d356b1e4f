/- Rows of whole numbers: slices.Clone, and the program's sortedSet. No condition. -/
import Derived.Test.YtgjpphcbdbfhlaaGreatLIA
set_option linter.unusedVariables false
set_option linter.unusedSimpArgs false
namespace Go.Proofs.YtgjpphcbdbfhlaaGreat.SI
open Go.Shelf Go.RowKit Go.Sort Go.Proofs Go.Proofs.YtgjpphcbdbfhlaaGreat.SA

def cloneF (l0 : List Int) : Option (List Int) := if l0.length ≤ 1048576 then some l0 else none
set_option maxHeartbeats 2000000 in
set_option maxRecDepth 100000 in
theorem clone_some (c0 : Nat) (l0 : List Int) (w : World) (ad : Addr) (hr0 : Go.Proofs.YtgjpphcbdbfhlaaGreatW.PrintWords.Kd.C KI w (some ad) l0.length l0) (hb : l0.length ≤ 1048576) :
    Calls Tryz.prog 114 #[.slice (some ad) l0.length c0] w fun e w' => ∃ v', e = .returned v' ∧ w'.ownsRow w.heap.size 3 1 v' l0.length (ints l0) ∧ v' ≠ .slice none 0 0 ∧ Go.RowKit.Below w.heap.size w w' := by
  have cells := cells_of_C hr0
  have one := ints_one l0
  have len := ints_len l0
  have A : Hid (∀ j u, (ints l0)[j]? = some u → w.cell? (ad.add j) = some u) := Lib.hid cells
  have O : Hid (∀ u ∈ ints l0, u.oneCell' = true) := Lib.hid one
  have Ln : Hid ((ints l0).length = l0.length * 1) := Lib.hid (by rw [len, Nat.mul_one])
  generalize ints l0 = news at A O Ln ⊢
  generalize l0.length = n at A O Ln hb ⊢
  clear cells one len hr0
  have mixed : Tryz.prog.follows .mixedOrders = true := by kernel_rfl
  have qsl : ∀ (w : World) (a : Option Addr) (n c n' c' : Nat), (binOp .eql 23 (.slice a n c) (.slice none n' c')).run Tryz.prog w = .ok (.bool a.isNone) w := fun w a n c n' c' => Lib.run_eql_slice_nil w _ _ a n c n' c' Tryz.underlying23
  go_enter Tryz.func114, Tryz.ntmps114
  go_wp2_with (at_builtin; refine wpList_append_own _ rfl _ _ 23 rfl w.heap.size 3 infI (.int .i64 0) 1 8 Tryz.underlying23 (by kernel_rfl) (by kernel_rfl) (by kernel_rfl) (by kernel_rfl) (by kernel_rfl) (by omega) _ _ _ rfl (World.ownsRow_made w #[] 0 (Nat.le_refl _) (Nat.zero_le _) (by simp)) ad n c0 news rfl ?qc1 ?qc2 ?qc3 ?qc4 ?qc5 ?qc6 ?_)
  case qc1 => exact Ln.out
  case qc2 => exact fun j u hj => Lib.cell?_alloc_some _ (A.out j u hj)
  case qc3 => exact O.out
  case qc4 => unfold maxLen; omega
  case qc5 => omega
  case qc6 => simp
  intro v' w1 hown hgrow hnil
  go_wp2
  go_ret
  exact ⟨v', rfl, by simpa using hown, hnil, ((Go.RowKit.Below.refl _ w).alloc (Nat.le_refl _) _).grown hgrow (by simp) (by intro k hk; simp [Value.ownBlock] at hk; omega)⟩
set_option maxHeartbeats 2000000 in
set_option maxRecDepth 100000 in
theorem clone_none (c0 n : Nat) (w : World) : Calls Tryz.prog 114 #[.slice none n c0] w fun e w' => e = .returned (.slice none 0 0) ∧ w' = w := by
  have mixed : Tryz.prog.follows .mixedOrders = true := by kernel_rfl
  have qsl : ∀ (w : World) (a : Option Addr) (n c n' c' : Nat), (binOp .eql 23 (.slice a n c) (.slice none n' c')).run Tryz.prog w = .ok (.bool a.isNone) w := fun w a n c n' c' => Lib.run_eql_slice_nil w _ _ a n c n' c' Tryz.underlying23
  go_enter Tryz.func114, Tryz.ntmps114
  go_wp2
  go_ret
  exact ⟨rfl, rfl⟩
theorem clone_calls (A0 : Option Addr) (c0 : Nat) (l0 : List Int) (r1 : List Int) (w : World) (hr0 : Go.Proofs.YtgjpphcbdbfhlaaGreatW.PrintWords.Kd.C KI w A0 l0.length l0) (hc0 : l0.length ≤ c0) (h : cloneF l0 = some r1) :
    Calls Tryz.prog 114 #[.slice A0 l0.length c0] w fun e w' => ∃ v0_, e = .returned v0_ ∧ Go.Proofs.YtgjpphcbdbfhlaaGreatW.PrintWords.Kd.R KI 3 w' w.heap.size (fun _ => True) v0_ r1 ∧ Go.RowKit.Below w.heap.size w w' := by
  unfold cloneF at h
  by_cases hb : l0.length ≤ 1048576
  · rw [if_pos hb] at h
    cases h
    cases A0 with
    | none =>
      have hl := C_none hr0
      subst hl
      refine (clone_none c0 _ w).mono ?_
      rintro e w' ⟨rfl, rfl⟩
      exact ⟨_, rfl, Go.Proofs.YtgjpphcbdbfhlaaGreatW.PrintWords.Kd.R_nil _ _ _ _ _, Go.RowKit.Below.refl _ _⟩
    | some ad =>
      refine (clone_some c0 l0 w ad hr0 hb).mono ?_
      rintro e w' ⟨v', rfl, hown, _, hbl⟩
      exact ⟨v', rfl, R_of_own (fun _ _ => trivial) hown, hbl⟩
  · rw [if_neg hb] at h; cases h
def setF (l0 : List Int) : Option (List Int) := if l0.length ≤ 1048576 then some (Lib.compact (sortF l0)) else none
theorem compact_len (l : List Int) : (Lib.compact l).length ≤ l.length := by
  unfold Lib.compact Lib.compactUpTo
  rw [List.length_map]
  exact Nat.le_trans (List.length_filter_le _ _) (by simp)
set_option maxHeartbeats 2000000 in
set_option maxRecDepth 100000 in
theorem set_calls (A0 : Option Addr) (c0 : Nat) (l0 : List Int) (r1 : List Int) (w : World) (hr0 : Go.Proofs.YtgjpphcbdbfhlaaGreatW.PrintWords.Kd.C KI w A0 l0.length l0) (hc0 : l0.length ≤ c0) (h : setF l0 = some r1) :
    Calls Tryz.prog 102 #[.slice A0 l0.length c0] w fun e w' => ∃ v0_, e = .returned v0_ ∧ Go.Proofs.YtgjpphcbdbfhlaaGreatW.PrintWords.Kd.R KI 3 w' w.heap.size (fun _ => True) v0_ r1 ∧ Go.RowKit.Below w.heap.size w w' := by
  have mixed : Tryz.prog.follows .mixedOrders = true := by kernel_rfl
  unfold setF at h
  by_cases hb : l0.length ≤ 1048576
  · rw [if_pos hb] at h
    cases h
    cases A0 with
    | none =>
      have hl := C_none hr0
      subst hl
      have hs : sortF [] = [] := by simp [sortF]
      have hcm : Lib.compact ([] : List Int) = [] := rfl
      rw [hs, hcm]
      have h1 := clone_none c0 ([] : List Int).length w
      have h2 := fun W => Any.sort_Ints_none Tryz.slSortInts none 0 W
      have h3 := fun W => Any.slices_Compact_int_empty Tryz.slCompact none 0 W
      clear hr0 hb hs hcm
      go_enter Tryz.func102, Tryz.ntmps102
      go_wp2_with (first
        | (go_at_call 114; refine h1.mono ?_; rintro e w1 ⟨rfl, rfl⟩)
        | (go_at_call 115; refine (h2 _).mono ?_; rintro e w2 ⟨rfl, rfl⟩)
        | (go_at_call 116; refine (h3 _).mono ?_; rintro e w3 ⟨rfl, rfl⟩))
      go_ret
      exact ⟨_, rfl, Go.Proofs.YtgjpphcbdbfhlaaGreatW.PrintWords.Kd.R_nil _ _ _ _ _, Go.RowKit.Below.refl _ _⟩
    | some ad =>
      have h1 := clone_some c0 l0 w ad hr0 hb
      have hsl := sortF_len l0
      have hcl := compact_len (sortF l0)
      clear hr0
      have HSL : Hid _ := Lib.hid hsl
      have HCL : Hid _ := Lib.hid hcl
      clear hsl hcl
      go_enter Tryz.func102, Tryz.ntmps102
      go_wp2_with (go_at_call 114; refine h1.mono ?_; rintro e w1 ⟨v', rfl, hown, hnil, hb1⟩; rcases hown.2 with ⟨hv, hv2⟩ | ⟨g, cap, cur, rfl, hg0, hg, hn1, hn2, hn3, hn4⟩; (exact absurd hv hnil))
      obtain ⟨hH, q1, q2, q3, _⟩ := holds_of_own hown
      have h2 := Any.sort_Ints Tryz.slSortInts g 0 cap l0 w1 hH q1 (by omega)
      have HO1 : Hid _ := Lib.hid hown
      have HB1 : Hid _ := Lib.hid hb1
      clear hown hnil hb1 hg hn1 hn2 hn3 hn4 hH
      go_wp2_with (go_at_call 115; refine h2.mono ?_; rintro e w2 ⟨rfl, n2, os2, hw2⟩; have HW2 : Hid _ := Lib.hid hw2; clear hw2 h2)
      have ho2 : w2.ownsRow w.heap.size 3 1 (.slice (some ⟨g, 0, none⟩) (sortF l0).length cap) (sortF l0).length (ints (sortF l0)) := by
        rw [HW2.out]; exact own_put HO1.out (sortF_len l0)
      have hb2 : Go.RowKit.Below w.heap.size w w2 := by
        rw [HW2.out]; exact HB1.out.trans (below_put q2 HB1.out.size)
      obtain ⟨hH2, q4, q5, q6, _⟩ := holds_of_own ho2
      have h3 := Any.slices_Compact_int Tryz.slCompact g 0 cap (sortF l0) w2 hH2 (by rw [HSL.out]; omega) q6
      rw [HSL.out] at h3
      have HO2 : Hid _ := Lib.hid ho2
      have HB2 : Hid _ := Lib.hid hb2
      have HQ6 : Hid _ := Lib.hid q6
      clear ho2 hb2 hH2 q6
      go_wp2_with (go_at_call 116; refine h3.mono ?_; rintro e w3 ⟨rfl, n3, hw3⟩; have HW3 : Hid _ := Lib.hid hw3; clear hw3 h3)
      go_ret
      have hd : (Lib.compact (sortF l0) ++ List.replicate (l0.length - (Lib.compact (sortF l0)).length) 0).length = (sortF l0).length := by
        have := HCL.out; have := HSL.out; simp; omega
      have ho3 := own_put (q := n3) (os := #[]) HO2.out hd
      rw [grow_empty] at ho3
      have hw3 := HW3.out
      rw [← hw3] at ho3
      have ho4 := own_shorter ho3 (m := (Lib.compact (sortF l0)).length) (by simp)
      have et : (ints (Lib.compact (sortF l0) ++ List.replicate (l0.length - (Lib.compact (sortF l0)).length) 0)).take (Lib.compact (sortF l0)).length = ints (Lib.compact (sortF l0)) := by
        unfold ints
        rw [List.map_append, List.take_append_of_le_length (by simp)]
        rw [List.take_of_length_le (by simp)]
      rw [et] at ho4
      refine ⟨_, rfl, R_of_own (fun _ _ => trivial) ho4, ?_⟩
      have hb3 := below_put (w := w2) (B := w.heap.size) (g := g) (q := n3) (d := (Lib.compact (sortF l0) ++ List.replicate (l0.length - (Lib.compact (sortF l0)).length) 0).toArray) (os := #[]) q2 HB2.out.size
      rw [grow_empty, ← hw3] at hb3
      exact HB2.out.trans hb3
  · rw [if_neg hb] at h; cases h
end Go.Proofs.YtgjpphcbdbfhlaaGreat.SI
