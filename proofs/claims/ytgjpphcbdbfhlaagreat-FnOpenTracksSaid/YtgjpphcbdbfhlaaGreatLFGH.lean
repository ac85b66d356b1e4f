/- The program's own sorting: what it hands back, at a slice that is not nil. No condition. -/
import Derived.Test.YtgjpphcbdbfhlaaGreatLFFH
import Derived.Test.YtgjpphcbdbfhlaaGreatL0
import Derived.Test.YtgjpphcbdbfhlaaGreatL8
set_option linter.unusedVariables false
set_option linter.unusedSimpArgs false
namespace Go.Proofs.YtgjpphcbdbfhlaaGreat.SHole
open Go.Shelf Go.RowKit Go.Lib Go.Sort Go.Proofs Go.Proofs.YtgjpphcbdbfhlaaGreat.SA

def ofF (k : Nat) (l0 : List PN) : Option (List PN × Bool) :=
  if l0.length ≤ 60 then (Go.Proofs.YtgjpphcbdbfhlaaGreat.L.impl_IsSheet.f k (srt l0)).bind fun t => if t = true then some (srt l0, true) else some ([], false) else some ([], false)

set_option maxHeartbeats 4000000 in
set_option maxRecDepth 100000 in
theorem of_some (k : Nat) (ad : Addr) (c0 : Nat) (l0 : List PN) (r0 : List PN) (r1 : Bool) (w : World) (hr0 : Go.Proofs.YtgjpphcbdbfhlaaGreatW.PrintWords.Kd.C Go.Proofs.YtgjpphcbdbfhlaaGreat.L.k40 w (some ad) l0.length l0) (h : ofF k l0 = some (r0, r1)) :
    Calls Tryz.prog 86 #[.slice (some ad) l0.length c0] w fun e w' => ∃ v0_, e = .returned (.tuple #[v0_, .bool r1]) ∧ Go.Proofs.YtgjpphcbdbfhlaaGreatW.PrintWords.Kd.R Go.Proofs.YtgjpphcbdbfhlaaGreat.L.k40 40 w' w.heap.size (fun _ => True) v0_ r0 ∧ Go.RowKit.Below w.heap.size w w' := by
  have mixed : Tryz.prog.follows .mixedOrders = true := by kernel_rfl
  unfold ofF at h
  by_cases hb : l0.length ≤ 60
  · rw [if_pos hb] at h
    have hc := clone_some c0 l0 w ad hr0 (by omega)
    have tl1 : decide (60 < l0.length) = false := by simp; omega
    have tl2 : decide ((60 : Int) < (l0.length : Int)) = false := by simp; omega
    have H : Hid _ := h
    clear h
    go_enter Tryz.func86, Tryz.ntmps86
    go_wp2_with (go_at_call 91; refine hc.mono ?_; rintro e w1 ⟨v', rfl, hown, hnil, hb1⟩; rcases hown.2 with ⟨hv, hv2⟩ | ⟨g, cap, cur, rfl, hg0, hg, hn1, hn2, hn3, hn4⟩; (exact absurd hv hnil))
    have n3 : l0.length * 3 = (flatK enc3 3 l0.toArray).size := by simp
    have hgl : g < w1.heap.size := by
      rcases Nat.lt_or_ge g w1.heap.size with hlt | hge
      · exact hlt
      · rw [Array.getElem?_eq_none hge] at hg; cases hg
    have hg2 : (w1.alloc (.cells #[.slice (some ⟨g, 0, none⟩) l0.length cap] 29)).heap[g]? = some (.cells cur 40 (0, 0)) := by
      rw [Go.RowKit.Below.heap_alloc _ _ _ hgl]; exact hg
    have hH2 : HoldsK enc3 3 (w1.alloc (.cells #[.slice (some ⟨g, 0, none⟩) l0.length cap] 29)) g 0 l0.toArray :=
      holds_of_own hg2 (by rw [← n3, flat3_flatK]; exact hn4)
    have hp := famSort g cap w1.heap.size l0.toArray (by simp; omega) _ hH2 (by simp; omega) (by simp) (by simp) (by omega)
    have ho2 : (w1.alloc (.cells #[.slice (some ⟨g, 0, none⟩) l0.length cap] 29)).ownsRow w.heap.size 40 3 (.slice (some ⟨g, 0, none⟩) l0.length cap) l0.length (flat3 l0) :=
      ⟨flat3_len l0, Or.inr ⟨g, cap, cur, rfl, hg0, hg2, hn1, hn2, hn3, hn4⟩⟩
    have hb2 : Go.RowKit.Below w.heap.size w (w1.alloc (.cells #[.slice (some ⟨g, 0, none⟩) l0.length cap] 29)) := hb1.alloc hb1.size _
    have cb : (w1.alloc (.cells #[.slice (some ⟨g, 0, none⟩) l0.length cap] 29)).cell? ⟨w1.heap.size, 0, none⟩ = some (.slice (some ⟨g, 0, none⟩) l0.length cap) := by simp
    have hsz2 : w1.heap.size < (w1.alloc (.cells #[.slice (some ⟨g, 0, none⟩) l0.length cap] 29)).heap.size := by simp
    have hgne : w1.heap.size ≠ g := by omega
    have hgl2 : g < (w1.alloc (.cells #[.slice (some ⟨g, 0, none⟩) l0.length cap] 29)).heap.size := by omega
    have KB : Hid (w.heap.size ≤ (w1.alloc (.cells #[.slice (some ⟨g, 0, none⟩) l0.length cap] 29)).heap.size) := hb2.size
    have fin : Hid (∀ W3, SWD enc3 3 (w1.alloc (.cells #[.slice (some ⟨g, 0, none⟩) l0.length cap] 29)) g 0 (stableA ltB l0.toArray.size l0.toArray) W3 →
        W3.cell? ⟨w1.heap.size, 0, none⟩ = some (.slice (some ⟨g, 0, none⟩) l0.length cap) ∧ Go.RowKit.Below w.heap.size w W3 ∧
        Go.Proofs.YtgjpphcbdbfhlaaGreatW.PrintWords.Kd.R Go.Proofs.YtgjpphcbdbfhlaaGreat.L.k40 40 W3 w.heap.size (fun _ => True) (.slice (some ⟨g, 0, none⟩) l0.length cap) (srt l0)) := by
      intro W3 hS
      have hss := stableA_size ltB l0.toArray.size l0.toArray (Nat.le_refl _)
      refine ⟨sw_cell hS hgne hsz2 cb, hb2.trans (below_after hS (by omega) (by omega)), fun _ _ => trivial, flat3 (srt l0), ?_, ?_⟩
      · have := own_after hS hgl2 (fun _ => rfl) (by rw [hss]; simp) ho2
        have e : flat3 (srt l0) = (flatK enc3 3 (stableA ltB l0.toArray.size l0.toArray)).toList := by
          rw [← flat3_flatK]; simp [srtL]
        have e2 : (srt l0).length = l0.length := by unfold srt srtL; simpa using hss
        rw [e, e2]; exact this
      · refine ⟨flat3_len _, fun j p hj => ?_⟩
        have : ((flat3 (srt l0)).drop (j * 3)).take 3 = enc3 p := by
          apply List.ext_getElem?
          intro i
          by_cases hi : i < 3
          · rw [List.getElem?_take_of_lt hi, List.getElem?_drop, flat3_get _ j i p hj hi]
          · rw [List.getElem?_take, if_neg hi, List.getElem?_eq_none (by show 3 ≤ i; omega)]
        show Go.Proofs.YtgjpphcbdbfhlaaGreat.L.k40.M _ _ _ p (((flat3 (srt l0)).drop (j * 3)).take 3)
        rw [this]
        exact Go.Proofs.YtgjpphcbdbfhlaaGreat.L.k40_mkM _ _ _ p
    clear hn1 hn2 hn3 hn4 hg hg2 hH2 ho2 hb2 cb hown hr0 hc hb1
    obtain ⟨t, hAt, hq⟩ := Option.bind_eq_some_iff.mp H.out
    have e2 : (srt l0).length = l0.length := by
      have hss := stableA_size ltB l0.toArray.size l0.toArray (Nat.le_refl _)
      unfold srt srtL; simpa using hss
    have hA : Hid (∀ W3, Go.Proofs.YtgjpphcbdbfhlaaGreatW.PrintWords.Kd.R Go.Proofs.YtgjpphcbdbfhlaaGreat.L.k40 40 W3 w.heap.size (fun _ => True) (.slice (some ⟨g, 0, none⟩) l0.length cap) (srt l0) →
        Calls Tryz.prog 22 #[.slice (some ⟨g, 0, none⟩) l0.length cap] W3 fun e w' => e = .returned (.bool t) ∧ Go.RowKit.Below W3.heap.size W3 w') := by
      intro W3 hR
      obtain ⟨q1, q2, q3⟩ := Go.Proofs.YtgjpphcbdbfhlaaGreatW.PrintWords.Kd.R_reads' hR
      have := Go.Proofs.YtgjpphcbdbfhlaaGreat.L.impl_IsSheet.calls k (some ⟨g, 0, none⟩) cap (srt l0) t W3 q3 (by rw [e2]; exact q2) hAt
      rw [e2] at this
      exact this
    clear H hAt e2
    cases t with
    | true =>
      simp only [↓reduceIte, Option.some.injEq, Prod.mk.injEq] at hq
      obtain ⟨rfl, rfl⟩ := hq
      go_wp2_with (first
        | (go_at_call 108; refine hp.mono ?_; rintro e W3 ⟨rfl, hS⟩; obtain ⟨cb3, hb3, hR3⟩ := fin.out W3 hS; have hz3 : w1.heap.size < W3.heap.size := Nat.lt_of_lt_of_le hsz2 hS.le; have hA3 := hA.out W3 hR3; have HR3 : Hid _ := hR3; have HB3 : Hid _ := hb3; clear hS hR3 hb3)
        | (go_at_call 22; refine hA3.mono ?_; rintro e w4 ⟨rfl, hb4⟩; have HB4 : Hid _ := hb4; have cb4 := below_cell hb4 hz3 cb3; clear hb4 hA3))
      go_ret2
      exact ⟨_, rfl, Go.Proofs.YtgjpphcbdbfhlaaGreatW.PrintWords.Kd.R_below HR3.out HB4.out, HB3.out.trans (HB4.out.mono HB3.out.size)⟩
    | false =>
      simp only [Bool.false_eq_true, ↓reduceIte, Option.some.injEq, Prod.mk.injEq] at hq
      obtain ⟨rfl, rfl⟩ := hq
      go_wp2_with (first
        | (go_at_call 108; refine hp.mono ?_; rintro e W3 ⟨rfl, hS⟩; obtain ⟨cb3, hb3, hR3⟩ := fin.out W3 hS; have hz3 : w1.heap.size < W3.heap.size := Nat.lt_of_lt_of_le hsz2 hS.le; have hA3 := hA.out W3 hR3; have HR3 : Hid _ := hR3; have HB3 : Hid _ := hb3; clear hS hR3 hb3)
        | (go_at_call 22; refine hA3.mono ?_; rintro e w4 ⟨rfl, hb4⟩; have HB4 : Hid _ := hb4; have cb4 := below_cell hb4 hz3 cb3; clear hb4 hA3))
      go_ret2
      exact ⟨_, rfl, Go.Proofs.YtgjpphcbdbfhlaaGreatW.PrintWords.Kd.R_nil _ _ _ _ _, HB3.out.trans (HB4.out.mono HB3.out.size)⟩
  · rw [if_neg hb] at h
    simp only [Option.some.injEq, Prod.mk.injEq] at h
    obtain ⟨rfl, rfl⟩ := h
    have tl1 : decide (60 < l0.length) = true := by simp; omega
    have tl2 : decide ((60 : Int) < (l0.length : Int)) = true := by simp; omega
    go_enter Tryz.func86, Tryz.ntmps86
    go_wp2
    go_ret2
    exact ⟨_, rfl, Go.Proofs.YtgjpphcbdbfhlaaGreatW.PrintWords.Kd.R_nil _ _ _ _ _, Go.RowKit.Below.refl _ _⟩
end Go.Proofs.YtgjpphcbdbfhlaaGreat.SHole
