/- The closure that compares two elements of a row, in this program. No condition. -/
import Derived.Test.YtgjpphcbdbfhlaaGreatLWSA
import Derived.Test.YtgjpphcbdbfhlaaGreatLFBN
import Derived.Test.YtgjpphcbdbfhlaaGreatLFQ
import Derived.Test.YtgjpphcbdbfhlaaGreatL0
import Derived.Test.YtgjpphcbdbfhlaaGreatL5
import Derived.Shelf.SlSortCmp.QuietGrown
import Derived.Shelf.SlicesQ.Reverse
set_option linter.unusedVariables false
set_option linter.unusedSimpArgs false
namespace Go.Proofs.YtgjpphcbdbfhlaaGreat.SNote
open Go.Shelf Go.RowKit Go.Lib Go.Sort Go.Proofs Go.Proofs.YtgjpphcbdbfhlaaGreat.SA

set_option maxHeartbeats 2000000 in
set_option maxRecDepth 100000 in
theorem less_call (blk off c Bs size : Nat) (W : World) (hs : W.cell? ⟨Bs, 0, none⟩ = some (.slice (some ⟨blk, off, none⟩) size c)) (hBs : Bs < W.heap.size) (hblk : blk < W.heap.size) (dk : Array PN) (hds : dk.size = size) (hH : HoldsK enc3 3 W blk off dk) (i j : Nat) (hi : i < size) (hj : j < size) (hsz : size < 1152921504606846976) :
    Calls Tryz.prog 113 #[.int .i64 i, .int .i64 j, .pointer (some ⟨Bs, 0, none⟩)] W fun e w' => e = .returned (.bool (ltB dk[i]! dk[j]!)) ∧ Go.RowKit.Below W.heap.size W w' := by
  have mixed : Tryz.prog.follows .mixedOrders = true := by kernel_rfl
  have cs : ∀ p : BelowW W, p.world.cell? ⟨Bs, 0, none⟩ = some (.slice (some ⟨blk, off, none⟩) size c) := fun p => by
    have := p.ok.block Bs hBs
    unfold World.cell? at hs ⊢
    simp only at hs ⊢
    rw [this]; exact hs
  have ld : ∀ (p : BelowW W) (t : Nat), t < size → p.world.cell? ⟨blk, off + t * 3, none⟩ = some (.int .i64 dk[t]!.f0) ∧ p.world.cell? ⟨blk, off + t * 3 + 1, none⟩ = some (.int .i64 dk[t]!.f1) ∧ p.world.cell? ⟨blk, off + t * 3 + 2, none⟩ = some (.int .i64 dk[t]!.f2) := fun p t ht => by
    have hp : HoldsK enc3 3 p.world blk off dk := by
      intro q hq
      have h0 := hH q hq
      have hb := p.ok.block blk hblk
      unfold World.cell? World.frozen? at h0 ⊢
      simp only at h0 ⊢
      rw [hb]; exact h0
    exact ⟨(hp.cell (i := t) (c := 0) (by omega) (by omega)).1, (hp.cell (i := t) (c := 1) (by omega) (by omega)).1, (hp.cell (i := t) (c := 2) (by omega) (by omega)).1⟩
  have li := fun p => ld p i hi
  have lj := fun p => ld p j hj
  obtain ⟨x, hx⟩ : ∃ x, x = dk[i]! := ⟨_, rfl⟩
  obtain ⟨y, hy⟩ : ∃ y, y = dk[j]! := ⟨_, rfl⟩
  rw [← hx] at li ⊢
  rw [← hy] at lj ⊢
  have hc : ∀ p : BelowW W, Calls Tryz.prog 83 #[.agg #[.int .i64 x.f0, .int .i64 x.f1, .int .i64 x.f2], .agg #[.int .i64 y.f0, .int .i64 y.f1, .int .i64 y.f2]] p.world fun e w'' => e = .returned (.bool (ltB x y)) ∧ ∃ q : BelowW W, w'' = q.world := fun p => by
    refine (Go.Proofs.YtgjpphcbdbfhlaaGreat.L.impl_noteLess.calls _ _ _ _ _ _ _ p.world (less_lt x y)).mono ?_
    rintro e w'' ⟨rfl, hb⟩
    exact ⟨rfl, ⟨w'', p.ok.trans (hb.mono p.ok.size)⟩, rfl⟩
  have p1 : (0 : Int) ≤ (i : Int) := by omega
  have b1 : (i : Int) < (size : Int) := by omega
  have p2 : (0 : Int) ≤ (j : Int) := by omega
  have b2 : (j : Int) < (size : Int) := by omega
  have i0 := fun p => (li p).1
  have i1 := fun p => (li p).2.1
  have i2 := fun p => (li p).2.2
  have j0 := fun p => (lj p).1
  have j1 := fun p => (lj p).2.1
  have j2 := fun p => (lj p).2.2
  clear hx hy ld hH hs li lj
  go_enter Tryz.func113, Tryz.ntmps113
  go_wp2
  refine wp_region_quiet_below (by assumption) (by kernel_rfl) ?_
  repeat (quiet_step (exact hc _))
  refine wpQuiet_nil ?_
  intro _ hw'
  obtain ⟨pq, hw''⟩ := hw'
  subst hw''
  go_wp2
  go_ret
  exact ⟨rfl, pq.ok⟩
end Go.Proofs.YtgjpphcbdbfhlaaGreat.SNote
