/- The stable sort of a row of pins, in this program. No condition. -/
import Derived.Test.YtgjpphcbdbfhlaaGreatLFCH
import Derived.Test.YtgjpphcbdbfhlaaGreatLWSA
import Derived.Test.YtgjpphcbdbfhlaaGreatLFL
set_option linter.unusedVariables false
set_option linter.unusedSimpArgs false
namespace Go.Proofs.YtgjpphcbdbfhlaaGreat.SHole
open Go.Shelf Go.RowKit Go.Lib Go.Sort Go.Proofs Go.Proofs.YtgjpphcbdbfhlaaGreat.SA

noncomputable def svT : TypeInfo := (Tryz.prog.info? 29).get (by kernel_rfl)
noncomputable def svE : TypeInfo := (Tryz.prog.info? 40).get (by kernel_rfl)
theorem svK (n : Nat) (h2 : 2 ≤ n) : Lib.swapperK n svE 25 = 9 := by
  have a : svE.hasPointers = false := by kernel_rfl
  have b : svE.bytes = 24 := by kernel_rfl
  have c : (n == 0) = false := by simp; omega
  have d : (n == 1) = false := by simp; omega
  simp [Lib.swapperK, a, b, c, d]

theorem famSort_of (blk c Bs : Nat) (d : Array PN) (hsz : d.size < 1152921504606846976) (w : World) (hH : HoldsK enc3 3 w blk 0 d) (hblk : blk < w.heap.size)
    (hBs : w.cell? ⟨Bs, 0, none⟩ = some (.slice (some ⟨blk, 0, none⟩) d.size c)) (hB1 : Bs < w.heap.size) (hB2 : Bs ≠ blk)
    (f : Nat) (hf : Tryz.prog.funcs.findIdx? (·.name == "internal/reflectlite" ++ ".Swapper$" ++ toString (swapperK d.size svE 25)) = some f)
    (hx : 2 ≤ d.size → ∀ args W, (callFunc f args).run Tryz.prog W = ((Extern.ReflectliteSwapper.swap false args).run Tryz.prog W).andThen fun v w' => .ok (.value v) w') :
    Calls Tryz.prog 108 #[.iface 29 (.slice (some ⟨blk, 0, none⟩) d.size c), .func (.func 109) #[] #[.pointer (some ⟨Bs, 0, none⟩)]] w fun e w' =>
      e = .returned (.tuple #[]) ∧ SWD enc3 3 w blk 0 (stableA ltB d.size d) w' := by
  have hless : LessLaysK Tryz.prog 109 #[.pointer (some ⟨Bs, 0, none⟩)] enc3 3 ltB blk 0 d.size w := fun W dk h hs i j hi hj =>
    less_call blk 0 c Bs d.size W (sw_cell h hB2 hB1 hBs) (Nat.lt_of_lt_of_le hB1 h.le) (h.blkLt hblk) dk hs (h.holds hblk hH hs) i j hi hj hsz
  exact sliceStable_w Tryz.slStable 29 40 svT svE (by kernel_rfl) (by kernel_rfl) (by kernel_rfl) (by kernel_rfl) 25 (fun _ => by kernel_rfl) enc3 3 (fun _ => rfl) (by kernel_rfl) (fun _ => by kernel_rfl)
    (fun x v hv => by simp [enc3] at hv; rcases hv with rfl | rfl | rfl <;> rfl) ltB 109 _ (enters_of Tryz.func109 (by kernel_rfl) rfl) blk 0 c d hsz f hf false hx w hless hH hblk

theorem famSort (blk c Bs : Nat) (d : Array PN) (hsz : d.size < 1152921504606846976) (w : World) (hH : HoldsK enc3 3 w blk 0 d) (hblk : blk < w.heap.size)
    (hBs : w.cell? ⟨Bs, 0, none⟩ = some (.slice (some ⟨blk, 0, none⟩) d.size c)) (hB1 : Bs < w.heap.size) (hB2 : Bs ≠ blk) :
    Calls Tryz.prog 108 #[.iface 29 (.slice (some ⟨blk, 0, none⟩) d.size c), .func (.func 109) #[] #[.pointer (some ⟨Bs, 0, none⟩)]] w fun e w' =>
      e = .returned (.tuple #[]) ∧ SWD enc3 3 w blk 0 (stableA ltB d.size d) w' := by
  by_cases h2 : 2 ≤ d.size
  · exact famSort_of blk c Bs d hsz w hH hblk hBs hB1 hB2 130 (by rw [svK _ h2]; kernel_rfl)
      (fun _ args W => run_callFunc_extern Tryz.func130 (by kernel_rfl) (by kernel_rfl) (by kernel_rfl) (e := Extern.ReflectliteSwapper.swap false) (by kernel_rfl) args W)
  · by_cases h1 : d.size = 1
    · exact famSort_of blk c Bs d hsz w hH hblk hBs hB1 hB2 123 (by rw [h1]; kernel_rfl) (fun h => absurd h h2)
    · exact famSort_of blk c Bs d hsz w hH hblk hBs hB1 hB2 122 (by rw [show d.size = 0 by omega]; kernel_rfl) (fun h => absurd h h2)
end Go.Proofs.YtgjpphcbdbfhlaaGreat.SHole
