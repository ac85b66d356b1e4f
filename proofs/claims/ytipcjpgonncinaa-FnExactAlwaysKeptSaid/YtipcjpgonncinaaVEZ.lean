/- The program's types in a table, and the kinds of the elements of its rows. No condition. -/
import Derived.Test.YtipcjpgonncinaaProg
import Derived.Test.YtipcjpgonncinaaV0
import Derived.Test.YtipcjpgonncinaaVE3
set_option linter.unusedVariables false
set_option linter.unusedSimpArgs false
namespace Go.Proofs.Ytipcjpgonncinaa.V
open Go.RowKit Go.Proofs Go.Proofs.YtipcjpgonncinaaW.PrintWords Go.Proofs.YtipcjpgonncinaaW.PrintLast EV
theorem k54_iff (w : World) (x : S54) (cs : List Value) : k54.K w x cs ↔ cs = [fun x => .int .i64 x.f0, fun x => .int .i64 x.f1, fun x => .int .i64 x.f2].map fun f : S54 → Value => f x := ⟨k54_open, fun h => by rw [h]; exact k54_mk w x⟩
theorem rd_T54_at (xs : List S54) (i : Int) (h0 : 0 ≤ i) (h1 : i < (xs.length : Int)) : xs[i.toNat]? = some (rd_T54 xs i) := by
  have h2 : i.toNat < xs.length := by omega
  rw [List.getElem?_eq_getElem h2]; unfold rd_T54; rw [List.getD_eq_getElem?_getD, List.getElem?_eq_getElem h2]; rfl
def mk54 (cs : List Value) : Option S54 := match cs with | [.int .i64 a0, .int .i64 a1, .int .i64 a2] => some ⟨a0, a1, a2⟩ | _ => none
theorem mk54_at (cs : List Value) (p : S54) (h : mk54 cs = some p) : cs = [fun x => .int .i64 x.f0, fun x => .int .i64 x.f1, fun x => .int .i64 x.f2].map fun f : S54 → Value => f p := by
  unfold mk54 at h
  split at h
  · cases h; rfl
  · cases h
def K54 : EK S54 := .st k54 [fun x => .int .i64 x.f0, fun x => .int .i64 x.f1, fun x => .int .i64 x.f2] rd_T54 k54_iff (by intro f hf p; simp only [List.mem_cons, List.not_mem_nil, or_false] at hf; rcases hf with rfl | rfl | rfl <;> rfl) rd_T54_at mk54 mk54_at
theorem k51_iff (w : World) (x : S51) (cs : List Value) : k51.K w x cs ↔ cs = [fun x => .int .i64 x.f0, fun x => .int .i64 x.f1, fun x => .int .i64 x.f2].map fun f : S51 → Value => f x := ⟨k51_open, fun h => by rw [h]; exact k51_mk w x⟩
theorem rd_T51_at (xs : List S51) (i : Int) (h0 : 0 ≤ i) (h1 : i < (xs.length : Int)) : xs[i.toNat]? = some (rd_T51 xs i) := by
  have h2 : i.toNat < xs.length := by omega
  rw [List.getElem?_eq_getElem h2]; unfold rd_T51; rw [List.getD_eq_getElem?_getD, List.getElem?_eq_getElem h2]; rfl
def mk51 (cs : List Value) : Option S51 := match cs with | [.int .i64 a0, .int .i64 a1, .int .i64 a2] => some ⟨a0, a1, a2⟩ | _ => none
theorem mk51_at (cs : List Value) (p : S51) (h : mk51 cs = some p) : cs = [fun x => .int .i64 x.f0, fun x => .int .i64 x.f1, fun x => .int .i64 x.f2].map fun f : S51 → Value => f p := by
  unfold mk51 at h
  split at h
  · cases h; rfl
  · cases h
def K51 : EK S51 := .st k51 [fun x => .int .i64 x.f0, fun x => .int .i64 x.f1, fun x => .int .i64 x.f2] rd_T51 k51_iff (by intro f hf p; simp only [List.mem_cons, List.not_mem_nil, or_false] at hf; rcases hf with rfl | rfl | rfl <;> rfl) rd_T51_at mk51 mk51_at
theorem rd_L3_at (xs : List (List Int)) (i : Int) (h0 : 0 ≤ i) (h1 : i < (xs.length : Int)) : xs[i.toNat]? = some (rd_L3 xs i) := by
  have h2 : i.toNat < xs.length := by omega
  rw [List.getElem?_eq_getElem h2]; unfold rd_L3; rw [List.getD_eq_getElem?_getD, List.getElem?_eq_getElem h2]; rfl
def KL3 : EK (List Int) := .sls 3 (.int .i64) rd_L3 rd_L3_at
theorem rd_L5_at (xs : List (List S51)) (i : Int) (h0 : 0 ≤ i) (h1 : i < (xs.length : Int)) : xs[i.toNat]? = some (rd_L5 xs i) := by
  have h2 : i.toNat < xs.length := by omega
  rw [List.getElem?_eq_getElem h2]; unfold rd_L5; rw [List.getD_eq_getElem?_getD, List.getElem?_eq_getElem h2]; rfl
def KL51 : EK (List S51) := .sls 51 K51 rd_L5 rd_L5_at
theorem rd_L7_at (xs : List (List Bool)) (i : Int) (h0 : 0 ≤ i) (h1 : i < (xs.length : Int)) : xs[i.toNat]? = some (rd_L7 xs i) := by
  have h2 : i.toNat < xs.length := by omega
  rw [List.getElem?_eq_getElem h2]; unfold rd_L7; rw [List.getD_eq_getElem?_getD, List.getElem?_eq_getElem h2]; rfl
def KL4 : EK (List Bool) := .sls 4 .bool rd_L7 rd_L7_at
theorem ti3 : tiOf Try.prog 3 = some ⟨false, 1, [.int .i64 0], none, [], some .i64, false, false, false, 8, none, none⟩ := by kernel_rfl
theorem ti4 : tiOf Try.prog 4 = some ⟨false, 1, [.bool false], none, [], none, true, false, false, 1, none, none⟩ := by kernel_rfl
theorem ti20 : tiOf Try.prog 20 = some ⟨false, 1, [.nilIface], none, [], none, false, false, false, 16, none, none⟩ := by kernel_rfl
theorem ti22 : tiOf Try.prog 22 = some ⟨false, 1, [.slice none 0 0], some 3, [], none, false, false, false, 24, none, none⟩ := by kernel_rfl
theorem ti24 : tiOf Try.prog 24 = some ⟨true, 2, [.slice none 0 0, .int .i64 0], none, [(0, 1), (1, 1)], none, false, false, true, 32, none, none⟩ := by kernel_rfl
theorem ti25 : tiOf Try.prog 25 = some ⟨false, 1, [.slice none 0 0], some 54, [], none, false, false, false, 24, none, none⟩ := by kernel_rfl
theorem ti28 : tiOf Try.prog 28 = some ⟨false, 1, [.slice none 0 0], some 51, [], none, false, false, false, 24, none, none⟩ := by kernel_rfl
theorem ti31 : tiOf Try.prog 31 = some ⟨true, 2, [.slice none 0 0, .int .i64 0], none, [(0, 1), (1, 1)], none, false, false, true, 32, none, none⟩ := by kernel_rfl
theorem ti51 : tiOf Try.prog 51 = some ⟨true, 3, [.int .i64 0, .int .i64 0, .int .i64 0], none, [(0, 1), (1, 1), (2, 1)], none, false, false, true, 24, none, none⟩ := by kernel_rfl
theorem ti54 : tiOf Try.prog 54 = some ⟨true, 3, [.int .i64 0, .int .i64 0, .int .i64 0], none, [(0, 1), (1, 1), (2, 1)], none, false, false, true, 24, none, none⟩ := by kernel_rfl
theorem ti60 : tiOf Try.prog 60 = some ⟨false, 1, [.slice none 0 0], some 22, [], none, false, false, false, 24, none, none⟩ := by kernel_rfl
theorem ti64 : tiOf Try.prog 64 = some ⟨false, 1, [.slice none 0 0], some 4, [], none, false, false, false, 24, none, none⟩ := by kernel_rfl
theorem ti67 : tiOf Try.prog 67 = some ⟨true, 7, [.slice none 0 0, .int .i64 0, .slice none 0 0, .int .i64 0, .slice none 0 0, .int .i64 0, .slice none 0 0], none, [(0, 2), (2, 1), (3, 1), (4, 1), (5, 1), (6, 1)], none, false, false, true, 120, none, none⟩ := by kernel_rfl
theorem ti68 : tiOf Try.prog 68 = some ⟨false, 1, [.pointer none], none, [], none, false, false, false, 8, none, none⟩ := by kernel_rfl
theorem ti73 : tiOf Try.prog 73 = some ⟨false, 1, [.nilFunc], none, [], none, false, false, false, 8, none, none⟩ := by kernel_rfl
def TT : List (Nat × TI) := [(3, ⟨false, 1, [.int .i64 0], none, [], some .i64, false, false, false, 8, none, some ⟨Int, (.int .i64)⟩⟩),
  (4, ⟨false, 1, [.bool false], none, [], none, true, false, false, 1, none, some ⟨Bool, .bool⟩⟩),
  (20, ⟨false, 1, [.nilIface], none, [], none, false, false, false, 16, none, none⟩),
  (22, ⟨false, 1, [.slice none 0 0], some 3, [], none, false, false, false, 24, none, some ⟨List Int, KL3⟩⟩),
  (24, ⟨true, 2, [.slice none 0 0, .int .i64 0], none, [(0, 1), (1, 1)], none, false, false, true, 32, none, none⟩),
  (25, ⟨false, 1, [.slice none 0 0], some 54, [], none, false, false, false, 24, none, none⟩),
  (28, ⟨false, 1, [.slice none 0 0], some 51, [], none, false, false, false, 24, none, some ⟨List S51, KL51⟩⟩),
  (31, ⟨true, 2, [.slice none 0 0, .int .i64 0], none, [(0, 1), (1, 1)], none, false, false, true, 32, none, none⟩),
  (51, ⟨true, 3, [.int .i64 0, .int .i64 0, .int .i64 0], none, [(0, 1), (1, 1), (2, 1)], none, false, false, true, 24, none, some ⟨S51, K51⟩⟩),
  (54, ⟨true, 3, [.int .i64 0, .int .i64 0, .int .i64 0], none, [(0, 1), (1, 1), (2, 1)], none, false, false, true, 24, none, some ⟨S54, K54⟩⟩),
  (60, ⟨false, 1, [.slice none 0 0], some 22, [], none, false, false, false, 24, none, none⟩),
  (64, ⟨false, 1, [.slice none 0 0], some 4, [], none, false, false, false, 24, none, some ⟨List Bool, KL4⟩⟩),
  (67, ⟨true, 7, [.slice none 0 0, .int .i64 0, .slice none 0 0, .int .i64 0, .slice none 0 0, .int .i64 0, .slice none 0 0], none, [(0, 2), (2, 1), (3, 1), (4, 1), (5, 1), (6, 1)], none, false, false, true, 120, none, none⟩),
  (68, ⟨false, 1, [.pointer none], none, [], none, false, false, false, 8, none, none⟩),
  (73, ⟨false, 1, [.nilFunc], none, [], none, false, false, false, 8, none, none⟩)]
def II : Nat → Option TI := lookT TT
theorem hI : ∀ t ti, II t = some ti → TiOk Try.prog t ti := lookT_ok (.cons ti3 (.cons ti4 (.cons ti20 (.cons ti22 (.cons ti24 (.cons ti25 (.cons ti28 (.cons ti31 (.cons ti51 (.cons ti54 (.cons ti60 (.cons ti64 (.cons ti67 (.cons ti68 (.cons ti73 (.nil))))))))))))))))
end Go.Proofs.Ytipcjpgonncinaa.V
