/- The program's types in a table, and the kinds of the elements of its rows. No condition. -/
import Derived.Test.YthgemodkebahoaaProg
import Derived.Test.YthgemodkebahoaaA0
import Derived.Test.YthgemodkebahoaaAE3
set_option linter.unusedVariables false
set_option linter.unusedSimpArgs false
namespace Go.Proofs.Ythgemodkebahoaa.A
open Go.RowKit Go.Proofs Go.Proofs.YthgemodkebahoaaW.PrintWords Go.Proofs.YthgemodkebahoaaW.PrintLast EV
theorem k39_iff (w : World) (x : S39) (cs : List Value) : k39.K w x cs ↔ cs = [fun x => .int .i64 x.f0, fun x => .int .i64 x.f1, fun x => .int .i64 x.f2].map fun f : S39 → Value => f x := ⟨k39_open, fun h => by rw [h]; exact k39_mk w x⟩
theorem rd_T39_at (xs : List S39) (i : Int) (h0 : 0 ≤ i) (h1 : i < (xs.length : Int)) : xs[i.toNat]? = some (rd_T39 xs i) := by
  have h2 : i.toNat < xs.length := by omega
  rw [List.getElem?_eq_getElem h2]; unfold rd_T39; rw [List.getD_eq_getElem?_getD, List.getElem?_eq_getElem h2]; rfl
def mk39 (cs : List Value) : Option S39 := match cs with | [.int .i64 a0, .int .i64 a1, .int .i64 a2] => some ⟨a0, a1, a2⟩ | _ => none
theorem mk39_at (cs : List Value) (p : S39) (h : mk39 cs = some p) : cs = [fun x => .int .i64 x.f0, fun x => .int .i64 x.f1, fun x => .int .i64 x.f2].map fun f : S39 → Value => f p := by
  unfold mk39 at h
  split at h
  · cases h; rfl
  · cases h
def K39 : EK S39 := .st k39 [fun x => .int .i64 x.f0, fun x => .int .i64 x.f1, fun x => .int .i64 x.f2] rd_T39 k39_iff (by intro f hf p; simp only [List.mem_cons, List.not_mem_nil, or_false] at hf; rcases hf with rfl | rfl | rfl <;> rfl) rd_T39_at mk39 mk39_at
theorem rd_L3_at (xs : List (List S39)) (i : Int) (h0 : 0 ≤ i) (h1 : i < (xs.length : Int)) : xs[i.toNat]? = some (rd_L3 xs i) := by
  have h2 : i.toNat < xs.length := by omega
  rw [List.getElem?_eq_getElem h2]; unfold rd_L3; rw [List.getD_eq_getElem?_getD, List.getElem?_eq_getElem h2]; rfl
def KL39 : EK (List S39) := .sls 39 K39 rd_L3 rd_L3_at
theorem rd_L8_at (xs : List (List Int)) (i : Int) (h0 : 0 ≤ i) (h1 : i < (xs.length : Int)) : xs[i.toNat]? = some (rd_L8 xs i) := by
  have h2 : i.toNat < xs.length := by omega
  rw [List.getElem?_eq_getElem h2]; unfold rd_L8; rw [List.getD_eq_getElem?_getD, List.getElem?_eq_getElem h2]; rfl
def KL3 : EK (List Int) := .sls 3 (.int .i64) rd_L8 rd_L8_at
theorem ti3 : tiOf Try.prog 3 = some ⟨false, 1, [.int .i64 0], none, [], some .i64, false, false, false, 8, none, none⟩ := by kernel_rfl
theorem ti4 : tiOf Try.prog 4 = some ⟨false, 1, [.bool false], none, [], none, true, false, false, 1, none, none⟩ := by kernel_rfl
theorem ti5 : tiOf Try.prog 5 = some ⟨false, 1, [.int .u8 0], none, [], some .u8, false, false, false, 1, none, none⟩ := by kernel_rfl
theorem ti17 : tiOf Try.prog 17 = some ⟨false, 1, [.pointer none], none, [], none, false, false, false, 8, none, none⟩ := by kernel_rfl
theorem ti20 : tiOf Try.prog 20 = some ⟨false, 1, [.nilIface], none, [], none, false, false, false, 16, none, none⟩ := by kernel_rfl
theorem ti22 : tiOf Try.prog 22 = some ⟨false, 1, [.slice none 0 0], some 5, [], none, false, false, false, 24, none, none⟩ := by kernel_rfl
theorem ti24 : tiOf Try.prog 24 = some ⟨false, 1, [.slice none 0 0], some 39, [], none, false, false, false, 24, none, none⟩ := by kernel_rfl
theorem ti28 : tiOf Try.prog 28 = some ⟨false, 1, [.slice none 0 0], some 63, [], none, false, false, false, 24, none, none⟩ := by kernel_rfl
theorem ti39 : tiOf Try.prog 39 = some ⟨true, 3, [.int .i64 0, .int .i64 0, .int .i64 0], none, [(0, 1), (1, 1), (2, 1)], none, false, false, true, 24, none, none⟩ := by kernel_rfl
theorem ti50 : tiOf Try.prog 50 = some ⟨false, 1, [.pointer none], none, [], none, false, false, false, 8, none, none⟩ := by kernel_rfl
theorem ti51 : tiOf Try.prog 51 = some ⟨false, 1, [.int .u64 0], none, [], some .u64, false, false, false, 8, none, none⟩ := by kernel_rfl
theorem ti53 : tiOf Try.prog 53 = some ⟨true, 3, [.slice none 0 0, .int .i64 0, .int .u64 0], none, [(0, 1), (1, 1), (2, 1)], none, false, false, true, 40, none, none⟩ := by kernel_rfl
theorem ti63 : tiOf Try.prog 63 = some ⟨false, 1, [.slice none 0 0], some 3, [], none, false, false, false, 24, none, none⟩ := by kernel_rfl
theorem ti68 : tiOf Try.prog 68 = some ⟨false, 1, [.pointer none], none, [], none, false, false, false, 8, none, none⟩ := by kernel_rfl
theorem ti72 : tiOf Try.prog 72 = some ⟨false, 1, [.nilFunc], none, [], none, false, false, false, 8, none, none⟩ := by kernel_rfl
theorem ti74 : tiOf Try.prog 74 = some ⟨false, 1, [.pointer none], none, [], none, false, false, false, 8, none, none⟩ := by kernel_rfl
theorem ti75 : tiOf Try.prog 75 = some ⟨false, 1, [.int .u64 0], none, [], some .u64, false, false, false, 8, none, none⟩ := by kernel_rfl
theorem ti77 : tiOf Try.prog 77 = some ⟨true, 3, [.pointer none, .pointer none, .int .u64 0], none, [(0, 1), (1, 1), (2, 1)], none, false, false, true, 24, none, none⟩ := by kernel_rfl
theorem ti79 : tiOf Try.prog 79 = some ⟨false, 1, [.nilFunc], none, [], none, false, false, false, 8, none, none⟩ := by kernel_rfl
theorem ti83 : tiOf Try.prog 83 = some ⟨true, 2, [.nilFunc, .nilFunc], none, [(0, 1), (1, 1)], none, false, false, true, 16, none, none⟩ := by kernel_rfl
theorem ti84 : tiOf Try.prog 84 = some ⟨false, 1, [.int .u64 0], none, [], some .u64, false, false, false, 8, none, none⟩ := by kernel_rfl
def TT : List (Nat × TI) := [(3, ⟨false, 1, [.int .i64 0], none, [], some .i64, false, false, false, 8, none, some ⟨Int, (.int .i64)⟩⟩),
  (4, ⟨false, 1, [.bool false], none, [], none, true, false, false, 1, none, some ⟨Bool, .bool⟩⟩),
  (5, ⟨false, 1, [.int .u8 0], none, [], some .u8, false, false, false, 1, none, none⟩),
  (17, ⟨false, 1, [.pointer none], none, [], none, false, false, false, 8, none, none⟩),
  (20, ⟨false, 1, [.nilIface], none, [], none, false, false, false, 16, none, none⟩),
  (22, ⟨false, 1, [.slice none 0 0], some 5, [], none, false, false, false, 24, none, none⟩),
  (24, ⟨false, 1, [.slice none 0 0], some 39, [], none, false, false, false, 24, none, some ⟨List S39, KL39⟩⟩),
  (28, ⟨false, 1, [.slice none 0 0], some 63, [], none, false, false, false, 24, none, none⟩),
  (39, ⟨true, 3, [.int .i64 0, .int .i64 0, .int .i64 0], none, [(0, 1), (1, 1), (2, 1)], none, false, false, true, 24, none, some ⟨S39, K39⟩⟩),
  (50, ⟨false, 1, [.pointer none], none, [], none, false, false, false, 8, none, none⟩),
  (51, ⟨false, 1, [.int .u64 0], none, [], some .u64, false, false, false, 8, none, none⟩),
  (53, ⟨true, 3, [.slice none 0 0, .int .i64 0, .int .u64 0], none, [(0, 1), (1, 1), (2, 1)], none, false, false, true, 40, none, none⟩),
  (63, ⟨false, 1, [.slice none 0 0], some 3, [], none, false, false, false, 24, none, some ⟨List Int, KL3⟩⟩),
  (68, ⟨false, 1, [.pointer none], none, [], none, false, false, false, 8, none, none⟩),
  (72, ⟨false, 1, [.nilFunc], none, [], none, false, false, false, 8, none, none⟩),
  (74, ⟨false, 1, [.pointer none], none, [], none, false, false, false, 8, none, none⟩),
  (75, ⟨false, 1, [.int .u64 0], none, [], some .u64, false, false, false, 8, none, none⟩),
  (77, ⟨true, 3, [.pointer none, .pointer none, .int .u64 0], none, [(0, 1), (1, 1), (2, 1)], none, false, false, true, 24, none, none⟩),
  (79, ⟨false, 1, [.nilFunc], none, [], none, false, false, false, 8, none, none⟩),
  (83, ⟨true, 2, [.nilFunc, .nilFunc], none, [(0, 1), (1, 1)], none, false, false, true, 16, none, none⟩),
  (84, ⟨false, 1, [.int .u64 0], none, [], some .u64, false, false, false, 8, none, none⟩)]
def II : Nat → Option TI := lookT TT
theorem hI : ∀ t ti, II t = some ti → TiOk Try.prog t ti := lookT_ok (.cons ti3 (.cons ti4 (.cons ti5 (.cons ti17 (.cons ti20 (.cons ti22 (.cons ti24 (.cons ti28 (.cons ti39 (.cons ti50 (.cons ti51 (.cons ti53 (.cons ti63 (.cons ti68 (.cons ti72 (.cons ti74 (.cons ti75 (.cons ti77 (.cons ti79 (.cons ti83 (.cons ti84 (.nil))))))))))))))))))))))
end Go.Proofs.Ythgemodkebahoaa.A
