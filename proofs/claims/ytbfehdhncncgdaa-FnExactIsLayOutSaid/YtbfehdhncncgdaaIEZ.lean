/- The program's types in a table, and the kinds of the elements of its rows. No condition. -/
import Derived.Test.YtbfehdhncncgdaaProg
import Derived.Test.YtbfehdhncncgdaaI0
import Derived.Test.YtbfehdhncncgdaaIE3
set_option linter.unusedVariables false
set_option linter.unusedSimpArgs false
namespace Go.Proofs.Ytbfehdhncncgdaa.I
open Go.RowKit Go.Proofs Go.Proofs.YtbfehdhncncgdaaW.PrintWords Go.Proofs.YtbfehdhncncgdaaW.PrintLast EV
theorem k64_iff (w : World) (x : S64) (cs : List Value) : k64.K w x cs ↔ cs = [fun x => .int .i64 x.f0, fun x => .int .i64 x.f1, fun x => .int .i64 x.f2].map fun f : S64 → Value => f x := ⟨k64_open, fun h => by rw [h]; exact k64_mk w x⟩
theorem rd_T64_at (xs : List S64) (i : Int) (h0 : 0 ≤ i) (h1 : i < (xs.length : Int)) : xs[i.toNat]? = some (rd_T64 xs i) := by
  have h2 : i.toNat < xs.length := by omega
  rw [List.getElem?_eq_getElem h2]; unfold rd_T64; rw [List.getD_eq_getElem?_getD, List.getElem?_eq_getElem h2]; rfl
def mk64 (cs : List Value) : Option S64 := match cs with | [.int .i64 a0, .int .i64 a1, .int .i64 a2] => some ⟨a0, a1, a2⟩ | _ => none
theorem mk64_at (cs : List Value) (p : S64) (h : mk64 cs = some p) : cs = [fun x => .int .i64 x.f0, fun x => .int .i64 x.f1, fun x => .int .i64 x.f2].map fun f : S64 → Value => f p := by
  unfold mk64 at h
  split at h
  · cases h; rfl
  · cases h
def K64 : EK S64 := .st k64 [fun x => .int .i64 x.f0, fun x => .int .i64 x.f1, fun x => .int .i64 x.f2] rd_T64 k64_iff (by intro f hf p; simp only [List.mem_cons, List.not_mem_nil, or_false] at hf; rcases hf with rfl | rfl | rfl <;> rfl) rd_T64_at mk64 mk64_at
theorem k73_iff (w : World) (x : S73) (cs : List Value) : k73.K w x cs ↔ cs = [fun x => .int .i64 x.f0, fun x => .int .i64 x.f1, fun x => .int .i64 x.f2].map fun f : S73 → Value => f x := ⟨k73_open, fun h => by rw [h]; exact k73_mk w x⟩
theorem rd_T73_at (xs : List S73) (i : Int) (h0 : 0 ≤ i) (h1 : i < (xs.length : Int)) : xs[i.toNat]? = some (rd_T73 xs i) := by
  have h2 : i.toNat < xs.length := by omega
  rw [List.getElem?_eq_getElem h2]; unfold rd_T73; rw [List.getD_eq_getElem?_getD, List.getElem?_eq_getElem h2]; rfl
def mk73 (cs : List Value) : Option S73 := match cs with | [.int .i64 a0, .int .i64 a1, .int .i64 a2] => some ⟨a0, a1, a2⟩ | _ => none
theorem mk73_at (cs : List Value) (p : S73) (h : mk73 cs = some p) : cs = [fun x => .int .i64 x.f0, fun x => .int .i64 x.f1, fun x => .int .i64 x.f2].map fun f : S73 → Value => f p := by
  unfold mk73 at h
  split at h
  · cases h; rfl
  · cases h
def K73 : EK S73 := .st k73 [fun x => .int .i64 x.f0, fun x => .int .i64 x.f1, fun x => .int .i64 x.f2] rd_T73 k73_iff (by intro f hf p; simp only [List.mem_cons, List.not_mem_nil, or_false] at hf; rcases hf with rfl | rfl | rfl <;> rfl) rd_T73_at mk73 mk73_at
theorem k57_iff (w : World) (x : S57) (cs : List Value) : k57.K w x cs ↔ cs = [fun x => .int .i64 x.f0, fun x => .int .i64 x.f1, fun x => .int .i64 x.f2].map fun f : S57 → Value => f x := ⟨k57_open, fun h => by rw [h]; exact k57_mk w x⟩
theorem rd_T57_at (xs : List S57) (i : Int) (h0 : 0 ≤ i) (h1 : i < (xs.length : Int)) : xs[i.toNat]? = some (rd_T57 xs i) := by
  have h2 : i.toNat < xs.length := by omega
  rw [List.getElem?_eq_getElem h2]; unfold rd_T57; rw [List.getD_eq_getElem?_getD, List.getElem?_eq_getElem h2]; rfl
def mk57 (cs : List Value) : Option S57 := match cs with | [.int .i64 a0, .int .i64 a1, .int .i64 a2] => some ⟨a0, a1, a2⟩ | _ => none
theorem mk57_at (cs : List Value) (p : S57) (h : mk57 cs = some p) : cs = [fun x => .int .i64 x.f0, fun x => .int .i64 x.f1, fun x => .int .i64 x.f2].map fun f : S57 → Value => f p := by
  unfold mk57 at h
  split at h
  · cases h; rfl
  · cases h
def K57 : EK S57 := .st k57 [fun x => .int .i64 x.f0, fun x => .int .i64 x.f1, fun x => .int .i64 x.f2] rd_T57 k57_iff (by intro f hf p; simp only [List.mem_cons, List.not_mem_nil, or_false] at hf; rcases hf with rfl | rfl | rfl <;> rfl) rd_T57_at mk57 mk57_at
theorem rd_L4_at (xs : List (List S57)) (i : Int) (h0 : 0 ≤ i) (h1 : i < (xs.length : Int)) : xs[i.toNat]? = some (rd_L4 xs i) := by
  have h2 : i.toNat < xs.length := by omega
  rw [List.getElem?_eq_getElem h2]; unfold rd_L4; rw [List.getD_eq_getElem?_getD, List.getElem?_eq_getElem h2]; rfl
def KL57 : EK (List S57) := .sls 57 K57 rd_L4 rd_L4_at
theorem rd_L6_at (xs : List (List Int)) (i : Int) (h0 : 0 ≤ i) (h1 : i < (xs.length : Int)) : xs[i.toNat]? = some (rd_L6 xs i) := by
  have h2 : i.toNat < xs.length := by omega
  rw [List.getElem?_eq_getElem h2]; unfold rd_L6; rw [List.getD_eq_getElem?_getD, List.getElem?_eq_getElem h2]; rfl
def KL3 : EK (List Int) := .sls 3 (.int .i64) rd_L6 rd_L6_at
theorem rd_L7_at (xs : List (List S64)) (i : Int) (h0 : 0 ≤ i) (h1 : i < (xs.length : Int)) : xs[i.toNat]? = some (rd_L7 xs i) := by
  have h2 : i.toNat < xs.length := by omega
  rw [List.getElem?_eq_getElem h2]; unfold rd_L7; rw [List.getD_eq_getElem?_getD, List.getElem?_eq_getElem h2]; rfl
def KL64 : EK (List S64) := .sls 64 K64 rd_L7 rd_L7_at
theorem ti3 : tiOf Try.prog 3 = some ⟨false, 1, [.int .i64 0], none, [], some .i64, false, false, false, 8, none⟩ := by kernel_rfl
theorem ti4 : tiOf Try.prog 4 = some ⟨false, 1, [.bool false], none, [], none, true, false, false, 1, none⟩ := by kernel_rfl
theorem ti17 : tiOf Try.prog 17 = some ⟨false, 1, [.pointer none], none, [], none, false, false, false, 8, none⟩ := by kernel_rfl
theorem ti20 : tiOf Try.prog 20 = some ⟨false, 1, [.nilIface], none, [], none, false, false, false, 16, none⟩ := by kernel_rfl
theorem ti22 : tiOf Try.prog 22 = some ⟨false, 1, [.slice none 0 0], some 3, [], none, false, false, false, 24, none⟩ := by kernel_rfl
theorem ti24 : tiOf Try.prog 24 = some ⟨true, 2, [.slice none 0 0, .int .i64 0], none, [(0, 1), (1, 1)], none, false, false, true, 32, none⟩ := by kernel_rfl
theorem ti25 : tiOf Try.prog 25 = some ⟨false, 1, [.slice none 0 0], some 59, [], none, false, false, false, 24, none⟩ := by kernel_rfl
theorem ti28 : tiOf Try.prog 28 = some ⟨false, 1, [.slice none 0 0], some 64, [], none, false, false, false, 24, none⟩ := by kernel_rfl
theorem ti31 : tiOf Try.prog 31 = some ⟨true, 2, [.slice none 0 0, .int .i64 0], none, [(0, 1), (1, 1)], none, false, false, true, 32, none⟩ := by kernel_rfl
theorem ti33 : tiOf Try.prog 33 = some ⟨false, 1, [.slice none 0 0], some 57, [], none, false, false, false, 24, none⟩ := by kernel_rfl
theorem ti44 : tiOf Try.prog 44 = some ⟨false, 1, [.slice none 0 0], some 73, [], none, false, false, false, 24, none⟩ := by kernel_rfl
theorem ti57 : tiOf Try.prog 57 = some ⟨true, 3, [.int .i64 0, .int .i64 0, .int .i64 0], none, [(0, 1), (1, 1), (2, 1)], none, false, false, true, 24, none⟩ := by kernel_rfl
theorem ti59 : tiOf Try.prog 59 = some ⟨true, 3, [.int .i64 0, .int .i64 0, .int .i64 0], none, [(0, 1), (1, 1), (2, 1)], none, false, false, true, 24, none⟩ := by kernel_rfl
theorem ti64 : tiOf Try.prog 64 = some ⟨true, 3, [.int .i64 0, .int .i64 0, .int .i64 0], none, [(0, 1), (1, 1), (2, 1)], none, false, false, true, 24, none⟩ := by kernel_rfl
theorem ti73 : tiOf Try.prog 73 = some ⟨true, 3, [.int .i64 0, .int .i64 0, .int .i64 0], none, [(0, 1), (1, 1), (2, 1)], none, false, false, true, 24, none⟩ := by kernel_rfl
theorem ti87 : tiOf Try.prog 87 = some ⟨false, 1, [.slice none 0 0], some 22, [], none, false, false, false, 24, none⟩ := by kernel_rfl
theorem ti94 : tiOf Try.prog 94 = some ⟨false, 1, [.nilFunc], none, [], none, false, false, false, 8, none⟩ := by kernel_rfl
theorem ti96 : tiOf Try.prog 96 = some ⟨false, 1, [.pointer none], none, [], none, false, false, false, 8, none⟩ := by kernel_rfl
theorem ti97 : tiOf Try.prog 97 = some ⟨false, 1, [.int .u64 0], none, [], some .u64, false, false, false, 8, none⟩ := by kernel_rfl
theorem ti99 : tiOf Try.prog 99 = some ⟨true, 3, [.pointer none, .pointer none, .int .u64 0], none, [(0, 1), (1, 1), (2, 1)], none, false, false, true, 24, none⟩ := by kernel_rfl
theorem ti101 : tiOf Try.prog 101 = some ⟨false, 1, [.nilFunc], none, [], none, false, false, false, 8, none⟩ := by kernel_rfl
theorem ti105 : tiOf Try.prog 105 = some ⟨true, 2, [.nilFunc, .nilFunc], none, [(0, 1), (1, 1)], none, false, false, true, 16, none⟩ := by kernel_rfl
theorem ti112 : tiOf Try.prog 112 = some ⟨false, 1, [.int .u64 0], none, [], some .u64, false, false, false, 8, none⟩ := by kernel_rfl
def TT : List (Nat × TI) := [(3, ⟨false, 1, [.int .i64 0], none, [], some .i64, false, false, false, 8, some ⟨Int, (.int .i64)⟩⟩),
  (4, ⟨false, 1, [.bool false], none, [], none, true, false, false, 1, some ⟨Bool, .bool⟩⟩),
  (17, ⟨false, 1, [.pointer none], none, [], none, false, false, false, 8, none⟩),
  (20, ⟨false, 1, [.nilIface], none, [], none, false, false, false, 16, none⟩),
  (22, ⟨false, 1, [.slice none 0 0], some 3, [], none, false, false, false, 24, some ⟨List Int, KL3⟩⟩),
  (24, ⟨true, 2, [.slice none 0 0, .int .i64 0], none, [(0, 1), (1, 1)], none, false, false, true, 32, none⟩),
  (25, ⟨false, 1, [.slice none 0 0], some 59, [], none, false, false, false, 24, none⟩),
  (28, ⟨false, 1, [.slice none 0 0], some 64, [], none, false, false, false, 24, some ⟨List S64, KL64⟩⟩),
  (31, ⟨true, 2, [.slice none 0 0, .int .i64 0], none, [(0, 1), (1, 1)], none, false, false, true, 32, none⟩),
  (33, ⟨false, 1, [.slice none 0 0], some 57, [], none, false, false, false, 24, some ⟨List S57, KL57⟩⟩),
  (44, ⟨false, 1, [.slice none 0 0], some 73, [], none, false, false, false, 24, none⟩),
  (57, ⟨true, 3, [.int .i64 0, .int .i64 0, .int .i64 0], none, [(0, 1), (1, 1), (2, 1)], none, false, false, true, 24, some ⟨S57, K57⟩⟩),
  (59, ⟨true, 3, [.int .i64 0, .int .i64 0, .int .i64 0], none, [(0, 1), (1, 1), (2, 1)], none, false, false, true, 24, none⟩),
  (64, ⟨true, 3, [.int .i64 0, .int .i64 0, .int .i64 0], none, [(0, 1), (1, 1), (2, 1)], none, false, false, true, 24, some ⟨S64, K64⟩⟩),
  (73, ⟨true, 3, [.int .i64 0, .int .i64 0, .int .i64 0], none, [(0, 1), (1, 1), (2, 1)], none, false, false, true, 24, some ⟨S73, K73⟩⟩),
  (87, ⟨false, 1, [.slice none 0 0], some 22, [], none, false, false, false, 24, none⟩),
  (94, ⟨false, 1, [.nilFunc], none, [], none, false, false, false, 8, none⟩),
  (96, ⟨false, 1, [.pointer none], none, [], none, false, false, false, 8, none⟩),
  (97, ⟨false, 1, [.int .u64 0], none, [], some .u64, false, false, false, 8, none⟩),
  (99, ⟨true, 3, [.pointer none, .pointer none, .int .u64 0], none, [(0, 1), (1, 1), (2, 1)], none, false, false, true, 24, none⟩),
  (101, ⟨false, 1, [.nilFunc], none, [], none, false, false, false, 8, none⟩),
  (105, ⟨true, 2, [.nilFunc, .nilFunc], none, [(0, 1), (1, 1)], none, false, false, true, 16, none⟩),
  (112, ⟨false, 1, [.int .u64 0], none, [], some .u64, false, false, false, 8, none⟩)]
def II : Nat → Option TI := lookT TT
theorem hI : ∀ t ti, II t = some ti → TiOk Try.prog t ti := lookT_ok (.cons ti3 (.cons ti4 (.cons ti17 (.cons ti20 (.cons ti22 (.cons ti24 (.cons ti25 (.cons ti28 (.cons ti31 (.cons ti33 (.cons ti44 (.cons ti57 (.cons ti59 (.cons ti64 (.cons ti73 (.cons ti87 (.cons ti94 (.cons ti96 (.cons ti97 (.cons ti99 (.cons ti101 (.cons ti105 (.cons ti112 (.nil))))))))))))))))))))))))
end Go.Proofs.Ytbfehdhncncgdaa.I
