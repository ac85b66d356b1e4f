/- The program's types in a table, and the kinds of the elements of its rows. No condition. -/
import Derived.Test.YtbfehdhncncgdaaProg
import Derived.Test.YtbfehdhncncgdaaC0
import Derived.Test.YtbfehdhncncgdaaCE3
set_option linter.unusedVariables false
set_option linter.unusedSimpArgs false
namespace Go.Proofs.Ytbfehdhncncgdaa.C
open Go.RowKit Go.Proofs Go.Proofs.YtbfehdhncncgdaaW.PrintWords Go.Proofs.YtbfehdhncncgdaaW.PrintLast EV
theorem k64_iff (w : World) (x : S64) (cs : List Value) : k64.K w x cs ↔ cs = [fun x => .int .i64 x.f0, fun x => .int .i64 x.f1, fun x => .int .i64 x.f2].map fun f : S64 → Value => f x := ⟨k64_open, fun h => by rw [h]; exact k64_mk w x⟩
theorem rd_T64_at (xs : List S64) (i : Int) (h0 : 0 ≤ i) (h1 : i < (xs.length : Int)) : xs[i.toNat]? = some (rd_T64 xs i) := by
  have h2 : i.toNat < xs.length := by omega
  rw [List.getElem?_eq_getElem h2]; unfold rd_T64; rw [List.getD_eq_getElem?_getD, List.getElem?_eq_getElem h2]; rfl
def mk64 (cs : List Value) : Option S64 := match cs with | [.int .i64 a0, .int .i64 a1, .int .i64 a2] => some ⟨a0, a1, a2⟩ | _ => none
theorem mk64_at (cs : List Value) (p : S64) (h : mk64 cs = some p) : cs = [fun x => .int .i64 x.f0, fun x => .int .i64 x.f1, fun x => .int .i64 x.f2].map fun f : S64 → Value => f p := by
  unfold mk64 at h
  split at h
  · cases h; rfl
  · cases h
def K64 : EK S64 := .st k64 [fun x => .int .i64 x.f0, fun x => .int .i64 x.f1, fun x => .int .i64 x.f2] rd_T64 k64_iff (by intro f hf p; simp only [List.mem_cons, List.not_mem_nil, or_false] at hf; rcases hf with rfl | rfl | rfl <;> rfl) rd_T64_at mk64 mk64_at
theorem k73_iff (w : World) (x : S73) (cs : List Value) : k73.K w x cs ↔ cs = [fun x => .int .i64 x.f0, fun x => .int .i64 x.f1, fun x => .int .i64 x.f2].map fun f : S73 → Value => f x := ⟨k73_open, fun h => by rw [h]; exact k73_mk w x⟩
theorem rd_T73_at (xs : List S73) (i : Int) (h0 : 0 ≤ i) (h1 : i < (xs.length : Int)) : xs[i.toNat]? = some (rd_T73 xs i) := by
  have h2 : i.toNat < xs.length := by omega
  rw [List.getElem?_eq_getElem h2]; unfold rd_T73; rw [List.getD_eq_getElem?_getD, List.getElem?_eq_getElem h2]; rfl
def mk73 (cs : List Value) : Option S73 := match cs with | [.int .i64 a0, .int .i64 a1, .int .i64 a2] => some ⟨a0, a1, a2⟩ | _ => none
theorem mk73_at (cs : List Value) (p : S73) (h : mk73 cs = some p) : cs = [fun x => .int .i64 x.f0, fun x => .int .i64 x.f1, fun x => .int .i64 x.f2].map fun f : S73 → Value => f p := by
  unfold mk73 at h
  split at h
  · cases h; rfl
  · cases h
def K73 : EK S73 := .st k73 [fun x => .int .i64 x.f0, fun x => .int .i64 x.f1, fun x => .int .i64 x.f2] rd_T73 k73_iff (by intro f hf p; simp only [List.mem_cons, List.not_mem_nil, or_false] at hf; rcases hf with rfl | rfl | rfl <;> rfl) rd_T73_at mk73 mk73_at
theorem rd_L3_at (xs : List (List S64)) (i : Int) (h0 : 0 ≤ i) (h1 : i < (xs.length : Int)) : xs[i.toNat]? = some (rd_L3 xs i) := by
  have h2 : i.toNat < xs.length := by omega
  rw [List.getElem?_eq_getElem h2]; unfold rd_L3; rw [List.getD_eq_getElem?_getD, List.getElem?_eq_getElem h2]; rfl
def KL64 : EK (List S64) := .sls 64 K64 rd_L3 rd_L3_at
theorem ti3 : tiOf Try.prog 3 = some ⟨false, 1, [.int .i64 0], none, [], some .i64, false, false, false, 8, none, none⟩ := by kernel_rfl
theorem ti4 : tiOf Try.prog 4 = some ⟨false, 1, [.bool false], none, [], none, true, false, false, 1, none, none⟩ := by kernel_rfl
theorem ti22 : tiOf Try.prog 22 = some ⟨false, 1, [.slice none 0 0], some 3, [], none, false, false, false, 24, none, none⟩ := by kernel_rfl
theorem ti28 : tiOf Try.prog 28 = some ⟨false, 1, [.slice none 0 0], some 64, [], none, false, false, false, 24, none, none⟩ := by kernel_rfl
theorem ti44 : tiOf Try.prog 44 = some ⟨false, 1, [.slice none 0 0], some 73, [], none, false, false, false, 24, none, none⟩ := by kernel_rfl
theorem ti64 : tiOf Try.prog 64 = some ⟨true, 3, [.int .i64 0, .int .i64 0, .int .i64 0], none, [(0, 1), (1, 1), (2, 1)], none, false, false, true, 24, none, none⟩ := by kernel_rfl
theorem ti73 : tiOf Try.prog 73 = some ⟨true, 3, [.int .i64 0, .int .i64 0, .int .i64 0], none, [(0, 1), (1, 1), (2, 1)], none, false, false, true, 24, none, none⟩ := by kernel_rfl
theorem ti75 : tiOf Try.prog 75 = some ⟨true, 2000, [], none, [], none, false, false, false, 16000, some (2000, 3), none⟩ := by kernel_rfl
def TT : List (Nat × TI) := [(3, ⟨false, 1, [.int .i64 0], none, [], some .i64, false, false, false, 8, none, some ⟨Int, (.int .i64)⟩⟩),
  (4, ⟨false, 1, [.bool false], none, [], none, true, false, false, 1, none, some ⟨Bool, .bool⟩⟩),
  (22, ⟨false, 1, [.slice none 0 0], some 3, [], none, false, false, false, 24, none, none⟩),
  (28, ⟨false, 1, [.slice none 0 0], some 64, [], none, false, false, false, 24, none, some ⟨List S64, KL64⟩⟩),
  (44, ⟨false, 1, [.slice none 0 0], some 73, [], none, false, false, false, 24, none, none⟩),
  (64, ⟨true, 3, [.int .i64 0, .int .i64 0, .int .i64 0], none, [(0, 1), (1, 1), (2, 1)], none, false, false, true, 24, none, some ⟨S64, K64⟩⟩),
  (73, ⟨true, 3, [.int .i64 0, .int .i64 0, .int .i64 0], none, [(0, 1), (1, 1), (2, 1)], none, false, false, true, 24, none, some ⟨S73, K73⟩⟩),
  (75, ⟨true, 2000, [], none, [], none, false, false, false, 16000, some (2000, 3), none⟩)]
def II : Nat → Option TI := lookT TT
theorem hI : ∀ t ti, II t = some ti → TiOk Try.prog t ti := lookT_ok (.cons ti3 (.cons ti4 (.cons ti22 (.cons ti28 (.cons ti44 (.cons ti64 (.cons ti73 (.cons ti75 (.nil)))))))))
end Go.Proofs.Ytbfehdhncncgdaa.C
