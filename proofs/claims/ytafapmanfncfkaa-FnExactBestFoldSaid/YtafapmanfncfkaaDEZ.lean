/- The program's types in a table, and the kinds of the elements of its rows. No condition. -/
import Derived.Test.YtafapmanfncfkaaProg
import Derived.Test.YtafapmanfncfkaaD0
import Derived.Test.YtafapmanfncfkaaDE3
set_option linter.unusedVariables false
set_option linter.unusedSimpArgs false
namespace Go.Proofs.Ytafapmanfncfkaa.D
open Go.RowKit Go.Proofs Go.Proofs.YtafapmanfncfkaaW.PrintWords Go.Proofs.YtafapmanfncfkaaW.PrintLast EV
theorem k57_iff (w : World) (x : S57) (cs : List Value) : k57.K w x cs ↔ cs = [fun x => .int .i64 x.f0, fun x => .int .i64 x.f1, fun x => .int .i64 x.f2].map fun f : S57 → Value => f x := ⟨k57_open, fun h => by rw [h]; exact k57_mk w x⟩
theorem rd_T57_at (xs : List S57) (i : Int) (h0 : 0 ≤ i) (h1 : i < (xs.length : Int)) : xs[i.toNat]? = some (rd_T57 xs i) := by
  have h2 : i.toNat < xs.length := by omega
  rw [List.getElem?_eq_getElem h2]; unfold rd_T57; rw [List.getD_eq_getElem?_getD, List.getElem?_eq_getElem h2]; rfl
def mk57 (cs : List Value) : Option S57 := match cs with | [.int .i64 a0, .int .i64 a1, .int .i64 a2] => some ⟨a0, a1, a2⟩ | _ => none
theorem mk57_at (cs : List Value) (p : S57) (h : mk57 cs = some p) : cs = [fun x => .int .i64 x.f0, fun x => .int .i64 x.f1, fun x => .int .i64 x.f2].map fun f : S57 → Value => f p := by
  unfold mk57 at h
  split at h
  · cases h; rfl
  · cases h
def K57 : EK S57 := .st k57 [fun x => .int .i64 x.f0, fun x => .int .i64 x.f1, fun x => .int .i64 x.f2] rd_T57 k57_iff (by intro f hf p; simp only [List.mem_cons, List.not_mem_nil, or_false] at hf; rcases hf with rfl | rfl | rfl <;> rfl) rd_T57_at mk57 mk57_at
theorem k55_iff (w : World) (x : S55) (cs : List Value) : k55.K w x cs ↔ cs = [fun x => .int .i64 x.f0, fun x => .int .i64 x.f1, fun x => .int .i64 x.f2].map fun f : S55 → Value => f x := ⟨k55_open, fun h => by rw [h]; exact k55_mk w x⟩
theorem rd_T55_at (xs : List S55) (i : Int) (h0 : 0 ≤ i) (h1 : i < (xs.length : Int)) : xs[i.toNat]? = some (rd_T55 xs i) := by
  have h2 : i.toNat < xs.length := by omega
  rw [List.getElem?_eq_getElem h2]; unfold rd_T55; rw [List.getD_eq_getElem?_getD, List.getElem?_eq_getElem h2]; rfl
def mk55 (cs : List Value) : Option S55 := match cs with | [.int .i64 a0, .int .i64 a1, .int .i64 a2] => some ⟨a0, a1, a2⟩ | _ => none
theorem mk55_at (cs : List Value) (p : S55) (h : mk55 cs = some p) : cs = [fun x => .int .i64 x.f0, fun x => .int .i64 x.f1, fun x => .int .i64 x.f2].map fun f : S55 → Value => f p := by
  unfold mk55 at h
  split at h
  · cases h; rfl
  · cases h
def K55 : EK S55 := .st k55 [fun x => .int .i64 x.f0, fun x => .int .i64 x.f1, fun x => .int .i64 x.f2] rd_T55 k55_iff (by intro f hf p; simp only [List.mem_cons, List.not_mem_nil, or_false] at hf; rcases hf with rfl | rfl | rfl <;> rfl) rd_T55_at mk55 mk55_at
theorem rd_L3_at (xs : List (List S55)) (i : Int) (h0 : 0 ≤ i) (h1 : i < (xs.length : Int)) : xs[i.toNat]? = some (rd_L3 xs i) := by
  have h2 : i.toNat < xs.length := by omega
  rw [List.getElem?_eq_getElem h2]; unfold rd_L3; rw [List.getD_eq_getElem?_getD, List.getElem?_eq_getElem h2]; rfl
def KL55 : EK (List S55) := .sls 55 K55 rd_L3 rd_L3_at
theorem rd_L5_at (xs : List (List Int)) (i : Int) (h0 : 0 ≤ i) (h1 : i < (xs.length : Int)) : xs[i.toNat]? = some (rd_L5 xs i) := by
  have h2 : i.toNat < xs.length := by omega
  rw [List.getElem?_eq_getElem h2]; unfold rd_L5; rw [List.getD_eq_getElem?_getD, List.getElem?_eq_getElem h2]; rfl
def KL3 : EK (List Int) := .sls 3 (.int .i64) rd_L5 rd_L5_at
theorem ti3 : tiOf Try.prog 3 = some ⟨false, 1, [.int .i64 0], none, [], some .i64, false, false, false, 8, none⟩ := by kernel_rfl
theorem ti4 : tiOf Try.prog 4 = some ⟨false, 1, [.bool false], none, [], none, true, false, false, 1, none⟩ := by kernel_rfl
theorem ti20 : tiOf Try.prog 20 = some ⟨false, 1, [.nilIface], none, [], none, false, false, false, 16, none⟩ := by kernel_rfl
theorem ti22 : tiOf Try.prog 22 = some ⟨false, 1, [.slice none 0 0], some 3, [], none, false, false, false, 24, none⟩ := by kernel_rfl
theorem ti24 : tiOf Try.prog 24 = some ⟨true, 2, [.slice none 0 0, .int .i64 0], none, [(0, 1), (1, 1)], none, false, false, true, 32, none⟩ := by kernel_rfl
theorem ti25 : tiOf Try.prog 25 = some ⟨false, 1, [.slice none 0 0], some 57, [], none, false, false, false, 24, none⟩ := by kernel_rfl
theorem ti30 : tiOf Try.prog 30 = some ⟨true, 2, [.slice none 0 0, .int .i64 0], none, [(0, 1), (1, 1)], none, false, false, true, 32, none⟩ := by kernel_rfl
theorem ti32 : tiOf Try.prog 32 = some ⟨false, 1, [.slice none 0 0], some 55, [], none, false, false, false, 24, none⟩ := by kernel_rfl
theorem ti37 : tiOf Try.prog 37 = some ⟨false, 1, [.slice none 0 0], some 74, [], none, false, false, false, 24, none⟩ := by kernel_rfl
theorem ti39 : tiOf Try.prog 39 = some ⟨false, 1, [.slice none 0 0], some 22, [], none, false, false, false, 24, none⟩ := by kernel_rfl
theorem ti42 : tiOf Try.prog 42 = some ⟨false, 1, [.slice none 0 0], some 72, [], none, false, false, false, 24, none⟩ := by kernel_rfl
theorem ti55 : tiOf Try.prog 55 = some ⟨true, 3, [.int .i64 0, .int .i64 0, .int .i64 0], none, [(0, 1), (1, 1), (2, 1)], none, false, false, true, 24, none⟩ := by kernel_rfl
theorem ti57 : tiOf Try.prog 57 = some ⟨true, 3, [.int .i64 0, .int .i64 0, .int .i64 0], none, [(0, 1), (1, 1), (2, 1)], none, false, false, true, 24, none⟩ := by kernel_rfl
theorem ti62 : tiOf Try.prog 62 = some ⟨false, 1, [.nilFunc], none, [], none, false, false, false, 8, none⟩ := by kernel_rfl
theorem ti72 : tiOf Try.prog 72 = some ⟨true, 3, [.int .i64 0, .int .i64 0, .int .i64 0], none, [(0, 1), (1, 1), (2, 1)], none, false, false, true, 24, none⟩ := by kernel_rfl
theorem ti74 : tiOf Try.prog 74 = some ⟨true, 3, [.int .i64 0, .int .i64 0, .int .i64 0], none, [(0, 1), (1, 1), (2, 1)], none, false, false, true, 24, none⟩ := by kernel_rfl
theorem ti91 : tiOf Try.prog 91 = some ⟨false, 1, [.nilFunc], none, [], none, false, false, false, 8, none⟩ := by kernel_rfl
def TT : List (Nat × TI) := [(3, ⟨false, 1, [.int .i64 0], none, [], some .i64, false, false, false, 8, some ⟨Int, (.int .i64)⟩⟩),
  (4, ⟨false, 1, [.bool false], none, [], none, true, false, false, 1, some ⟨Bool, .bool⟩⟩),
  (20, ⟨false, 1, [.nilIface], none, [], none, false, false, false, 16, none⟩),
  (22, ⟨false, 1, [.slice none 0 0], some 3, [], none, false, false, false, 24, some ⟨List Int, KL3⟩⟩),
  (24, ⟨true, 2, [.slice none 0 0, .int .i64 0], none, [(0, 1), (1, 1)], none, false, false, true, 32, none⟩),
  (25, ⟨false, 1, [.slice none 0 0], some 57, [], none, false, false, false, 24, none⟩),
  (30, ⟨true, 2, [.slice none 0 0, .int .i64 0], none, [(0, 1), (1, 1)], none, false, false, true, 32, none⟩),
  (32, ⟨false, 1, [.slice none 0 0], some 55, [], none, false, false, false, 24, some ⟨List S55, KL55⟩⟩),
  (37, ⟨false, 1, [.slice none 0 0], some 74, [], none, false, false, false, 24, none⟩),
  (39, ⟨false, 1, [.slice none 0 0], some 22, [], none, false, false, false, 24, none⟩),
  (42, ⟨false, 1, [.slice none 0 0], some 72, [], none, false, false, false, 24, none⟩),
  (55, ⟨true, 3, [.int .i64 0, .int .i64 0, .int .i64 0], none, [(0, 1), (1, 1), (2, 1)], none, false, false, true, 24, some ⟨S55, K55⟩⟩),
  (57, ⟨true, 3, [.int .i64 0, .int .i64 0, .int .i64 0], none, [(0, 1), (1, 1), (2, 1)], none, false, false, true, 24, some ⟨S57, K57⟩⟩),
  (62, ⟨false, 1, [.nilFunc], none, [], none, false, false, false, 8, none⟩),
  (72, ⟨true, 3, [.int .i64 0, .int .i64 0, .int .i64 0], none, [(0, 1), (1, 1), (2, 1)], none, false, false, true, 24, none⟩),
  (74, ⟨true, 3, [.int .i64 0, .int .i64 0, .int .i64 0], none, [(0, 1), (1, 1), (2, 1)], none, false, false, true, 24, none⟩),
  (91, ⟨false, 1, [.nilFunc], none, [], none, false, false, false, 8, none⟩)]
def II : Nat → Option TI := lookT TT
theorem hI : ∀ t ti, II t = some ti → TiOk Try.prog t ti := lookT_ok (.cons ti3 (.cons ti4 (.cons ti20 (.cons ti22 (.cons ti24 (.cons ti25 (.cons ti30 (.cons ti32 (.cons ti37 (.cons ti39 (.cons ti42 (.cons ti55 (.cons ti57 (.cons ti62 (.cons ti72 (.cons ti74 (.cons ti91 (.nil))))))))))))))))))
end Go.Proofs.Ytafapmanfncfkaa.D
