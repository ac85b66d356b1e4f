/- The program's types in a table, and the kinds of the elements of its rows. No condition. -/
import Derived.Test.YtlhhjdlaljmppaaProg
import Derived.Test.YtlhhjdlaljmppaaT0
import Derived.Test.YtlhhjdlaljmppaaTE3
set_option linter.unusedVariables false
set_option linter.unusedSimpArgs false
namespace Go.Proofs.Ytlhhjdlaljmppaa.T
open Go.RowKit Go.Proofs Go.Proofs.YtlhhjdlaljmppaaW.PrintWords Go.Proofs.YtlhhjdlaljmppaaW.PrintLast EV
theorem k60_iff (w : World) (x : S60) (cs : List Value) : k60.K w x cs ↔ cs = [fun x => .int .i64 x.f0, fun x => .int .i64 x.f1, fun x => .int .i64 x.f2].map fun f : S60 → Value => f x := ⟨k60_open, fun h => by rw [h]; exact k60_mk w x⟩
theorem rd_T60_at (xs : List S60) (i : Int) (h0 : 0 ≤ i) (h1 : i < (xs.length : Int)) : xs[i.toNat]? = some (rd_T60 xs i) := by
  have h2 : i.toNat < xs.length := by omega
  rw [List.getElem?_eq_getElem h2]; unfold rd_T60; rw [List.getD_eq_getElem?_getD, List.getElem?_eq_getElem h2]; rfl
def mk60 (cs : List Value) : Option S60 := match cs with | [.int .i64 a0, .int .i64 a1, .int .i64 a2] => some ⟨a0, a1, a2⟩ | _ => none
theorem mk60_at (cs : List Value) (p : S60) (h : mk60 cs = some p) : cs = [fun x => .int .i64 x.f0, fun x => .int .i64 x.f1, fun x => .int .i64 x.f2].map fun f : S60 → Value => f p := by
  unfold mk60 at h
  split at h
  · cases h; rfl
  · cases h
def K60 : EK S60 := .st k60 [fun x => .int .i64 x.f0, fun x => .int .i64 x.f1, fun x => .int .i64 x.f2] rd_T60 k60_iff (by intro f hf p; simp only [List.mem_cons, List.not_mem_nil, or_false] at hf; rcases hf with rfl | rfl | rfl <;> rfl) rd_T60_at mk60 mk60_at
theorem rd_L3_at (xs : List (List S60)) (i : Int) (h0 : 0 ≤ i) (h1 : i < (xs.length : Int)) : xs[i.toNat]? = some (rd_L3 xs i) := by
  have h2 : i.toNat < xs.length := by omega
  rw [List.getElem?_eq_getElem h2]; unfold rd_L3; rw [List.getD_eq_getElem?_getD, List.getElem?_eq_getElem h2]; rfl
def KL60 : EK (List S60) := .sls 60 K60 rd_L3 rd_L3_at
theorem rd_L8_at (xs : List (List Int)) (i : Int) (h0 : 0 ≤ i) (h1 : i < (xs.length : Int)) : xs[i.toNat]? = some (rd_L8 xs i) := by
  have h2 : i.toNat < xs.length := by omega
  rw [List.getElem?_eq_getElem h2]; unfold rd_L8; rw [List.getD_eq_getElem?_getD, List.getElem?_eq_getElem h2]; rfl
def KL3 : EK (List Int) := .sls 3 (.int .i64) rd_L8 rd_L8_at
theorem ti3 : tiOf Try.prog 3 = some ⟨false, 1, [.int .i64 0], none, [], some .i64, false, false, false, 8, none, none⟩ := by kernel_rfl
theorem ti4 : tiOf Try.prog 4 = some ⟨false, 1, [.bool false], none, [], none, true, false, false, 1, none, none⟩ := by kernel_rfl
theorem ti5 : tiOf Try.prog 5 = some ⟨false, 1, [.int .u8 0], none, [], some .u8, false, false, false, 1, none, none⟩ := by kernel_rfl
theorem ti22 : tiOf Try.prog 22 = some ⟨false, 1, [.slice none 0 0], some 5, [], none, false, false, false, 24, none, none⟩ := by kernel_rfl
theorem ti24 : tiOf Try.prog 24 = some ⟨false, 1, [.slice none 0 0], some 3, [], none, false, false, false, 24, none, none⟩ := by kernel_rfl
theorem ti26 : tiOf Try.prog 26 = some ⟨true, 2, [.slice none 0 0, .int .i64 0], none, [(0, 1), (1, 1)], none, false, false, true, 32, none, none⟩ := by kernel_rfl
theorem ti27 : tiOf Try.prog 27 = some ⟨false, 1, [.slice none 0 0], some 60, [], none, false, false, false, 24, none, none⟩ := by kernel_rfl
theorem ti48 : tiOf Try.prog 48 = some ⟨false, 1, [.nilFunc], none, [], none, false, false, false, 8, none, none⟩ := by kernel_rfl
theorem ti52 : tiOf Try.prog 52 = some ⟨false, 1, [.pointer none], none, [], none, false, false, false, 8, none, none⟩ := by kernel_rfl
theorem ti53 : tiOf Try.prog 53 = some ⟨false, 1, [.int .u64 0], none, [], some .u64, false, false, false, 8, none, none⟩ := by kernel_rfl
theorem ti55 : tiOf Try.prog 55 = some ⟨true, 3, [.slice none 0 0, .int .i64 0, .int .u64 0], none, [(0, 1), (1, 1), (2, 1)], none, false, false, true, 40, none, none⟩ := by kernel_rfl
theorem ti60 : tiOf Try.prog 60 = some ⟨true, 3, [.int .i64 0, .int .i64 0, .int .i64 0], none, [(0, 1), (1, 1), (2, 1)], none, false, false, true, 24, none, none⟩ := by kernel_rfl
theorem ti75 : tiOf Try.prog 75 = some ⟨false, 1, [.pointer none], none, [], none, false, false, false, 8, none, none⟩ := by kernel_rfl
theorem ti76 : tiOf Try.prog 76 = some ⟨false, 1, [.int .u64 0], none, [], some .u64, false, false, false, 8, none, none⟩ := by kernel_rfl
theorem ti82 : tiOf Try.prog 82 = some ⟨false, 1, [.int .i64 0], none, [], some .i64, false, false, false, 8, none, none⟩ := by kernel_rfl
theorem ti89 : tiOf Try.prog 89 = some ⟨false, 1, [.int .u32 0], none, [], some .u32, false, false, false, 4, none, none⟩ := by kernel_rfl
theorem ti91 : tiOf Try.prog 91 = some ⟨false, 1, [.int .u64 0], none, [], some .u64, false, false, false, 8, none, none⟩ := by kernel_rfl
theorem ti95 : tiOf Try.prog 95 = some ⟨false, 1, [.pointer none], none, [], none, false, false, false, 8, none, none⟩ := by kernel_rfl
theorem ti97 : tiOf Try.prog 97 = some ⟨false, 1, [.pointer none], none, [], none, false, false, false, 8, none, none⟩ := by kernel_rfl
def TT : List (Nat × TI) := [(3, ⟨false, 1, [.int .i64 0], none, [], some .i64, false, false, false, 8, none, some ⟨Int, (.int .i64)⟩⟩),
  (4, ⟨false, 1, [.bool false], none, [], none, true, false, false, 1, none, some ⟨Bool, .bool⟩⟩),
  (5, ⟨false, 1, [.int .u8 0], none, [], some .u8, false, false, false, 1, none, none⟩),
  (22, ⟨false, 1, [.slice none 0 0], some 5, [], none, false, false, false, 24, none, none⟩),
  (24, ⟨false, 1, [.slice none 0 0], some 3, [], none, false, false, false, 24, none, some ⟨List Int, KL3⟩⟩),
  (26, ⟨true, 2, [.slice none 0 0, .int .i64 0], none, [(0, 1), (1, 1)], none, false, false, true, 32, none, none⟩),
  (27, ⟨false, 1, [.slice none 0 0], some 60, [], none, false, false, false, 24, none, some ⟨List S60, KL60⟩⟩),
  (48, ⟨false, 1, [.nilFunc], none, [], none, false, false, false, 8, none, none⟩),
  (52, ⟨false, 1, [.pointer none], none, [], none, false, false, false, 8, none, none⟩),
  (53, ⟨false, 1, [.int .u64 0], none, [], some .u64, false, false, false, 8, none, none⟩),
  (55, ⟨true, 3, [.slice none 0 0, .int .i64 0, .int .u64 0], none, [(0, 1), (1, 1), (2, 1)], none, false, false, true, 40, none, none⟩),
  (60, ⟨true, 3, [.int .i64 0, .int .i64 0, .int .i64 0], none, [(0, 1), (1, 1), (2, 1)], none, false, false, true, 24, none, some ⟨S60, K60⟩⟩),
  (75, ⟨false, 1, [.pointer none], none, [], none, false, false, false, 8, none, none⟩),
  (76, ⟨false, 1, [.int .u64 0], none, [], some .u64, false, false, false, 8, none, none⟩),
  (82, ⟨false, 1, [.int .i64 0], none, [], some .i64, false, false, false, 8, none, some ⟨Int, (.int .i64)⟩⟩),
  (89, ⟨false, 1, [.int .u32 0], none, [], some .u32, false, false, false, 4, none, none⟩),
  (91, ⟨false, 1, [.int .u64 0], none, [], some .u64, false, false, false, 8, none, none⟩),
  (95, ⟨false, 1, [.pointer none], none, [], none, false, false, false, 8, none, none⟩),
  (97, ⟨false, 1, [.pointer none], none, [], none, false, false, false, 8, none, none⟩)]
def II : Nat → Option TI := lookT TT
theorem hI : ∀ t ti, II t = some ti → TiOk Try.prog t ti := lookT_ok (.cons ti3 (.cons ti4 (.cons ti5 (.cons ti22 (.cons ti24 (.cons ti26 (.cons ti27 (.cons ti48 (.cons ti52 (.cons ti53 (.cons ti55 (.cons ti60 (.cons ti75 (.cons ti76 (.cons ti82 (.cons ti89 (.cons ti91 (.cons ti95 (.cons ti97 (.nil))))))))))))))))))))
end Go.Proofs.Ytlhhjdlaljmppaa.T
