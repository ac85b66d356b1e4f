/- The program's types in a table, and the kinds of the elements of its rows. No condition. -/
import Derived.Test.YtlhhjdlaljmppaaGreatProg
import Derived.Test.YtlhhjdlaljmppaaGreatT0
import Derived.Test.YtlhhjdlaljmppaaGreatTE3
set_option linter.unusedVariables false
set_option linter.unusedSimpArgs false
namespace Go.Proofs.YtlhhjdlaljmppaaGreat.T
open Go.RowKit Go.Proofs Go.Proofs.YtlhhjdlaljmppaaGreatW.PrintWords Go.Proofs.YtlhhjdlaljmppaaGreatW.PrintLast EV
theorem k47_iff (w : World) (x : S47) (cs : List Value) : k47.K w x cs ↔ cs = [fun x => .int .i64 x.f0, fun x => .int .i64 x.f1, fun x => .int .i64 x.f2].map fun f : S47 → Value => f x := ⟨k47_open, fun h => by rw [h]; exact k47_mk w x⟩
theorem rd_T47_at (xs : List S47) (i : Int) (h0 : 0 ≤ i) (h1 : i < (xs.length : Int)) : xs[i.toNat]? = some (rd_T47 xs i) := by
  have h2 : i.toNat < xs.length := by omega
  rw [List.getElem?_eq_getElem h2]; unfold rd_T47; rw [List.getD_eq_getElem?_getD, List.getElem?_eq_getElem h2]; rfl
def mk47 (cs : List Value) : Option S47 := match cs with | [.int .i64 a0, .int .i64 a1, .int .i64 a2] => some ⟨a0, a1, a2⟩ | _ => none
theorem mk47_at (cs : List Value) (p : S47) (h : mk47 cs = some p) : cs = [fun x => .int .i64 x.f0, fun x => .int .i64 x.f1, fun x => .int .i64 x.f2].map fun f : S47 → Value => f p := by
  unfold mk47 at h
  split at h
  · cases h; rfl
  · cases h
def K47 : EK S47 := .st k47 [fun x => .int .i64 x.f0, fun x => .int .i64 x.f1, fun x => .int .i64 x.f2] rd_T47 k47_iff (by intro f hf p; simp only [List.mem_cons, List.not_mem_nil, or_false] at hf; rcases hf with rfl | rfl | rfl <;> rfl) rd_T47_at mk47 mk47_at
theorem rd_L3_at (xs : List (List Int)) (i : Int) (h0 : 0 ≤ i) (h1 : i < (xs.length : Int)) : xs[i.toNat]? = some (rd_L3 xs i) := by
  have h2 : i.toNat < xs.length := by omega
  rw [List.getElem?_eq_getElem h2]; unfold rd_L3; rw [List.getD_eq_getElem?_getD, List.getElem?_eq_getElem h2]; rfl
def KL3 : EK (List Int) := .sls 3 (.int .i64) rd_L3 rd_L3_at
theorem rd_L6_at (xs : List (List S47)) (i : Int) (h0 : 0 ≤ i) (h1 : i < (xs.length : Int)) : xs[i.toNat]? = some (rd_L6 xs i) := by
  have h2 : i.toNat < xs.length := by omega
  rw [List.getElem?_eq_getElem h2]; unfold rd_L6; rw [List.getD_eq_getElem?_getD, List.getElem?_eq_getElem h2]; rfl
def KL47 : EK (List S47) := .sls 47 K47 rd_L6 rd_L6_at
theorem ti3 : tiOf Tryz.prog 3 = some ⟨false, 1, [.int .i64 0], none, [], some .i64, false, false, false, 8, none, none⟩ := by kernel_rfl
theorem ti4 : tiOf Tryz.prog 4 = some ⟨false, 1, [.bool false], none, [], none, true, false, false, 1, none, none⟩ := by kernel_rfl
theorem ti5 : tiOf Tryz.prog 5 = some ⟨false, 1, [.int .u8 0], none, [], some .u8, false, false, false, 1, none, none⟩ := by kernel_rfl
theorem ti17 : tiOf Tryz.prog 17 = some ⟨false, 1, [.pointer none], none, [], none, false, false, false, 8, none, none⟩ := by kernel_rfl
theorem ti20 : tiOf Tryz.prog 20 = some ⟨false, 1, [.nilIface], none, [], none, false, false, false, 16, none, none⟩ := by kernel_rfl
theorem ti22 : tiOf Tryz.prog 22 = some ⟨false, 1, [.slice none 0 0], some 5, [], none, false, false, false, 24, none, none⟩ := by kernel_rfl
theorem ti24 : tiOf Tryz.prog 24 = some ⟨false, 1, [.slice none 0 0], some 3, [], none, false, false, false, 24, none, none⟩ := by kernel_rfl
theorem ti26 : tiOf Tryz.prog 26 = some ⟨true, 2, [.slice none 0 0, .int .i64 0], none, [(0, 1), (1, 1)], none, false, false, true, 32, none, none⟩ := by kernel_rfl
theorem ti32 : tiOf Tryz.prog 32 = some ⟨false, 1, [.nilFunc], none, [], none, false, false, false, 8, none, none⟩ := by kernel_rfl
theorem ti33 : tiOf Tryz.prog 33 = some ⟨false, 1, [.slice none 0 0], some 47, [], none, false, false, false, 24, none, none⟩ := by kernel_rfl
theorem ti47 : tiOf Tryz.prog 47 = some ⟨true, 3, [.int .i64 0, .int .i64 0, .int .i64 0], none, [(0, 1), (1, 1), (2, 1)], none, false, false, true, 24, none, none⟩ := by kernel_rfl
theorem ti65 : tiOf Tryz.prog 65 = some ⟨false, 1, [.pointer none], none, [], none, false, false, false, 8, none, none⟩ := by kernel_rfl
theorem ti66 : tiOf Tryz.prog 66 = some ⟨false, 1, [.int .u64 0], none, [], some .u64, false, false, false, 8, none, none⟩ := by kernel_rfl
theorem ti68 : tiOf Tryz.prog 68 = some ⟨true, 3, [.slice none 0 0, .int .i64 0, .int .u64 0], none, [(0, 1), (1, 1), (2, 1)], none, false, false, true, 40, none, none⟩ := by kernel_rfl
theorem ti83 : tiOf Tryz.prog 83 = some ⟨false, 1, [.nilFunc], none, [], none, false, false, false, 8, none, none⟩ := by kernel_rfl
theorem ti84 : tiOf Tryz.prog 84 = some ⟨false, 1, [.int .u64 0], none, [], some .u64, false, false, false, 8, none, none⟩ := by kernel_rfl
theorem ti85 : tiOf Tryz.prog 85 = some ⟨false, 1, [.pointer none], none, [], none, false, false, false, 8, none, none⟩ := by kernel_rfl
theorem ti86 : tiOf Tryz.prog 86 = some ⟨false, 1, [.pointer none], none, [], none, false, false, false, 8, none, none⟩ := by kernel_rfl
theorem ti87 : tiOf Tryz.prog 87 = some ⟨false, 1, [.int .u64 0], none, [], some .u64, false, false, false, 8, none, none⟩ := by kernel_rfl
theorem ti89 : tiOf Tryz.prog 89 = some ⟨true, 3, [.pointer none, .pointer none, .int .u64 0], none, [(0, 1), (1, 1), (2, 1)], none, false, false, true, 24, none, none⟩ := by kernel_rfl
theorem ti91 : tiOf Tryz.prog 91 = some ⟨false, 1, [.nilFunc], none, [], none, false, false, false, 8, none, none⟩ := by kernel_rfl
theorem ti95 : tiOf Tryz.prog 95 = some ⟨true, 2, [.nilFunc, .nilFunc], none, [(0, 1), (1, 1)], none, false, false, true, 16, none, none⟩ := by kernel_rfl
theorem ti105 : tiOf Tryz.prog 105 = some ⟨false, 1, [.int .i64 0], none, [], some .i64, false, false, false, 8, none, none⟩ := by kernel_rfl
theorem ti111 : tiOf Tryz.prog 111 = some ⟨false, 1, [.int .u32 0], none, [], some .u32, false, false, false, 4, none, none⟩ := by kernel_rfl
theorem ti113 : tiOf Tryz.prog 113 = some ⟨false, 1, [.int .u64 0], none, [], some .u64, false, false, false, 8, none, none⟩ := by kernel_rfl
theorem ti117 : tiOf Tryz.prog 117 = some ⟨false, 1, [.pointer none], none, [], none, false, false, false, 8, none, none⟩ := by kernel_rfl
theorem ti119 : tiOf Tryz.prog 119 = some ⟨false, 1, [.pointer none], none, [], none, false, false, false, 8, none, none⟩ := by kernel_rfl
def TT : List (Nat × TI) := [(3, ⟨false, 1, [.int .i64 0], none, [], some .i64, false, false, false, 8, none, some ⟨Int, (.int .i64)⟩⟩),
  (4, ⟨false, 1, [.bool false], none, [], none, true, false, false, 1, none, some ⟨Bool, .bool⟩⟩),
  (5, ⟨false, 1, [.int .u8 0], none, [], some .u8, false, false, false, 1, none, none⟩),
  (17, ⟨false, 1, [.pointer none], none, [], none, false, false, false, 8, none, none⟩),
  (20, ⟨false, 1, [.nilIface], none, [], none, false, false, false, 16, none, none⟩),
  (22, ⟨false, 1, [.slice none 0 0], some 5, [], none, false, false, false, 24, none, none⟩),
  (24, ⟨false, 1, [.slice none 0 0], some 3, [], none, false, false, false, 24, none, some ⟨List Int, KL3⟩⟩),
  (26, ⟨true, 2, [.slice none 0 0, .int .i64 0], none, [(0, 1), (1, 1)], none, false, false, true, 32, none, none⟩),
  (32, ⟨false, 1, [.nilFunc], none, [], none, false, false, false, 8, none, none⟩),
  (33, ⟨false, 1, [.slice none 0 0], some 47, [], none, false, false, false, 24, none, some ⟨List S47, KL47⟩⟩),
  (47, ⟨true, 3, [.int .i64 0, .int .i64 0, .int .i64 0], none, [(0, 1), (1, 1), (2, 1)], none, false, false, true, 24, none, some ⟨S47, K47⟩⟩),
  (65, ⟨false, 1, [.pointer none], none, [], none, false, false, false, 8, none, none⟩),
  (66, ⟨false, 1, [.int .u64 0], none, [], some .u64, false, false, false, 8, none, none⟩),
  (68, ⟨true, 3, [.slice none 0 0, .int .i64 0, .int .u64 0], none, [(0, 1), (1, 1), (2, 1)], none, false, false, true, 40, none, none⟩),
  (83, ⟨false, 1, [.nilFunc], none, [], none, false, false, false, 8, none, none⟩),
  (84, ⟨false, 1, [.int .u64 0], none, [], some .u64, false, false, false, 8, none, none⟩),
  (85, ⟨false, 1, [.pointer none], none, [], none, false, false, false, 8, none, none⟩),
  (86, ⟨false, 1, [.pointer none], none, [], none, false, false, false, 8, none, none⟩),
  (87, ⟨false, 1, [.int .u64 0], none, [], some .u64, false, false, false, 8, none, none⟩),
  (89, ⟨true, 3, [.pointer none, .pointer none, .int .u64 0], none, [(0, 1), (1, 1), (2, 1)], none, false, false, true, 24, none, none⟩),
  (91, ⟨false, 1, [.nilFunc], none, [], none, false, false, false, 8, none, none⟩),
  (95, ⟨true, 2, [.nilFunc, .nilFunc], none, [(0, 1), (1, 1)], none, false, false, true, 16, none, none⟩),
  (105, ⟨false, 1, [.int .i64 0], none, [], some .i64, false, false, false, 8, none, some ⟨Int, (.int .i64)⟩⟩),
  (111, ⟨false, 1, [.int .u32 0], none, [], some .u32, false, false, false, 4, none, none⟩),
  (113, ⟨false, 1, [.int .u64 0], none, [], some .u64, false, false, false, 8, none, none⟩),
  (117, ⟨false, 1, [.pointer none], none, [], none, false, false, false, 8, none, none⟩),
  (119, ⟨false, 1, [.pointer none], none, [], none, false, false, false, 8, none, none⟩)]
def II : Nat → Option TI := lookT TT
theorem hI : ∀ t ti, II t = some ti → TiOk Tryz.prog t ti := lookT_ok (.cons ti3 (.cons ti4 (.cons ti5 (.cons ti17 (.cons ti20 (.cons ti22 (.cons ti24 (.cons ti26 (.cons ti32 (.cons ti33 (.cons ti47 (.cons ti65 (.cons ti66 (.cons ti68 (.cons ti83 (.cons ti84 (.cons ti85 (.cons ti86 (.cons ti87 (.cons ti89 (.cons ti91 (.cons ti95 (.cons ti105 (.cons ti111 (.cons ti113 (.cons ti117 (.cons ti119 (.nil))))))))))))))))))))))))))))
end Go.Proofs.YtlhhjdlaljmppaaGreat.T
