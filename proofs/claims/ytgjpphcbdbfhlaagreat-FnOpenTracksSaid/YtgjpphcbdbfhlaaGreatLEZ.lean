/- The program's types in a table, and the kinds of the elements of its rows. No condition. -/
import Derived.Test.YtgjpphcbdbfhlaaGreatProg
import Derived.Test.YtgjpphcbdbfhlaaGreatL0
import Derived.Test.YtgjpphcbdbfhlaaGreatLE3
set_option linter.unusedVariables false
set_option linter.unusedSimpArgs false
namespace Go.Proofs.YtgjpphcbdbfhlaaGreat.L
open Go.RowKit Go.Proofs Go.Proofs.YtgjpphcbdbfhlaaGreatW.PrintWords Go.Proofs.YtgjpphcbdbfhlaaGreatW.PrintLast EV
theorem k36_iff (w : World) (x : S36) (cs : List Value) : k36.K w x cs ↔ cs = [fun x => .int .i64 x.f0, fun x => .int .i64 x.f1, fun x => .int .i64 x.f2].map fun f : S36 → Value => f x := ⟨k36_open, fun h => by rw [h]; exact k36_mk w x⟩
theorem rd_T36_at (xs : List S36) (i : Int) (h0 : 0 ≤ i) (h1 : i < (xs.length : Int)) : xs[i.toNat]? = some (rd_T36 xs i) := by
  have h2 : i.toNat < xs.length := by omega
  rw [List.getElem?_eq_getElem h2]; unfold rd_T36; rw [List.getD_eq_getElem?_getD, List.getElem?_eq_getElem h2]; rfl
def mk36 (cs : List Value) : Option S36 := match cs with | [.int .i64 a0, .int .i64 a1, .int .i64 a2] => some ⟨a0, a1, a2⟩ | _ => none
theorem mk36_at (cs : List Value) (p : S36) (h : mk36 cs = some p) : cs = [fun x => .int .i64 x.f0, fun x => .int .i64 x.f1, fun x => .int .i64 x.f2].map fun f : S36 → Value => f p := by
  unfold mk36 at h
  split at h
  · cases h; rfl
  · cases h
def K36 : EK S36 := .st k36 [fun x => .int .i64 x.f0, fun x => .int .i64 x.f1, fun x => .int .i64 x.f2] rd_T36 k36_iff (by intro f hf p; simp only [List.mem_cons, List.not_mem_nil, or_false] at hf; rcases hf with rfl | rfl | rfl <;> rfl) rd_T36_at mk36 mk36_at
theorem k40_iff (w : World) (x : S40) (cs : List Value) : k40.K w x cs ↔ cs = [fun x => .int .i64 x.f0, fun x => .int .i64 x.f1, fun x => .int .i64 x.f2].map fun f : S40 → Value => f x := ⟨k40_open, fun h => by rw [h]; exact k40_mk w x⟩
theorem rd_T40_at (xs : List S40) (i : Int) (h0 : 0 ≤ i) (h1 : i < (xs.length : Int)) : xs[i.toNat]? = some (rd_T40 xs i) := by
  have h2 : i.toNat < xs.length := by omega
  rw [List.getElem?_eq_getElem h2]; unfold rd_T40; rw [List.getD_eq_getElem?_getD, List.getElem?_eq_getElem h2]; rfl
def mk40 (cs : List Value) : Option S40 := match cs with | [.int .i64 a0, .int .i64 a1, .int .i64 a2] => some ⟨a0, a1, a2⟩ | _ => none
theorem mk40_at (cs : List Value) (p : S40) (h : mk40 cs = some p) : cs = [fun x => .int .i64 x.f0, fun x => .int .i64 x.f1, fun x => .int .i64 x.f2].map fun f : S40 → Value => f p := by
  unfold mk40 at h
  split at h
  · cases h; rfl
  · cases h
def K40 : EK S40 := .st k40 [fun x => .int .i64 x.f0, fun x => .int .i64 x.f1, fun x => .int .i64 x.f2] rd_T40 k40_iff (by intro f hf p; simp only [List.mem_cons, List.not_mem_nil, or_false] at hf; rcases hf with rfl | rfl | rfl <;> rfl) rd_T40_at mk40 mk40_at
theorem rd_L3_at (xs : List (List S36)) (i : Int) (h0 : 0 ≤ i) (h1 : i < (xs.length : Int)) : xs[i.toNat]? = some (rd_L3 xs i) := by
  have h2 : i.toNat < xs.length := by omega
  rw [List.getElem?_eq_getElem h2]; unfold rd_L3; rw [List.getD_eq_getElem?_getD, List.getElem?_eq_getElem h2]; rfl
def KL36 : EK (List S36) := .sls 36 K36 rd_L3 rd_L3_at
theorem rd_L8_at (xs : List (List Int)) (i : Int) (h0 : 0 ≤ i) (h1 : i < (xs.length : Int)) : xs[i.toNat]? = some (rd_L8 xs i) := by
  have h2 : i.toNat < xs.length := by omega
  rw [List.getElem?_eq_getElem h2]; unfold rd_L8; rw [List.getD_eq_getElem?_getD, List.getElem?_eq_getElem h2]; rfl
def KL3 : EK (List Int) := .sls 3 (.int .i64) rd_L8 rd_L8_at
theorem rd_L11_at (xs : List (List S40)) (i : Int) (h0 : 0 ≤ i) (h1 : i < (xs.length : Int)) : xs[i.toNat]? = some (rd_L11 xs i) := by
  have h2 : i.toNat < xs.length := by omega
  rw [List.getElem?_eq_getElem h2]; unfold rd_L11; rw [List.getD_eq_getElem?_getD, List.getElem?_eq_getElem h2]; rfl
def KL40 : EK (List S40) := .sls 40 K40 rd_L11 rd_L11_at
section
open Go.RowKit Go.Proofs.YtgjpphcbdbfhlaaGreatW.PrintWords Go.Proofs.YtgjpphcbdbfhlaaGreatW.PrintLast Go.Proofs.YtgjpphcbdbfhlaaGreatW.PrintMore
theorem eqA36 (d : Nat) (w : World) (x0 y0 : Int) (x1 y1 : Int) (x2 y2 : Int) :
    (Op.equalIn (d + 2) 36 (.agg #[.int .i64 x0, .int .i64 x1, .int .i64 x2]) (.agg #[.int .i64 y0, .int .i64 y1, .int .i64 y2])).run Tryz.prog w = .ok (x0 == y0 && (x1 == y1 && (x2 == y2))) w := by
  refine eqA_of Tryz.underlying36 (by kernel_rfl) ?_
  refine eqf_cons (by rfl) (by go_simp; rfl) (by go_simp; rfl) (by go_simp) ?_
  refine eqf_cons (by rfl) (by go_simp; rfl) (by go_simp; rfl) (by go_simp) ?_
  exact eqf_last (by rfl) (by go_simp; rfl) (by go_simp; rfl) (by go_simp)
theorem eqA40 (d : Nat) (w : World) (x0 y0 : Int) (x1 y1 : Int) (x2 y2 : Int) :
    (Op.equalIn (d + 2) 40 (.agg #[.int .i64 x0, .int .i64 x1, .int .i64 x2]) (.agg #[.int .i64 y0, .int .i64 y1, .int .i64 y2])).run Tryz.prog w = .ok (x0 == y0 && (x1 == y1 && (x2 == y2))) w := by
  refine eqA_of Tryz.underlying40 (by kernel_rfl) ?_
  refine eqf_cons (by rfl) (by go_simp; rfl) (by go_simp; rfl) (by go_simp) ?_
  refine eqf_cons (by rfl) (by go_simp; rfl) (by go_simp; rfl) (by go_simp) ?_
  exact eqf_last (by rfl) (by go_simp; rfl) (by go_simp; rfl) (by go_simp)
end
theorem ti3 : tiOf Tryz.prog 3 = some ⟨false, 1, [.int .i64 0], none, [], some .i64, false, false, false, 8, none, none, false⟩ := by kernel_rfl
theorem ti4 : tiOf Tryz.prog 4 = some ⟨false, 1, [.bool false], none, [], none, true, false, false, 1, none, none, false⟩ := by kernel_rfl
theorem ti5 : tiOf Tryz.prog 5 = some ⟨false, 1, [.int .u8 0], none, [], some .u8, false, false, false, 1, none, none, false⟩ := by kernel_rfl
theorem ti17 : tiOf Tryz.prog 17 = some ⟨false, 1, [.pointer none], none, [], none, false, false, false, 8, none, none, false⟩ := by kernel_rfl
theorem ti20 : tiOf Tryz.prog 20 = some ⟨false, 1, [.nilIface], none, [], none, false, false, false, 16, none, none, false⟩ := by kernel_rfl
theorem ti22 : tiOf Tryz.prog 22 = some ⟨false, 1, [.slice none 0 0], some 5, [], none, false, false, false, 24, none, none, false⟩ := by kernel_rfl
theorem ti23 : tiOf Tryz.prog 23 = some ⟨false, 1, [.slice none 0 0], some 3, [], none, false, false, false, 24, none, none, false⟩ := by kernel_rfl
theorem ti25 : tiOf Tryz.prog 25 = some ⟨true, 2, [.slice none 0 0, .int .i64 0], none, [(0, 1), (1, 1)], none, false, false, true, 32, none, none, false⟩ := by kernel_rfl
theorem ti26 : tiOf Tryz.prog 26 = some ⟨false, 1, [.slice none 0 0], some 36, [], none, false, false, false, 24, none, none, false⟩ := by kernel_rfl
theorem ti29 : tiOf Tryz.prog 29 = some ⟨false, 1, [.slice none 0 0], some 40, [], none, false, false, false, 24, none, none, false⟩ := by kernel_rfl
theorem ti36 : tiOf Tryz.prog 36 = some ⟨true, 3, [.int .i64 0, .int .i64 0, .int .i64 0], none, [(0, 1), (1, 1), (2, 1)], none, false, false, true, 24, none, none, false⟩ := by kernel_rfl
theorem ti40 : tiOf Tryz.prog 40 = some ⟨true, 3, [.int .i64 0, .int .i64 0, .int .i64 0], none, [(0, 1), (1, 1), (2, 1)], none, false, false, true, 24, none, none, false⟩ := by kernel_rfl
theorem ti67 : tiOf Tryz.prog 67 = some ⟨false, 1, [.pointer none], none, [], none, false, false, false, 8, none, none, false⟩ := by kernel_rfl
theorem ti68 : tiOf Tryz.prog 68 = some ⟨false, 1, [.int .u64 0], none, [], some .u64, false, false, false, 8, none, none, false⟩ := by kernel_rfl
theorem ti70 : tiOf Tryz.prog 70 = some ⟨true, 3, [.slice none 0 0, .int .i64 0, .int .u64 0], none, [(0, 1), (1, 1), (2, 1)], none, false, false, true, 40, none, none, false⟩ := by kernel_rfl
theorem ti91 : tiOf Tryz.prog 91 = some ⟨true, 2000, [], none, [], none, false, false, false, 16000, some (2000, 3), none, false⟩ := by kernel_rfl
theorem ti103 : tiOf Tryz.prog 103 = some ⟨false, 1, [.pointer none], none, [], none, false, false, false, 8, none, none, false⟩ := by kernel_rfl
theorem ti106 : tiOf Tryz.prog 106 = some ⟨false, 1, [.slice none 0 0], some 23, [], none, false, false, false, 24, none, none, false⟩ := by kernel_rfl
theorem ti111 : tiOf Tryz.prog 111 = some ⟨false, 1, [.pointer none], none, [], none, false, false, false, 8, none, none, false⟩ := by kernel_rfl
theorem ti113 : tiOf Tryz.prog 113 = some ⟨false, 1, [.nilFunc], none, [], none, false, false, false, 8, none, none, false⟩ := by kernel_rfl
theorem ti114 : tiOf Tryz.prog 114 = some ⟨false, 1, [.int .u64 0], none, [], some .u64, false, false, false, 8, none, none, false⟩ := by kernel_rfl
theorem ti117 : tiOf Tryz.prog 117 = some ⟨false, 1, [.pointer none], none, [], none, false, false, false, 8, none, none, false⟩ := by kernel_rfl
theorem ti118 : tiOf Tryz.prog 118 = some ⟨false, 1, [.int .u64 0], none, [], some .u64, false, false, false, 8, none, none, false⟩ := by kernel_rfl
theorem ti120 : tiOf Tryz.prog 120 = some ⟨true, 3, [.pointer none, .pointer none, .int .u64 0], none, [(0, 1), (1, 1), (2, 1)], none, false, false, true, 24, none, none, false⟩ := by kernel_rfl
theorem ti122 : tiOf Tryz.prog 122 = some ⟨false, 1, [.nilFunc], none, [], none, false, false, false, 8, none, none, false⟩ := by kernel_rfl
theorem ti126 : tiOf Tryz.prog 126 = some ⟨true, 2, [.nilFunc, .nilFunc], none, [(0, 1), (1, 1)], none, false, false, true, 16, none, none, false⟩ := by kernel_rfl
theorem ti135 : tiOf Tryz.prog 135 = some ⟨false, 1, [.int .i64 0], none, [], some .i64, false, false, false, 8, none, none, false⟩ := by kernel_rfl
theorem ti141 : tiOf Tryz.prog 141 = some ⟨false, 1, [.int .u32 0], none, [], some .u32, false, false, false, 4, none, none, false⟩ := by kernel_rfl
theorem ti143 : tiOf Tryz.prog 143 = some ⟨false, 1, [.int .u64 0], none, [], some .u64, false, false, false, 8, none, none, false⟩ := by kernel_rfl
theorem ti147 : tiOf Tryz.prog 147 = some ⟨false, 1, [.pointer none], none, [], none, false, false, false, 8, none, none, false⟩ := by kernel_rfl
theorem ti149 : tiOf Tryz.prog 149 = some ⟨false, 1, [.pointer none], none, [], none, false, false, false, 8, none, none, false⟩ := by kernel_rfl
def TT : List (Nat × TI) := [(3, ⟨false, 1, [.int .i64 0], none, [], some .i64, false, false, false, 8, none, some ⟨Int, (.int .i64)⟩, false⟩),
  (4, ⟨false, 1, [.bool false], none, [], none, true, false, false, 1, none, some ⟨Bool, .bool⟩, false⟩),
  (5, ⟨false, 1, [.int .u8 0], none, [], some .u8, false, false, false, 1, none, none, false⟩),
  (17, ⟨false, 1, [.pointer none], none, [], none, false, false, false, 8, none, none, false⟩),
  (20, ⟨false, 1, [.nilIface], none, [], none, false, false, false, 16, none, none, false⟩),
  (22, ⟨false, 1, [.slice none 0 0], some 5, [], none, false, false, false, 24, none, none, false⟩),
  (23, ⟨false, 1, [.slice none 0 0], some 3, [], none, false, false, false, 24, none, some ⟨List Int, KL3⟩, false⟩),
  (25, ⟨true, 2, [.slice none 0 0, .int .i64 0], none, [(0, 1), (1, 1)], none, false, false, true, 32, none, none, false⟩),
  (26, ⟨false, 1, [.slice none 0 0], some 36, [], none, false, false, false, 24, none, some ⟨List S36, KL36⟩, false⟩),
  (29, ⟨false, 1, [.slice none 0 0], some 40, [], none, false, false, false, 24, none, some ⟨List S40, KL40⟩, false⟩),
  (36, ⟨true, 3, [.int .i64 0, .int .i64 0, .int .i64 0], none, [(0, 1), (1, 1), (2, 1)], none, false, false, true, 24, none, some ⟨S36, K36⟩, true⟩),
  (40, ⟨true, 3, [.int .i64 0, .int .i64 0, .int .i64 0], none, [(0, 1), (1, 1), (2, 1)], none, false, false, true, 24, none, some ⟨S40, K40⟩, true⟩),
  (67, ⟨false, 1, [.pointer none], none, [], none, false, false, false, 8, none, none, false⟩),
  (68, ⟨false, 1, [.int .u64 0], none, [], some .u64, false, false, false, 8, none, none, false⟩),
  (70, ⟨true, 3, [.slice none 0 0, .int .i64 0, .int .u64 0], none, [(0, 1), (1, 1), (2, 1)], none, false, false, true, 40, none, none, false⟩),
  (91, ⟨true, 2000, [], none, [], none, false, false, false, 16000, some (2000, 3), none, false⟩),
  (103, ⟨false, 1, [.pointer none], none, [], none, false, false, false, 8, none, none, false⟩),
  (106, ⟨false, 1, [.slice none 0 0], some 23, [], none, false, false, false, 24, none, none, false⟩),
  (111, ⟨false, 1, [.pointer none], none, [], none, false, false, false, 8, none, none, false⟩),
  (113, ⟨false, 1, [.nilFunc], none, [], none, false, false, false, 8, none, none, false⟩),
  (114, ⟨false, 1, [.int .u64 0], none, [], some .u64, false, false, false, 8, none, none, false⟩),
  (117, ⟨false, 1, [.pointer none], none, [], none, false, false, false, 8, none, none, false⟩),
  (118, ⟨false, 1, [.int .u64 0], none, [], some .u64, false, false, false, 8, none, none, false⟩),
  (120, ⟨true, 3, [.pointer none, .pointer none, .int .u64 0], none, [(0, 1), (1, 1), (2, 1)], none, false, false, true, 24, none, none, false⟩),
  (122, ⟨false, 1, [.nilFunc], none, [], none, false, false, false, 8, none, none, false⟩),
  (126, ⟨true, 2, [.nilFunc, .nilFunc], none, [(0, 1), (1, 1)], none, false, false, true, 16, none, none, false⟩),
  (135, ⟨false, 1, [.int .i64 0], none, [], some .i64, false, false, false, 8, none, some ⟨Int, (.int .i64)⟩, false⟩),
  (141, ⟨false, 1, [.int .u32 0], none, [], some .u32, false, false, false, 4, none, none, false⟩),
  (143, ⟨false, 1, [.int .u64 0], none, [], some .u64, false, false, false, 8, none, none, false⟩),
  (147, ⟨false, 1, [.pointer none], none, [], none, false, false, false, 8, none, none, false⟩),
  (149, ⟨false, 1, [.pointer none], none, [], none, false, false, false, 8, none, none, false⟩)]
def II : Nat → Option TI := lookT TT
theorem hI : ∀ t ti, II t = some ti → TiOk Tryz.prog t ti := lookT_ok (.cons ⟨ti3, fun h => absurd h Bool.false_ne_true⟩ (.cons ⟨ti4, fun h => absurd h Bool.false_ne_true⟩ (.cons ⟨ti5, fun h => absurd h Bool.false_ne_true⟩ (.cons ⟨ti17, fun h => absurd h Bool.false_ne_true⟩ (.cons ⟨ti20, fun h => absurd h Bool.false_ne_true⟩ (.cons ⟨ti22, fun h => absurd h Bool.false_ne_true⟩ (.cons ⟨ti23, fun h => absurd h Bool.false_ne_true⟩ (.cons ⟨ti25, fun h => absurd h Bool.false_ne_true⟩ (.cons ⟨ti26, fun h => absurd h Bool.false_ne_true⟩ (.cons ⟨ti29, fun h => absurd h Bool.false_ne_true⟩ (.cons ⟨ti36, fun _ => ⟨eqA36, by kernel_rfl⟩⟩ (.cons ⟨ti40, fun _ => ⟨eqA40, by kernel_rfl⟩⟩ (.cons ⟨ti67, fun h => absurd h Bool.false_ne_true⟩ (.cons ⟨ti68, fun h => absurd h Bool.false_ne_true⟩ (.cons ⟨ti70, fun h => absurd h Bool.false_ne_true⟩ (.cons ⟨ti91, fun h => absurd h Bool.false_ne_true⟩ (.cons ⟨ti103, fun h => absurd h Bool.false_ne_true⟩ (.cons ⟨ti106, fun h => absurd h Bool.false_ne_true⟩ (.cons ⟨ti111, fun h => absurd h Bool.false_ne_true⟩ (.cons ⟨ti113, fun h => absurd h Bool.false_ne_true⟩ (.cons ⟨ti114, fun h => absurd h Bool.false_ne_true⟩ (.cons ⟨ti117, fun h => absurd h Bool.false_ne_true⟩ (.cons ⟨ti118, fun h => absurd h Bool.false_ne_true⟩ (.cons ⟨ti120, fun h => absurd h Bool.false_ne_true⟩ (.cons ⟨ti122, fun h => absurd h Bool.false_ne_true⟩ (.cons ⟨ti126, fun h => absurd h Bool.false_ne_true⟩ (.cons ⟨ti135, fun h => absurd h Bool.false_ne_true⟩ (.cons ⟨ti141, fun h => absurd h Bool.false_ne_true⟩ (.cons ⟨ti143, fun h => absurd h Bool.false_ne_true⟩ (.cons ⟨ti147, fun h => absurd h Bool.false_ne_true⟩ (.cons ⟨ti149, fun h => absurd h Bool.false_ne_true⟩ (.nil))))))))))))))))))))))))))))))))
end Go.Proofs.YtgjpphcbdbfhlaaGreat.L
