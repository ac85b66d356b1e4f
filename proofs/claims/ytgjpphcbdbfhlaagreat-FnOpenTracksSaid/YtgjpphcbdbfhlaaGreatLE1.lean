/- What a call knows of its slots and of the memory that it made, and one operation over it. Over any program. No condition. -/
import Derived.Test.YtgjpphcbdbfhlaaGreatLV
set_option linter.unusedVariables false
set_option linter.unusedSimpArgs false
namespace Go.Proofs.YtgjpphcbdbfhlaaGreat.L.EV
open Go.RowKit Go.Proofs Go.Proofs.YtgjpphcbdbfhlaaGreatW.PrintWords

/-- Kinds of elements: how one lies, and how one is read out of a list. -/
inductive EK : Type → Type 1
  | int (k : IntKind) : EK Int
  | bool : EK Bool
  | str : EK ByteArray
  | st {α : Type} (d : Kd α) (fs : List (α → Value)) (rd : List α → Int → α)
      (hK : ∀ w p cs, d.K w p cs ↔ cs = fs.map fun f => f p) (h1 : ∀ f ∈ fs, ∀ p, (f p).oneCell' = true)
      (hr : ∀ xs i, 0 ≤ i → i < (xs.length : Int) → xs[i.toNat]? = some (rd xs i)) (mk : List Value → Option α) (hm : ∀ cs p, mk cs = some p → cs = fs.map fun f => f p) : EK α
  | sls {α : Type} (e : Nat) (k : EK α) (rd : List (List α) → Int → List α)
      (hr : ∀ xs i, 0 ≤ i → i < (xs.length : Int) → xs[i.toNat]? = some (rd xs i)) : EK (List α)
def EK.sz {α : Type} : EK α → Nat
  | .st _ fs _ _ _ _ _ _ => fs.length
  | _ => 1
def EK.d {α : Type} : EK α → Kd α
  | .int k => Kd.int k
  | .bool => Kd.bool
  | .str => Kd.string
  | .st d _ _ _ _ _ _ _ => d
  | .sls e k _ _ => Kd.slice e k.d
/-- One cell's contents. -/
inductive CV : Type 1
  | any
  | v (x : Value)
  | sl {α : Type} (k : EK α) (xs : List α)
  | bx (b off : Nat)
  | el {α : Type} (k : EK α) (xs : List α) (i : Int) (off : Nat)
  | rp (r : Nat)
  | er (r sz n : Nat) (i : Int) (off : Nat)
  | ow {α : Type} (e : Nat) (k : EK α) (xs : List α)
/-- A value: one cell, a struct's cells, a pointer into memory that nobody writes any more (its cells), an own box (in contracts alone). -/
inductive PV : Type 1
  | c (x : CV)
  | ag (cs : List CV)
  | fb (cs : List CV)
  | ob (T : Nat) (cs : List CV)
inductive AV : Type 1
  | any
  | p (x : PV)
  | tp (l : List PV)
  | fn (f : Nat) (caps : List PV)
  | ai (xs : List Int)
  | mem (T : Nat) (cs : List CV)
  | row {α : Type} (e : Nat) (k : EK α) (xs : List α)
  | fz {α : Type} (k : EK α) (xs : List α)
  | gone
def AV.isMem : AV → Bool
  | .mem _ _ => true
  | .row _ _ _ => true
  | .fz _ _ => true
  | .gone => true
  | _ => false
/-- What is written by its owner: boxes and rows. -/
def AV.isOwn : AV → Bool
  | .mem _ _ => true
  | .row _ _ _ => true
  | _ => false
theorem AV.isOwn_mem {v : AV} (h : v.isOwn = true) : v.isMem = true := by cases v <;> first | rfl | cases h
/-- The block that a row or a pointer is of. -/
def vb : Value → Option Nat
  | .slice (some a) _ _ => some a.block
  | .pointer (some a) => some a.block
  | _ => none

/-! ### Worlds -/
structure Ext (X : Nat → Prop) (w w' : World) : Prop where
  os : w'.os = w.os
  tape : w'.tape = w.tape
  output : w'.output = w.output
  size : w.heap.size ≤ w'.heap.size
  block : ∀ k, k < w.heap.size → ¬ X k → w'.heap[k]? = w.heap[k]?
theorem Ext.refl (X : Nat → Prop) (w : World) : Ext X w w := ⟨rfl, rfl, rfl, Nat.le_refl _, fun _ _ _ => rfl⟩
theorem Ext.trans {X X1 : Nat → Prop} {w w1 w2 : World} (h : Ext X w w1) (k : Ext X1 w1 w2) (hX : ∀ i, X1 i → i < w.heap.size → X i) : Ext X w w2 :=
  ⟨k.os.trans h.os, k.tape.trans h.tape, k.output.trans h.output, Nat.le_trans h.size k.size, fun i hi hn => (k.block i (Nat.lt_of_lt_of_le hi h.size) (fun e => hn (hX i e hi))).trans (h.block i hi hn)⟩
theorem Ext.of_below {X : Nat → Prop} {w w1 : World} (h : Below w.heap.size w w1) : Ext X w w1 := ⟨h.os, h.tape, h.output, h.size, fun i hi _ => h.block i hi⟩
theorem Ext.below {X : Nat → Prop} {w w1 : World} {B : Nat} (h : Ext X w w1) (hB : B ≤ w.heap.size) (hX : ∀ k, X k → B ≤ k) : Below B w w1 := ⟨h.os, h.tape, h.output, h.size, fun i hi => h.block i (Nat.lt_of_lt_of_le hi hB) (fun e => absurd (hX i e) (by omega))⟩
theorem Ext.alloc {X : Nat → Prop} (w : World) (o : Obj) : Ext X w (w.alloc o) := ⟨rfl, rfl, rfl, by simp, fun k hk _ => Below.heap_alloc _ _ _ hk⟩
theorem Ext.mono {X X1 : Nat → Prop} {w w1 : World} (h : Ext X w w1) (hX : ∀ i, X i → i < w.heap.size → X1 i) : Ext X1 w w1 := ⟨h.os, h.tape, h.output, h.size, fun i hi hn => h.block i hi fun e => hn (hX i e hi)⟩
/-- A row that lies apart from the blocks of X. -/
def RowAt {α : Type} (Ra : α → List Value → Prop) (sz : Nat) (X : Nat → Prop) (w : World) (A : Option Addr) (xs : List α) : Prop :=
  xs.length ≤ 9223372036854775807 ∧ (0 < xs.length → ∃ ad, A = some ad ∧ ad.block < w.heap.size ∧ ¬ X ad.block ∧
    ∀ j p, xs[j]? = some p → ∃ c, c.length = sz ∧ Ra p c ∧ ∀ i u, c[i]? = some u → w.cell? (ad.add (j * sz + i)) = some u)
def EK.at_ {α : Type} : EK α → (Nat → Prop) → World → α → List Value → Prop
  | .int k, _, _, x, cs => cs = [.int k x]
  | .bool, _, _, x, cs => cs = [.bool x]
  | .str, _, _, x, cs => cs = [.string x]
  | .st _ fs _ _ _ _ _ _, _, _, x, cs => cs = fs.map fun f => f x
  | .sls _ k _ _, X, w, xs, cs => ∃ A c, cs = [.slice A xs.length c] ∧ xs.length ≤ c ∧ RowAt (k.at_ X w) k.sz X w A xs
def EK.row {α : Type} (k : EK α) (X : Nat → Prop) (w : World) (A : Option Addr) (xs : List α) : Prop := RowAt (k.at_ X w) k.sz X w A xs
theorem RowAt.step {α : Type} {Ra Ra1 : α → List Value → Prop} {sz : Nat} {X X1 : Nat → Prop} {w w1 : World} {A : Option Addr} {xs : List α} (h : RowAt Ra sz X w A xs) (hR : ∀ p c, Ra p c → Ra1 p c) (e : Ext X w w1) (hX : ∀ i, X1 i → i < w.heap.size → X i) :
    RowAt Ra1 sz X1 w1 A xs := by
  refine ⟨h.1, fun hn => ?_⟩
  obtain ⟨ad, e1, e2, e3, e4⟩ := h.2 hn
  refine ⟨ad, e1, Nat.lt_of_lt_of_le e2 e.size, fun hx => e3 (hX _ hx e2), fun j p hj => ?_⟩
  obtain ⟨c, c1, c2, c3⟩ := e4 j p hj
  refine ⟨c, c1, hR _ _ c2, fun i u hu => ?_⟩
  rw [← c3 i u hu]
  have hb : (ad.add (j * sz + i)).block = ad.block := by unfold Addr.add; split <;> rfl
  exact World.cell?_of_block (by rw [hb]; exact e.block _ e2 e3)
theorem EK.at_step {α : Type} {k : EK α} : ∀ {X X1 : Nat → Prop} {w w1 : World} {x : α} {cs : List Value}, k.at_ X w x cs → Ext X w w1 → (∀ i, X1 i → i < w.heap.size → X i) → k.at_ X1 w1 x cs := by
  induction k with
  | sls e k rd hr ih =>
    intro X X1 w w1 x cs h ex hX
    obtain ⟨A, c, e1, e2, e3⟩ := h
    exact ⟨A, c, e1, e2, e3.step (fun p c hp => ih hp ex hX) ex hX⟩
  | _ => exact fun h _ _ => h
theorem EK.row_step {α : Type} {k : EK α} {X X1 : Nat → Prop} {w w1 : World} {A : Option Addr} {xs : List α} (h : k.row X w A xs) (e : Ext X w w1) (hX : ∀ i, X1 i → i < w.heap.size → X i) : k.row X1 w1 A xs :=
  RowAt.step h (fun _ _ hp => EK.at_step hp e hX) e hX

/-- A row of one's own: its block is nobody else's; its elements lie apart from X. -/
def RowOwn {α : Type} (X : Nat → Prop) (w : World) (e : Nat) (k : EK α) (v : Value) (xs : List α) : Prop :=
  ∃ cs, w.ownsRow 0 e k.sz v xs.length cs ∧ Reps (k.at_ X w) k.sz xs cs
theorem RowOwn.form {w : World} {X : Nat → Prop} {α : Type} {k : EK α} {e : Nat} {v : Value} {xs : List α} (h : RowOwn X w e k v xs) : (v = .slice none 0 0 ∧ xs.length = 0) ∨ ∃ g c, v = .slice (some ⟨g, 0, none⟩) xs.length c ∧ xs.length ≤ c := by
  obtain ⟨cs, c1, _⟩ := h
  rcases c1.2 with ⟨h1, h2⟩ | ⟨g, c, _, h1, _, _, h2, _⟩
  · exact .inl ⟨h1, h2⟩
  · exact .inr ⟨g, c, h1, h2⟩
theorem RowOwn.vb {w : World} {X : Nat → Prop} {α : Type} {k : EK α} {e : Nat} {v : Value} {xs : List α} (h : RowOwn X w e k v xs) : vb v = v.ownBlock := by
  rcases h.form with ⟨rfl, _⟩ | ⟨g, c, rfl, _⟩ <;> rfl
theorem RowOwn.kept {α : Type} {k : EK α} {X X1 : Nat → Prop} {w w1 : World} {e : Nat} {v : Value} {xs : List α} (h : RowOwn X w e k v xs) (ex : Ext X w w1) (hX : ∀ i, X1 i → i < w.heap.size → X i) (hb : ∀ b, EV.vb v = some b → w1.heap[b]? = w.heap[b]?) : RowOwn X1 w1 e k v xs := by
  have hv := h.vb
  obtain ⟨cs, h1, h2⟩ := h
  exact ⟨cs, own_move h1 (fun b e => hb b (by rw [hv]; exact e)), h2.imp_ fun p c hp => EK.at_step hp ex hX⟩
theorem RowOwn.lt {α : Type} {k : EK α} {X : Nat → Prop} {w : World} {e : Nat} {v : Value} {xs : List α} (h : RowOwn X w e k v xs) {b : Nat} (hb : EV.vb v = some b) : b < w.heap.size := by
  have hv := h.vb
  obtain ⟨cs, h1, h2⟩ := h
  exact own_lt h1 b (by rw [← hv]; exact hb)

/-! ### Values -/
section
variable (L : Nat → Prop) (X : Nat → Prop) (η : Nat → Value) (w : World)
def CV.rel : CV → Value → Prop
  | .any, _ => True
  | .v x, u => u = x
  | .sl k xs, u => ∃ A c, u = .slice A xs.length c ∧ xs.length ≤ c ∧ k.row X w A xs
  | .bx b off, u => L b ∧ ∃ g, η b = .pointer (some ⟨g, 0, none⟩) ∧ u = .pointer (some ⟨g, off, none⟩)
  | .el k xs i off, u => ∃ ad, u = .pointer (some (ad.add (i.toNat * k.sz + off))) ∧ 0 ≤ i ∧ i < (xs.length : Int) ∧ off < k.sz ∧ k.row X w (some ad) xs
  | .rp r, u => L r ∧ u = η r
  | .er r sz n i off, u => L r ∧ 0 ≤ i ∧ i < (n : Int) ∧ off < sz ∧ ∃ g c, η r = .slice (some ⟨g, 0, none⟩) n c ∧ u = .pointer (some ⟨g, i.toNat * sz + off, none⟩)
  | .ow _ _ _, _ => False
def CVs.rel : List CV → List Value → Prop
  | [], [] => True
  | x :: xs, u :: us => x.rel L X η w u ∧ u.oneCell' = true ∧ CVs.rel xs us
  | _, _ => False
def PV.rel : PV → Value → Prop
  | .c x, u => x.rel L X η w u
  | .ag cs, u => ∃ vs : List Value, u = .agg vs.toArray ∧ CVs.rel L X η w cs vs
  | .fb cs, u => ∃ (ad : Addr) (vs : List Value), u = .pointer (some ad) ∧ ad.block < w.heap.size ∧ ¬ X ad.block ∧ (∀ j v, vs[j]? = some v → w.cell? (ad.add j) = some v) ∧ CVs.rel L X η w cs vs
  | .ob _ _, _ => False
def PVs.rel : List PV → List Value → Prop
  | [], [] => True
  | x :: xs, u :: us => x.rel L X η w u ∧ PVs.rel xs us
  | _, _ => False
def AV.rel : AV → Value → Prop
  | .any, _ => True
  | .p x, u => x.rel L X η w u
  | .tp l, u => ∃ vs : List Value, u = .tuple vs.toArray ∧ PVs.rel L X η w l vs
  | .fn f caps, u => ∃ vs : List Value, u = .func (.func f) #[] vs.toArray ∧ PVs.rel L X η w caps vs
  | .ai xs, u => u = .agg (xs.map (Value.int .i64)).toArray
  | .mem _ _, _ => True
  | .row _ _ _, _ => True
  | .fz _ _, _ => True
  | .gone, _ => True
end
section
variable {L L1 : Nat → Prop} {X X1 : Nat → Prop} {η η1 : Nat → Value} {w w1 : World}
theorem CV.rel_step {x : CV} {u : Value} (h : x.rel L X η w u) (e : Ext X w w1) (hX : ∀ i, X1 i → i < w.heap.size → X i) (hL : ∀ b, L b → L1 b) (hη : ∀ b, L b → η1 b = η b) : x.rel L1 X1 η1 w1 u := by
  cases x with
  | any => exact h
  | v x => exact h
  | sl k xs => obtain ⟨A, c, e1, e2, e3⟩ := h; exact ⟨A, c, e1, e2, EK.row_step e3 e hX⟩
  | bx b off => obtain ⟨h1, h2⟩ := h; exact ⟨hL b h1, by rw [hη b h1]; exact h2⟩
  | el k xs i off => obtain ⟨ad, e1, e2, e3, e4, e5⟩ := h; exact ⟨ad, e1, e2, e3, e4, EK.row_step e5 e hX⟩
  | rp r => obtain ⟨h1, h2⟩ := h; exact ⟨hL r h1, by rw [hη r h1]; exact h2⟩
  | er r sz n i off => obtain ⟨h1, h2, h3, h4, h5⟩ := h; exact ⟨hL r h1, h2, h3, h4, by rw [hη r h1]; exact h5⟩
  | ow e k xs => exact h
theorem CVs.rel_step {e : Ext X w w1} (hX : ∀ i, X1 i → i < w.heap.size → X i) (hL : ∀ b, L b → L1 b) (hη : ∀ b, L b → η1 b = η b) : ∀ {xs : List CV} {us : List Value}, CVs.rel L X η w xs us → CVs.rel L1 X1 η1 w1 xs us
  | [], [], _ => trivial
  | x :: xs, u :: us, h => ⟨CV.rel_step h.1 e hX hL hη, h.2.1, CVs.rel_step (e := e) hX hL hη h.2.2⟩
theorem cell_step {ad : Addr} (e : Ext X w w1) (h1 : ad.block < w.heap.size) (h2 : ¬ X ad.block) (j : Nat) : w1.cell? (ad.add j) = w.cell? (ad.add j) := by
  have hb : (ad.add j).block = ad.block := by unfold Addr.add; split <;> rfl
  exact World.cell?_of_block (by rw [hb]; exact e.block _ h1 h2)
theorem PV.rel_step {x : PV} {u : Value} (h : x.rel L X η w u) (e : Ext X w w1) (hX : ∀ i, X1 i → i < w.heap.size → X i) (hL : ∀ b, L b → L1 b) (hη : ∀ b, L b → η1 b = η b) : x.rel L1 X1 η1 w1 u := by
  cases x with
  | c x => exact CV.rel_step h e hX hL hη
  | ag cs => obtain ⟨vs, e1, e2⟩ := h; exact ⟨vs, e1, CVs.rel_step (e := e) hX hL hη e2⟩
  | fb cs =>
    obtain ⟨ad, vs, e1, e2, e3, e4, e5⟩ := h
    exact ⟨ad, vs, e1, Nat.lt_of_lt_of_le e2 e.size, fun hx => e3 (hX _ hx e2), fun j v hv => (cell_step e e2 e3 j).trans (e4 j v hv), CVs.rel_step (e := e) hX hL hη e5⟩
  | ob T cs => exact h
theorem PVs.rel_step {e : Ext X w w1} (hX : ∀ i, X1 i → i < w.heap.size → X i) (hL : ∀ b, L b → L1 b) (hη : ∀ b, L b → η1 b = η b) : ∀ {xs : List PV} {us : List Value}, PVs.rel L X η w xs us → PVs.rel L1 X1 η1 w1 xs us
  | [], [], _ => trivial
  | x :: xs, u :: us, h => ⟨PV.rel_step h.1 e hX hL hη, PVs.rel_step (e := e) hX hL hη h.2⟩
theorem AV.rel_step {x : AV} {u : Value} (h : x.rel L X η w u) (e : Ext X w w1) (hX : ∀ i, X1 i → i < w.heap.size → X i) (hL : ∀ b, L b → L1 b) (hη : ∀ b, L b → η1 b = η b) : x.rel L1 X1 η1 w1 u := by
  cases x with
  | p x => exact PV.rel_step h e hX hL hη
  | tp l => obtain ⟨vs, e1, e2⟩ := h; exact ⟨vs, e1, PVs.rel_step (e := e) hX hL hη e2⟩
  | fn f caps => obtain ⟨vs, e1, e2⟩ := h; exact ⟨vs, e1, PVs.rel_step (e := e) hX hL hη e2⟩
  | ai xs => exact h
  | _ => trivial
theorem CVs.rel_len : ∀ {xs : List CV} {us : List Value}, CVs.rel L X η w xs us → us.length = xs.length
  | [], [], _ => rfl
  | x :: xs, u :: us, h => by simp [CVs.rel_len h.2.2]
theorem CVs.rel_get : ∀ {xs : List CV} {us : List Value} (h : CVs.rel L X η w xs us) {j : Nat} {x : CV}, xs[j]? = some x → ∃ u, us[j]? = some u ∧ x.rel L X η w u ∧ u.oneCell' = true
  | [], [], _, j, x, hx => by simp at hx
  | y :: xs, u :: us, h, 0, x, hx => by simp at hx; subst hx; exact ⟨u, rfl, h.1, h.2.1⟩
  | y :: xs, u :: us, h, j + 1, x, hx => by simp only [List.getElem?_cons_succ] at hx ⊢; exact CVs.rel_get h.2.2 hx
theorem CVs.rel_one : ∀ {xs : List CV} {us : List Value} (h : CVs.rel L X η w xs us), ∀ u ∈ us, u.oneCell' = true
  | [], [], _, u, hu => by simp at hu
  | y :: xs, u :: us, h, x, hx => by
    rcases List.mem_cons.1 hx with rfl | hx
    · exact h.2.1
    · exact CVs.rel_one h.2.2 x hx
theorem CVs.rel_drop : ∀ {n : Nat} {xs : List CV} {us : List Value}, CVs.rel L X η w xs us → CVs.rel L X η w (xs.drop n) (us.drop n)
  | 0, _, _, h => h
  | n + 1, [], [], _ => trivial
  | n + 1, x :: xs, u :: us, h => CVs.rel_drop (n := n) h.2.2
theorem CVs.rel_take : ∀ {n : Nat} {xs : List CV} {us : List Value}, CVs.rel L X η w xs us → CVs.rel L X η w (xs.take n) (us.take n)
  | 0, _, _, _ => by simp [CVs.rel]
  | n + 1, [], [], _ => trivial
  | n + 1, x :: xs, u :: us, h => ⟨h.1, h.2.1, CVs.rel_take (n := n) h.2.2⟩
theorem CVs.rel_append : ∀ {xs ys : List CV} {us vs : List Value}, CVs.rel L X η w xs us → CVs.rel L X η w ys vs → CVs.rel L X η w (xs ++ ys) (us ++ vs)
  | [], _, [], _, _, k => k
  | x :: xs, _, u :: us, _, h, k => ⟨h.1, h.2.1, CVs.rel_append h.2.2 k⟩
theorem PVs.rel_get : ∀ {xs : List PV} {us : List Value} (h : PVs.rel L X η w xs us) {j : Nat} {x : PV}, xs[j]? = some x → ∃ u, us[j]? = some u ∧ x.rel L X η w u
  | [], [], _, j, x, hx => by simp at hx
  | y :: xs, u :: us, h, 0, x, hx => by simp at hx; subst hx; exact ⟨u, rfl, h.1⟩
  | y :: xs, u :: us, h, j + 1, x, hx => by simp only [List.getElem?_cons_succ] at hx ⊢; exact PVs.rel_get h.2 hx
end

/-! ### The state of a call -/
/-- The block that is owned under a number. -/
def bk (η : Nat → Value) (σ : Nat → AV) (q : Nat) : Option Nat := match (σ (2 * q + 1)).isOwn with
  | true => vb (η q)
  | false => none
theorem bk_some {η : Nat → Value} {σ : Nat → AV} {q k : Nat} (h : bk η σ q = some k) : (σ (2 * q + 1)).isOwn = true ∧ vb (η q) = some k := by
  unfold bk at h
  split at h
  · rename_i e; exact ⟨e, h⟩
  · cases h
theorem bk_of {η : Nat → Value} {σ : Nat → AV} {q : Nat} (h : (σ (2 * q + 1)).isOwn = true) : bk η σ q = vb (η q) := by unfold bk; rw [h]
/-- The blocks that may be written: those of the callers, of the boxes, and of the rows of one's own. -/
def Own (X : Nat → Prop) (η : Nat → Value) (σ : Nat → AV) (k : Nat) : Prop := X k ∨ ∃ q, bk η σ q = some k
def Live (σ : Nat → AV) (b : Nat) : Prop := (σ (2 * b + 1)).isMem = true
/-- What came in: the blocks that may be written (z), the values that are pinned to numbers (y). -/
structure Came : Type where
  z : Nat → Prop
  y : Nat → Option Value
/-- The ghost of a call: the callers' blocks (X), what came in (Y), the world at its beginning, the number of its slots, where its boxes and rows lie. -/
structure Rl (X : Nat → Prop) (Y : Came) (w0 : World) (N : Nat) (η : Nat → Value) (σ : Nat → AV) (a : Act) (w : World) : Prop where
  defers : a.defers = []
  size : a.tmps.size = N
  ext : Ext Y.z w0 w
  bound : ∀ k, X k → k < w0.heap.size
  apart : ∀ k, Y.z k → ¬ X k
  ybound : ∀ k, Y.z k → k < w0.heap.size
  obase : ∀ q k, bk η σ q = some k → w0.heap.size ≤ k ∨ Y.z k
  oinj : ∀ q q' k, bk η σ q = some k → bk η σ q' = some k → q = q'
  slot : ∀ n, (σ (2 * n)).rel (Live σ) (Own X η σ) η w (a.tmps.getD n undef)
  box : ∀ b T cs, σ (2 * b + 1) = .mem T cs → ∃ (g : Nat) (vs : List Value), η b = .pointer (some ⟨g, 0, none⟩) ∧ w.heap[g]? = some (.cells vs.toArray T (0, 0)) ∧ CVs.rel (Live σ) (Own X η σ) η w cs vs
  row : ∀ r {α : Type} (e : Nat) (k : EK α) (xs : List α), σ (2 * r + 1) = .row e k xs → RowOwn (Own X η σ) w e k (η r) xs
  fz : ∀ r {α : Type} (k : EK α) (xs : List α), σ (2 * r + 1) = .fz k xs → ∃ A c, η r = .slice A xs.length c ∧ xs.length ≤ c ∧ k.row (Own X η σ) w A xs
  pin : ∀ r v, Y.y r = some v → (σ (2 * r + 1)).isOwn = true → η r = v
  ypin : ∀ r v, Y.y r = some v → 2 * N ≤ r ∧ r < 2 * N + 256
section
variable {X : Nat → Prop} {Y : Came} {w0 w w1 : World} {N : Nat} {η : Nat → Value} {σ σ' : Nat → AV} {a : Act}
theorem Rl.congr (h : Rl X Y w0 N η σ a w) (e : ∀ n, σ' n = σ n) : Rl X Y w0 N η σ' a w := by
  obtain rfl : σ' = σ := funext e
  exact h
theorem Rl.bk_lt (h : Rl X Y w0 N η σ a w) {q k : Nat} (hk : bk η σ q = some k) : k < w.heap.size := by
  obtain ⟨h1, h2⟩ := bk_some hk
  cases hm : σ (2 * q + 1) with
  | mem T cs =>
    obtain ⟨g, vs, e1, e2, _⟩ := h.box q T cs hm
    rw [e1] at h2
    cases h2
    exact (Array.getElem?_eq_some_iff.1 e2).1
  | row e k xs => exact (h.row q e k xs hm).lt h2
  | _ => rw [hm] at h1; cases h1
theorem Rl.own_lt (h : Rl X Y w0 N η σ a w) : ∀ k, Own X η σ k → k < w.heap.size := by
  rintro k (hk | ⟨q, hk⟩)
  · exact Nat.lt_of_lt_of_le (h.bound k hk) h.ext.size
  · exact h.bk_lt hk
/-- A step that leaves slots, boxes and rows as they are, but in one place, may turn (what holds elsewhere, in one word). -/
structure Keeps (X : Nat → Prop) (η η1 : Nat → Value) (σ σ' : Nat → AV) (w w1 : World) : Prop where
  ext : Ext (Own X η σ) w w1
  own : ∀ k, Own X η1 σ' k → k < w.heap.size → Own X η σ k
  live : ∀ b, Live σ b → Live σ' b
  hη : ∀ b, Live σ b → η1 b = η b
theorem Keeps.av {η1 : Nat → Value} (K : Keeps X η η1 σ σ' w w1) {x : AV} {u : Value} (h : x.rel (Live σ) (Own X η σ) η w u) : x.rel (Live σ') (Own X η1 σ') η1 w1 u := AV.rel_step h K.ext K.own K.live K.hη
theorem Keeps.cvs {η1 : Nat → Value} (K : Keeps X η η1 σ σ' w w1) {x : List CV} {u : List Value} (h : CVs.rel (Live σ) (Own X η σ) η w x u) : CVs.rel (Live σ') (Own X η1 σ') η1 w1 x u := CVs.rel_step (e := K.ext) K.own K.live K.hη h
theorem Keeps.row {η1 : Nat → Value} (K : Keeps X η η1 σ σ' w w1) {α : Type} {k : EK α} {A : Option Addr} {xs : List α} (h : k.row (Own X η σ) w A xs) : k.row (Own X η1 σ') w1 A xs := EK.row_step h K.ext K.own
/-- The world moves on, apart from the blocks of one's own. -/
theorem Rl.move (h : Rl X Y w0 N η σ a w) (hb : Below w.heap.size w w1) : Rl X Y w0 N η σ a w1 := by
  have K : Keeps X η η σ σ w w1 := ⟨Ext.of_below hb, fun _ hk _ => hk, fun _ hk => hk, fun _ _ => rfl⟩
  refine { h with ext := h.ext.trans (Ext.of_below (X := Y.z) hb) (fun _ hi _ => hi), slot := fun n => K.av (h.slot n), box := fun b T cs e => ?_, row := fun r {α} e k xs hs => ?_, fz := fun r {α} k xs hs => ?_ }
  · obtain ⟨g, vs, h0, h1, h2⟩ := h.box b T cs e
    exact ⟨g, vs, h0, (hb.block _ (Array.getElem?_eq_some_iff.1 h1).1).trans h1, K.cvs h2⟩
  · have h1 := h.row r e k xs hs
    exact h1.kept K.ext K.own fun b hb' => hb.block _ (h1.lt hb')
  · obtain ⟨A, c, e1, e2, e3⟩ := h.fz r k xs hs
    exact ⟨A, c, e1, e2, K.row e3⟩
end
def upd (σ : Nat → AV) (n : Nat) (v : AV) (m : Nat) : AV := if m = n then v else σ m
theorem upd_same (σ : Nat → AV) (n : Nat) (v : AV) : upd σ n v n = v := by simp [upd]
theorem upd_ne (σ : Nat → AV) {n m : Nat} (v : AV) (h : m ≠ n) : upd σ n v m = σ m := by simp [upd, h]
theorem upd_even_odd (σ : Nat → AV) (d b : Nat) (v : AV) : upd σ (2 * d) v (2 * b + 1) = σ (2 * b + 1) := upd_ne σ v (by omega)
theorem upd_odd (σ : Nat → AV) {d b : Nat} (v : AV) (h : b ≠ d) : upd σ (2 * d + 1) v (2 * b + 1) = σ (2 * b + 1) := upd_ne σ v (by omega)
theorem bk_congr {η η' : Nat → Value} {σ σ' : Nat → AV} {q : Nat} (h : σ' (2 * q + 1) = σ (2 * q + 1)) (e : (σ (2 * q + 1)).isOwn = true → η' q = η q) : bk η' σ' q = bk η σ q := by
  unfold bk
  rw [h]
  cases ho : (σ (2 * q + 1)).isOwn with
  | true => simp only; rw [e ho]
  | false => rfl
theorem bk_slot (η : Nat → Value) (σ : Nat → AV) (d : Nat) (v : AV) (q : Nat) : bk η (upd σ (2 * d) v) q = bk η σ q := bk_congr (upd_even_odd ..) fun _ => rfl
theorem live_slot (σ : Nat → AV) (d : Nat) (v : AV) : Live (upd σ (2 * d) v) = Live σ := by funext b; simp only [Live, upd_even_odd]
theorem own_slot (X : Nat → Prop) (η : Nat → Value) (σ : Nat → AV) (d : Nat) (v : AV) : Own X η (upd σ (2 * d) v) = Own X η σ := by funext k; simp only [Own, bk_slot]
theorem getD_put {a : Act} {d n : Nat} {v : Value} (hd : d < a.tmps.size) : (a.put (some d) v).tmps.getD n undef = if n = d then v else a.tmps.getD n undef := by
  simp only [Act.put, Array.getD_eq_getD_getElem?, Array.getElem?_setIfInBounds]
  by_cases h : n = d
  · subst h; simp [hd]
  · rw [if_neg (fun e => h e.symm), if_neg h]
section
variable {X : Nat → Prop} {Y : Came} {w0 w w1 : World} {N : Nat} {η : Nat → Value} {σ σ' : Nat → AV} {a a' : Act}
/-- A slot in other words, or written. -/
theorem Rl.slots (h : Rl X Y w0 N η σ a w) {d : Nat} {V : AV} (hd : a'.defers = []) (hs : a'.tmps.size = N) (hv : V.rel (Live σ) (Own X η σ) η w (a'.tmps.getD d undef)) (ho : ∀ n, n ≠ d → a'.tmps.getD n undef = a.tmps.getD n undef) :
    Rl X Y w0 N η (upd σ (2 * d) V) a' w where
  defers := hd
  size := hs
  ext := h.ext
  bound := h.bound
  apart := h.apart
  ybound := h.ybound
  obase := fun q k hk => h.obase q k (by rwa [bk_slot] at hk)
  oinj := fun q q' k hk hk' => h.oinj q q' k (by rwa [bk_slot] at hk) (by rwa [bk_slot] at hk')
  slot := fun n => by
    rw [live_slot, own_slot]
    by_cases e : n = d
    · subst e; rw [upd_same]; exact hv
    · rw [upd_ne _ _ (by omega), ho n e]; exact h.slot n
  box := fun b T cs e => by
    rw [upd_even_odd] at e
    rw [live_slot, own_slot]
    exact h.box b T cs e
  row := fun r {α} e k xs hs => by
    rw [upd_even_odd] at hs
    rw [own_slot]
    exact h.row r e k xs hs
  fz := fun r {α} k xs hs => by
    rw [upd_even_odd] at hs
    rw [own_slot]
    exact h.fz r k xs hs
  pin := fun r v e hr => h.pin r v e (by rwa [upd_even_odd] at hr)
  ypin := h.ypin
theorem Rl.put (h : Rl X Y w0 N η σ a w) {d : Nat} (hd : d < N) {V : AV} {v : Value} (hv : V.rel (Live σ) (Own X η σ) η w v) : Rl X Y w0 N η (upd σ (2 * d) V) (a.put (some d) v) w := by
  have hs := h.size
  refine h.slots h.defers (by simp [Act.put, hs]) ?_ fun n hn => ?_
  · rw [getD_put (by omega), if_pos rfl]; exact hv
  · rw [getD_put (by omega), if_neg hn]
theorem Rl.reslot (h : Rl X Y w0 N η σ a w) {d : Nat} {V : AV} (hv : V.rel (Live σ) (Own X η σ) η w (a.tmps.getD d undef)) : Rl X Y w0 N η (upd σ (2 * d) V) a w := h.slots h.defers h.size hv fun _ _ => rfl
end
end Go.Proofs.YtgjpphcbdbfhlaaGreat.L.EV
namespace Go.Proofs.YtgjpphcbdbfhlaaGreat.L.EV
open Go.RowKit Go.Proofs Go.Proofs.YtgjpphcbdbfhlaaGreatW.PrintWords
section
variable {X : Nat → Prop} {Y : Came} {w0 w w1 : World} {N : Nat} {η η1 : Nat → Value} {σ σ' : Nat → AV} {a : Act} {d : Nat}
/-- What lies at some numbers turns (D); others may be used up; slots stay. -/
theorem Rl.chg (h : Rl X Y w0 N η σ a w) (K : Keeps X η η1 σ σ' w w1) (hx : Ext Y.z w0 w1) (hs : ∀ n, σ' (2 * n) = σ (2 * n)) (D : Nat → Prop)
    (ho : ∀ b, ¬ D b → σ' (2 * b + 1) = σ (2 * b + 1) ∨ σ' (2 * b + 1) = .gone)
    (d1 : ∀ q k, D q → bk η1 σ' q = some k → w0.heap.size ≤ k ∨ Y.z k)
    (d2 : ∀ q q' k, D q → bk η1 σ' q = some k → bk η1 σ' q' = some k → q = q')
    (k1 : ∀ q k, ¬ D q → bk η1 σ' q = some k → w1.heap[k]? = w.heap[k]?)
    (n1 : ∀ q, D q → ∀ T cs, σ' (2 * q + 1) = .mem T cs → ∃ (g : Nat) (vs : List Value), η1 q = .pointer (some ⟨g, 0, none⟩) ∧ w1.heap[g]? = some (.cells vs.toArray T (0, 0)) ∧ CVs.rel (Live σ') (Own X η1 σ') η1 w1 cs vs)
    (n2 : ∀ q, D q → ∀ {α : Type} (e : Nat) (k : EK α) (xs : List α), σ' (2 * q + 1) = .row e k xs → RowOwn (Own X η1 σ') w1 e k (η1 q) xs)
    (n3 : ∀ q, D q → ∀ {α : Type} (k : EK α) (xs : List α), σ' (2 * q + 1) = .fz k xs → ∃ A c, η1 q = .slice A xs.length c ∧ xs.length ≤ c ∧ k.row (Own X η1 σ') w1 A xs)
    (hp : ∀ q v, D q → Y.y q = some v → (σ' (2 * q + 1)).isOwn = true → η1 q = v) : Rl X Y w0 N η1 σ' a w1 := by
  have oth : ∀ q, ¬ D q → ∀ k, bk η1 σ' q = some k → bk η σ q = some k := by
    intro q hq k hk
    obtain ⟨h1, h2⟩ := bk_some hk
    rcases ho q hq with e | e
    · rw [e] at h1
      rw [bk_of h1, ← K.hη q (AV.isOwn_mem h1)]
      exact h2
    · rw [e] at h1; cases h1
  refine ⟨h.defers, h.size, hx, h.bound, h.apart, h.ybound, ?_, ?_, fun n => by rw [hs]; exact K.av (h.slot n), ?_, ?_, ?_, ?_, h.ypin⟩
  · intro q k hk
    by_cases e : D q
    · exact d1 q k e hk
    · exact h.obase q k (oth q e k hk)
  · intro q q' k hk hk'
    by_cases e : D q
    · exact d2 q q' k e hk hk'
    · by_cases e' : D q'
      · exact (d2 q' q k e' hk' hk).symm
      · exact h.oinj q q' k (oth q e k hk) (oth q' e' k hk')
  · intro b T cs e
    by_cases e1 : D b
    · exact n1 b e1 T cs e
    · rcases ho b e1 with e2 | e2
      · have e3 := e2 ▸ e
        obtain ⟨g, vs, g0, g1, g2⟩ := h.box b T cs e3
        have hb : (σ' (2 * b + 1)).isOwn = true := by rw [e]; rfl
        have hη : η1 b = η b := K.hη b (AV.isOwn_mem (by rw [e3]; rfl))
        refine ⟨g, vs, by rw [hη]; exact g0, ?_, K.cvs g2⟩
        rw [k1 b g e1 (by rw [bk_of hb, hη, g0]; rfl)]
        exact g1
      · rw [e2] at e; cases e
  · intro r α e k xs hv
    by_cases e1 : D r
    · exact n2 r e1 e k xs hv
    · rcases ho r e1 with e2 | e2
      · have hr : (σ' (2 * r + 1)).isOwn = true := by rw [hv]; rfl
        have hv' := e2 ▸ hv
        have hη : η1 r = η r := K.hη r (AV.isOwn_mem (by rw [hv']; rfl))
        rw [hη]
        exact (h.row r e k xs hv').kept K.ext K.own fun b hb => k1 r b e1 (by rw [bk_of hr, hη]; exact hb)
      · rw [e2] at hv; cases hv
  · intro r α k xs hv
    by_cases e1 : D r
    · exact n3 r e1 k xs hv
    · rcases ho r e1 with e2 | e2
      · rw [e2] at hv
        obtain ⟨A, c, g1, g2, g3⟩ := h.fz r k xs hv
        refine ⟨A, c, ?_, g2, K.row g3⟩
        rw [K.hη r (by unfold Live; rw [hv]; rfl)]
        exact g1
      · rw [e2] at hv; cases hv
  · intro r v hY hr
    by_cases e1 : D r
    · exact hp r v e1 hY hr
    · rcases ho r e1 with e2 | e2
      · have hr' := e2 ▸ hr
        rw [K.hη r (AV.isOwn_mem hr')]
        exact h.pin r v hY hr'
      · rw [e2] at hr; cases hr
theorem Live.upd {n : Nat} {v : AV} (hv : v.isMem = true) : ∀ b, Live σ b → Live (EV.upd σ (2 * n + 1) v) b := by
  intro b hb
  unfold Live at *
  by_cases e : b = n
  · subst e; rw [upd_same]; exact hv
  · rw [upd_ne _ _ (by omega)]; exact hb
theorem bk_upd {v : AV} {q k : Nat} (h : bk η1 (upd σ (2 * d + 1) v) q = some k) : (q = d ∧ v.isOwn = true ∧ vb (η1 d) = some k) ∨ (q ≠ d ∧ (σ (2 * q + 1)).isOwn = true ∧ vb (η1 q) = some k) := by
  obtain ⟨h1, h2⟩ := bk_some h
  by_cases e : q = d
  · subst e; rw [upd_same] at h1; exact .inl ⟨rfl, h1, h2⟩
  · rw [upd_odd _ _ e] at h1; exact .inr ⟨e, h1, h2⟩
/-- One number turns, its block stays its own (or none is); the world may turn in that block. -/
theorem Rl.upd1 (h : Rl X Y w0 N η σ a w) {v : AV} (hd : (σ (2 * d + 1)).isOwn = true) (hm : v.isMem = true) (hw : Ext (fun k => vb (η d) = some k) w w1)
    (n1 : ∀ T cs, v = .mem T cs → ∃ (g : Nat) (vs : List Value), η d = .pointer (some ⟨g, 0, none⟩) ∧ w1.heap[g]? = some (.cells vs.toArray T (0, 0)) ∧ CVs.rel (Live (upd σ (2 * d + 1) v)) (Own X η (upd σ (2 * d + 1) v)) η w1 cs vs)
    (n2 : ∀ {α : Type} (e : Nat) (k : EK α) (xs : List α), v = .row e k xs → RowOwn (Own X η (upd σ (2 * d + 1) v)) w1 e k (η d) xs)
    (n3 : ∀ {α : Type} (k : EK α) (xs : List α), v = .fz k xs → ∃ A c, η d = .slice A xs.length c ∧ xs.length ≤ c ∧ k.row (Own X η (upd σ (2 * d + 1) v)) w1 A xs) : Rl X Y w0 N η (upd σ (2 * d + 1) v) a w1 := by
  have hob : ∀ k, vb (η d) = some k → bk η σ d = some k := fun k hk => by rw [bk_of hd]; exact hk
  have hsub : ∀ q k, bk η (upd σ (2 * d + 1) v) q = some k → bk η σ q = some k := by
    intro q k hk
    rcases bk_upd hk with ⟨rfl, _, h2⟩ | ⟨_, h1, h2⟩
    · exact hob k h2
    · rw [bk_of h1]; exact h2
  have K : Keeps X η η σ (upd σ (2 * d + 1) v) w w1 := by
    refine ⟨hw.mono fun i hi _ => .inr ⟨d, hob i hi⟩, ?_, Live.upd hm, fun _ _ => rfl⟩
    rintro k (hk | ⟨q, hk⟩) _
    · exact .inl hk
    · exact .inr ⟨q, hsub q k hk⟩
  refine h.chg K ⟨hw.os.trans h.ext.os, hw.tape.trans h.ext.tape, hw.output.trans h.ext.output, Nat.le_trans h.ext.size hw.size, fun i hi hn => ?_⟩ (fun n => upd_ne _ _ (by omega)) (fun q => q = d) (fun b hb => .inl (upd_odd _ _ hb)) ?_ ?_ ?_ ?_ ?_ ?_ ?_
  · rw [hw.block i (Nat.lt_of_lt_of_le hi h.ext.size) (fun ei => ?_)]
    · exact h.ext.block i hi hn
    · rcases h.obase d i (hob i ei) with h3 | h3
      · omega
      · exact hn h3
  · intro q k hq hk; exact h.obase q k (hsub q k hk)
  · intro q q' k hq hk hk'; exact h.oinj q q' k (hsub q k hk) (hsub q' k hk')
  · intro q k hq hk
    refine hw.block k (h.bk_lt (hsub q k hk)) fun e => hq ?_
    exact h.oinj q d k (hsub q k hk) (hob k e)
  · intro q hq T cs e; subst hq; rw [upd_same] at e; exact n1 T cs e
  · intro q hq α e k xs ee; subst hq; rw [upd_same] at ee; exact n2 e k xs ee
  · intro q hq α k xs ee; subst hq; rw [upd_same] at ee; exact n3 k xs ee
  · intro q u hq hy hr; subst hq; exact h.pin q u hy hd
/-- A new box. -/
theorem Rl.alloc (h : Rl X Y w0 N η σ a w) (hn : (σ (2 * d + 1)).isMem = false) (hy : Y.y d = none) {T : Nat} {cs : List CV} {vs : List Value} (hv : CVs.rel (Live σ) (Own X η σ) η w cs vs) :
    Rl X Y w0 N (fun b => if b = d then .pointer (some ⟨w.heap.size, 0, none⟩) else η b) (upd σ (2 * d + 1) (.mem T cs)) a (w.alloc (.cells vs.toArray T)) := by
  have hne : ∀ b, Live σ b → b ≠ d := by intro b hb e; subst e; unfold Live at hb; rw [hn] at hb; cases hb
  have hE : Ext (Own X η σ) w (w.alloc (.cells vs.toArray T)) := Ext.alloc _ _
  have hsub : ∀ q k, q ≠ d → bk (fun b => if b = d then .pointer (some ⟨w.heap.size, 0, none⟩) else η b) (upd σ (2 * d + 1) (.mem T cs)) q = some k → bk η σ q = some k := by
    intro q k hq hk
    rcases bk_upd hk with ⟨e, _⟩ | ⟨_, h1, h2⟩
    · exact absurd e hq
    · simp only [hq, if_false] at h2
      rw [bk_of h1]; exact h2
  have hself : ∀ k, bk (fun b => if b = d then .pointer (some ⟨w.heap.size, 0, none⟩) else η b) (upd σ (2 * d + 1) (.mem T cs)) d = some k → k = w.heap.size := by
    intro k hk
    rcases bk_upd hk with ⟨_, _, h2⟩ | ⟨e, _⟩
    · simp only [if_true] at h2; cases h2; rfl
    · exact absurd rfl e
  have K : Keeps X η (fun b => if b = d then .pointer (some ⟨w.heap.size, 0, none⟩) else η b) σ (upd σ (2 * d + 1) (.mem T cs)) w (w.alloc (.cells vs.toArray T)) := by
    refine ⟨hE, ?_, Live.upd rfl, fun b hb => if_neg (hne b hb)⟩
    rintro k (hk | ⟨q, hk⟩) hlt
    · exact .inl hk
    · by_cases e1 : q = d
      · subst e1; have := hself k hk; omega
      · exact .inr ⟨q, hsub q k e1 hk⟩
  refine h.chg K (h.ext.trans (Ext.alloc (X := Y.z) _ _) (fun _ hi _ => hi)) (fun n => upd_ne _ _ (by omega)) (fun q => q = d) (fun b hb => .inl (upd_odd _ _ hb)) ?_ ?_ ?_ ?_ ?_ ?_ ?_
  · intro q k hq hk; subst hq; have := hself k hk; subst this; exact .inl h.ext.size
  · intro q q' k hq hk hk'
    subst hq
    have h1 := hself k hk
    by_cases e : q' = q
    · exact e.symm
    · have := h.bk_lt (hsub q' k e hk'); omega
  · intro q k hq hk; exact Below.heap_alloc _ _ _ (h.bk_lt (hsub q k hq hk))
  · intro q hq T' cs' e
    subst hq
    rw [upd_same] at e
    cases e
    exact ⟨w.heap.size, vs, by simp, heap_alloc_new w _, K.cvs hv⟩
  · intro q hq α e k xs hh; subst hq; rw [upd_same] at hh; cases hh
  · intro q hq α k xs hh; subst hq; rw [upd_same] at hh; cases hh
  · intro q v hq hy' _; subst hq; rw [hy] at hy'; cases hy'
/-- A box is written, all of its cells at once. -/
theorem Rl.store (h : Rl X Y w0 N η σ a w) {b T g : Nat} {cs cs' : List CV} {vs' : List Value} (hb : σ (2 * b + 1) = .mem T cs) (hg : η b = .pointer (some ⟨g, 0, none⟩))
    (hv : CVs.rel (Live σ) (Own X η σ) η w cs' vs') : Rl X Y w0 N η (upd σ (2 * b + 1) (.mem T cs')) a (w.setRow g vs'.toArray) := by
  obtain ⟨g', vs, h0, h1, h2⟩ := h.box b T cs hb
  rw [hg] at h0
  cases h0
  have hw : ∀ k, k ≠ g → (w.setRow g vs'.toArray).heap[k]? = w.heap[k]? := by
    intro k hk
    simp only [World.setRow, Array.getElem?_modify]
    rw [if_neg (fun e => hk e.symm)]
  have hsz : (w.setRow g vs'.toArray).heap.size = w.heap.size := by simp [World.setRow]
  have hE : Ext (fun k => vb (η b) = some k) w (w.setRow g vs'.toArray) := ⟨rfl, rfl, rfl, by rw [hsz]; exact Nat.le_refl _, fun k hk hn => hw k (fun e => by subst e; exact hn (by rw [hg]; rfl))⟩
  have hbo : (σ (2 * b + 1)).isOwn = true := by rw [hb]; rfl
  refine h.upd1 hbo rfl hE ?_ ?_ ?_
  · intro T' cs'' e
    cases e
    refine ⟨g, vs', hg, setRow_heap w g vs.toArray vs'.toArray _ (0, 0) h1, CVs.rel_step (e := hE.mono fun i hi _ => .inr ⟨b, by rw [bk_of hbo]; exact hi⟩) ?_ (Live.upd rfl) (fun _ _ => rfl) hv⟩
    rintro i (hi | ⟨q, hi⟩) _
    · exact .inl hi
    · rcases bk_upd hi with ⟨rfl, _, e2⟩ | ⟨_, e1, e2⟩
      · exact .inr ⟨q, by rw [bk_of hbo]; exact e2⟩
      · exact .inr ⟨q, by rw [bk_of e1]; exact e2⟩
  · intro α e k xs hh; cases hh
  · intro α k xs hh; cases hh
def useUp (σ : Nat → AV) (C : List Nat) (n : Nat) : AV := if C.any (fun q => Nat.beq n (2 * q + 1)) = true then .gone else σ n
theorem useUp_in {C : List Nat} {q : Nat} (h : q ∈ C) : useUp σ C (2 * q + 1) = .gone := by
  unfold useUp
  rw [if_pos]
  exact List.any_eq_true.2 ⟨q, h, Nat.beq_refl (2 * q + 1)⟩
theorem useUp_out {C : List Nat} {q : Nat} (h : q ∉ C) : useUp σ C (2 * q + 1) = σ (2 * q + 1) := if_neg (fun e => by
  obtain ⟨p, hp, e⟩ := List.any_eq_true.1 e
  have := Nat.eq_of_beq_eq_true e
  have : p = q := by omega
  subst this
  exact h hp)
theorem useUp_slot {C : List Nat} (n : Nat) : useUp σ C (2 * n) = σ (2 * n) := if_neg (fun e => by
  obtain ⟨p, hp, e⟩ := List.any_eq_true.1 e
  have := Nat.eq_of_beq_eq_true e
  omega)
theorem bk_useUp {C : List Nat} {q k : Nat} (h : bk η (useUp σ C) q = some k) : q ∉ C ∧ bk η σ q = some k := by
  obtain ⟨h1, h2⟩ := bk_some h
  by_cases e : q ∈ C
  · rw [useUp_in e] at h1; cases h1
  · rw [useUp_out e] at h1; exact ⟨e, by rw [bk_of h1]; exact h2⟩
/-- Numbers that are used up, with the blocks under them; new things in their place (or at free numbers): what they are and where they lie. -/
abbrev News := List (Nat × AV × Value)
def News.at_ (m : News) (q : Nat) : Option (AV × Value) := match m with
  | [] => none
  | (p, x) :: m => if q = p then some x else News.at_ m q
def News.st (m : News) (σ : Nat → AV) (n : Nat) : AV := match m with
  | [] => σ n
  | (p, x) :: m => upd (News.st m σ) (2 * p + 1) x.1 n
def News.gh (m : News) (η : Nat → Value) (q : Nat) : Value := match News.at_ m q with
  | some x => x.2
  | none => η q
theorem News.st_slot {m : News} (n : Nat) : News.st m σ (2 * n) = σ (2 * n) := by
  induction m with
  | nil => rfl
  | cons p m ih => unfold News.st; rw [upd_ne _ _ (by omega)]; exact ih
theorem News.st_in {m : News} {q : Nat} {x : AV × Value} (h : News.at_ m q = some x) : News.st m σ (2 * q + 1) = x.1 := by
  induction m with
  | nil => cases h
  | cons p m ih =>
    obtain ⟨p, y⟩ := p
    unfold News.at_ at h
    unfold News.st
    by_cases e : q = p
    · subst e; rw [if_pos rfl] at h; cases h; rw [upd_same]
    · rw [if_neg e] at h; rw [upd_odd _ _ e]; exact ih h
theorem News.st_out {m : News} {q : Nat} (h : News.at_ m q = none) : News.st m σ (2 * q + 1) = σ (2 * q + 1) := by
  induction m with
  | nil => rfl
  | cons p m ih =>
    obtain ⟨p, y⟩ := p
    unfold News.at_ at h
    unfold News.st
    by_cases e : q = p
    · subst e; rw [if_pos rfl] at h; cases h
    · rw [if_neg e] at h; rw [upd_odd _ _ e]; exact ih h
theorem News.gh_in {m : News} {q : Nat} {x : AV × Value} (h : News.at_ m q = some x) : News.gh m η q = x.2 := by unfold News.gh; rw [h]
theorem News.gh_out {m : News} {q : Nat} (h : News.at_ m q = none) : News.gh m η q = η q := by unfold News.gh; rw [h]
/-- What is told of the things that are new. -/
def Told (X : Nat → Prop) (η : Nat → Value) (σ : Nat → AV) (w : World) (q : Nat) : Prop :=
  (∀ T cs, σ (2 * q + 1) = .mem T cs → ∃ (g : Nat) (vs : List Value), η q = .pointer (some ⟨g, 0, none⟩) ∧ w.heap[g]? = some (.cells vs.toArray T (0, 0)) ∧ CVs.rel (Live σ) (Own X η σ) η w cs vs) ∧
  (∀ (α : Type) (e : Nat) (k : EK α) (xs : List α), σ (2 * q + 1) = .row e k xs → RowOwn (Own X η σ) w e k (η q) xs) ∧
  (∀ (α : Type) (k : EK α) (xs : List α), σ (2 * q + 1) = .fz k xs → ∃ A c, η q = .slice A xs.length c ∧ xs.length ≤ c ∧ k.row (Own X η σ) w A xs)
/-- What a call leaves: numbers used up (C), new things (m). -/
theorem Rl.news (h : Rl X Y w0 N η σ a w) {C : List Nat} {Z : Nat → Prop} {m : News}
    (hC : ∀ q ∈ C, (σ (2 * q + 1)).isOwn = true) (hZ : ∀ i, Z i → ∃ q ∈ C, vb (η q) = some i) (hw : Ext Z w w1)
    (hn : ∀ q x, News.at_ m q = some x → x.1.isMem = true ∧ (((σ (2 * q + 1)).isMem = false ∧ Y.y q = none) ∨ (q ∈ C ∧ x.2 = η q)))
    (hb : ∀ q x k, News.at_ m q = some x → x.1.isOwn = true → vb x.2 = some k → Z k ∨ w.heap.size ≤ k)
    (hi : ∀ q q' x x' k, News.at_ m q = some x → News.at_ m q' = some x' → x.1.isOwn = true → x'.1.isOwn = true → vb x.2 = some k → vb x'.2 = some k → q = q')
    (ht : ∀ q x, News.at_ m q = some x → Told X (News.gh m η) (News.st m (useUp σ C)) w1 q) : Rl X Y w0 N (News.gh m η) (News.st m (useUp σ C)) a w1 := by
  have hZo : ∀ i, Z i → Own X η σ i := fun i hi => by obtain ⟨q, h1, h2⟩ := hZ i hi; exact .inr ⟨q, by rw [bk_of (hC q h1)]; exact h2⟩
  have hη : ∀ b, Live σ b → News.gh m η b = η b := by
    intro b hb
    cases hx : News.at_ m b with
    | none => exact News.gh_out hx
    | some x =>
      rw [News.gh_in hx]
      rcases (hn b x hx).2 with ⟨e, _⟩ | ⟨_, e⟩
      · unfold Live at hb; rw [e] at hb; cases hb
      · exact e
  -- an own block is either that of a new thing, or one from before that is not used up
  have hbk : ∀ q k, bk (News.gh m η) (News.st m (useUp σ C)) q = some k → (∃ x, News.at_ m q = some x ∧ x.1.isOwn = true ∧ vb x.2 = some k) ∨ (News.at_ m q = none ∧ q ∉ C ∧ bk η σ q = some k) := by
    intro q k hk
    obtain ⟨h1, h2⟩ := bk_some hk
    cases hx : News.at_ m q with
    | some x =>
      rw [News.st_in hx] at h1
      rw [News.gh_in hx] at h2
      exact .inl ⟨x, rfl, h1, h2⟩
    | none =>
      rw [News.st_out hx] at h1
      rw [News.gh_out hx] at h2
      obtain ⟨e1, e2⟩ := bk_useUp (by rw [bk_of h1]; exact h2 : bk η (useUp σ C) q = some k)
      exact .inr ⟨rfl, e1, e2⟩
  have hzq : ∀ q k, q ∉ C → bk η σ q = some k → ¬ Z k := by
    intro q k hq hk hz
    obtain ⟨q', h1, h2⟩ := hZ k hz
    have := h.oinj q q' k hk (by rw [bk_of (hC q' h1)]; exact h2)
    subst this
    exact hq h1
  have hE : Ext (Own X η σ) w w1 := hw.mono fun i hi _ => hZo i hi
  have K : Keeps X η (News.gh m η) σ (News.st m (useUp σ C)) w w1 := by
    refine ⟨hE, ?_, ?_, hη⟩
    · rintro k (hk | ⟨q, hk⟩) hlt
      · exact .inl hk
      · rcases hbk q k hk with ⟨x, h1, h2, h3⟩ | ⟨_, _, h3⟩
        · rcases hb q x k h1 h2 h3 with h4 | h4
          · exact hZo k h4
          · omega
        · exact .inr ⟨q, h3⟩
    · intro b hb'
      unfold Live
      cases hx : News.at_ m b with
      | some x => rw [News.st_in hx]; exact (hn b x hx).1
      | none =>
        rw [News.st_out hx]
        by_cases e : b ∈ C
        · rw [useUp_in e]; rfl
        · rw [useUp_out e]; exact hb'
  refine h.chg K ⟨hw.os.trans h.ext.os, hw.tape.trans h.ext.tape, hw.output.trans h.ext.output, Nat.le_trans h.ext.size hw.size, fun i hi' hn' => ?_⟩ (fun n => (News.st_slot n).trans (useUp_slot n)) (fun q => News.at_ m q ≠ none) (fun b hb' => ?_) ?_ ?_ ?_ ?_ ?_ ?_ ?_
  · rw [hw.block i (Nat.lt_of_lt_of_le hi' h.ext.size) (fun ei => ?_)]
    · exact h.ext.block i hi' hn'
    · obtain ⟨q, h1, h2⟩ := hZ i ei
      rcases h.obase q i (by rw [bk_of (hC q h1)]; exact h2) with h3 | h3
      · omega
      · exact hn' h3
  · have hx : News.at_ m b = none := by cases hx : News.at_ m b with | none => rfl | some x => rw [hx] at hb'; simp at hb'
    rw [News.st_out hx]
    by_cases e : b ∈ C
    · exact .inr (useUp_in e)
    · exact .inl (useUp_out e)
  · intro q k _ hk
    rcases hbk q k hk with ⟨x, h1, h2, h3⟩ | ⟨_, _, h3⟩
    · rcases hb q x k h1 h2 h3 with h4 | h4
      · obtain ⟨q', h5, h6⟩ := hZ k h4
        exact h.obase q' k (by rw [bk_of (hC q' h5)]; exact h6)
      · exact .inl (Nat.le_trans h.ext.size h4)
    · exact h.obase q k h3
  · intro q q' k _ hk hk'
    rcases hbk q k hk with ⟨x, h1, h2, h3⟩ | ⟨_, h1, h3⟩
    · rcases hbk q' k hk' with ⟨x', h1', h2', h3'⟩ | ⟨_, h1', h3'⟩
      · exact hi q q' x x' k h1 h1' h2 h2' h3 h3'
      · rcases hb q x k h1 h2 h3 with h4 | h4
        · exact absurd h4 (hzq q' k h1' h3')
        · have := h.bk_lt h3'; omega
    · rcases hbk q' k hk' with ⟨x', h1', h2', h3'⟩ | ⟨_, h1', h3'⟩
      · rcases hb q' x' k h1' h2' h3' with h4 | h4
        · exact absurd h4 (hzq q k h1 h3)
        · have := h.bk_lt h3; omega
      · exact h.oinj q q' k h3 h3'
  · intro q k hq hk
    rcases hbk q k hk with ⟨x, h1, _⟩ | ⟨_, h1, h3⟩
    · exact absurd (by rw [h1]; simp) hq
    · exact hw.block k (h.bk_lt h3) (hzq q k h1 h3)
  · intro q hq T cs e
    cases hx : News.at_ m q with
    | none => exact absurd hx hq
    | some x => exact (ht q x hx).1 T cs e
  · intro q hq α e k xs ee
    cases hx : News.at_ m q with
    | none => exact absurd hx hq
    | some x => exact (ht q x hx).2.1 α e k xs ee
  · intro q hq α k xs ee
    cases hx : News.at_ m q with
    | none => exact absurd hx hq
    | some x => exact (ht q x hx).2.2 α k xs ee
  · intro q v hq hy hr
    cases hx : News.at_ m q with
    | none => exact absurd hx hq
    | some x =>
      rw [News.gh_in hx]
      rcases (hn q x hx).2 with ⟨_, e⟩ | ⟨e1, e2⟩
      · rw [e] at hy; cases hy
      · rw [e2]; exact h.pin q v hy (hC q e1)
/-- Rows are used up, and nothing takes their place. -/
theorem Rl.useRows (h : Rl X Y w0 N η σ a w) {C : List Nat} {Z : Nat → Prop} (hC : ∀ q ∈ C, (σ (2 * q + 1)).isOwn = true) (hZ : ∀ i, Z i → ∃ q ∈ C, vb (η q) = some i)
    (hw : Ext Z w w1) : Rl X Y w0 N η (useUp σ C) a w1 := h.news (m := []) hC hZ hw (fun q x e => by cases e) (fun q x k e => by cases e) (fun q q' x x' k e => by cases e) (fun q x e => by cases e)
theorem owns_form {w : World} {e sz n : Nat} {v : Value} {cs : List Value} (h : w.ownsRow 0 e sz v n cs) : (v = .slice none 0 0 ∧ n = 0) ∨ ∃ g c, v = .slice (some ⟨g, 0, none⟩) n c ∧ n ≤ c := by
  rcases h.2 with ⟨h1, h2⟩ | ⟨g, c, _, h1, _, _, h2, _⟩
  · exact .inl ⟨h1, h2⟩
  · exact .inr ⟨g, c, h1, h2⟩
theorem owns_vb {w : World} {e sz n : Nat} {v : Value} {cs : List Value} (h : w.ownsRow 0 e sz v n cs) : vb v = v.ownBlock := by
  rcases owns_form h with ⟨rfl, _⟩ | ⟨g, c, rfl, _⟩ <;> rfl
/-- A new row at a free number; the world grows. -/
theorem Rl.newRow (h : Rl X Y w0 N η σ a w) (hd : (σ (2 * d + 1)).isMem = false) (hy : Y.y d = none) {α : Type} {e : Nat} {k : EK α} {v : Value} {xs : List α} {cs : List Value} (hc : Reps (k.at_ (Own X η σ) w) k.sz xs cs)
    (hw : Ext (fun _ => False) w w1) (hv : w1.ownsRow 0 e k.sz v xs.length cs) (hb : ∀ b, v.ownBlock = some b → w.heap.size ≤ b) :
    Rl X Y w0 N (fun q => if q = d then v else η q) (upd σ (2 * d + 1) (.row e k xs)) a w1 := by
  have hvb := owns_vb hv
  have e1 : News.gh [(d, .row e k xs, v)] η = fun q => if q = d then v else η q := by
    funext q
    unfold News.gh News.at_ News.at_
    by_cases e : q = d
    · subst e; simp
    · simp [e]
  have e2 : News.st [(d, AV.row e k xs, v)] (useUp σ []) = upd σ (2 * d + 1) (.row e k xs) := rfl
  have hat : ∀ q x, News.at_ [(d, AV.row e k xs, v)] q = some x → q = d ∧ x = (.row e k xs, v) := by
    intro q x hx
    unfold News.at_ News.at_ at hx
    by_cases e : q = d
    · subst e; simp at hx; exact ⟨rfl, hx.symm⟩
    · simp [e] at hx
  rw [← e1, ← e2]
  refine h.news (C := []) (fun q hq => by simp at hq) (fun i hi => hi.elim) hw (fun q x hx => ?_) (fun q x k hx _ hk => ?_) (fun q q' x x' k hx hx' _ _ _ _ => ?_) (fun q x hx => ?_)
  · obtain ⟨rfl, rfl⟩ := hat q x hx
    exact ⟨rfl, .inl ⟨hd, hy⟩⟩
  · obtain ⟨rfl, rfl⟩ := hat q x hx
    exact .inr (hb k (by rw [← hvb]; exact hk))
  · rw [(hat q x hx).1, (hat q' x' hx').1]
  · obtain ⟨rfl, rfl⟩ := hat q x hx
    rw [e1, e2]
    refine ⟨fun T cs e => (by rw [upd_same] at e; cases e), fun α e k xs e' => ?_, fun α k xs e => (by rw [upd_same] at e; cases e)⟩
    rw [upd_same] at e'
    cases e'
    simp only [if_true]
    refine ⟨cs, hv, hc.imp_ fun p c hp => EK.at_step hp (hw.mono fun i hi _ => hi.elim) ?_⟩
    rintro i (hi | ⟨p, hi⟩) hlt
    · exact .inl hi
    · rcases bk_upd hi with ⟨rfl, _, h2⟩ | ⟨hp, h1, h2⟩
      · simp only [if_true] at h2
        have := hb i (by rw [← hvb]; exact h2)
        omega
      · simp only [hp, if_false] at h2
        exact .inr ⟨p, by rw [bk_of h1]; exact h2⟩
/-- A row is written in place. -/
theorem Rl.setRow' (h : Rl X Y w0 N η σ a w) {α : Type} {e : Nat} {k : EK α} {xs xs' : List α} (hd : σ (2 * d + 1) = .row e k xs)
    (hw : w.grownBy w1 (η d).ownBlock) {cs : List Value} (hv : w1.ownsRow 0 e k.sz (η d) xs'.length cs) (hp : Reps (k.at_ (Own X η σ) w) k.sz xs' cs) : Rl X Y w0 N η (upd σ (2 * d + 1) (.row e k xs')) a w1 := by
  have hr : (σ (2 * d + 1)).isOwn = true := by rw [hd]; rfl
  have hvb := (h.row d e k xs hd).vb
  have hE : Ext (fun i => vb (η d) = some i) w w1 := ⟨hw.os, hw.tape, hw.output, hw.size, fun i hi hn => hw.block i hi (fun e => hn (by rw [hvb]; exact e.symm))⟩
  refine h.upd1 hr rfl hE (fun T cs e => by cases e) (fun {α} e k xs e' => ?_) (fun {α} k xs e => by cases e)
  cases e'
  refine ⟨cs, hv, hp.imp_ fun p c hc => EK.at_step hc (hE.mono fun i hi _ => .inr ⟨d, by rw [bk_of hr]; exact hi⟩) ?_⟩
  rintro i (hi | ⟨q, hi⟩) _
  · exact .inl hi
  · rcases bk_upd hi with ⟨rfl, _, e2⟩ | ⟨_, e1, e2⟩
    · exact .inr ⟨q, by rw [bk_of hr]; exact e2⟩
    · exact .inr ⟨q, by rw [bk_of e1]; exact e2⟩
/-- A row as a slice that is read. -/
theorem RowOwn.reads {α : Type} {k : EK α} {X1 : Nat → Prop} {e : Nat} {v : Value} {xs : List α} (h : RowOwn X w e k v xs) (hX : ∀ i, X1 i → i < w.heap.size → X i) (hb : ∀ b, EV.vb v = some b → ¬ X1 b) : ∃ A c, v = .slice A xs.length c ∧ xs.length ≤ c ∧ k.row X1 w A xs := by
  obtain ⟨cs, h1, h2⟩ := h
  have hl := h1.1
  rcases h1.2 with ⟨hv, h0⟩ | ⟨g, cap, cur, hv, _, hg, h3, h4, h5, h6⟩
  · exact ⟨none, 0, by rw [hv, h0], by omega, by omega, fun hn => by omega⟩
  · refine ⟨some ⟨g, 0, none⟩, cap, hv, h3, by unfold maxLen at h4; omega, fun hn => ⟨_, rfl, (Array.getElem?_eq_some_iff.1 hg).1, hb g (by rw [hv]; rfl), fun j p hj => ?_⟩⟩
    refine ⟨(cs.drop (j * k.sz)).take k.sz, ?_, EK.at_step (h2.2 j p hj) (Ext.refl X w) hX, fun i u hu => ?_⟩
    · have hjl := (List.getElem?_eq_some_iff.1 hj).1
      have h7 : j * k.sz + k.sz ≤ cs.length := by rw [hl, ← Nat.succ_mul]; exact Nat.mul_le_mul_right _ hjl
      rw [List.length_take, List.length_drop]
      omega
    · rw [List.getElem?_take] at hu
      split at hu
      · rw [List.getElem?_drop] at hu
        rw [hv] at h1
        exact h1.cells (g := g) rfl _ u hu
      · cases hu
/-- What is not owned any more under d: nobody else has its block. -/
theorem Rl.dropped (h : Rl X Y w0 N η σ a w) {v : AV} (hd : (σ (2 * d + 1)).isOwn = true) (hv : v.isOwn = false) : ∀ i, Own X η (upd σ (2 * d + 1) v) i → Own X η σ i ∧ ∀ j, vb (η d) = some j → i ≠ j := by
  have hobd : ∀ j, vb (η d) = some j → bk η σ d = some j := fun j hj => by rw [bk_of hd]; exact hj
  rintro i (hi | ⟨q, hi⟩)
  · refine ⟨.inl hi, fun j hj e1 => ?_⟩
    subst e1
    rcases h.obase d i (hobd i hj) with h3 | h3
    · have := h.bound i hi; omega
    · exact h.apart i h3 hi
  · rcases bk_upd hi with ⟨rfl, h1, h2⟩ | ⟨hq, h1, h2⟩
    · rw [hv] at h1; cases h1
    · have h3 : bk η σ q = some i := by rw [bk_of h1]; exact h2
      exact ⟨.inr ⟨q, h3⟩, fun j hj e2 => hq (h.oinj q d i h3 (by rw [e2]; exact hobd j hj))⟩
/-- A row is read alone from now on. -/
theorem Rl.freeze (h : Rl X Y w0 N η σ a w) {α : Type} {e : Nat} {k : EK α} {xs : List α} (hd : σ (2 * d + 1) = .row e k xs) : Rl X Y w0 N η (upd σ (2 * d + 1) (.fz k xs)) a w := by
  have hr : (σ (2 * d + 1)).isOwn = true := by rw [hd]; rfl
  have hown := h.dropped (v := .fz k xs) hr rfl
  refine h.upd1 hr rfl (Ext.refl _ _) (fun T cs e => by cases e) (fun {α} e k xs e' => by cases e') (fun {α} k xs e => ?_)
  cases e
  exact (h.row d _ k xs hd).reads (fun i hi _ => (hown i hi).1) fun b hb hi => (hown b hi).2 b hb rfl
/-- A box is read alone from now on: its number is used up. -/
theorem Rl.freezeB (h : Rl X Y w0 N η σ a w) {T : Nat} {cs : List CV} (hd : σ (2 * d + 1) = .mem T cs) : Rl X Y w0 N η (upd σ (2 * d + 1) .gone) a w ∧
    ∃ g, η d = .pointer (some ⟨g, 0, none⟩) ∧ (PV.fb cs).rel (Live (upd σ (2 * d + 1) .gone)) (Own X η (upd σ (2 * d + 1) .gone)) η w (.pointer (some ⟨g, 0, none⟩)) := by
  have hr : (σ (2 * d + 1)).isOwn = true := by rw [hd]; rfl
  have hown := h.dropped (v := .gone) hr rfl
  refine ⟨h.upd1 hr rfl (Ext.refl _ _) (fun T cs e => by cases e) (fun {α} e k xs e' => by cases e') (fun {α} k xs e => by cases e), ?_⟩
  obtain ⟨g, vs, e1, e2, e3⟩ := h.box d T cs hd
  refine ⟨g, e1, ⟨g, 0, none⟩, vs, rfl, (Array.getElem?_eq_some_iff.1 e2).1, fun hi => (hown g hi).2 g (by rw [e1]; rfl) rfl, fun j v hv => ?_, CVs.rel_step (e := Ext.refl _ _) (fun i hi _ => (hown i hi).1) (Live.upd rfl) (fun _ _ => rfl) e3⟩
  rw [Addr.add_lit, blk_cell e2]
  simpa using hv
/-- Less may be known. -/
theorem Rl.weaken (h : Rl X Y w0 N η σ a w) (hs : ∀ n, σ' n = .any ∨ σ' n = σ n)
    (hl : ∀ (n : Nat) (u : Value) (X' : Nat → Prop) (w' : World), (σ' n).rel (Live σ) X' η w' u → (σ' n).rel (Live σ') X' η w' u)
    (hm : ∀ (b T : Nat) (cs : List CV) (vs : List Value) (X' : Nat → Prop) (w' : World), σ' (2 * b + 1) = .mem T cs → CVs.rel (Live σ) X' η w' cs vs → CVs.rel (Live σ') X' η w' cs vs) : Rl X Y w0 N η σ' a w := by
  have hbk : ∀ q k, bk η σ' q = some k → bk η σ q = some k := by
    intro q k hk
    obtain ⟨h1, h2⟩ := bk_some hk
    rcases hs (2 * q + 1) with e | e
    · rw [e] at h1; cases h1
    · rw [e] at h1; rw [bk_of h1]; exact h2
  have hO : ∀ i, Own X η σ' i → i < w.heap.size → Own X η σ i := by
    rintro i (hi | ⟨q, hi⟩) _
    · exact .inl hi
    · exact .inr ⟨q, hbk q i hi⟩
  have heq : ∀ n v, σ' n = v → v ≠ .any → σ n = v := by
    intro n v hv hne
    rcases hs n with e | e
    · rw [e] at hv; exact absurd hv.symm hne
    · rw [← e]; exact hv
  refine ⟨h.defers, h.size, h.ext, h.bound, h.apart, h.ybound, fun q k hk => h.obase q k (hbk q k hk), fun q q' k hk hk' => h.oinj q q' k (hbk q k hk) (hbk q' k hk'), ?_, ?_, ?_, ?_, fun r v e hr => h.pin r v e ?_, h.ypin⟩
  · intro n
    rcases hs (2 * n) with e | e
    · rw [e]; trivial
    · refine hl _ _ _ _ ?_
      rw [e]
      exact AV.rel_step (h.slot n) (Ext.refl _ _) hO (fun _ hb => hb) (fun _ _ => rfl)
  · intro b T cs e
    obtain ⟨g, vs, h0, h1, h2⟩ := h.box b T cs (heq _ _ e (by simp))
    exact ⟨g, vs, h0, h1, hm b T cs vs _ _ e (CVs.rel_step (e := Ext.refl _ _) hO (fun _ hb => hb) (fun _ _ => rfl) h2)⟩
  · intro r α e k xs hv
    exact (h.row r e k xs (heq _ _ hv (by simp))).kept (Ext.refl _ _) hO fun _ _ => rfl
  · intro r α k xs hv
    obtain ⟨A, c, h1, h2, h3⟩ := h.fz r k xs (heq _ _ hv (by simp))
    exact ⟨A, c, h1, h2, EK.row_step h3 (Ext.refl _ _) hO⟩
  · rcases hs (2 * r + 1) with e2 | e2
    · rw [e2] at hr; cases hr
    · rw [e2] at hr; exact hr
/-! ### Another number for what lies somewhere -/
def sw (r q n : Nat) : Nat := if n = r then q else n
def CV.ren (r q : Nat) : CV → CV
  | .bx b off => .bx (sw r q b) off
  | .rp b => .rp (sw r q b)
  | .er b sz n i off => .er (sw r q b) sz n i off
  | x => x
def PV.ren (r q : Nat) : PV → PV
  | .c x => .c (x.ren r q)
  | .ag cs => .ag (cs.map (CV.ren r q))
  | .fb cs => .fb (cs.map (CV.ren r q))
  | x => x
def AV.ren (r q : Nat) : AV → AV
  | .p x => .p (x.ren r q)
  | .tp l => .tp (l.map (PV.ren r q))
  | .fn f l => .fn f (l.map (PV.ren r q))
  | .mem T cs => .mem T (cs.map (CV.ren r q))
  | v => v
theorem AV.ren_own {r q : Nat} (v : AV) : (v.ren r q).isOwn = v.isOwn := by cases v <;> rfl
theorem AV.ren_mem {r q : Nat} (v : AV) : (v.ren r q).isMem = v.isMem := by cases v <;> rfl
def CV.ids : CV → List Nat
  | .bx b _ => [b]
  | .rp b => [b]
  | .er b _ _ _ _ => [b]
  | _ => []
def PV.ids : PV → List Nat
  | .c x => x.ids
  | .ag cs => cs.flatMap CV.ids
  | .fb cs => cs.flatMap CV.ids
  | .ob _ _ => []
def AV.ids : AV → List Nat
  | .p x => x.ids
  | .tp l => l.flatMap PV.ids
  | .fn _ l => l.flatMap PV.ids
  | .mem _ cs => cs.flatMap CV.ids
  | _ => []
section
variable {r q : Nat} {L1 L2 : Nat → Prop} {Z : Nat → Prop} {η2 : Nat → Value}
theorem CV.rel_ren (hL : ∀ b, L2 b → η2 b = η1 (sw r q b)) {x : CV} (hx : ∀ b ∈ x.ids, L2 b) {u : Value} (h : (x.ren r q).rel L1 Z η1 w u) : x.rel L2 Z η2 w u := by
  cases x with
  | bx b off => have := hL b (hx b (by simp [CV.ids])); exact ⟨hx b (by simp [CV.ids]), by rw [this]; exact h.2⟩
  | rp b => have := hL b (hx b (by simp [CV.ids])); exact ⟨hx b (by simp [CV.ids]), by rw [this]; exact h.2⟩
  | er b sz n i off => have := hL b (hx b (by simp [CV.ids])); exact ⟨hx b (by simp [CV.ids]), h.2.1, h.2.2.1, h.2.2.2.1, by rw [this]; exact h.2.2.2.2⟩
  | _ => exact h
theorem CVs.rel_ren (hL : ∀ b, L2 b → η2 b = η1 (sw r q b)) : ∀ {xs : List CV} {us : List Value}, (∀ b ∈ xs.flatMap CV.ids, L2 b) → CVs.rel L1 Z η1 w (xs.map (CV.ren r q)) us → CVs.rel L2 Z η2 w xs us
  | [], [], _, _ => trivial
  | x :: xs, u :: us, hx, h => ⟨CV.rel_ren hL (fun b hb => hx b (by simp only [List.flatMap_cons, List.mem_append]; exact .inl hb)) h.1, h.2.1, CVs.rel_ren hL (fun b hb => hx b (by simp only [List.flatMap_cons, List.mem_append]; exact .inr hb)) h.2.2⟩
theorem PV.rel_ren (hL : ∀ b, L2 b → η2 b = η1 (sw r q b)) {x : PV} (hx : ∀ b ∈ x.ids, L2 b) {u : Value} (h : (x.ren r q).rel L1 Z η1 w u) : x.rel L2 Z η2 w u := by
  cases x with
  | c x => exact CV.rel_ren hL hx h
  | ag cs => obtain ⟨vs, e, h⟩ := h; exact ⟨vs, e, CVs.rel_ren hL hx h⟩
  | fb cs => obtain ⟨ad, vs, e1, e2, e3, e4, h⟩ := h; exact ⟨ad, vs, e1, e2, e3, e4, CVs.rel_ren hL hx h⟩
  | ob T cs => exact h
theorem PVs.rel_ren (hL : ∀ b, L2 b → η2 b = η1 (sw r q b)) : ∀ {xs : List PV} {us : List Value}, (∀ b ∈ xs.flatMap PV.ids, L2 b) → PVs.rel L1 Z η1 w (xs.map (PV.ren r q)) us → PVs.rel L2 Z η2 w xs us
  | [], [], _, _ => trivial
  | x :: xs, u :: us, hx, h => ⟨PV.rel_ren hL (fun b hb => hx b (by simp only [List.flatMap_cons, List.mem_append]; exact .inl hb)) h.1, PVs.rel_ren hL (fun b hb => hx b (by simp only [List.flatMap_cons, List.mem_append]; exact .inr hb)) h.2⟩
theorem AV.rel_ren (hL : ∀ b, L2 b → η2 b = η1 (sw r q b)) {x : AV} (hx : ∀ b ∈ x.ids, L2 b) {u : Value} (h : (x.ren r q).rel L1 Z η1 w u) : x.rel L2 Z η2 w u := by
  cases x with
  | p x => exact PV.rel_ren hL hx h
  | tp l => obtain ⟨vs, e, h⟩ := h; exact ⟨vs, e, PVs.rel_ren hL hx h⟩
  | fn f l => obtain ⟨vs, e, h⟩ := h; exact ⟨vs, e, PVs.rel_ren hL hx h⟩
  | _ => trivial
end
/-- What is known in numbers of which one is another: r here is q there. -/
theorem Rl.rename {r q : Nat} (hrN : Y.y r = none) (hrq : r ≠ q) (hq : (σ (2 * q + 1)).isMem = false) (hids : ∀ n, ∀ b ∈ (σ n).ids, Live σ b) (h1 : ∀ n, σ' (2 * n) = (σ (2 * n)).ren r q) (h2 : ∀ b, b ≠ r → b ≠ q → σ' (2 * b + 1) = (σ (2 * b + 1)).ren r q) (h3 : σ' (2 * q + 1) = (σ (2 * r + 1)).ren r q) (h : Rl X Y w0 N η σ' a w) :
    Rl X Y w0 N (fun b => η (sw r q b)) σ a w := by
  have hloc : ∀ b, Live σ b → σ' (2 * sw r q b + 1) = (σ (2 * b + 1)).ren r q := by
    intro b hb
    unfold sw
    by_cases e : b = r
    · subst e; rw [if_pos rfl]; exact h3
    · rw [if_neg e]
      refine h2 b e (fun e2 => ?_)
      subst e2
      unfold Live at hb
      rw [hq] at hb
      cases hb
  have hbk : ∀ b k, bk (fun b => η (sw r q b)) σ b = some k → bk η σ' (sw r q b) = some k ∧ Live σ b := by
    intro b k hk
    obtain ⟨e1, e2⟩ := bk_some hk
    have hl : Live σ b := AV.isOwn_mem e1
    exact ⟨by rw [bk_of (by rw [hloc b hl, AV.ren_own]; exact e1)]; exact e2, hl⟩
  have hsw : ∀ b b', Live σ b → Live σ b' → sw r q b = sw r q b' → b = b' := by
    intro b b' hb hb' e
    have n1 : b ≠ q := by intro e2; subst e2; unfold Live at hb; rw [hq] at hb; cases hb
    have n2 : b' ≠ q := by intro e2; subst e2; unfold Live at hb'; rw [hq] at hb'; cases hb'
    unfold sw at e
    split at e <;> split at e <;> omega
  have hO : ∀ i, Own X (fun b => η (sw r q b)) σ i → i < w.heap.size → Own X η σ' i := by
    rintro i (hi | ⟨b, hb⟩) _
    · exact .inl hi
    · exact .inr ⟨_, (hbk b i hb).1⟩
  have hL : ∀ b, Live σ b → (fun b => η (sw r q b)) b = η (sw r q b) := fun _ _ => rfl
  refine ⟨h.defers, h.size, h.ext, h.bound, h.apart, h.ybound, fun b k hk => h.obase _ k (hbk b k hk).1, fun b b' k hk hk' => hsw b b' (hbk b k hk).2 (hbk b' k hk').2 (h.oinj _ _ k (hbk b k hk).1 (hbk b' k hk').1), ?_, ?_, ?_, ?_, fun b v e hb => ?_, h.ypin⟩
  · intro n
    have := h.slot n
    rw [h1] at this
    exact AV.rel_step (AV.rel_ren (L2 := Live σ) hL (hids _) this) (Ext.refl _ _) hO (fun _ hb => hb) (fun _ _ => rfl)
  · intro b T cs e
    have e' := hloc b (by unfold Live; rw [e]; rfl)
    rw [e] at e'
    obtain ⟨g, vs, g0, g1, g2⟩ := h.box _ T _ e'
    exact ⟨g, vs, g0, g1, CVs.rel_step (e := Ext.refl _ _) hO (fun _ hb => hb) (fun _ _ => rfl) (CVs.rel_ren (L2 := Live σ) hL (fun c hc => hids (2 * b + 1) c (by rw [e]; exact hc)) g2)⟩
  · intro b α e k xs hv
    have e' := hloc b (by unfold Live; rw [hv]; rfl)
    rw [hv] at e'
    exact (h.row _ e k xs e').kept (Ext.refl _ _) hO fun _ _ => rfl
  · intro b α k xs hv
    have e' := hloc b (by unfold Live; rw [hv]; rfl)
    rw [hv] at e'
    obtain ⟨A, c, g1, g2, g3⟩ := h.fz _ k xs e'
    exact ⟨A, c, g1, g2, EK.row_step g3 (Ext.refl _ _) hO⟩
  · have h5 : sw r q b = b := if_neg (by intro e2; subst e2; rw [hrN] at e; cases e)
    have h6 := hloc b (AV.isOwn_mem hb)
    simp only [h5] at h6 ⊢
    exact h.pin b v e (by rw [h6, AV.ren_own]; exact hb)
end
end Go.Proofs.YtgjpphcbdbfhlaaGreat.L.EV
namespace Go.Proofs.YtgjpphcbdbfhlaaGreat.L.EV
open Go.RowKit Go.Proofs Go.Proofs.YtgjpphcbdbfhlaaGreatW.PrintWords
def spl {α : Type} (cs : List α) (o : Nat) (us : List α) : List α := cs.take o ++ us ++ cs.drop (o + us.length)
theorem spl_length {α : Type} {cs us : List α} {o : Nat} (h : o + us.length ≤ cs.length) : (spl cs o us).length = cs.length := by
  simp only [spl, List.length_append, List.length_take, List.length_drop]; omega
theorem spl_get {α : Type} {cs us : List α} {o : Nat} (h : o + us.length ≤ cs.length) (t : Nat) : (spl cs o us)[t]? = if o ≤ t ∧ t < o + us.length then us[t - o]? else cs[t]? := by
  unfold spl
  by_cases h1 : t < o
  · rw [List.append_assoc, List.getElem?_append_left (by rw [List.length_take]; omega), List.getElem?_take, if_pos h1, if_neg (by omega)]
  · by_cases h2 : t < o + us.length
    · rw [List.append_assoc, List.getElem?_append_right (by rw [List.length_take]; omega), List.length_take, Nat.min_eq_left (by omega), List.getElem?_append_left (by omega), if_pos (by omega)]
    · rw [List.getElem?_append_right (by rw [List.length_append, List.length_take]; omega), List.length_append, List.length_take, Nat.min_eq_left (by omega), List.getElem?_drop, if_neg (by omega)]
      congr 1; omega
theorem part_get {α : Type} (cs : List α) (o n t : Nat) : ((cs.drop o).take n)[t]? = if t < n then cs[o + t]? else none := by
  rw [List.getElem?_take]
  split
  · rw [List.getElem?_drop]
  · rfl
theorem reps_set {α : Type} {Ra : α → List Value → Prop} {sz : Nat} {xs : List α} {cs us : List Value} {i off : Nat} {p' : α} (h : Reps Ra sz xs cs) (hi : i < xs.length) (ho : off + us.length ≤ sz)
    (hp : Ra p' (spl ((cs.drop (i * sz)).take sz) off us)) : Reps Ra sz (xs.set i p') (spl cs (i * sz + off) us) := by
  have hl := h.1
  have hb : i * sz + sz ≤ cs.length := by rw [hl, ← Nat.succ_mul]; exact Nat.mul_le_mul_right _ hi
  have hle : (i * sz + off) + us.length ≤ cs.length := by omega
  refine ⟨by rw [spl_length hle, List.length_set]; exact hl, fun j p hj => ?_⟩
  rw [List.getElem?_set] at hj
  by_cases e : i = j
  · subst e
    rw [if_pos rfl, if_pos hi] at hj
    cases hj
    have : ((spl cs (i * sz + off) us).drop (i * sz)).take sz = spl ((cs.drop (i * sz)).take sz) off us := by
      apply List.ext_getElem?
      intro t
      rw [part_get, spl_get hle, spl_get (by rw [List.length_take, List.length_drop]; omega), part_get]
      by_cases ht : t < sz
      · rw [if_pos ht, if_pos ht]
        by_cases h1 : off ≤ t ∧ t < off + us.length
        · rw [if_pos h1, if_pos (by omega)]
          congr 1; omega
        · rw [if_neg h1, if_neg (by omega)]
      · rw [if_neg ht, if_neg ht, if_neg (by omega)]
    rw [this]
    exact hp
  · rw [if_neg e] at hj
    have hjl := (List.getElem?_eq_some_iff.1 hj).1
    have hsep : j * sz + sz ≤ i * sz ∨ i * sz + sz ≤ j * sz := by
      rcases Nat.lt_or_gt_of_ne e with h1 | h1
      · right; rw [← Nat.succ_mul]; exact Nat.mul_le_mul_right _ h1
      · left; rw [← Nat.succ_mul]; exact Nat.mul_le_mul_right _ h1
    have : ((spl cs (i * sz + off) us).drop (j * sz)).take sz = (cs.drop (j * sz)).take sz := by
      apply List.ext_getElem?
      intro t
      rw [part_get, part_get, spl_get hle]
      by_cases ht : t < sz
      · rw [if_pos ht, if_pos ht, if_neg (by omega)]
      · rw [if_neg ht, if_neg ht]
    rw [this]
    exact h.2 j p hj
theorem own_write {P : Program} {w : World} {base e sz n c g o : Nat} {cs us : List Value} (h : w.ownsRow base e sz (.slice (some ⟨g, 0, none⟩) n c) n cs) (ho : o + us.length ≤ cs.length) (h1 : ∀ u ∈ us, u.oneCell' = true) :
    ∃ w1, (storeCells ⟨g, o, none⟩ us).run P w = .ok () w1 ∧ w1.ownsRow base e sz (.slice (some ⟨g, 0, none⟩) n c) n (spl cs o us) ∧ w.grownBy w1 (some g) := by
  obtain ⟨hl, h2⟩ := h
  rcases h2 with ⟨h2, _⟩ | ⟨g', cap, cur, hv, hb, hg, h3, h4, h5, h6⟩
  · cases h2
  · injection hv with hv _ hc
    injection hv with hv
    injection hv with hv
    subst hv
    subst hc
    have hcl : cs.length ≤ cur.size := by rw [h5, hl]; exact Nat.mul_le_mul_right _ h3
    have hst := run_storeCells_at (P := P) g o e us 0 cur w hg (by omega) h1
    refine ⟨_, hst, ⟨by rw [spl_length ho]; exact hl, .inr ⟨g, c, _, rfl, hb, setRow_heap w g cur _ e (0, 0) hg, h3, h4, ?_, ?_⟩⟩, ⟨rfl, rfl, rfl, by simp [World.setRow], fun k hk hn => ?_⟩⟩
    · rw [← h5]
      simp only [Nat.add_zero]
      change (spl cur.toList o us).toArray.size = cur.size
      have := Array.length_toList (xs := cur)
      rw [List.size_toArray, spl_length (by omega)]
      exact this
    · simp only [Nat.add_zero]
      rw [← hl]
      have e1 : cur.toList.take cs.length = cs := by rw [hl]; exact h6
      change ((spl cur.toList o us).take cs.length) = spl cs o us
      apply List.ext_getElem?
      intro t
      have hcl' : o + us.length ≤ cur.toList.length := by have := Array.length_toList (xs := cur); omega
      rw [List.getElem?_take, spl_get hcl', spl_get ho]
      by_cases ht : t < cs.length
      · rw [if_pos ht]
        have : cs[t]? = cur.toList[t]? := by
          conv => lhs; rw [← e1]
          rw [List.getElem?_take, if_pos ht]
        rw [this]
      · rw [if_neg ht, if_neg (by omega), List.getElem?_eq_none (by omega)]
    · exact setRow_other w g k _ (fun e => hn (by rw [e]))
end Go.Proofs.YtgjpphcbdbfhlaaGreat.L.EV
namespace Go.Proofs.YtgjpphcbdbfhlaaGreat.L.EV
open Go.RowKit Go.Proofs Go.Proofs.YtgjpphcbdbfhlaaGreatW.PrintWords

/-! ### Types -/
/-- A type's kind as an element of rows. -/
structure KT : Type 1 where
  ty : Type
  k : EK ty
/-- Structs of three whole numbers are compared, number by number. -/
structure EqS3 (P : Program) (t : Nat) : Prop where
  eq : ∀ (d : Nat) (w : World) (x0 y0 : Int) (x1 y1 : Int) (x2 y2 : Int), (Op.equalIn (d + 2) t (.agg #[.int .i64 x0, .int .i64 x1, .int .i64 x2]) (.agg #[.int .i64 y0, .int .i64 y1, .int .i64 y2])).run P w = .ok (x0 == y0 && (x1 == y1 && (x2 == y2))) w
  gd : P.eqGuardType P.depth t = false
structure TI : Type 1 where
  agg : Bool
  size : Nat
  zero : List Value
  elem : Option Nat
  offs : List (Nat × Nat)
  ik : Option IntKind
  bo : Bool
  str : Bool
  st : Bool
  bytes : Nat
  arr : Option (Nat × Nat)
  ek : Option KT
  eq3 : Bool
/-- A row of zeros of whole numbers. -/
def zI64 : List Value → Nat → Bool
  | [], 0 => true
  | .int .i64 (.ofNat 0) :: r, n + 1 => zI64 r n
  | _, _ => false
def tiOf (P : Program) (t : Nat) : Option TI :=
  match P.info? t, P.underlying t with
  | some i, some d => i.zero.map fun z =>
    { agg := (match d with | .struct _ => true | .array _ _ => true | _ => false), size := i.size, zero := (match d with | .array _ _ => [] | _ => z.cells.toList),
      elem := (match d with | .slice e => some e | _ => none),
      offs := (match d with | .struct fs => fs.toList.map (fun f => (f.offset, ((P.info? f.type).map (·.size)).getD 0)) | _ => []),
      ik := (match d with | .int k => some k | _ => none), bo := (match d with | .bool => true | _ => false), str := (match d with | .string => true | _ => false), st := (match d with | .struct _ => true | _ => false), bytes := i.bytes, arr := (match d with | .array n e => (match Nat.beq i.size n && zI64 z.cells.toList n with | true => some (n, e) | false => none) | _ => none), ek := none, eq3 := false }
  | _, _ => none
/-- The table's word on a type (its kind is told beside). -/
def TiOk (P : Program) (t : Nat) (ti : TI) : Prop := tiOf P t = some { ti with ek := none, eq3 := false } ∧ (ti.eq3 = true → EqS3 P t)
section
variable {P : Program} {t : Nat} {ti : TI}
theorem tiOf_inv (h : TiOk P t ti) : ∃ i d z, P.info? t = some i ∧ P.underlying t = some d ∧ i.zero = some z ∧ ti.size = i.size ∧ (ti.zero ≠ [] ∨ ti.st = true → ti.zero = z.cells.toList) ∧
    ti.agg = (match d with | .struct _ => true | .array _ _ => true | _ => false) ∧ ti.elem = (match d with | .slice e => some e | _ => none) ∧
    ti.offs = (match d with | .struct fs => fs.toList.map (fun f => (f.offset, ((P.info? f.type).map (·.size)).getD 0)) | _ => []) ∧
    ti.ik = (match d with | .int k => some k | _ => none) ∧ ti.bo = (match d with | .bool => true | _ => false) ∧ ti.str = (match d with | .string => true | _ => false) ∧ ti.st = (match d with | .struct _ => true | _ => false) ∧ ti.bytes = i.bytes ∧ ti.arr = (match d with | .array n e => (match Nat.beq i.size n && zI64 z.cells.toList n with | true => some (n, e) | false => none) | _ => none) := by
  obtain ⟨a1, a2, a3, a4, a5, a6, a7, a8, a9, a10, a11, a12, a13⟩ := ti
  replace h := h.1
  unfold tiOf at h
  split at h
  · rename_i i d hi hd
    obtain ⟨z, hz, e⟩ := Option.map_eq_some_iff.1 h
    cases e
    refine ⟨i, d, z, hi, hd, hz, rfl, fun hh => ?_, rfl, rfl, rfl, rfl, rfl, rfl, rfl, rfl, rfl⟩
    cases d <;> first | rfl | (rcases hh with hh | hh <;> first | exact absurd rfl hh | cases hh)
  · cases h
theorem ti_size (h : TiOk P t ti) (w : World) : (sizeOf t).run P w = .ok ti.size w := by
  obtain ⟨i, d, z, hi, hd, hz, hs, _⟩ := tiOf_inv h
  simp [sizeOf, typeInfo, hi, hs]
theorem ti_agg (h : TiOk P t ti) (w : World) : (isAgg t).run P w = .ok ti.agg w := by
  obtain ⟨i, d, z, hi, hd, hz, hs, _, ha, _⟩ := tiOf_inv h
  simp only [isAgg, Sem.run_bind, run_underlying hd, Result.andThen_ok]
  rw [ha]
  cases d <;> rfl
theorem ti_zero (h : TiOk P t ti) (w : World) : ∃ z, (zeroValue t).run P w = .ok z w ∧ (ti.zero ≠ [] ∨ ti.st = true → z.cells = ti.zero.toArray) := by
  obtain ⟨i, d, z, hi, hd, hz, hs, hzz, _⟩ := tiOf_inv h
  exact ⟨z, by simp [zeroValue, typeInfo, hi, hz], fun hh => by rw [hzz hh]⟩
theorem ti_elem (h : TiOk P t ti) {e : Nat} (he : ti.elem = some e) : P.underlying t = some (.slice e) := by
  obtain ⟨i, d, z, hi, hd, hz, hs, hzz, _, h1, _⟩ := tiOf_inv h
  rw [hd]
  rw [he] at h1
  cases d <;> simp at h1
  rw [h1]
theorem ti_ik (h : TiOk P t ti) {k : IntKind} (he : ti.ik = some k) : P.underlying t = some (.int k) := by
  obtain ⟨i, d, z, hi, hd, hz, hs, hzz, _, _, _, h1, _⟩ := tiOf_inv h
  rw [hd]
  rw [he] at h1
  cases d <;> simp at h1
  rw [h1]
theorem ti_bo (h : TiOk P t ti) (he : ti.bo = true) : P.underlying t = some .bool := by
  obtain ⟨i, d, z, hi, hd, hz, hs, hzz, _, _, _, _, h1, _⟩ := tiOf_inv h
  rw [hd]
  rw [he] at h1
  cases d <;> simp at h1
  rfl
theorem ti_str (h : TiOk P t ti) (he : ti.str = true) : P.underlying t = some .string := by
  obtain ⟨i, d, z, hi, hd, hz, hs, hzz, _, _, _, _, _, h1, _⟩ := tiOf_inv h
  rw [hd]
  rw [he] at h1
  cases d <;> simp at h1
  rfl
theorem ti_st (h : TiOk P t ti) (he : ti.st = true) : ∃ fs, P.underlying t = some (.struct fs) ∧ ti.offs = fs.toList.map (fun f => (f.offset, ((P.info? f.type).map (·.size)).getD 0)) := by
  obtain ⟨i, d, z, hi, hd, hz, hs, hzz, _, _, h2, _, _, _, h1, _⟩ := tiOf_inv h
  rw [he] at h1
  cases d <;> simp at h1
  exact ⟨_, hd, h2⟩
theorem ti_field (h : TiOk P t ti) {f o s : Nat} (hf : ti.offs[f]? = some (o, s)) (hs0 : s ≠ 0) (ad : Addr) (w : World) :
    (Instr.fieldAt t (.pointer (some ad)) f).run P w = .ok (.pointer (some (ad.add o))) w := by
  obtain ⟨i, d, z, hi, hd, hz, hs, hzz, _, _, h1, _⟩ := tiOf_inv h
  rw [h1] at hf
  cases d <;> simp at hf
  rename_i fs
  obtain ⟨x, hx, h2, h3⟩ := hf
  have hsz : (sizeOf x.type).run P w = .ok s w := by
    cases hq : P.info? x.type with
    | none => rw [hq] at h3; simp at h3; omega
    | some y => rw [hq] at h3; simp at h3; simp [sizeOf, typeInfo, hq, h3]
  simp [Instr.fieldAt, run_underlying hd, hx, Instr.sureAddr, fieldPlace, hsz, hs0, h2]
end
theorem ti_info {P : Program} {t : Nat} {ti : TI} (h : TiOk P t ti) : ∃ i z, P.info? t = some i ∧ i.zero = some z ∧ i.size = ti.size ∧ i.bytes = ti.bytes ∧ (ti.zero ≠ [] → z.cells = ti.zero.toArray) := by
  obtain ⟨i, d, z, hi, hd, hz, hs, hzz, _, _, _, _, _, _, _, hb, _⟩ := tiOf_inv h
  exact ⟨i, z, hi, hz, hs.symm, hb.symm, fun hh => by rw [hzz (.inl hh)]⟩
theorem zI64_at : ∀ (l : List Value) (n : Nat), zI64 l n = true → l = List.replicate n (.int .i64 0)
  | [], 0, _ => rfl
  | [], n + 1, h => by simp [zI64] at h
  | x :: r, 0, h => by unfold zI64 at h; split at h <;> first | (rename_i hx _; cases hx; done) | (rename_i hx; cases hx; done) | cases h
  | x :: r, n + 1, h => by
    unfold zI64 at h
    split at h
    · rename_i h1 h2; cases h1
    · rename_i r' m h1 h2; cases h1; cases h2; rw [zI64_at _ _ h]; rfl
    · cases h
/-- A table's word on an array of whole numbers. -/
theorem ti_arr {P : Program} {t n e : Nat} {ti : TI} (h : TiOk P t ti) (ha : ti.arr = some (n, e)) : P.underlying t = some (.array n e) ∧ ti.agg = true ∧ ti.size = n ∧ ∀ w : World, ∃ z, (zeroValue t).run P w = .ok z w ∧ z.cells = (List.replicate n (Value.int .i64 0)).toArray := by
  obtain ⟨i, d, z, hi, hd, hz, hs, hzz, h1, _, _, _, _, _, _, _, h2⟩ := tiOf_inv h
  rw [ha] at h2
  cases d <;> simp at h2
  rename_i n' e'
  split at h2
  · rename_i hb
    rw [Bool.and_eq_true] at hb
    cases h2
    refine ⟨hd, h1, by rw [hs]; exact Nat.eq_of_beq_eq_true hb.1, fun w => ⟨z, by simp [zeroValue, typeInfo, hi, hz], ?_⟩⟩
    rw [← zI64_at _ _ hb.2]
  · cases h2
def lookT : List (Nat × TI) → Nat → Option TI
  | [], _ => none
  | (k, v) :: r, n => match Nat.beq n k with
    | true => some v
    | false => lookT r n
inductive AllTi (P : Program) : List (Nat × TI) → Prop
  | nil : AllTi P []
  | cons {k : Nat} {v : TI} {l : List (Nat × TI)} (h : TiOk P k v) (r : AllTi P l) : AllTi P ((k, v) :: l)
theorem lookT_ok {P : Program} {l : List (Nat × TI)} (h : AllTi P l) : ∀ t ti, lookT l t = some ti → TiOk P t ti := by
  induction h with
  | nil => intro t ti h; cases h
  | cons h r ih =>
    intro t ti ht
    unfold lookT at ht
    split at ht
    · rename_i hb
      cases ht
      have := Nat.eq_of_beq_eq_true hb
      subst this
      exact h
    · exact ih t ti ht
theorem add_add (a : Addr) (m n : Nat) : (a.add m).add n = a.add (m + n) := by
  unfold Addr.add
  by_cases hm : m = 0
  · subst hm; simp
  · by_cases hn : n = 0
    · subst hn; simp [hm]
    · simp [hm, hn, Nat.add_assoc]
theorem add_lit (b o n : Nat) : (⟨b, o, none⟩ : Addr).add n = ⟨b, o + n, none⟩ := Addr.add_lit b o n

/-! ### Reading what is known -/
universe u v
def M (α : Type u) := (Nat → AV) → Option (α × List Nat)
def ret {α : Type u} (a : α) : M α := fun _ => some (a, [])
def fail {α : Type u} : M α := fun _ => none
def bnd {α : Type u} {β : Type v} (m : M α) (f : α → M β) : M β := fun σ =>
  match m σ with
  | none => none
  | some (a, r) => match f a σ with
    | none => none
    | some (b, s) => some (b, r ++ s)
def get (n : Nat) : M AV := fun σ => some (σ n, [n])
theorem bnd_some {α : Type u} {β : Type v} {m : M α} {f : α → M β} {σ : Nat → AV} {x : β × List Nat} (h : bnd m f σ = some x) : ∃ a r s, m σ = some (a, r) ∧ f a σ = some (x.1, s) ∧ x.2 = r ++ s := by
  unfold bnd at h
  split at h
  · cases h
  · rename_i a r hm
    split at h
    · cases h
    · rename_i b s hf
      cases h
      exact ⟨a, r, s, hm, hf, rfl⟩
/-- The same answer wherever what was read is the same. -/
def Framed {α : Type u} (m : M α) : Prop := ∀ σ x, m σ = some x → ∀ σ', (∀ n ∈ x.2, σ' n = σ n) → m σ' = some x
theorem Framed.ret {α : Type u} (a : α) : Framed (ret a) := fun _ _ h _ _ => h
theorem Framed.fail {α : Type u} : Framed (fail : M α) := fun _ _ h _ _ => by cases h
theorem Framed.get (n : Nat) : Framed (get n) := fun σ x h σ' e => by
  unfold EV.get at h ⊢
  cases h
  rw [e n (by simp)]
theorem Framed.bnd {α : Type u} {β : Type v} {m : M α} {f : α → M β} (hm : Framed m) (hf : ∀ a, Framed (f a)) : Framed (bnd m f) := fun σ x h σ' e => by
  obtain ⟨a, r, s, h1, h2, h3⟩ := bnd_some h
  have h1' := hm σ _ h1 σ' (fun n hn => e n (by rw [h3]; exact List.mem_append_left _ hn))
  have h2' := hf a σ _ h2 σ' (fun n hn => e n (by rw [h3]; exact List.mem_append_right _ hn))
  unfold EV.bnd
  rw [h1']
  simp only
  rw [h2']
  simp only
  rw [← h3]
/-! #### What is copied is taken down to its constructors -/
def vcps {β : Type u} (x : Value) (k : Value → β) : β :=
  match x with
  | .int a n => k (.int a n)
  | .bool b => k (.bool b)
  | .string s => k (.string s)
  | .slice a n c => k (.slice a n c)
  | x => k x
theorem vcps_eq {β : Type u} (x : Value) (k : Value → β) : vcps x k = k x := by cases x <;> rfl
def ccps {β : Type u} (x : CV) (k : CV → β) : β :=
  match x with
  | .any => k .any
  | .v x => vcps x fun x => k (.v x)
  | .sl d xs => k (.sl d xs)
  | .bx b off => k (.bx b off)
  | .el d xs i off => k (.el d xs i off)
  | .rp r => k (.rp r)
  | .er r sz n i off => k (.er r sz n i off)
  | .ow e d xs => k (.ow e d xs)
theorem ccps_eq {β : Type u} (x : CV) (k : CV → β) : ccps x k = k x := by cases x <;> first | rfl | exact vcps_eq _ (fun x => k (.v x))
def lcps {β : Type u} : List CV → (List CV → β) → β
  | [], k => k []
  | x :: xs, k => ccps x fun x => lcps xs fun xs => k (x :: xs)
theorem lcps_eq {β : Type u} : ∀ (xs : List CV) (k : List CV → β), lcps xs k = k xs
  | [], _ => rfl
  | x :: xs, k => by unfold lcps; rw [ccps_eq, lcps_eq xs]
def pcps {β : Type u} (x : PV) (k : PV → β) : β :=
  match x with
  | .c x => ccps x fun x => k (.c x)
  | .ag cs => lcps cs fun cs => k (.ag cs)
  | .fb cs => lcps cs fun cs => k (.fb cs)
  | .ob T cs => k (.ob T cs)
theorem pcps_eq {β : Type u} (x : PV) (k : PV → β) : pcps x k = k x := by cases x <;> first | exact ccps_eq _ (fun x => k (.c x)) | exact lcps_eq _ (fun cs => k (.ag cs)) | exact lcps_eq _ (fun cs => k (.fb cs)) | rfl
def acps {β : Type u} (x : AV) (k : AV → β) : β :=
  match x with
  | .p x => pcps x fun x => k (.p x)
  | .tp l => k (.tp l)
  | .fn f l => k (.fn f l)
  | .ai xs => k (.ai xs)
  | _ => k .any
/-! #### Operands -/
def evA (x : Operand) : M AV :=
  match x with
  | .tmp t => get (2 * t)
  | .const v => ret (.p (.c (.v v)))
  | .func f => ret (.p (.c (.v (.func (.func f) #[] #[]))))
  | .global _ => fail
theorem evA_framed (x : Operand) : Framed (evA x) := by
  cases x <;> first | exact Framed.get _ | exact Framed.ret _ | exact Framed.fail
section
variable {X : Nat → Prop} {Y : Came} {w0 w : World} {N : Nat} {η : Nat → Value} {σ : Nat → AV} {a : Act}
theorem evA_sound (R : Rl X Y w0 N η σ a w) {x : Operand} {v : AV} {r : List Nat} (h : evA x σ = some (v, r)) : v.rel (Live σ) (Own X η σ) η w (a.eval x) := by
  cases x with
  | tmp t => unfold evA get at h; cases h; exact R.slot t
  | const c => unfold evA ret at h; cases h; rfl
  | func f => unfold evA ret at h; cases h; rfl
  | global g => cases h
end
/-- A row that is read alone is what it reads as. -/
def evS (x : Operand) : M AV := bnd (evA x) fun u =>
  match u with
  | .p (.c (.rp r)) => bnd (get (2 * r + 1)) fun m => (match m with
    | .fz k xs => ret (.p (.c (.sl k xs)))
    | _ => ret (.p (.c (.rp r))))
  | u => ret u
theorem evS_framed (x : Operand) : Framed (evS x) := (evA_framed x).bnd fun u => by
  split
  · refine (Framed.get _).bnd fun m => ?_
    split <;> exact Framed.ret _
  · exact Framed.ret _
theorem evS_sound {X : Nat → Prop} {Y : Came} {w0 w : World} {N : Nat} {η : Nat → Value} {σ : Nat → AV} {a : Act} (R : Rl X Y w0 N η σ a w) {x : Operand} {v : AV} {r : List Nat} (h : evS x σ = some (v, r)) : v.rel (Live σ) (Own X η σ) η w (a.eval x) := by
  obtain ⟨u, r1, r2, h1, h2, _⟩ := bnd_some h
  have e1 := evA_sound R h1
  split at h2
  · rename_i q
    obtain ⟨m, r3, r4, h3, h4, _⟩ := bnd_some h2
    unfold get at h3
    injection h3 with h3
    injection h3 with h3 _
    split at h4
    · rename_i al k xs
      cases h4
      have e2 : a.eval x = η q := e1.2
      rw [e2]
      exact R.fz q k xs h3
    · cases h4; exact e1
  · cases h2; exact e1
abbrev Wr := List (Nat × AV)
/-- What an operation writes, and what it asks. -/
structure Out : Type 1 where
  wr : Wr
  pre : Option Prop
def Ask : Option Prop → Prop
  | none => True
  | some p => p
def app : Wr → (Nat → AV) → Nat → AV
  | [], σ => σ
  | (k, v) :: r, σ => upd (app r σ) k v
def wrD (N : Nat) (d : Option Nat) (p : Option Prop) (v : AV) : M Out :=
  match d with
  | some d => if d < N then ret ⟨[(2 * d, v)], p⟩ else fail
  | none => ret ⟨[], p⟩
theorem wrD_framed (N : Nat) (d : Option Nat) (p : Option Prop) (v : AV) : Framed (wrD N d p v) := by
  unfold wrD
  split
  · split
    · exact Framed.ret _
    · exact Framed.fail
  · exact Framed.ret _
/-- What carrying it out comes to. -/
def Yd (P : Program) (o : Oper) (a : Act) (w : World) (v : Value) (w' : World) : Prop :=
  (execOp a.eval o).run P w = .ok (.value v) w' ∨ ((execOp a.eval o).run P w = .ok .skip w' ∧ v = undef)
section
variable {P : Program} {X : Nat → Prop} {Y : Came} {w0 w : World} {N : Nat} {η : Nat → Value} {σ : Nat → AV} {a : Act} {o : Oper}
def Good (P : Program) (X : Nat → Prop) (Y : Came) (w0 : World) (N : Nat) (σ : Nat → AV) (a : Act) (w : World) (o : Oper) (wr : Wr) : Prop :=
  ∃ v w' η', Yd P o a w v w' ∧ Rl X Y w0 N η' (app wr σ) (a.put o.dst v) w'
theorem wrD_some {d : Option Nat} {p : Option Prop} {V : AV} {ou : Out} {r : List Nat} (h : wrD N d p V σ = some (ou, r)) : ou.pre = p ∧ ((d = none ∧ ou.wr = []) ∨ ∃ k, d = some k ∧ k < N ∧ ou.wr = [(2 * k, V)]) := by
  cases d with
  | none => cases h; exact ⟨rfl, .inl ⟨rfl, rfl⟩⟩
  | some k =>
    unfold wrD at h
    by_cases hk : k < N
    · simp only [hk, if_true] at h
      cases h
      exact ⟨rfl, .inr ⟨k, rfl, hk, rfl⟩⟩
    · simp only [hk, if_false] at h
      cases h
/-- An operation that yields a value in the world that it got. -/
theorem wrD_good (R : Rl X Y w0 N η σ a w) {p : Option Prop} {V : AV} {ou : Out} {r : List Nat} (h : wrD N o.dst p V σ = some (ou, r)) (hp : Ask ou.pre) (hv : Ask p → ∃ v, V.rel (Live σ) (Own X η σ) η w v ∧ Yd P o a w v w) : Good P X Y w0 N σ a w o ou.wr := by
  obtain ⟨e1, e2⟩ := wrD_some h
  rw [e1] at hp
  obtain ⟨v, h1, h2⟩ := hv hp
  rcases e2 with ⟨e3, e4⟩ | ⟨k, e3, e4, e5⟩
  · exact ⟨v, w, η, h2, by rw [e3, e4]; exact R⟩
  · exact ⟨v, w, η, h2, by rw [e3, e5]; exact R.put e4 h1⟩
theorem acps_p {β : Type u} (x : PV) (k : AV → β) : acps (.p x) k = k (.p x) := pcps_eq x (fun x => k (.p x))
theorem acps_wrD {p : Option Prop} {V : AV} {ou : Out} {r : List Nat} (h : acps V (wrD N o.dst p) σ = some (ou, r)) : ∃ V', wrD N o.dst p V' σ = some (ou, r) ∧ ∀ L X' η' w' u, V.rel L X' η' w' u → V'.rel L X' η' w' u := by
  cases V with
  | p x => rw [acps_p] at h; exact ⟨_, h, fun _ _ _ _ _ k => k⟩
  | tp l => exact ⟨_, h, fun _ _ _ _ _ k => k⟩
  | fn f l => exact ⟨_, h, fun _ _ _ _ _ k => k⟩
  | ai xs => exact ⟨_, h, fun _ _ _ _ _ k => k⟩
  | _ => exact ⟨_, h, fun _ _ _ _ _ k => trivial⟩
/-! #### move, assign -/
theorem acps_framed (V : AV) {k : AV → M Out} (hk : ∀ v, Framed (k v)) : Framed (acps V k) := by
  cases V with
  | p x => rw [acps_p]; exact hk _
  | _ => exact hk _
def opMove (N : Nat) (o : Oper) (x : Operand) : M Out := bnd (evA x) fun v => acps v (wrD N o.dst none)
theorem opMove_framed (x : Operand) : Framed (opMove N o x) := (evA_framed x).bnd fun v => acps_framed v fun _ => wrD_framed _ _ _ _
theorem opMove_val (R : Rl X Y w0 N η σ a w) {x : Operand} (hy : Yd P o a w (a.eval x) w) {ou : Out} {r : List Nat} (h : opMove N o x σ = some (ou, r)) (hp : Ask ou.pre) : Good P X Y w0 N σ a w o ou.wr := by
  obtain ⟨v, r1, r2, h1, h2, _⟩ := bnd_some h
  obtain ⟨V', h3, h4⟩ := acps_wrD h2
  exact wrD_good R h3 hp fun _ => ⟨_, h4 _ _ _ _ _ (evA_sound R h1), hy⟩
/-! #### pick -/
def opPick (N : Nat) (o : Oper) (c x y : Operand) : M Out := bnd (evA c) fun v =>
  match v with
  | .p (.c (.v (.bool b))) => (match b with | true => opMove N o x | false => opMove N o y)
  | _ => fail
theorem opPick_framed (c x y : Operand) : Framed (opPick N o c x y) := (evA_framed c).bnd fun v => by
  split
  · split
    · exact opMove_framed _
    · exact opMove_framed _
  · exact Framed.fail
theorem opPick_sound (R : Rl X Y w0 N η σ a w) {c x y : Operand} (ho : o.op = .pick c x y) {ou : Out} {r : List Nat} (h : opPick N o c x y σ = some (ou, r)) (hp : Ask ou.pre) : Good P X Y w0 N σ a w o ou.wr := by
  obtain ⟨v, r1, r2, h1, h2, _⟩ := bnd_some h
  have hc := evA_sound R h1
  split at h2
  · rename_i b
    have hc' : a.eval c = .bool b := hc
    cases b with
    | true => exact opMove_val (x := x) R (.inl (by simp [execOp, ho, hc', asBool])) h2 hp
    | false => exact opMove_val (x := y) R (.inl (by simp [execOp, ho, hc', asBool])) h2 hp
  · cases h2
end
end Go.Proofs.YtgjpphcbdbfhlaaGreat.L.EV
namespace Go.Proofs.YtgjpphcbdbfhlaaGreat.L.EV
open Go.RowKit Go.Proofs Go.Proofs.YtgjpphcbdbfhlaaGreatW.PrintWords Go.Proofs.YtgjpphcbdbfhlaaGreatW.PrintLast
universe u
section
variable {P : Program} {I : Nat → Option TI} {X : Nat → Prop} {Y : Came} {w0 w : World} {N : Nat} {η : Nat → Value} {σ : Nat → AV} {a : Act} {o : Oper}
theorem i64_w' (n : Int) : IntKind.i64.wrap n = wrap64 n := i64_w n
/-! ### Arithmetic -/
def wrV (k : IntKind) (n : Int) : Value := match k with | .i64 => .int .i64 (wrap64 n) | k => .int k (k.wrap n)
theorem wr_eq (k : IntKind) (n : Int) : wrV k n = .int k (k.wrap n) := by cases k <;> first | rfl | exact congrArg _ (i64_w n).symm
def intB (op : BinOp) (k : IntKind) (x y : Int) : Option Value :=
  match op with
  | .add => some (wrV k (x + y))
  | .sub => some (wrV k (x - y))
  | .mul => some (wrV k (x * y))
  | .quo => if y = 0 then none else some (wrV k (x.tdiv y))
  | .rem => if y = 0 then none else some (.int k (x.tmod y))
  | .eql => some (.bool (x == y))
  | .neq => some (.bool (x != y))
  | .lss => some (.bool (decide (x < y)))
  | .leq => some (.bool (decide (x ≤ y)))
  | .gtr => some (.bool (decide (x > y)))
  | .geq => some (.bool (decide (x ≥ y)))
  | .and => some (.int k (bits .and k x y))
  | .or => some (.int k (bits .or k x y))
  | .xor => some (.int k (bits .xor k x y))
  | .andNot => some (.int k (bits .andNot k x y))
  | _ => none
theorem intB_sound {op : BinOp} {k : IntKind} {x y : Int} {v : Value} (h : intB op k x y = some v) (t : TypeId) (A B : Operand) (w : World) : (do eqGuard op t A B (.int k x) (.int k y); Go.binOp op t (.int k x) (.int k y) : Sem Value).run P w = .ok v w := by
  simp only [eqGuard_at_int, Sem.run_bind, Sem.run_pure, Result.andThen_ok]
  cases op <;> simp only [intB] at h <;> first
    | (cases h; done)
    | (split at h
       · cases h
       · rename_i hy; cases h; simp [Go.binOp, Op.intDiv, hy, wr_eq])
    | (cases h; simp [Go.binOp, Op.intArith, Op.intCmp, wr_eq]; done)
    | (cases h; simp only [Go.binOp, ne_eq, not_true_eq_false, if_false]; rfl)
def boolB (op : BinOp) (x y : Bool) : Option Value :=
  match op with
  | .eql => some (.bool (x == y))
  | .neq => some (.bool (x != y))
  | _ => none
theorem boolEq {x y : Bool} {t : TypeId} (ht : P.underlying t = some .bool) (w : World) : (Op.equalIn Op.maxDepth t (.bool x) (.bool y)).run P w = .ok (x == y) w := by
  unfold Op.maxDepth Op.equalIn
  simp only [Sem.run_bind, run_underlying ht, Result.andThen_ok, Sem.run_pure]
theorem boolB_sound {op : BinOp} {x y : Bool} {v : Value} (h : boolB op x y = some v) {t : TypeId} (ht : P.underlying t = some .bool) (A B : Operand) (w : World) : (do eqGuard op t A B (.bool x) (.bool y); Go.binOp op t (.bool x) (.bool y) : Sem Value).run P w = .ok v w := by
  simp only [eqGuard_at_bool, Sem.run_bind, Sem.run_pure, Result.andThen_ok]
  cases op <;> simp only [boolB] at h <;> first
    | (cases h; done)
    | (cases h; simp only [Go.binOp, Op.equal, Sem.run_bind, boolEq ht, Result.andThen_ok, Sem.run_pure]; try rfl)
/-- Quotients and rests: the divisor must not be 0. -/
def divB (op : BinOp) (k : IntKind) (x y : Int) : Option Value :=
  match op with
  | .quo => some (wrV k (x.tdiv y))
  | .rem => some (.int k (x.tmod y))
  | _ => none
theorem divB_int {op : BinOp} {k : IntKind} {x y : Int} {v : Value} (h : divB op k x y = some v) (hy : ¬ y = 0) : intB op k x y = some v := by
  cases op <;> simp only [divB] at h <;> first
    | (cases h; done)
    | (simp only [intB, hy, if_false]; exact h)
/-- Shifts: the count must not be less than 0. -/
def shB (op : BinOp) (k : IntKind) (x y : Int) : Option Value :=
  match op with
  | .shl => some (.int k (shl k x y))
  | .shr => some (.int k (shr k x y))
  | _ => none
theorem shB_sound {op : BinOp} {k : IntKind} {x y : Int} {v : Value} (h : shB op k x y = some v) (hy : 0 ≤ y) (t : TypeId) (A B : Operand) (w : World) : (do eqGuard op t A B (.int k x) (.int k y); Go.binOp op t (.int k x) (.int k y) : Sem Value).run P w = .ok v w := by
  simp only [eqGuard_at_int, Sem.run_bind, Sem.run_pure, Result.andThen_ok]
  have hp : (0 : Int) ≤ 2 ^ min y.toNat k.bits := Int.pow_nonneg (by decide)
  cases op <;> simp only [shB] at h <;> first
    | (cases h; done)
    | (cases h; simp only [Go.binOp, Op.shift, if_neg (Int.not_lt.mpr hy), shl, Sem.run_pure]; done)
    | (cases h; simp only [Go.binOp, Op.shift, if_neg (Int.not_lt.mpr hy), shr, Int.fdiv_eq_ediv_of_nonneg _ hp, Sem.run_pure])
/-- Structs compared. -/
theorem eqGuardS {t : TypeId} (h : P.eqGuardType P.depth t = false) (op : BinOp) (A B : Operand) (xs ys : Array Value) (w : World) : (eqGuard op t A B (.agg xs) (.agg ys)).run P w = .ok () w := by
  unfold eqGuard
  cases op <;> simp [h, Sem.run_bind, run_program]
def eqS (op : BinOp) (cs ds : List CV) : Option Bool :=
  match cs, ds with
  | [.v (.int .i64 x0), .v (.int .i64 x1), .v (.int .i64 x2)], [.v (.int .i64 y0), .v (.int .i64 y1), .v (.int .i64 y2)] => (match op with
    | .neq => some (!(x0 == y0) || (!(x1 == y1) || (!(x2 == y2))))
    | .eql => some (x0 == y0 && (x1 == y1 && (x2 == y2)))
    | _ => none)
  | _, _ => none
theorem eqS_sound {op : BinOp} {cs ds : List CV} {b : Bool} (h : eqS op cs ds = some b) {L : Nat → Prop} {Z : Nat → Prop} {us vs : List Value} (h1 : CVs.rel L Z η w cs us) (h2 : CVs.rel L Z η w ds vs) {t : TypeId} (ht : EqS3 P t) (A B : Operand) (w' : World) :
    (do eqGuard op t A B (.agg us.toArray) (.agg vs.toArray); Go.binOp op t (.agg us.toArray) (.agg vs.toArray) : Sem Value).run P w' = .ok (.bool b) w' := by
  unfold eqS at h
  split at h
  · rename_i x0 x1 x2 y0 y1 y2
    match us, h1 with
    | [u0, u1, u2], ⟨e0, _, e1, _, e2, _, _⟩ =>
      match vs, h2 with
      | [v0, v1, v2], ⟨f0, _, f1, _, f2, _, _⟩ =>
        have e0' : u0 = .int .i64 x0 := e0
        have e1' : u1 = .int .i64 x1 := e1
        have e2' : u2 = .int .i64 x2 := e2
        have f0' : v0 = .int .i64 y0 := f0
        have f1' : v1 = .int .i64 y1 := f1
        have f2' : v2 = .int .i64 y2 := f2
        subst e0' e1' e2' f0' f1' f2'
        have q := ht.eq 9998 w' x0 y0 x1 y1 x2 y2
        cases op <;> simp only at h <;> first
          | (cases h; done)
          | (cases h
             simp only [Sem.run_bind, eqGuardS ht.gd, Result.andThen_ok, Go.binOp, Op.equal]
             have q' : (Op.equalIn Op.maxDepth t (.agg #[.int .i64 x0, .int .i64 x1, .int .i64 x2]) (.agg #[.int .i64 y0, .int .i64 y1, .int .i64 y2])).run P w' = .ok (x0 == y0 && (x1 == y1 && (x2 == y2))) w' := by rw [show Op.maxDepth = 9998 + 2 from rfl]; exact q
             rw [q']
             simp [Sem.run_pure]
             done)
  · cases h
def opBin (I : Nat → Option TI) (N : Nat) (o : Oper) (op : BinOp) (t : Nat) (x y : Operand) : M Out := bnd (evA x) fun u => bnd (evA y) fun v =>
  match u, v with
  | .p (.c (.v (.int k a))), .p (.c (.v (.int k' b))) => if k = k' then (match divB op k a b with | some r => vcps r fun r => wrD N o.dst (some (¬ b = 0)) (.p (.c (.v r))) | none => (match shB op k a b with | some r => vcps r fun r => wrD N o.dst (some (0 ≤ b)) (.p (.c (.v r))) | none => (match intB op k a b with | some r => vcps r fun r => wrD N o.dst none (.p (.c (.v r))) | none => fail))) else fail
  | .p (.c (.v (.bool a))), .p (.c (.v (.bool b))) => (match I t with | some ti => (match ti.bo with | true => (match boolB op a b with | some r => wrD N o.dst none (.p (.c (.v r))) | none => fail) | false => fail) | none => fail)
  | .p (.ag cs), .p (.ag ds) => (match I t with | some ti => (match ti.eq3 with | true => (match eqS op cs ds with | some r => wrD N o.dst none (.p (.c (.v (.bool r)))) | none => fail) | false => fail) | none => fail)
  | _, _ => fail
theorem opBin_framed (op : BinOp) (t : Nat) (x y : Operand) : Framed (opBin I N o op t x y) := (evA_framed x).bnd fun u => (evA_framed y).bnd fun v => by
  split
  · split
    · split
      · rw [vcps_eq]; exact wrD_framed _ _ _ _
      · split
        · rw [vcps_eq]; exact wrD_framed _ _ _ _
        · split
          · rw [vcps_eq]; exact wrD_framed _ _ _ _
          · exact Framed.fail
    · exact Framed.fail
  · split
    · split
      · split
        · exact wrD_framed _ _ _ _
        · exact Framed.fail
      · exact Framed.fail
    · exact Framed.fail
  · split
    · split
      · split
        · exact wrD_framed _ _ _ _
        · exact Framed.fail
      · exact Framed.fail
    · exact Framed.fail
  · exact Framed.fail
theorem opBin_sound (hI : ∀ t ti, I t = some ti → TiOk P t ti) (R : Rl X Y w0 N η σ a w) {op : BinOp} {t yt : Nat} {x y : Operand} (ho : o.op = .binOp op t x y yt) {ou : Out} {r : List Nat} (h : opBin I N o op t x y σ = some (ou, r)) (hp : Ask ou.pre) : Good P X Y w0 N σ a w o ou.wr := by
  obtain ⟨u, r1, r2, h1, h2, _⟩ := bnd_some h
  obtain ⟨v, r3, r4, h3, h4, _⟩ := bnd_some h2
  have e1 := evA_sound R h1
  have e2 := evA_sound R h3
  split at h4
  · rename_i k i k' j
    have e1' : a.eval x = .int k i := e1
    have e2' : a.eval y = .int k' j := e2
    by_cases hk : k = k'
    · subst hk
      simp only [if_true] at h4
      cases hd : divB op k i j with
      | some s =>
        simp only [hd, vcps_eq] at h4
        refine wrD_good R h4 hp fun hq => ⟨s, rfl, .inl ?_⟩
        have := intB_sound (P := P) (divB_int hd hq) t x y w
        simp only [execOp, ho, e1', e2', Sem.run_bind, this, Result.andThen_ok, Sem.run_pure]
      | none =>
      simp only [hd] at h4
      cases hs : shB op k i j with
      | some s =>
        simp only [hs, vcps_eq] at h4
        refine wrD_good R h4 hp fun hq => ⟨s, rfl, .inl ?_⟩
        have := shB_sound (P := P) hs hq t x y w
        simp only [execOp, ho, e1', e2', Sem.run_bind, this, Result.andThen_ok, Sem.run_pure]
      | none =>
      simp only [hs] at h4
      cases hv : intB op k i j with
      | none => rw [hv] at h4; cases h4
      | some s =>
        simp only [hv, vcps_eq] at h4
        refine wrD_good R h4 hp fun _ => ⟨s, rfl, .inl ?_⟩
        have := intB_sound (P := P) hv t x y w
        simp only [execOp, ho, e1', e2', Sem.run_bind, this, Result.andThen_ok, Sem.run_pure]
    · simp only [hk, if_false] at h4
      cases h4
  · rename_i i j
    have e1' : a.eval x = .bool i := e1
    have e2' : a.eval y = .bool j := e2
    cases hti : I t with
    | none => rw [hti] at h4; cases h4
    | some ti =>
      rw [hti] at h4
      cases hb : ti.bo with
      | false => simp only [hb] at h4; cases h4
      | true =>
        simp only [hb] at h4
        cases hv : boolB op i j with
        | none => rw [hv] at h4; cases h4
        | some s =>
          rw [hv] at h4
          refine wrD_good R h4 hp fun _ => ⟨s, rfl, .inl ?_⟩
          have := boolB_sound (P := P) hv (ti_bo (hI t ti hti) hb) x y w
          simp only [execOp, ho, e1', e2', Sem.run_bind, this, Result.andThen_ok, Sem.run_pure]
  · rename_i cs ds
    obtain ⟨us, e1', e1c⟩ := (e1 : ∃ vs : List Value, a.eval x = .agg vs.toArray ∧ _)
    obtain ⟨vs, e2', e2c⟩ := (e2 : ∃ vs : List Value, a.eval y = .agg vs.toArray ∧ _)
    cases hti : I t with
    | none => rw [hti] at h4; cases h4
    | some ti =>
      rw [hti] at h4
      cases hb : ti.eq3 with
      | false => simp only [hb] at h4; cases h4
      | true =>
        simp only [hb] at h4
        cases hv : eqS op cs ds with
        | none => rw [hv] at h4; cases h4
        | some s =>
          rw [hv] at h4
          refine wrD_good R h4 hp fun _ => ⟨.bool s, rfl, .inl ?_⟩
          have := eqS_sound (P := P) hv e1c e2c ((hI t ti hti).2 hb) x y w
          simp only [execOp, ho, e1', e2', Sem.run_bind, this, Result.andThen_ok, Sem.run_pure]
  · cases h4
def opUn (N : Nat) (o : Oper) (op : UnOp) (x : Operand) : M Out := bnd (evA x) fun u =>
  match u with
  | .p (.c (.v (.bool b))) => (match op with | .not => wrD N o.dst none (.p (.c (.v (.bool (!b))))) | _ => fail)
  | .p (.c (.v (.int k n))) => (match op with | .neg => vcps (wrV k (-n)) fun r => wrD N o.dst none (.p (.c (.v r))) | _ => fail)
  | _ => fail
theorem opUn_framed (op : UnOp) (x : Operand) : Framed (opUn N o op x) := (evA_framed x).bnd fun u => by
  split <;> (try split) <;> (try rw [vcps_eq]) <;> first | exact wrD_framed _ _ _ _ | exact Framed.fail
theorem opUn_sound (R : Rl X Y w0 N η σ a w) {op : UnOp} {t : Nat} {x : Operand} (ho : o.op = .unOp op t x) {ou : Out} {r : List Nat} (h : opUn N o op x σ = some (ou, r)) (hp : Ask ou.pre) : Good P X Y w0 N σ a w o ou.wr := by
  obtain ⟨u, r1, r2, h1, h2, _⟩ := bnd_some h
  have e1 := evA_sound R h1
  split at h2
  · rename_i b
    have e1' : a.eval x = .bool b := e1
    cases op <;> first
      | (cases h2; done)
      | exact wrD_good R h2 hp fun _ => ⟨_, rfl, .inl (by simp [execOp, ho, e1', Op.unary])⟩
  · rename_i k n
    have e1' : a.eval x = .int k n := e1
    cases op <;> first
      | (cases h2; done)
      | (simp only [vcps_eq] at h2; exact wrD_good R h2 hp fun _ => ⟨_, rfl, .inl (by simp [execOp, ho, e1', Op.unary, Op.intArith, wr_eq])⟩)
  · cases h2
def opConv (I : Nat → Option TI) (N : Nat) (o : Oper) (s t : Nat) (x : Operand) : M Out := bnd (evA x) fun u =>
  match u with
  | .p (.c (.v (.int k n))) => (match I s with
    | none => fail
    | some si => match I t with
      | none => fail
      | some ti => match ti.ik with
        | none => fail
        | some k' => vcps (wrV k' n) fun r => wrD N o.dst none (.p (.c (.v r))))
  | _ => fail
theorem opConv_framed (s t : Nat) (x : Operand) : Framed (opConv I N o s t x) := (evA_framed x).bnd fun u => by
  split
  · split
    · exact Framed.fail
    · split
      · exact Framed.fail
      · split
        · exact Framed.fail
        · rw [vcps_eq]; exact wrD_framed _ _ _ _
  · exact Framed.fail
theorem opConv_sound (hI : ∀ t ti, I t = some ti → TiOk P t ti) (R : Rl X Y w0 N η σ a w) {s t : Nat} {x : Operand} (ho : o.op = .convert s t x) {ou : Out} {r : List Nat} (h : opConv I N o s t x σ = some (ou, r)) (hp : Ask ou.pre) : Good P X Y w0 N σ a w o ou.wr := by
  obtain ⟨u, r1, r2, h1, h2, _⟩ := bnd_some h
  have e1 := evA_sound R h1
  split at h2
  · rename_i k n
    have e1' : a.eval x = .int k n := e1
    cases hs : I s with
    | none => rw [hs] at h2; cases h2
    | some si =>
      simp only [hs] at h2
      cases ht : I t with
      | none => simp only [ht] at h2; cases h2
      | some ti =>
        simp only [ht] at h2
        cases hk : ti.ik with
        | none => simp only [hk] at h2; cases h2
        | some k' =>
          simp only [hk, vcps_eq] at h2
          obtain ⟨_, d, _, _, hd, _⟩ := tiOf_inv (hI s si hs)
          have hu := ti_ik (hI t ti ht) hk
          refine wrD_good R h2 hp fun _ => ⟨_, rfl, .inl ?_⟩
          simp only [execOp, ho, e1', Go.convert, Sem.run_bind, run_underlying hd, run_underlying hu, Result.andThen_ok, wr_eq]
          cases d <;> simp [Conv.intToInt]
  · cases h2
/-- The lesser, the greater of two whole numbers. -/
def opMn (F : Int → Int → Int) (N : Nat) (o : Oper) (x y : Operand) : M Out := bnd (evA x) fun u => bnd (evA y) fun v =>
  match u, v with
  | .p (.c (.v (.int k b))), .p (.c (.v (.int _ c))) => wrD N o.dst none (.p (.c (.v (.int k (F b c)))))
  | _, _ => fail
theorem opMn_framed (F : Int → Int → Int) (x y : Operand) : Framed (opMn F N o x y) := (evA_framed x).bnd fun u => (evA_framed y).bnd fun v => by
  split <;> first | exact wrD_framed _ _ _ _ | exact Framed.fail
theorem opMn_sound (R : Rl X Y w0 N η σ a w) {F : Int → Int → Int} {bu : Builtin} {x y : Operand} {ts : Array TypeId} (ho : o.op = .call { callee := .builtin bu, args := #[x, y], argTypes := ts })
    (hF : (bu = .min ∧ F = mn) ∨ (bu = .max ∧ F = mx)) {ou : Out} {r : List Nat} (h : opMn F N o x y σ = some (ou, r)) (hp : Ask ou.pre) : Good P X Y w0 N σ a w o ou.wr := by
  obtain ⟨u, r1, r2, h1, h2, _⟩ := bnd_some h
  obtain ⟨v, r3, r4, h3, h4, _⟩ := bnd_some h2
  have e1 := evA_sound R h1
  have e2 := evA_sound R h3
  split at h4
  · rename_i k b k' c
    have e1' : a.eval x = .int k b := e1
    have e2' : a.eval y = .int k' c := e2
    refine wrD_good R h4 hp fun _ => ⟨_, rfl, .inl ?_⟩
    rcases hF with ⟨rfl, rfl⟩ | ⟨rfl, rfl⟩
    · simp [execOp, ho, resolve, invoke, builtin, Builtin.min_, Builtin.min2, e1', e2', mn]
    · simp [execOp, ho, resolve, invoke, builtin, Builtin.max_, Builtin.max2, e1', e2', mx]
  · cases h4
/-! ### Lengths, fields, components -/
def opLen (I : Nat → Option TI) (N : Nat) (o : Oper) (t : Nat) (x : Operand) : M Out := bnd (evS x) fun u =>
  match u with
  | .p (.c (.sl k xs)) => (match I t with | none => fail | some ti => match ti.elem with | some e => wrD N o.dst none (.p (.c (.v (.int .i64 (xs.length : Int))))) | none => fail)
  | .p (.c (.v (.slice A n c))) => (match I t with | none => fail | some ti => match ti.elem with | some e => wrD N o.dst none (.p (.c (.v (.int .i64 (n : Int))))) | none => fail)
  | .p (.c (.v (.string s))) => (match I t with | none => fail | some ti => match ti.str with | true => wrD N o.dst none (.p (.c (.v (.int .i64 (s.size : Int))))) | false => fail)
  | .p (.c (.rp q)) => bnd (get (2 * q + 1)) fun m => (match m with
    | .row _ k xs => (match I t with | none => fail | some ti => match ti.elem with | some e => wrD N o.dst none (.p (.c (.v (.int .i64 (xs.length : Int))))) | none => fail)
    | _ => fail)
  | _ => fail
theorem opLen_framed (t : Nat) (x : Operand) : Framed (opLen I N o t x) := (evS_framed x).bnd fun u => by
  split <;> (try (refine (Framed.get _).bnd fun m => ?_)) <;> (try split) <;> (try split) <;> (try split) <;> first | exact wrD_framed _ _ _ _ | exact Framed.fail
theorem opLen_sound (hI : ∀ t ti, I t = some ti → TiOk P t ti) (R : Rl X Y w0 N η σ a w) {t : Nat} {x : Operand} (ho : o.op = .call { callee := .builtin .len, args := #[x], argTypes := #[t] }) {ou : Out} {r : List Nat} (h : opLen I N o t x σ = some (ou, r)) (hp : Ask ou.pre) : Good P X Y w0 N σ a w o ou.wr := by
  obtain ⟨u, r1, r2, h1, h2, _⟩ := bnd_some h
  have e1 := evS_sound R h1
  split at h2
  · rename_i al k xs
    cases ht : I t with
    | none => rw [ht] at h2; cases h2
    | some ti =>
      simp only [ht] at h2
      cases he : ti.elem with
      | none => simp only [he] at h2; cases h2
      | some e =>
        simp only [he] at h2
        have hu := ti_elem (hI t ti ht) he
        obtain ⟨A, c, e1', _⟩ := e1
        refine wrD_good R h2 hp fun _ => ⟨_, rfl, .inl ?_⟩
        simp [execOp, ho, resolve, invoke, builtin, Builtin.len_, e1', run_underlying hu, goInt]
  · rename_i A n c
    cases ht : I t with
    | none => rw [ht] at h2; cases h2
    | some ti =>
      simp only [ht] at h2
      cases he : ti.elem with
      | none => simp only [he] at h2; cases h2
      | some e =>
        simp only [he] at h2
        have hu := ti_elem (hI t ti ht) he
        have e1' : a.eval x = .slice A n c := e1
        refine wrD_good R h2 hp fun _ => ⟨_, rfl, .inl ?_⟩
        simp [execOp, ho, resolve, invoke, builtin, Builtin.len_, e1', run_underlying hu, goInt]
  · rename_i s
    cases ht : I t with
    | none => rw [ht] at h2; cases h2
    | some ti =>
      simp only [ht] at h2
      cases he : ti.str with
      | false => simp only [he] at h2; cases h2
      | true =>
        simp only [he] at h2
        have hu := ti_str (hI t ti ht) he
        have e1' : a.eval x = .string s := e1
        refine wrD_good R h2 hp fun _ => ⟨_, rfl, .inl ?_⟩
        simp [execOp, ho, resolve, invoke, builtin, Builtin.len_, e1', run_underlying hu, goInt]
  · rename_i q
    obtain ⟨m, r3, r4, h3, h4, _⟩ := bnd_some h2
    unfold get at h3
    injection h3 with h3
    injection h3 with h3 _
    split at h4
    · rename_i al e' k xs
      cases ht : I t with
      | none => rw [ht] at h4; cases h4
      | some ti =>
        simp only [ht] at h4
        cases he : ti.elem with
        | none => simp only [he] at h4; cases h4
        | some e =>
          simp only [he] at h4
          have hu := ti_elem (hI t ti ht) he
          have e2 : a.eval x = η q := e1.2
          have hf : ∃ A c, η q = .slice A xs.length c := by
            rcases (R.row q e' k xs h3).form with ⟨f1, f2⟩ | ⟨g, c, f1, _⟩
            · exact ⟨none, 0, by rw [f1, f2]⟩
            · exact ⟨_, _, f1⟩
          obtain ⟨A, c, hf⟩ := hf
          refine wrD_good R h4 hp fun _ => ⟨_, rfl, .inl ?_⟩
          simp [execOp, ho, resolve, invoke, builtin, Builtin.len_, e2, hf, run_underlying hu, goInt]
    · cases h4
  · cases h2
def opExtract (N : Nat) (o : Oper) (x : Operand) (j : Nat) : M Out := bnd (evA x) fun u =>
  match u with
  | .tp l => (match l[j]? with | some p => pcps p fun p => wrD N o.dst none (.p p) | none => fail)
  | _ => fail
theorem opExtract_framed (x : Operand) (j : Nat) : Framed (opExtract N o x j) := (evA_framed x).bnd fun u => by
  split
  · split
    · rw [pcps_eq]; exact wrD_framed _ _ _ _
    · exact Framed.fail
  · exact Framed.fail
theorem opExtract_sound (R : Rl X Y w0 N η σ a w) {x : Operand} {j : Nat} (ho : o.op = .extract x j) {ou : Out} {r : List Nat} (h : opExtract N o x j σ = some (ou, r)) (hp : Ask ou.pre) : Good P X Y w0 N σ a w o ou.wr := by
  obtain ⟨u, r1, r2, h1, h2, _⟩ := bnd_some h
  have e1 := evA_sound R h1
  split at h2
  · rename_i l
    obtain ⟨vs, e1', e2⟩ := e1
    cases hj : l[j]? with
    | none => rw [hj] at h2; cases h2
    | some p =>
      rw [hj] at h2
      simp only [pcps_eq] at h2
      obtain ⟨u, hu, hr⟩ := PVs.rel_get e2 hj
      refine wrD_good R h2 hp fun _ => ⟨u, hr, .inl ?_⟩
      simp [execOp, ho, e1', Instr.extract, hu]
  · cases h2
theorem ad_block (ad : Addr) (n : Nat) : (ad.add n).block = ad.block := by unfold Addr.add; split <;> rfl
def opField (I : Nat → Option TI) (N : Nat) (o : Oper) (t : Nat) (x : Operand) (f : Nat) : M Out := bnd (evA x) fun u =>
  match I t with
  | none => fail
  | some ti => match ti.offs[f]? with
    | none => fail
    | some (of, s) => if s = 0 then fail else
      match u with
      | .p (.c (.bx b off)) => wrD N o.dst none (.p (.c (.bx b (off + of))))
      | .p (.c (.el k xs i off)) => if off + of < k.sz then wrD N o.dst none (.p (.c (.el k xs i (off + of)))) else fail
      | .p (.c (.er r sz n i off)) => if off + of < sz then wrD N o.dst none (.p (.c (.er r sz n i (off + of)))) else fail
      | .p (.fb cs) => lcps (cs.drop of) fun cs => wrD N o.dst none (.p (.fb cs))
      | _ => fail
theorem opField_framed (t : Nat) (x : Operand) (f : Nat) : Framed (opField I N o t x f) := (evA_framed x).bnd fun u => by
  split
  · exact Framed.fail
  · split
    · exact Framed.fail
    · split
      · exact Framed.fail
      · split
        · exact wrD_framed _ _ _ _
        · split
          · exact wrD_framed _ _ _ _
          · exact Framed.fail
        · split
          · exact wrD_framed _ _ _ _
          · exact Framed.fail
        · rw [lcps_eq]; exact wrD_framed _ _ _ _
        · exact Framed.fail
theorem opField_sound (hI : ∀ t ti, I t = some ti → TiOk P t ti) (R : Rl X Y w0 N η σ a w) {t f : Nat} {x : Operand} (ho : o.op = .fieldAddr t x f) {ou : Out} {r : List Nat} (h : opField I N o t x f σ = some (ou, r)) (hp : Ask ou.pre) : Good P X Y w0 N σ a w o ou.wr := by
  obtain ⟨u, r1, r2, h1, h2, _⟩ := bnd_some h
  have e1 := evA_sound R h1
  cases ht : I t with
  | none => rw [ht] at h2; cases h2
  | some ti =>
    rw [ht] at h2
    cases hf : ti.offs[f]? with
    | none => simp only [hf] at h2; cases h2
    | some q =>
      obtain ⟨of, s⟩ := q
      simp only [hf] at h2
      by_cases hs : s = 0
      · simp only [hs, if_true] at h2; cases h2
      · simp only [hs, if_false] at h2
        have hfa := fun ad w => ti_field (hI t ti ht) hf hs ad w
        split at h2
        · rename_i b off
          obtain ⟨hl, g, eg, e1'⟩ := e1
          refine wrD_good R h2 hp fun _ => ⟨_, ⟨hl, g, eg, rfl⟩, .inl ?_⟩
          simp only [execOp, ho, e1', Sem.run_bind, hfa, Result.andThen_ok, Sem.run_pure, add_lit]
        · rename_i al k xs i off
          by_cases hlt : off + of < k.sz
          · simp only [hlt, if_true] at h2
            obtain ⟨ad, e1', e2, e3, e4, e5⟩ := e1
            refine wrD_good R h2 hp fun _ => ⟨_, ⟨ad, rfl, e2, e3, hlt, e5⟩, .inl ?_⟩
            simp only [execOp, ho, e1', Sem.run_bind, hfa, Result.andThen_ok, Sem.run_pure, add_add, Nat.add_assoc]
          · simp only [hlt, if_false] at h2; cases h2
        · rename_i q sz n i off
          by_cases hlt : off + of < sz
          · simp only [hlt, if_true] at h2
            obtain ⟨el, e2, e3, e4, g, c, e5, e6⟩ := e1
            refine wrD_good R h2 hp fun _ => ⟨_, ⟨el, e2, e3, hlt, g, c, e5, rfl⟩, .inl ?_⟩
            simp only [execOp, ho, e6, Sem.run_bind, hfa, Result.andThen_ok, Sem.run_pure, add_lit, Nat.add_assoc]
          · simp only [hlt, if_false] at h2; cases h2
        · rename_i cs
          rw [lcps_eq] at h2
          obtain ⟨ad, vs, e1', e2, e3, e4, e5⟩ := e1
          refine wrD_good R h2 hp fun _ => ⟨_, ⟨ad.add of, vs.drop of, rfl, by rw [ad_block]; exact e2, by rw [ad_block]; exact e3, fun j v hv => ?_, CVs.rel_drop (n := of) e5⟩, .inl ?_⟩
          · rw [add_add]; exact e4 (of + j) v (by rw [List.getElem?_drop] at hv; exact hv)
          · simp only [execOp, ho, e1', Sem.run_bind, hfa, Result.andThen_ok, Sem.run_pure]
        · cases h2
/-- A pointer that is none but to something. -/
def opNil (N : Nat) (o : Oper) (x : Operand) : M Out := bnd (evA x) fun u =>
  match u with
  | .p (.c (.bx b off)) => wrD N o.dst none (.p (.c (.bx b off)))
  | .p (.fb cs) => lcps cs fun cs => wrD N o.dst none (.p (.fb cs))
  | .p (.c (.el k xs i off)) => wrD N o.dst none (.p (.c (.el k xs i off)))
  | .p (.c (.er r sz n i off)) => wrD N o.dst none (.p (.c (.er r sz n i off)))
  | _ => fail
theorem opNil_framed (x : Operand) : Framed (opNil N o x) := (evA_framed x).bnd fun u => by
  split
  · exact wrD_framed _ _ _ _
  · rw [lcps_eq]; exact wrD_framed _ _ _ _
  · exact wrD_framed _ _ _ _
  · exact wrD_framed _ _ _ _
  · exact Framed.fail
theorem opNil_sound (R : Rl X Y w0 N η σ a w) {x : Operand} (ho : o.op = .nilCheck x) {ou : Out} {r : List Nat} (h : opNil N o x σ = some (ou, r)) (hp : Ask ou.pre) : Good P X Y w0 N σ a w o ou.wr := by
  obtain ⟨u, r1, r2, h1, h2, _⟩ := bnd_some h
  have e1 := evA_sound R h1
  split at h2
  · rename_i b off
    obtain ⟨hl, g, eg, e2⟩ := e1
    exact wrD_good R h2 hp fun _ => ⟨_, ⟨hl, g, eg, rfl⟩, .inl (by simp only [execOp, ho, e2, Sem.run_pure])⟩
  · rename_i cs
    rw [lcps_eq] at h2
    have e1' := e1
    obtain ⟨ad, vs, e2, e3, e4, e5, e6⟩ := e1
    exact wrD_good R h2 hp fun _ => ⟨_, ⟨ad, vs, rfl, e3, e4, e5, e6⟩, .inl (by simp only [execOp, ho, e2, Sem.run_pure])⟩
  · rename_i al k xs i off
    obtain ⟨ad, e2, e3, e4, e5, e6⟩ := e1
    exact wrD_good R h2 hp fun _ => ⟨_, ⟨ad, rfl, e3, e4, e5, e6⟩, .inl (by simp only [execOp, ho, e2, Sem.run_pure])⟩
  · rename_i q sz n i off
    obtain ⟨el, e2, e3, e4, g, c, e5, e6⟩ := e1
    exact wrD_good R h2 hp fun _ => ⟨_, ⟨el, e2, e3, e4, g, c, e5, rfl⟩, .inl (by simp only [execOp, ho, e6, Sem.run_pure])⟩
  · cases h2
/-! ### Elements of rows -/
def opIndex (I : Nat → Option TI) (N : Nat) (o : Oper) (t : Nat) (x y : Operand) : M Out := bnd (evS x) fun u => bnd (evA y) fun v =>
  match u, v with
  | .p (.c (.sl k xs)), .p (.c (.v (.int ik i))) => (match I t with
    | none => fail
    | some ti => match ti.elem with
      | none => fail
      | some e => match I e with
        | none => fail
        | some te => if te.size = k.sz then (if 0 < k.sz then wrD N o.dst (some (0 ≤ i ∧ i < (xs.length : Int))) (.p (.c (.el k xs i 0))) else fail) else fail)
  | .p (.c (.rp q)), .p (.c (.v (.int ik i))) => bnd (get (2 * q + 1)) fun m => (match m with
    | .row _ k xs => (match I t with
      | none => fail
      | some ti => match ti.elem with
        | none => fail
        | some e => match I e with
          | none => fail
          | some te => if te.size = k.sz then (if 0 < k.sz then wrD N o.dst (some (0 ≤ i ∧ i < (xs.length : Int))) (.p (.c (.er q k.sz xs.length i 0))) else fail) else fail)
    | _ => fail)
  | _, _ => fail
theorem opIndex_framed (t : Nat) (x y : Operand) : Framed (opIndex I N o t x y) := (evS_framed x).bnd fun u => (evA_framed y).bnd fun v => by
  split
  · split
    · exact Framed.fail
    · split
      · exact Framed.fail
      · split
        · exact Framed.fail
        · split
          · split
            · exact wrD_framed _ _ _ _
            · exact Framed.fail
          · exact Framed.fail
  · refine (Framed.get _).bnd fun m => ?_
    split
    · split
      · exact Framed.fail
      · split
        · exact Framed.fail
        · split
          · exact Framed.fail
          · split
            · split
              · exact wrD_framed _ _ _ _
              · exact Framed.fail
            · exact Framed.fail
    · exact Framed.fail
  · exact Framed.fail
theorem opIndex_sound (hI : ∀ t ti, I t = some ti → TiOk P t ti) (R : Rl X Y w0 N η σ a w) {t : Nat} {x y : Operand} (ho : o.op = .indexAddr t x y) {ou : Out} {r : List Nat} (h : opIndex I N o t x y σ = some (ou, r)) (hp : Ask ou.pre) : Good P X Y w0 N σ a w o ou.wr := by
  obtain ⟨u, r1, r2, h1, h2, _⟩ := bnd_some h
  obtain ⟨v, r3, r4, h3, h4, _⟩ := bnd_some h2
  have e1 := evS_sound R h1
  have e2 := evA_sound R h3
  split at h4
  · rename_i al k xs ik i
    cases ht : I t with
    | none => rw [ht] at h4; cases h4
    | some ti =>
      simp only [ht] at h4
      cases he : ti.elem with
      | none => simp only [he] at h4; cases h4
      | some e =>
        simp only [he] at h4
        cases hte : I e with
        | none => simp only [hte] at h4; cases h4
        | some te =>
          simp only [hte] at h4
          by_cases hs : te.size = k.sz
          · simp only [hs, if_true] at h4
            by_cases h0 : 0 < k.sz
            · simp only [h0, if_true] at h4
              obtain ⟨A, c, e1', _, e5⟩ := e1
              have e2' : a.eval y = .int ik i := e2
              refine wrD_good R h4 hp fun hpre => ?_
              have hpre : 0 ≤ i ∧ i < (xs.length : Int) := hpre
              obtain ⟨ad, e6, _⟩ := e5.2 (by omega)
              refine ⟨_, ⟨ad, rfl, hpre.1, hpre.2, h0, by rw [← e6]; exact e5⟩, .inl ?_⟩
              have hsz := ti_size (hI e te hte) w
              have hu := ti_elem (hI t ti ht) he
              simp only [execOp, ho, e1', e2', Instr.indexAt, asIntOf, Sem.run_bind, Sem.run_pure, Result.andThen_ok, run_underlying hu, e6, hpre, and_self, if_true, hsz, hs, Nat.add_zero]
            · simp only [h0, if_false] at h4; cases h4
          · simp only [hs, if_false] at h4; cases h4
  · rename_i q ik i
    obtain ⟨m, r5, r6, h5, h6, _⟩ := bnd_some h4
    unfold get at h5
    injection h5 with h5
    injection h5 with h5 _
    split at h6
    · rename_i al e' k xs
      cases ht : I t with
      | none => rw [ht] at h6; cases h6
      | some ti =>
        simp only [ht] at h6
        cases he : ti.elem with
        | none => simp only [he] at h6; cases h6
        | some e =>
          simp only [he] at h6
          cases hte : I e with
          | none => simp only [hte] at h6; cases h6
          | some te =>
            simp only [hte] at h6
            by_cases hs : te.size = k.sz
            · simp only [hs, if_true] at h6
              by_cases h0 : 0 < k.sz
              · simp only [h0, if_true] at h6
                have e2' : a.eval y = .int ik i := e2
                have e3 : a.eval x = η q := e1.2
                refine wrD_good R h6 hp fun hpre => ?_
                have hpre : 0 ≤ i ∧ i < (xs.length : Int) := hpre
                rcases (R.row q e' k xs h5).form with ⟨f1, f2⟩ | ⟨g, c, f1, f3⟩
                · omega
                · refine ⟨.pointer (some ⟨g, i.toNat * k.sz, none⟩), ⟨e1.1, hpre.1, hpre.2, h0, g, c, f1, rfl⟩, .inl ?_⟩
                  have hsz := ti_size (hI e te hte) w
                  have hu := ti_elem (hI t ti ht) he
                  simp only [execOp, ho, e3, f1, e2', Instr.indexAt, asIntOf, Sem.run_bind, Sem.run_pure, Result.andThen_ok, run_underlying hu, hpre, and_self, if_true, hsz, hs, add_lit, Nat.zero_add]
              · simp only [h0, if_false] at h6; cases h6
            · simp only [hs, if_false] at h6; cases h6
    · cases h6
  · cases h4
end
end Go.Proofs.YtgjpphcbdbfhlaaGreat.L.EV
namespace Go.Proofs.YtgjpphcbdbfhlaaGreat.L.EV
open Go.RowKit Go.Proofs Go.Proofs.YtgjpphcbdbfhlaaGreatW.PrintWords Go.Proofs.YtgjpphcbdbfhlaaGreatW.PrintLast
universe u
section
variable {P : Program} {I : Nat → Option TI} {X : Nat → Prop} {Y : Came} {w0 w : World} {N : Nat} {η : Nat → Value} {σ : Nat → AV} {a : Act} {o : Oper}
/-! ### Parts of a row -/
theorem add_block (ad : Addr) (n : Nat) : (ad.add n).block = ad.block := by unfold Addr.add; split <;> rfl
theorem RowAt.part {α : Type} {Ra : α → List Value → Prop} {sz : Nat} {A : Option Addr} {xs : List α} (h : RowAt Ra sz X w A xs) (l m : Nat) : RowAt Ra sz X w (A.map (·.add (l * sz))) ((xs.take m).drop l) := by
  have hl : ((xs.take m).drop l).length ≤ xs.length := by rw [List.length_drop, List.length_take]; omega
  refine ⟨Nat.le_trans hl h.1, fun hn => ?_⟩
  obtain ⟨ad, e1, e2, e3, e4⟩ := h.2 (by omega)
  refine ⟨ad.add (l * sz), by rw [e1]; rfl, by rw [add_block]; exact e2, by rw [add_block]; exact e3, fun j p hj => ?_⟩
  have hj' : xs[l + j]? = some p := by
    rw [List.getElem?_drop, List.getElem?_take] at hj
    split at hj
    · exact hj
    · cases hj
  obtain ⟨c, c1, c2, c3⟩ := e4 _ _ hj'
  refine ⟨c, c1, c2, fun i u hu => ?_⟩
  rw [add_add, ← c3 i u hu]
  congr 2
  rw [Nat.add_mul, Nat.add_assoc]
def evIx (d : Int) (x : Option Operand) : M Int :=
  match x with
  | none => ret d
  | some y => bnd (evA y) fun v => match v with
    | .p (.c (.v (.int k i))) => ret i
    | _ => fail
theorem evIx_framed (d : Int) (x : Option Operand) : Framed (evIx d x) := by
  cases x with
  | none => exact Framed.ret _
  | some y => exact (evA_framed y).bnd fun v => by split <;> first | exact Framed.ret _ | exact Framed.fail
theorem evIx_sound (R : Rl X Y w0 N η σ a w) {d : Int} {x : Option Operand} {i : Int} {r : List Nat} (h : evIx d x σ = some (i, r)) : (x = none ∧ i = d) ∨ ∃ y k, x = some y ∧ a.eval y = .int k i := by
  cases x with
  | none => cases h; exact .inl ⟨rfl, rfl⟩
  | some y =>
    obtain ⟨v, r1, r2, h1, h2, _⟩ := bnd_some h
    have e1 := evA_sound R h1
    split at h2
    · rename_i k i'
      cases h2
      exact .inr ⟨y, k, rfl, e1⟩
    · cases h2
/-- How the print writes a part. -/
def cut {α : Type} (lo hi : Option Operand) (l h : Int) (xs : List α) : List α :=
  match lo, hi with
  | none, none => xs
  | none, some _ => xs.take h.toNat
  | some _, none => xs.drop l.toNat
  | some _, some _ => (xs.take h.toNat).drop l.toNat
def cutK {α : Type} {γ : Type u} (lo hi : Option Operand) (l h : Int) (xs : List α) (k : List α → γ) : γ :=
  match lo with
  | none => (match hi with | none => k xs | some _ => k (xs.take h.toNat))
  | some _ => (match hi with | none => k (xs.drop l.toNat) | some _ => k ((xs.take h.toNat).drop l.toNat))
theorem cutK_eq {α : Type} {γ : Type u} (lo hi : Option Operand) (l h : Int) (xs : List α) (k : List α → γ) : cutK lo hi l h xs k = k (cut lo hi l h xs) := by cases lo <;> cases hi <;> rfl
theorem cut_eq {α : Type} {lo hi : Option Operand} {l h : Int} {xs : List α} (hl : lo = none → l = 0) (hh : hi = none → h = xs.length) : cut lo hi l h xs = (xs.take h.toNat).drop l.toNat := by
  cases lo <;> cases hi <;> simp only [cut]
  · rw [hl rfl, hh rfl]; simp
  · rw [hl rfl]; simp
  · rw [hh rfl]; simp
def opSlice (I : Nat → Option TI) (N : Nat) (o : Oper) (t : Nat) (x : Operand) (lo hi : Option Operand) : M Out := bnd (evS x) fun u =>
  match u with
  | .p (.c (.sl k xs)) => bnd (evIx 0 lo) fun l => bnd (evIx xs.length hi) fun h => (match I t with
    | none => fail
    | some ti => match ti.elem with
      | none => fail
      | some e => match I e with
        | none => fail
        | some te => if te.size = k.sz then cutK lo hi l h xs fun ys => wrD N o.dst (some (0 ≤ l ∧ l ≤ h ∧ h ≤ (xs.length : Int))) (.p (.c (.sl k ys))) else fail)
  | _ => fail
theorem opSlice_framed (t : Nat) (x : Operand) (lo hi : Option Operand) : Framed (opSlice I N o t x lo hi) := (evS_framed x).bnd fun u => by
  split
  · refine (evIx_framed _ _).bnd fun l => (evIx_framed _ _).bnd fun h => ?_
    split
    · exact Framed.fail
    · split
      · exact Framed.fail
      · split
        · exact Framed.fail
        · split
          · rw [cutK_eq]; exact wrD_framed _ _ _ _
          · exact Framed.fail
  · exact Framed.fail
theorem bounds_run {lo hi : Option Value} {n c : Nat} {l h : Int} (hlo : (lo = none ∧ l = 0) ∨ ∃ k, lo = some (.int k l)) (hhi : (hi = none ∧ h = n) ∨ ∃ k, hi = some (.int k h)) (h0 : 0 ≤ l) (h1 : l ≤ h) (h2 : h ≤ c) :
    (Instr.sliceBounds true n c lo hi none).run P w = .ok (l.toNat, h.toNat, c) w := by
  have a1 : l ≤ (h.toNat : Int) := by omega
  have a2 : 0 ≤ h := by omega
  rcases hlo with ⟨rfl, rfl⟩ | ⟨k, rfl⟩ <;> rcases hhi with ⟨rfl, rfl⟩ | ⟨k', rfl⟩ <;> simp_all [Instr.sliceBounds, Instr.sliceBound, asIntOf]
theorem opSlice_sound (hI : ∀ t ti, I t = some ti → TiOk P t ti) (R : Rl X Y w0 N η σ a w) {t : Nat} {x : Operand} {lo hi : Option Operand} (ho : o.op = .slice t x lo hi none) {ou : Out} {r : List Nat} (h : opSlice I N o t x lo hi σ = some (ou, r)) (hp : Ask ou.pre) : Good P X Y w0 N σ a w o ou.wr := by
  obtain ⟨u, r1, r2, h1, h2, _⟩ := bnd_some h
  have e1 := evS_sound R h1
  split at h2
  · rename_i al k xs
    obtain ⟨l, r3, r4, h3, h4, _⟩ := bnd_some h2
    obtain ⟨m, r5, r6, h5, h6, _⟩ := bnd_some h4
    have e3 := evIx_sound R h3
    have e4 := evIx_sound R h5
    cases ht : I t with
    | none => simp only [ht] at h6; cases h6
    | some ti =>
      simp only [ht] at h6
      cases he : ti.elem with
      | none => simp only [he] at h6; cases h6
      | some e =>
        simp only [he] at h6
        cases hte : I e with
        | none => simp only [hte] at h6; cases h6
        | some te =>
          simp only [hte] at h6
          by_cases hs : te.size = k.sz
          · simp only [hs, if_true, cutK_eq] at h6
            obtain ⟨A, c, e1', hc, hrow⟩ := e1
            refine wrD_good R h6 hp fun hpre => ?_
            have hpre : 0 ≤ l ∧ l ≤ m ∧ m ≤ (xs.length : Int) := hpre
            obtain ⟨p1, p2, p3⟩ := hpre
            have hsz := ti_size (hI e te hte) w
            have hu := ti_elem (hI t ti ht) he
            have hlen : (cut lo hi l m xs).length = m.toNat - l.toNat := by
              rw [cut_eq (fun e => by rcases e3 with ⟨_, q⟩ | ⟨y, k, q, _⟩; exact q; rw [e] at q; cases q) (fun e => by rcases e4 with ⟨_, q⟩ | ⟨y, k, q, _⟩; exact q; rw [e] at q; cases q)]
              rw [List.length_drop, List.length_take]
              omega
            refine ⟨.slice (if c = l.toNat then A else A.map (·.add (l.toNat * k.sz))) (m.toNat - l.toNat) (c - l.toNat), ⟨_, _, by rw [hlen], by rw [hlen]; omega, ?_⟩, .inl ?_⟩
            · have hcut := cut_eq (lo := lo) (hi := hi) (l := l) (h := m) (xs := xs) (fun e => by rcases e3 with ⟨_, q⟩ | ⟨y, k, q, _⟩; exact q; rw [e] at q; cases q) (fun e => by rcases e4 with ⟨_, q⟩ | ⟨y, k, q, _⟩; exact q; rw [e] at q; cases q)
              have hpart := hrow.part l.toNat m.toNat
              rw [← hcut] at hpart
              by_cases hcl : c = l.toNat
              · rw [if_pos hcl]
                exact ⟨hpart.1, fun hn => by omega⟩
              · rw [if_neg hcl]; exact hpart
            · have hb := bounds_run (P := P) (w := w) (lo := lo.map a.eval) (hi := hi.map a.eval) (n := xs.length) (c := c) (l := l) (h := m)
                (by rcases e3 with ⟨q, q2⟩ | ⟨y, k', q, q2⟩; exact .inl ⟨by rw [q]; rfl, q2⟩; exact .inr ⟨k', by rw [q]; exact congrArg some q2⟩)
                (by rcases e4 with ⟨q, q2⟩ | ⟨y, k', q, q2⟩; exact .inl ⟨by rw [q]; rfl, q2⟩; exact .inr ⟨k', by rw [q]; exact congrArg some q2⟩) p1 p2 (by omega)
              simp only [execOp, ho, Instr.sliceAt, Instr.slice, e1', Sem.run_bind, run_underlying hu, Result.andThen_ok, Option.map_none, hb, hsz, hs, Sem.run_pure]
          · simp only [hs, if_false] at h6; cases h6
  · cases h2
end
end Go.Proofs.YtgjpphcbdbfhlaaGreat.L.EV
namespace Go.Proofs.YtgjpphcbdbfhlaaGreat.L.EV
open Go.RowKit Go.Proofs Go.Proofs.YtgjpphcbdbfhlaaGreatW.PrintWords Go.Proofs.YtgjpphcbdbfhlaaGreatW.PrintLast
universe u
section
variable {P : Program} {I : Nat → Option TI} {X : Nat → Prop} {Y : Came} {w0 w : World} {N : Nat} {η : Nat → Value} {σ : Nat → AV} {a : Act} {o : Oper}
/-! ### Loads -/
def EK.cells {α : Type} : EK α → List α → Int → List CV
  | .int k, xs, i => [.v (.int k (rd xs i))]
  | .bool, xs, i => [.v (.bool (rdOf false xs i))]
  | .str, xs, i => [.v (.string (rdOf .empty xs i))]
  | .st _ fs rd _ _ _ _ _, xs, i => fs.map fun f => .v (f (rd xs i))
  | .sls _ k rd _, xs, i => [.sl k (rd xs i)]
theorem getD_of {α : Type} {xs : List α} {i : Int} {p d : α} (h : xs[i.toNat]? = some p) : xs.getD i.toNat d = p := by
  rw [List.getD_eq_getElem?_getD, h]; rfl
theorem EK.cells_rel {α : Type} (k : EK α) {L : Nat → Prop} {xs : List α} {i : Int} {p : α} (h0 : 0 ≤ i) (h1 : i < (xs.length : Int)) (hp : xs[i.toNat]? = some p) {c : List Value} (h : k.at_ X w p c) : CVs.rel L X η w (k.cells xs i) c := by
  cases k with
  | int k => cases h; exact ⟨by simp only [CV.rel, rd]; rw [getD_of hp], rfl, trivial⟩
  | bool => cases h; exact ⟨by simp only [CV.rel, rdOf]; rw [getD_of hp], rfl, trivial⟩
  | str => cases h; exact ⟨by simp only [CV.rel, rdOf]; rw [getD_of hp], rfl, trivial⟩
  | st d fs rd hK h1' hr mk hm =>
    have e := hr xs i h0 h1
    rw [hp] at e
    injection e with e
    subst e
    have h' : c = fs.map fun f => f (rd xs i) := h
    subst h'
    have : ∀ gs : List (α → Value), (∀ f ∈ gs, f ∈ fs) → CVs.rel L X η w (gs.map fun f => CV.v (f (rd xs i))) (gs.map fun f => f (rd xs i)) := by
      intro gs
      induction gs with
      | nil => intro _; trivial
      | cons g gs ih => exact fun hg => ⟨rfl, h1' g (hg g (by simp)) _, ih fun f hf => hg f (by simp [hf])⟩
    exact this fs fun _ hf => hf
  | sls e k rd hr =>
    have e' := hr xs i h0 h1
    rw [hp] at e'
    injection e' with e'
    subst e'
    obtain ⟨A, cc, rfl, h2, h3⟩ := h
    exact ⟨⟨A, cc, rfl, h2, h3⟩, rfl, trivial⟩
def loadC (N : Nat) (o : Oper) (ti : TI) (cs : List CV) : M Out :=
  match ti.agg with
  | true => if ti.size ≤ cs.length then lcps (cs.take ti.size) fun cs => wrD N o.dst none (.p (.ag cs)) else fail
  | false => match cs with
    | x :: _ => ccps x fun x => wrD N o.dst none (.p (.c x))
    | [] => fail
theorem loadC_framed (ti : TI) (cs : List CV) : Framed (loadC N o ti cs) := by
  unfold loadC
  split
  · split
    · rw [lcps_eq]; exact wrD_framed _ _ _ _
    · exact Framed.fail
  · split
    · rw [ccps_eq]; exact wrD_framed _ _ _ _
    · exact Framed.fail
theorem loadC_sound (hI : ∀ t ti, I t = some ti → TiOk P t ti) (R : Rl X Y w0 N η σ a w) {t : Nat} {x : Operand} (ho : o.op = .load t x) {ti : TI} (ht : I t = some ti) {ad : Addr} (he : a.eval x = .pointer (some ad)) {cs : List CV} {us : List Value}
    (hr : CVs.rel (Live σ) (Own X η σ) η w cs us) (hc : ∀ j u, us[j]? = some u → w.cell? (ad.add j) = some u) {ou : Out} {r : List Nat} (h : loadC N o ti cs σ = some (ou, r)) (hp : Ask ou.pre) : Good P X Y w0 N σ a w o ou.wr := by
  have hg := ti_agg (hI t ti ht) w
  have hs := ti_size (hI t ti ht) w
  have hlen := CVs.rel_len hr
  unfold loadC at h
  cases hagg : ti.agg with
  | true =>
    simp only [hagg] at h
    by_cases hsz : ti.size ≤ cs.length
    · simp only [hsz, if_true, lcps_eq] at h
      refine wrD_good R h hp fun _ => ⟨.agg (us.take ti.size).toArray, ⟨_, rfl, CVs.rel_take hr⟩, .inl ?_⟩
      have hl := run_loadCells_list (P := P) w ad (us.take ti.size) (fun j v hj => hc j v (by rw [List.getElem?_take] at hj; split at hj; exact hj; cases hj))
      rw [List.length_take, Nat.min_eq_left (by omega)] at hl
      simp only [execOp, ho, Instr.loadAt, he, Instr.sureAddr, loadVar, Sem.run_bind, Sem.run_pure, Result.andThen_ok, hg, hagg, hs, if_true, hl]
    · simp only [hsz, if_false] at h; cases h
  | false =>
    simp only [hagg] at h
    cases cs with
    | nil => cases h
    | cons y ys =>
      cases us with
      | nil => simp at hlen
      | cons u us =>
        simp only [ccps_eq] at h
        refine wrD_good R h hp fun _ => ⟨u, hr.1, .inl ?_⟩
        have h0 := hc 0 u rfl
        rw [Addr.add_zero'] at h0
        simp only [execOp, ho, Instr.loadAt, he, Instr.sureAddr, loadVar, Sem.run_bind, Sem.run_pure, Result.andThen_ok, hg, hagg, Bool.false_eq_true, if_false, run_load, h0]
def opLoad (I : Nat → Option TI) (N : Nat) (o : Oper) (t : Nat) (x : Operand) : M Out := bnd (evA x) fun u =>
  match u with
  | .p (.c (.bx b off)) => bnd (get (2 * b + 1)) fun m => (match m with
    | .mem T cs => (match I t with | none => fail | some ti => loadC N o ti (cs.drop off))
    | _ => fail)
  | .p (.c (.el k xs i off)) => (match I t with | none => fail | some ti => loadC N o ti ((k.cells xs i).drop off))
  | .p (.fb cs) => (match I t with | none => fail | some ti => loadC N o ti cs)
  | .p (.c (.er r sz n i off)) => bnd (get (2 * r + 1)) fun m => (match m with
    | .row e k xs => if sz = k.sz then (match I t with | none => fail | some ti => loadC N o ti ((k.cells xs i).drop off)) else fail
    | .fz k xs => if sz = k.sz then (match I t with | none => fail | some ti => loadC N o ti ((k.cells xs i).drop off)) else fail
    | _ => fail)
  | _ => fail
theorem opLoad_framed (t : Nat) (x : Operand) : Framed (opLoad I N o t x) := (evA_framed x).bnd fun u => by
  split
  · refine (Framed.get _).bnd fun m => ?_
    split
    · split
      · exact Framed.fail
      · exact loadC_framed _ _
    · exact Framed.fail
  · split
    · exact Framed.fail
    · exact loadC_framed _ _
  · split
    · exact Framed.fail
    · exact loadC_framed _ _
  · refine (Framed.get _).bnd fun m => ?_
    split
    · split
      · split
        · exact Framed.fail
        · exact loadC_framed _ _
      · exact Framed.fail
    · split
      · split
        · exact Framed.fail
        · exact loadC_framed _ _
      · exact Framed.fail
    · exact Framed.fail
  · exact Framed.fail
/-- A row that lies at an address, read at one element. -/
theorem row_cells {α : Type} {k : EK α} {L Z : Nat → Prop} {ad : Addr} {xs : List α} (h : k.row Z w (some ad) xs) {i : Int} (h0 : 0 ≤ i) (h1 : i < (xs.length : Int)) (off : Nat) :
    ∃ us : List Value, CVs.rel L Z η w ((k.cells xs i).drop off) us ∧ ∀ j u, us[j]? = some u → w.cell? ((ad.add (i.toNat * k.sz + off)).add j) = some u := by
  obtain ⟨ad', q1, q2, q3, q4⟩ := h.2 (by omega)
  cases q1
  obtain ⟨c, c1, c2, c3⟩ := q4 i.toNat _ (List.getElem?_eq_getElem (by omega))
  refine ⟨c.drop off, CVs.rel_drop (n := off) (EK.cells_rel k h0 h1 (List.getElem?_eq_getElem (by omega)) c2), fun j u hu => ?_⟩
  rw [add_add, ← c3 (off + j) u (by rw [List.getElem?_drop] at hu; exact hu), Nat.add_assoc]
theorem box_cell {vs : List Value} {g T : Nat} (h : w.heap[g]? = some (.cells vs.toArray T (0, 0))) (off j : Nat) {u : Value} (hu : (vs.drop off)[j]? = some u) : w.cell? ((⟨g, off, none⟩ : Addr).add j) = some u := by
  rw [add_lit, blk_cell h]
  rw [List.getElem?_drop] at hu
  simpa using hu
theorem opLoad_sound (hI : ∀ t ti, I t = some ti → TiOk P t ti) (R : Rl X Y w0 N η σ a w) {t : Nat} {x : Operand} (ho : o.op = .load t x) {ou : Out} {r : List Nat} (h : opLoad I N o t x σ = some (ou, r)) (hp : Ask ou.pre) : Good P X Y w0 N σ a w o ou.wr := by
  obtain ⟨u, r1, r2, h1, h2, _⟩ := bnd_some h
  have e1 := evA_sound R h1
  split at h2
  · rename_i b off
    obtain ⟨m, r3, r4, h3, h4, _⟩ := bnd_some h2
    unfold get at h3
    injection h3 with h3
    injection h3 with h3 _
    obtain ⟨hl, g, eg, e1'⟩ := e1
    split at h4
    · rename_i T cs
      cases ht : I t with
      | none => rw [ht] at h4; cases h4
      | some ti =>
        simp only [ht] at h4
        obtain ⟨g', vs, b0, b1, b2⟩ := R.box b T cs h3
        rw [eg] at b0
        cases b0
        exact loadC_sound hI R ho ht e1' (CVs.rel_drop (n := off) b2) (fun j u hu => box_cell b1 off j hu) h4 hp
    · cases h4
  · rename_i al k xs i off
    obtain ⟨ad, e1', e2, e3, e4, e5⟩ := e1
    cases ht : I t with
    | none => rw [ht] at h2; cases h2
    | some ti =>
      simp only [ht] at h2
      obtain ⟨us, g1, g2⟩ := row_cells (L := Live σ) (η := η) e5 e2 e3 off
      exact loadC_sound hI R ho ht e1' g1 g2 h2 hp
  · rename_i cs
    obtain ⟨ad, us, e1', e2, e3, e4, e5⟩ := e1
    cases ht : I t with
    | none => rw [ht] at h2; cases h2
    | some ti =>
      simp only [ht] at h2
      exact loadC_sound hI R ho ht e1' e5 e4 h2 hp
  · rename_i q sz n i off
    obtain ⟨_, e2, e3, e4, g, c, e5, e6⟩ := e1
    obtain ⟨m, r3, r4, h3, h4, _⟩ := bnd_some h2
    unfold get at h3
    injection h3 with h3
    injection h3 with h3 _
    have key : ∀ {α : Type} {k : EK α} {xs : List α} {Z : Nat → Prop}, (∀ i, Own X η σ i → i < w.heap.size → True) → (∃ A c', η q = .slice A xs.length c' ∧ xs.length ≤ c' ∧ k.row Z w A xs) → n = xs.length ∧ k.row Z w (some ⟨g, 0, none⟩) xs := by
      intro α k xs Z _ hh
      obtain ⟨A, c', f1, _, f3⟩ := hh
      rw [e5] at f1
      injection f1 with f1 f2 _
      exact ⟨f2, by rw [f1]; exact f3⟩
    have done : ∀ {α : Type} {k : EK α} {xs : List α}, sz = k.sz → n = xs.length → (∃ us : List Value, CVs.rel (Live σ) (Own X η σ) η w ((k.cells xs i).drop off) us ∧ ∀ j u, us[j]? = some u → w.cell? (((⟨g, 0, none⟩ : Addr).add (i.toNat * k.sz + off)).add j) = some u) →
        (match I t with | none => fail | some ti => loadC N o ti ((k.cells xs i).drop off)) σ = some (ou, r4) → Good P X Y w0 N σ a w o ou.wr := by
      intro α k xs hs hn hh h5
      cases ht : I t with
      | none => rw [ht] at h5; cases h5
      | some ti =>
        simp only [ht] at h5
        obtain ⟨us, g1, g2⟩ := hh
        refine loadC_sound hI R ho ht e6 g1 (fun j u hu => ?_) h5 hp
        have := g2 j u hu
        rw [add_lit, Nat.zero_add] at this
        rw [hs]
        exact this
    split at h4
    · rename_i al e k xs
      by_cases hs : sz = k.sz
      · rw [if_pos hs] at h4
        have hrow := R.row q e k xs h3
        obtain ⟨f1, f2⟩ := key (Z := fun i => Own X η σ i ∧ vb (η q) ≠ some i) (fun _ _ _ => trivial) (hrow.reads (fun i hi _ => hi.1) fun b hb hi => hi.2 hb)
        refine done hs f1 ?_ h4
        -- the cells of the row, with what the elements are apart from
        obtain ⟨cs, c1, c2⟩ := hrow
        have hl := c1.1
        have hlt : i.toNat < xs.length := by omega
        have hx := c2.2 i.toNat _ (List.getElem?_eq_getElem hlt)
        refine ⟨(((cs.drop (i.toNat * k.sz)).take k.sz).drop off), CVs.rel_drop (n := off) (EK.cells_rel k e2 (by omega) (List.getElem?_eq_getElem hlt) hx), fun j u hu => ?_⟩
        rw [List.getElem?_drop, List.getElem?_take] at hu
        split at hu
        · rw [List.getElem?_drop] at hu
          rw [e5] at c1
          have := c1.cells (g := g) rfl _ u hu
          rw [add_lit, add_lit, Nat.zero_add]
          rw [add_lit, Nat.zero_add] at this
          rw [← this]
          congr 2
          omega
        · cases hu
      · rw [if_neg hs] at h4; cases h4
    · rename_i al k xs
      by_cases hs : sz = k.sz
      · rw [if_pos hs] at h4
        obtain ⟨f1, f2⟩ := key (fun _ _ _ => trivial) (R.fz q k xs h3)
        exact done hs f1 (row_cells (L := Live σ) (η := η) f2 e2 (by omega) off) h4
      · rw [if_neg hs] at h4; cases h4
    · cases h4
  · cases h2
/-! ### Cells of a value -/
/-- A row that is read alone is what it reads as; one of one's own stays what it is. -/
def resC (x : CV) : M CV :=
  match x with
  | .rp r => bnd (get (2 * r + 1)) fun m => (match m with
    | .fz k xs => ret (.sl k xs)
    | .row _ _ _ => ret (.rp r)
    | _ => fail)
  | x => ret x
theorem resC_framed (x : CV) : Framed (resC x) := by
  unfold resC
  split
  · refine (Framed.get _).bnd fun m => ?_
    split
    · exact Framed.ret _
    · exact Framed.ret _
    · exact Framed.fail
  · exact Framed.ret _
theorem resC_sound (R : Rl X Y w0 N η σ a w) {x y : CV} {r : List Nat} (h : resC x σ = some (y, r)) {u : Value} (hr : x.rel (Live σ) (Own X η σ) η w u) : y.rel (Live σ) (Own X η σ) η w u ∧ ∀ q, y = .rp q → u.oneCell' = true := by
  unfold resC at h
  split at h
  · rename_i q
    obtain ⟨m, r1, r2, h1, h2, _⟩ := bnd_some h
    unfold get at h1
    injection h1 with h1
    injection h1 with h1 _
    split at h2
    · rename_i al k xs
      cases h2
      obtain ⟨_, rfl⟩ := hr
      exact ⟨R.fz q k xs h1, fun q e => by cases e⟩
    · rename_i al e k xs
      cases h2
      refine ⟨hr, fun q' e' => ?_⟩
      cases e'
      obtain ⟨_, rfl⟩ := hr
      rcases (R.row q e k xs h1).form with ⟨e1, _⟩ | ⟨g, c, e1, _⟩ <;> rw [e1] <;> rfl
    · cases h2
  · rename_i hx
    cases h
    exact ⟨hr, fun q e => absurd e (hx q)⟩
def resL : List CV → M (List CV)
  | [] => ret []
  | x :: xs => bnd (resC x) fun y => bnd (resL xs) fun ys => ret (y :: ys)
theorem resL_framed : ∀ (xs : List CV), Framed (resL xs)
  | [] => Framed.ret _
  | x :: xs => (resC_framed x).bnd fun y => (resL_framed xs).bnd fun ys => Framed.ret _
theorem resL_sound (R : Rl X Y w0 N η σ a w) : ∀ {xs ys : List CV} {r : List Nat} {us : List Value}, resL xs σ = some (ys, r) → CVs.rel (Live σ) (Own X η σ) η w xs us → CVs.rel (Live σ) (Own X η σ) η w ys us
  | [], ys, r, us, h, hr => by cases h; exact hr
  | x :: xs, ys, r, [], h, hr => hr.elim
  | x :: xs, ys, r, u :: us, h, hr => by
    unfold resL at h
    obtain ⟨y, r1, r2, h1, h2, _⟩ := bnd_some h
    obtain ⟨zs, r3, r4, h3, h4, _⟩ := bnd_some h2
    cases h4
    exact ⟨(resC_sound R h1 hr.1).1, hr.2.1, resL_sound R h3 hr.2.2⟩
def oneC : CV → Bool
  | .any => false
  | .v x => x.oneCell'
  | .ow _ _ _ => false
  | _ => true
theorem oneC_sound {L : Nat → Prop} {x : CV} {u : Value} (h : oneC x = true) (hq : ∀ q, x = .rp q → u.oneCell' = true) (hr : x.rel L X η w u) : u.oneCell' = true := by
  cases x with
  | any => cases h
  | v x => cases hr; exact h
  | sl k xs => obtain ⟨A, c, rfl, _⟩ := hr; rfl
  | bx b off => obtain ⟨_, g, _, rfl⟩ := hr; rfl
  | el k xs i off => obtain ⟨ad, rfl, _⟩ := hr; rfl
  | rp r => exact hq r rfl
  | er r sz n i off => obtain ⟨_, _, _, _, g, c, _, rfl⟩ := hr; rfl
  | ow e k xs => cases h
theorem cells_one {u : Value} (h : u.oneCell' = true) : u.cells = #[u] := by cases u <;> first | rfl | cases h
/-- The cells of a value, down to their constructors. -/
def cellsOf {γ : Type u} (x : AV) (k : List CV → M γ) : M γ :=
  match x with
  | .p (.c x) => bnd (resC x) fun x => (match oneC x with | true => ccps x fun x => k [x] | false => fail)
  | .p (.ag cs) => bnd (resL cs) fun cs => lcps cs k
  | _ => fail
theorem cellsOf_framed {γ : Type u} (x : AV) {k : List CV → M γ} (hk : ∀ cs, Framed (k cs)) : Framed (cellsOf x k) := by
  unfold cellsOf
  split
  · refine (resC_framed _).bnd fun y => ?_
    split
    · rw [ccps_eq]; exact hk _
    · exact Framed.fail
  · refine (resL_framed _).bnd fun y => ?_
    rw [lcps_eq]; exact hk _
  · exact Framed.fail
theorem cellsOf_sound (R : Rl X Y w0 N η σ a w) {γ : Type u} {x : AV} {k : List CV → M γ} {ou : γ × List Nat} (h : cellsOf x k σ = some ou) {u : Value} (hr : x.rel (Live σ) (Own X η σ) η w u) : ∃ cs vs r, k cs σ = some (ou.1, r) ∧ CVs.rel (Live σ) (Own X η σ) η w cs vs ∧ u.cells = vs.toArray := by
  unfold cellsOf at h
  split at h
  · obtain ⟨y, r1, r2, h1, h2, _⟩ := bnd_some h
    obtain ⟨h3, h3'⟩ := resC_sound R h1 hr
    cases hy : oneC y with
    | false => simp only [hy] at h2; cases h2
    | true =>
      simp only [hy, ccps_eq] at h2
      have h4 := oneC_sound hy h3' h3
      exact ⟨[y], [u], _, h2, ⟨h3, h4, trivial⟩, cells_one h4⟩
  · obtain ⟨ys, r1, r2, h1, h2, _⟩ := bnd_some h
    rw [lcps_eq] at h2
    obtain ⟨vs, rfl, h3⟩ := hr
    exact ⟨ys, vs, _, h2, resL_sound R h1 h3, rfl⟩
  · cases h
/-! ### Stores -/
def valsOf : List CV → Option (List Value)
  | [] => some []
  | .v x :: r => (match valsOf r with | some vs => some (x :: vs) | none => none)
  | _ => none
theorem valsOf_rel {L : Nat → Prop} : ∀ {cs : List CV} {vs us : List Value}, valsOf cs = some vs → CVs.rel L X η w cs us → us = vs
  | [], vs, [], h, _ => by cases h; rfl
  | [], vs, u :: us, h, hr => hr.elim
  | x :: r, vs, [], h, hr => hr.elim
  | x :: r, vs, u :: us, h, hr => by
    cases x with
    | v x =>
      unfold valsOf at h
      cases hq : valsOf r with
      | none => simp only [hq] at h; cases h
      | some ws =>
        simp only [hq] at h
        cases h
        rw [valsOf_rel hq hr.2.2]
        have := hr.1
        cases this
        rfl
    | _ => cases h
/-- An element with some of its cells written anew. -/
def EK.put {α : Type} (k : EK α) (xs : List α) (i : Int) (off : Nat) (us : List CV) : Option α :=
  match k with
  | .int k => (match off, us with
    | 0, [.v (.int k' x)] => (match decide (k' = k) with | true => some x | false => none)
    | _, _ => none)
  | .bool => (match off, us with
    | 0, [.v (.bool b)] => some b
    | _, _ => none)
  | .str => (match off, us with
    | 0, [.v (.string b)] => some b
    | _, _ => none)
  | .st _ fs rd _ _ _ mk _ => (match valsOf us with
    | some vs => mk (spl (fs.map fun f => f (rd xs i)) off vs)
    | none => none)
  | .sls _ _ _ _ => none
theorem EK.put_at {α : Type} (k : EK α) {L Z : Nat → Prop} {xs : List α} {i : Int} {p0 p : α} {off : Nat} {cs : List CV} {us old : List Value} (h0 : 0 ≤ i) (h1 : i < (xs.length : Int)) (hp : xs[i.toNat]? = some p0) (hat : k.at_ Z w p0 old) (hput : k.put xs i off cs = some p) (hr : CVs.rel L X η w cs us) : k.at_ Z w p (spl old off us) := by
  cases k with
  | int k =>
    simp only [EK.put] at hput
    split at hput
    · rename_i k' x
      cases hk : decide (k' = k) with
      | false => rw [hk] at hput; cases hput
      | true =>
        rw [hk] at hput
        cases hput
        have hk := of_decide_eq_true hk
        subst hk
        cases hat
        match us, hr with
        | [u], hr => cases hr.1; rfl
    · cases hput
  | bool =>
    simp only [EK.put] at hput
    split at hput
    · cases hput
      cases hat
      match us, hr with
      | [u], hr => cases hr.1; rfl
    · cases hput
  | str =>
    simp only [EK.put] at hput
    split at hput
    · cases hput
      cases hat
      match us, hr with
      | [u], hr => cases hr.1; rfl
    · cases hput
  | st d fs rd hK h1' hrd mk hm =>
    simp only [EK.put] at hput
    split at hput
    · rename_i vs hv
      have e := hrd xs i h0 h1
      rw [hp] at e
      injection e with e
      subst e
      have := valsOf_rel hv hr
      subst this
      have hat' : old = fs.map fun f => f (rd xs i) := hat
      subst hat'
      exact hm _ _ hput
    · cases hput
  | sls e k rd hr' => simp only [EK.put] at hput; cases hput
def opStore (I : Nat → Option TI) (N : Nat) (o : Oper) (t : Nat) (x y : Operand) : M Out := bnd (evA x) fun u => bnd (evA y) fun v =>
  match u with
  | .p (.c (.bx b off)) => bnd (get (2 * b + 1)) fun m => (match m with
    | .mem T cs => (match o.dst with
      | some _ => fail
      | none => match I t with
        | none => fail
        | some ti => cellsOf v fun vs => if vs.length = ti.size then (if off + vs.length ≤ cs.length then lcps (cs.take off ++ vs ++ cs.drop (off + vs.length)) fun cs' => ret ⟨[(2 * b + 1, .mem T cs')], none⟩ else fail) else fail)
    | _ => fail)
  | .p (.c (.er q sz n i off)) => bnd (get (2 * q + 1)) fun m => (match m with
    | .row e k xs => if sz = k.sz then (match o.dst with
      | some _ => fail
      | none => match I t with
        | none => fail
        | some ti => cellsOf v fun vs => if vs.length = ti.size then (if off + vs.length ≤ sz then (match k.put xs i off vs with
          | some p => ret ⟨[(2 * q + 1, .row e k (xs.set i.toNat p))], none⟩
          | none => fail) else fail) else fail) else fail
    | _ => fail)
  | _ => fail
theorem opStore_framed (t : Nat) (x y : Operand) : Framed (opStore I N o t x y) := (evA_framed x).bnd fun u => (evA_framed y).bnd fun v => by
  split
  · refine (Framed.get _).bnd fun m => ?_
    split
    · split
      · exact Framed.fail
      · split
        · exact Framed.fail
        · refine cellsOf_framed v fun cs => ?_
          split
          · split
            · rw [lcps_eq]; exact Framed.ret _
            · exact Framed.fail
          · exact Framed.fail
    · exact Framed.fail
  · refine (Framed.get _).bnd fun m => ?_
    split
    · split
      · split
        · exact Framed.fail
        · split
          · exact Framed.fail
          · refine cellsOf_framed v fun cs => ?_
            split
            · split
              · split
                · exact Framed.ret _
                · exact Framed.fail
              · exact Framed.fail
            · exact Framed.fail
      · exact Framed.fail
    · exact Framed.fail
  · exact Framed.fail
theorem opStore_sound (hI : ∀ t ti, I t = some ti → TiOk P t ti) (R : Rl X Y w0 N η σ a w) {t : Nat} {x y : Operand} (ho : o.op = .store t x y) {ou : Out} {r : List Nat} (h : opStore I N o t x y σ = some (ou, r)) (hp : Ask ou.pre) : Good P X Y w0 N σ a w o ou.wr := by
  obtain ⟨u, r1, r2, h1, h2, _⟩ := bnd_some h
  obtain ⟨v, r3, r4, h3, h4, _⟩ := bnd_some h2
  have e1 := evA_sound R h1
  have e2 := evA_sound R h3
  split at h4
  · rename_i b off
    obtain ⟨m, r5, r6, h5, h6, _⟩ := bnd_some h4
    unfold get at h5
    injection h5 with h5
    injection h5 with h5 _
    obtain ⟨hl, g, eg, e1'⟩ := e1
    split at h6
    · rename_i T cs
      cases hd : o.dst with
      | some d => simp only [hd] at h6; cases h6
      | none =>
        simp only [hd] at h6
        cases ht : I t with
        | none => simp only [ht] at h6; cases h6
        | some ti =>
          simp only [ht] at h6
          obtain ⟨vs, us, r7, h7, h8, h9⟩ := cellsOf_sound R h6 e2
          have hlen := CVs.rel_len h8
          by_cases hs : vs.length = ti.size
          · simp only [hs, if_true] at h7
            by_cases ho2 : off + ti.size ≤ cs.length
            · simp only [ho2, if_true, lcps_eq] at h7
              cases h7
              obtain ⟨g', ws, b0, b1, b2⟩ := R.box b T cs h5
              rw [eg] at b0
              cases b0
              have hlen2 := CVs.rel_len b2
              have hsz := ti_size (hI t ti ht) w
              have hst := run_storeCells_at (P := P) g off T us 0 ws.toArray w b1 (by simp; omega) (CVs.rel_one h8)
              have hrow : (ws.toArray.toList.take (off + 0) ++ us ++ ws.toArray.toList.drop (off + 0 + us.length)) = ws.take off ++ us ++ ws.drop (off + ti.size) := by simp [hlen, hs]
              rw [hrow] at hst
              have hnew : CVs.rel (Live σ) (Own X η σ) η w (cs.take off ++ vs ++ cs.drop (off + ti.size)) (ws.take off ++ us ++ ws.drop (off + ti.size)) :=
                CVs.rel_append (CVs.rel_append (CVs.rel_take b2) h8) (CVs.rel_drop b2)
              have hR := R.store (vs' := ws.take off ++ us ++ ws.drop (off + ti.size)) h5 eg hnew
              refine ⟨undef, w.setRow g (ws.take off ++ us ++ ws.drop (off + ti.size)).toArray, η, .inr ⟨?_, rfl⟩, ?_⟩
              · simp only [execOp, ho, Instr.storeAt, e1', Instr.sureAddr, storeVar, Sem.run_bind, Sem.run_pure, Result.andThen_ok, hsz, h9]
                rw [if_neg (by simp; omega)]
                simp only [Sem.run_pure, Result.andThen_ok, hst]
              · rw [hd]
                exact hR
            · simp only [ho2, if_false] at h7; cases h7
          · simp only [hs, if_false] at h7; cases h7
    · cases h6
  · rename_i q sz n i off
    obtain ⟨m, r5, r6, h5, h6, _⟩ := bnd_some h4
    unfold get at h5
    injection h5 with h5
    injection h5 with h5 _
    obtain ⟨_, f2, f3, f4, g, c, f5, f6⟩ := e1
    split at h6
    · rename_i al e k xs
      by_cases hsk : sz = k.sz
      · rw [if_pos hsk] at h6
        cases hd : o.dst with
        | some d => simp only [hd] at h6; cases h6
        | none =>
          simp only [hd] at h6
          cases ht : I t with
          | none => simp only [ht] at h6; cases h6
          | some ti =>
            simp only [ht] at h6
            obtain ⟨vs, us, r7, h7, h8, h9⟩ := cellsOf_sound R h6 e2
            have hlen := CVs.rel_len h8
            by_cases hs : vs.length = ti.size
            · simp only [hs, if_true] at h7
              by_cases ho2 : off + ti.size ≤ sz
              · simp only [ho2, if_true] at h7
                cases hput : k.put xs i off vs with
                | none => simp only [hput] at h7; cases h7
                | some p =>
                  simp only [hput] at h7
                  cases h7
                  have hsz := ti_size (hI t ti ht) w
                  obtain ⟨cs, c1, c2⟩ := R.row q e k xs h5
                  have hn : n = xs.length := by
                    rw [f5] at c1
                    rcases c1.2 with ⟨hh, _⟩ | ⟨_, _, _, hh, _⟩
                    · cases hh
                    · injection hh
                  subst hn
                  have hlt : i.toNat < xs.length := by omega
                  have hcl : i.toNat * k.sz + k.sz ≤ cs.length := by rw [c1.1, ← Nat.succ_mul]; exact Nat.mul_le_mul_right _ hlt
                  rw [f5] at c1
                  obtain ⟨w1, g1, g2, g3⟩ := own_write (P := P) (o := i.toNat * k.sz + off) (us := us) c1 (by omega) (CVs.rel_one h8)
                  have hR := R.setRow' (w1 := w1) (xs' := xs.set i.toNat p) h5 (by rw [f5]; exact g3) (by rw [f5, List.length_set]; exact g2)
                    (reps_set c2 hlt (by omega) (EK.put_at k f2 f3 (List.getElem?_eq_getElem hlt) (c2.2 _ _ (List.getElem?_eq_getElem hlt)) hput h8))
                  refine ⟨undef, w1, η, .inr ⟨?_, rfl⟩, ?_⟩
                  · subst hsk
                    simp only [execOp, ho, Instr.storeAt, f6, Instr.sureAddr, storeVar, Sem.run_bind, Sem.run_pure, Result.andThen_ok, hsz, h9]
                    rw [if_neg (by simp; omega)]
                    simp only [Sem.run_pure, Result.andThen_ok, g1]
                  · rw [hd]
                    exact hR
              · simp only [ho2, if_false] at h7; cases h7
            · simp only [hs, if_false] at h7; cases h7
      · rw [if_neg hsk] at h6; cases h6
    · cases h6
  · cases h4
end
end Go.Proofs.YtgjpphcbdbfhlaaGreat.L.EV
