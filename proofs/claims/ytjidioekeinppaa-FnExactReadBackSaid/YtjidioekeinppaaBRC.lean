/- Worlds that come behind one another by blocks laid, draws, and stores to one's own blocks: found by instances. No condition. -/
import Derived.Test.YtjidioekeinppaaBV
set_option linter.unusedVariables false
namespace Go.Proofs.Ytjidioekeinppaa.B
open Go.RowKit Go.Proofs Go.Proofs.YtjidioekeinppaaW.PrintWords

class Rc (u v : World) : Prop where
  ok : Below u.heap.size u v
instance Rc.a0 (u : World) : Rc u u := ⟨Below.refl _ _⟩
instance Rc.a1 (u v : World) (o : Obj) [h : Rc u v] : Rc u (v.alloc o) := ⟨below_alloc h.ok o⟩
instance Rc.a2 (u v : World) [h : Rc u v] : Rc u v.drew := ⟨below_drew h.ok⟩
instance Rc.a3 (u v : World) (n : Nat) [h : Rc u v] : Rc u (v.drewN n) := ⟨pw_below_drewN h.ok n⟩
theorem bq {w W : World} {g : Nat} {o : Obj} (h : Aside0 (w.heap[g]? = some o)) [r : Rc w W] : W.heap[g]? = some o := blk_below h.out r.ok
theorem cq {α : Type} {k : Kd α} {w W : World} {A : Option Addr} {n : Nat} {xs : List α} (h : k.C w A n xs) [r : Rc w W] : k.C W A n xs := Kd.C_below h r.ok
theorem szq {w V : World} {g : Nat} (hg : g = V.heap.size) (h : Below w.heap.size w V) : w.heap.size ≤ g := by
  rw [hg]; exact below_size h
class Mm (g : Nat) (l : List Nat) : Prop where
  ok : g ∈ l
instance Mm.a0 (g h : Nat) (l : List Nat) [m : Mm g l] : Mm g (h :: l) := ⟨List.mem_cons_of_mem _ m.ok⟩
instance Mm.a1 (g : Nat) (l : List Nat) : Mm g (g :: l) := ⟨List.mem_cons_self⟩
class Rg (n : Nat) (l : List Nat) (u v : World) : Prop where
  ok : n ≤ u.heap.size → (∀ g ∈ l, n ≤ g) → Below n u v
instance Rg.a0 (n : Nat) (l : List Nat) (u : World) : Rg n l u u := ⟨fun _ _ => Below.refl _ _⟩
instance Rg.a1 (n : Nat) (l : List Nat) (u v : World) (o : Obj) [h : Rg n l u v] : Rg n l u (v.alloc o) := ⟨fun a b => (h.ok a b).alloc (Nat.le_trans a (h.ok a b).size) o⟩
instance Rg.a2 (n : Nat) (l : List Nat) (u v : World) [h : Rg n l u v] : Rg n l u v.drew := ⟨fun a b => below_drew (h.ok a b)⟩
instance Rg.a3 (n : Nat) (l : List Nat) (u v : World) (m : Nat) [h : Rg n l u v] : Rg n l u (v.drewN m) := ⟨fun a b => pw_below_drewN (h.ok a b) m⟩
instance Rg.a4 (n : Nat) (l : List Nat) (u v : World) (g j : Nat) (x : Value) [h : Rg n l u v] [m : Mm g l] : Rg n l u (v.setCell ⟨g, j, none⟩ x) := ⟨fun a b => (h.ok a b).setCell (b g m.ok) _⟩
section
variable {w W V : World} {a b c d : Nat}
theorem eq0 (h : Aside0 (Below w.heap.size w V)) [r : Rg w.heap.size [] V W] : Below w.heap.size w W := h.out.trans (r.ok h.out.size (by simp))
theorem eq1 (h : Aside0 (Below w.heap.size w V)) (ha : Aside0 (w.heap.size ≤ a)) [r : Rg w.heap.size [a] V W] : Below w.heap.size w W := h.out.trans (r.ok h.out.size (by simpa using ha.out))
theorem eq2 (h : Aside0 (Below w.heap.size w V)) (ha : Aside0 (w.heap.size ≤ a)) (hb : Aside0 (w.heap.size ≤ b)) [r : Rg w.heap.size [a, b] V W] : Below w.heap.size w W := h.out.trans (r.ok h.out.size (by simpa using ⟨ha.out, hb.out⟩))
theorem eq3 (h : Aside0 (Below w.heap.size w V)) (ha : Aside0 (w.heap.size ≤ a)) (hb : Aside0 (w.heap.size ≤ b)) (hc : Aside0 (w.heap.size ≤ c)) [r : Rg w.heap.size [a, b, c] V W] : Below w.heap.size w W := h.out.trans (r.ok h.out.size (by simpa using ⟨ha.out, hb.out, hc.out⟩))
theorem eq4 (h : Aside0 (Below w.heap.size w V)) (ha : Aside0 (w.heap.size ≤ a)) (hb : Aside0 (w.heap.size ≤ b)) (hc : Aside0 (w.heap.size ≤ c)) (hd : Aside0 (w.heap.size ≤ d)) [r : Rg w.heap.size [a, b, c, d] V W] : Below w.heap.size w W := h.out.trans (r.ok h.out.size (by simpa using ⟨ha.out, hb.out, hc.out, hd.out⟩))
end
theorem kq {α : Type} {k : Kd α} {e base : Nat} {w W : World} {ok : Nat → Prop} {v : Value} {xs : List α} (h : Aside0 (k.R e w base ok v xs)) [r : Rc w W] : k.R e W base ok v xs := Kd.R_below h.out r.ok
end Go.Proofs.Ytjidioekeinppaa.B
