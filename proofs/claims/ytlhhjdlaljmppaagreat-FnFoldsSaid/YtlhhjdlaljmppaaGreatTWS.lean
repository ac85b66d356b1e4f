/- The stable sort's functions at a row of structs: what each leaves in the row, whatever the closure that compares may lay. Over any program. No condition. -/
import Derived.Shelf.SlSortFuncK.SWK
import Derived.Shelf.GgSortMore.Stable
import Derived.Shelf.GgSortFunc.SmallK
import Derived.Test.YtlhhjdlaljmppaaGreatTSA
set_option linter.unusedVariables false
set_option linter.unusedSimpArgs false
namespace Go.Proofs.YtlhhjdlaljmppaaGreat.SA
open Go.Shelf Go.RowKit Go.Lib Go.Sort Go.Proofs
variable {P : Program} {ρ : Ren} {α : Type} [Inhabited α] {enc : α → List Value} {k : Nat} {lt : α → α → Bool} {g : Nat} {lb : Array Value} {sf : Nat} {sb : Array Value} {blk off : Nat} {w W W' : World} {d dk d' : Array α}

/-- The world w with the row holding dk, draws and new blocks aside. -/
def SWD (enc : α → List Value) (k : Nat) (w : World) (blk off : Nat) (dk : Array α) (W : World) : Prop := ∃ D, SWK enc k { w with drawn := D } blk off dk W
theorem SWD.start (h : HoldsK enc k w blk off d) : SWD enc k w blk off d w := ⟨w.drawn, SWK.start h⟩
theorem SWD.alloc (h : SWD enc k w blk off dk W) (o : Obj) : SWD enc k w blk off dk (W.alloc o) := by obtain ⟨D, h⟩ := h; exact ⟨D, h.alloc o⟩
theorem SWD.holds (h : SWD enc k w blk off dk W) (hb : blk < w.heap.size) {d0 : Array α} (h0 : HoldsK enc k w blk off d0) (hs : dk.size = d0.size) : HoldsK enc k W blk off dk := by
  obtain ⟨D, h⟩ := h
  exact h.holds (w0 := { w with drawn := D }) hb (d0 := d0) h0 hs
theorem SWD.le (h : SWD enc k w blk off dk W) : w.heap.size ≤ W.heap.size := by obtain ⟨D, h⟩ := h; exact h.le
theorem SWD.blkLt (h : SWD enc k w blk off dk W) (hb : blk < w.heap.size) : blk < W.heap.size := Nat.lt_of_lt_of_le hb h.le
theorem SWD.swap (h : SWD enc k w blk off dk W) (hk : ∀ x, (enc x).length = k) (hb : blk < w.heap.size) (i j : Nat) (hi : i < dk.size) (hj : j < dk.size) :
    SWD enc k w blk off (swp dk i j) ((W.setCells blk (off + i * k) (enc dk[j]!)).setCells blk (off + j * k) (enc dk[i]!)) := by
  obtain ⟨D, h⟩ := h
  exact ⟨D, h.swap hk hb i j hi hj⟩
theorem heap_more {a b : Array Obj} (hs : a.size ≤ b.size) (h : ∀ k, k < a.size → b[k]? = a[k]?) : b = a ++ b.extract a.size b.size := by
  apply Array.ext
  · simp; omega
  · intro i h1 h2
    have e1 : b[i]? = some b[i] := Array.getElem?_eq_getElem h1
    by_cases hi : i < a.size
    · have e2 := h i hi
      rw [e1, Array.getElem?_eq_getElem hi] at e2
      rw [Array.getElem_append_left hi]
      exact Option.some.inj e2
    · rw [Array.getElem_append_right (by omega)]
      simp [show a.size + (i - a.size) = i by omega]
theorem sw_below (h : SWD enc k w blk off dk W) (hb : Go.RowKit.Below W.heap.size W W') : SWD enc k w blk off dk W' := by
  obtain ⟨D, n, os, rfl⟩ := h
  have e := heap_more hb.size hb.block
  generalize W'.heap.extract _ _ = os2 at e
  refine ⟨W'.drawn, 0, os ++ os2, ?_⟩
  have h1 := hb.os; have h2 := hb.tape; have h3 := hb.output
  cases W'
  simp only at e h1 h2 h3
  subst e h1 h2 h3
  unfold sortWorldK
  rw [← grow_grow]
  rfl
theorem sw_grow (h : SWD enc k w blk off dk W) (os : Array Obj) : SWD enc k w blk off dk (grow W os) := by
  obtain ⟨D, n, os0, rfl⟩ := h
  exact ⟨D, n, os0 ++ os, by unfold sortWorldK; rw [grow_grow]⟩
theorem sw_trans (h : SWD enc k w blk off dk W) (hb : blk < w.heap.size) (hs : d'.size = dk.size) (h' : SWD enc k W blk off d' W') : SWD enc k w blk off d' W' := by
  obtain ⟨D', n', os', rfl⟩ := h'
  obtain ⟨D, n, os, rfl⟩ := h
  refine ⟨D', n', os ++ os', ?_⟩
  have e := sortWorldK_on enc k { w with drawn := D' } blk off 0 n' dk d' os os' hb hs
  rw [Nat.zero_add] at e
  rw [← e]
  rfl
theorem sw_cell (h : SWD enc k w blk off dk W) {a : Addr} {v : Value} (hne : a.block ≠ blk) (hlt : a.block < w.heap.size) (hc : w.cell? a = some v) : W.cell? a = some v := by
  obtain ⟨D, n, os, rfl⟩ := h
  unfold sortWorldK
  rw [cell?_grow _ _ _ (by rw [size_putRowK]; exact hlt), cell?_putRowK_other enc k _ blk off dk a hne]
  exact hc

/-- What is asked of the closure that compares: in each such world it answers, and turns no block that lay there. -/
def LessLaysK (P : Program) (g : Nat) (lb : Array Value) (enc : α → List Value) (k : Nat) (lt : α → α → Bool) (blk off size : Nat) (w : World) : Prop :=
  ∀ (W : World) (dk : Array α), SWD enc k w blk off dk W → dk.size = size → ∀ i j : Nat, i < size → j < size →
    Calls P g (#[.int .i64 i, .int .i64 j] ++ lb) W fun e w' => e = .returned (.bool (lt dk[i]! dk[j]!)) ∧ Go.RowKit.Below W.heap.size W w'

/-- What a function of the family is told. -/
structure SE (P : Program) (enc : α → List Value) (k : Nat) (lt : α → α → Bool) (g : Nat) (lb : Array Value) (sf : Nat) (sb : Array Value) (blk off : Nat) (w : World) (d : Array α) : Prop where
  hk : ∀ x, (enc x).length = k
  eg : ∀ args w, (callFunc g args).run P w = .ok (.enter g args) w
  hless : LessLaysK P g lb enc k lt blk off d.size w
  hswap : SwapSwapsK P sf sb enc k blk off d.size
  hH : HoldsK enc k w blk off d
  hblk : blk < w.heap.size
  hsz : d.size < 4611686018427387904

theorem SE.move (E : SE P enc k lt g lb sf sb blk off w d) (h : SWD enc k w blk off dk W) (hs : dk.size = d.size) : SE P enc k lt g lb sf sb blk off W dk := by
  refine ⟨E.hk, E.eg, ?_, by rw [hs]; exact E.hswap, h.holds E.hblk E.hH hs, h.blkLt E.hblk, by rw [hs]; exact E.hsz⟩
  intro W2 d2 h2 hs2 i j hi hj
  exact E.hless W2 d2 (sw_trans h E.hblk hs2 h2) (hs2.trans hs) i j (by omega) (by omega)
theorem SE.start (E : SE P enc k lt g lb sf sb blk off w d) : SWD enc k w blk off d w := SWD.start E.hH
theorem SE.box (E : SE P enc k lt g lb sf sb blk off w d) (o : Obj) : SE P enc k lt g lb sf sb blk off (w.alloc o) d := E.move (E.start.alloc o) rfl
theorem SE.back (E : SE P enc k lt g lb sf sb blk off w d) {o : Obj} (h : SWD enc k (w.alloc o) blk off dk W) (hs : dk.size = d.size) : SWD enc k w blk off dk W := sw_trans (E.start.alloc o) E.hblk hs h
theorem SE.less (E : SE P enc k lt g lb sf sb blk off w d) (h : SWD enc k w blk off dk W) (hs : dk.size = d.size) (i j : Nat) (x y : Int) (hx : x = i) (hy : y = j) (hi : i < d.size) (hj : j < d.size) :
    Calls P g (#[.int .i64 x, .int .i64 y] ++ lb) W fun e w' => e = .returned (.bool (lt dk[i]! dk[j]!)) ∧ SWD enc k w blk off dk w' := by
  subst hx hy
  refine (E.hless W dk h hs i j hi hj).mono ?_
  rintro e w' ⟨rfl, hb⟩
  exact ⟨rfl, sw_below h hb⟩
theorem SE.swap (E : SE P enc k lt g lb sf sb blk off w d) (h : SWD enc k w blk off dk W) (hs : dk.size = d.size) (i j : Nat) (x y : Int) (hx : x = i) (hy : y = j) (hi : i < d.size) (hj : j < d.size) :
    ∃ W2, (callFunc sf (#[.int .i64 x, .int .i64 y] ++ sb)).run P W = .ok (.value (.tuple #[])) W2 ∧ SWD enc k w blk off (swp dk i j) W2 := by
  subst hx hy
  exact ⟨_, E.hswap W dk (h.holds E.hblk E.hH hs) hs i j hi hj, h.swap E.hk E.hblk i j (by omega) (by omega)⟩
theorem SE.c0 (E : SE P enc k lt g lb sf sb blk off w d) {u v : Value} {t : TypeId} (h : SWD enc k (w.alloc (.cells #[u, v] t)) blk off dk W) : W.cell? ⟨w.heap.size, 0, none⟩ = some u :=
  sw_cell h (by have := E.hblk; show w.heap.size ≠ blk; omega) (by show w.heap.size < (w.alloc _).heap.size; simp) (by simp)
theorem SE.c1 (E : SE P enc k lt g lb sf sb blk off w d) {u v : Value} {t : TypeId} (h : SWD enc k (w.alloc (.cells #[u, v] t)) blk off dk W) : W.cell? ⟨w.heap.size, 1, none⟩ = some v :=
  sw_cell h (by have := E.hblk; show w.heap.size ≠ blk; omega) (by show w.heap.size < (w.alloc _).heap.size; simp) (by simp)

set_option maxHeartbeats 1600000 in
set_option maxRecDepth 1000000 in
theorem swapRange_w (L : LaysGt.n49 P ρ) (E : SE P enc k lt g lb sf sb blk off w d) (a b n : Nat) (ha : a + n ≤ d.size) (hb : b + n ≤ d.size) :
    Calls P (ρ.f 49) #[.agg #[.func (.func g) #[] lb, .func (.func sf) #[] sb], .int .i64 a, .int .i64 b, .int .i64 n] w fun e w' => e = .returned (.tuple #[]) ∧ SWD enc k w blk off (swr a b n 0 d) w' := by
  have mixed := L.mixed; have t0 := L.t0; have a0 := L.a0; have z0 := L.z0; have v0 := L.v0; have t3 := L.t3; have a3 := L.a3; have z3 := L.z3; have v3 := L.v3; have t4 := L.t4; have a4 := L.a4; have z4 := L.z4; have v4 := L.v4; have t26 := L.t26; have a26 := L.a26; have z26 := L.z26; have v26 := L.v26; have t38 := L.t38; have a38 := L.a38; have z38 := L.z38; have v38 := L.v38; have t42 := L.t42; have a42 := L.a42; have z42 := L.z42; have v42 := L.v42
  have u42 := run_underlying L.t42
  have hsz := E.hsz
  go_enter L.f49, BodyGt.n49_ntmps ρ
  go_wp2
  go_loopg [8] n (fun kx s8 wr => ∃ (i : Nat) (dk : Array α), s8 = .int .i64 i ∧ i ≤ n ∧ n - i ≤ kx ∧ dk.size = d.size ∧ SWD enc k (w.alloc (.cells #[.func (.func g) #[] lb, .func (.func sf) #[] sb] (ρ.t 42))) blk off dk wr ∧ swr a b (n - i) i dk = swr a b n 0 d)
  case atStart => exact ⟨0, d, rfl, by omega, by omega, rfl, SWD.start (E.box _).hH, rfl⟩
  case round =>
    obtain ⟨i, dk, rfl, hin, hkx, hds, hS, heq⟩ := hrel
    by_cases hlt : (i : Int) < n
    · have c1 := E.c1 hS
      obtain ⟨W2, hs, hS2⟩ := (E.box _).swap hS hds (a + i) (b + i) ((a : Int) + i) ((b : Int) + i) (by omega) (by omega) (by omega) (by omega)
      have A : Aside _ := hS2
      clear hS2 hS
      go_wp2
      go_roundg (n - (i + 1))
      case measure => omega
      case rel =>
        rw [show n - i = (n - (i + 1)) + 1 by omega, swr] at heq
        exact ⟨i + 1, _, by simp, by omega, Nat.le_refl _, by rw [size_swp]; exact hds, A.out, heq⟩
    · go_wp2
      go_end0
      rw [show n - i = 0 by omega, swr] at heq
      exact ⟨rfl, by rw [← heq]; exact E.back hS hds⟩

set_option maxHeartbeats 1600000 in
set_option maxRecDepth 1000000 in
theorem rotate_w (L : LaysGt.n42 P ρ) (E : SE P enc k lt g lb sf sb blk off w d) (a m b : Nat) (x y z : Int) (hx : x = a) (hy : y = m) (hz : z = b) (ham : a < m) (hmb : m < b) (hb : b ≤ d.size) :
    Calls P (ρ.f 42) #[.agg #[.func (.func g) #[] lb, .func (.func sf) #[] sb], .int .i64 x, .int .i64 y, .int .i64 z] w fun e w' => e = .returned (.tuple #[]) ∧ SWD enc k w blk off (rot a m b d) w' := by
  subst hx hy hz
  have mixed := L.mixed; have t0 := L.t0; have a0 := L.a0; have z0 := L.z0; have v0 := L.v0; have t3 := L.t3; have a3 := L.a3; have z3 := L.z3; have v3 := L.v3; have t4 := L.t4; have a4 := L.a4; have z4 := L.z4; have v4 := L.v4; have t26 := L.t26; have a26 := L.a26; have z26 := L.z26; have v26 := L.v26; have t38 := L.t38; have a38 := L.a38; have z38 := L.z38; have v38 := L.v38; have t42 := L.t42; have a42 := L.a42; have z42 := L.z42; have v42 := L.v42
  have u42 := run_underlying L.t42
  have hsz := E.hsz
  have e49 : ∀ args w, (callFunc (ρ.f 49) args).run P w = .ok (.enter (ρ.f 49) args) w := enters_of L.f49 (by kernel_rfl) rfl
  have L49 : LaysGt.n49 P ρ := { L with }
  go_enter L.f42, BodyGt.n42_ntmps ρ
  go_wp2
  go_loopg [8, 9] (b - a) (fun kx s8 s9 wr => ∃ (i j : Nat) (dk : Array α), s8 = .int .i64 i ∧ s9 = .int .i64 j ∧ 0 < i ∧ 0 < j ∧ i ≤ m ∧ m + j ≤ d.size ∧ i + j ≤ kx ∧ dk.size = d.size ∧ SWD enc k (w.alloc (.cells #[.func (.func g) #[] lb, .func (.func sf) #[] sb] (ρ.t 42))) blk off dk wr ∧ ∃ f, i + j ≤ f ∧ rotGo m f i j dk = rot a m b d)
  case atStart => exact ⟨m - a, b - m, d, by congr 1; omega, by congr 1; omega, by omega, by omega, by omega, by omega, by omega, rfl, SWD.start (E.box _).hH, b - a, by omega, rfl⟩
  case round =>
    obtain ⟨i, j, dk, rfl, rfl, hi, hj, him, hmj, hkx, hds, hS, f, hf, heq⟩ := hrel
    obtain ⟨f, rfl⟩ : ∃ f', f = f' + 1 := ⟨f - 1, by omega⟩
    have c0 := E.c0 hS
    have c1 := E.c1 hS
    have Er := (E.box _).move hS hds
    by_cases hij : (i : Int) = j
    · have hij' : i = j := by omega
      subst hij'
      rw [rotGo, if_pos rfl] at heq
      have hc := swapRange_w L49 Er (m - i) m i (by omega) (by omega)
      rw [show ((m - i : Nat) : Int) = (m : Int) - i by omega] at hc
      have A : Aside _ := hS
      clear hS Er
      go_wp2_with (go_at_fn (ρ.f 49); refine hc.mono ?_; rintro e w1 ⟨rfl, hS2⟩)
      go_end0
      refine ⟨rfl, ?_⟩
      rw [← heq]
      exact E.back (sw_trans A.out (E.box _).hblk (by rw [size_swr]) hS2) (by rw [size_swr]; exact hds)
    · by_cases hgt : (i : Int) > j
      · rw [rotGo, if_neg (by omega), if_pos (by omega)] at heq
        have hc := swapRange_w L49 Er (m - i) m j (by omega) (by omega)
        rw [show ((m - i : Nat) : Int) = (m : Int) - i by omega] at hc
        have A : Aside _ := hS
        clear hS Er
        go_wp2_with (go_at_fn (ρ.f 49); refine hc.mono ?_; rintro e w1 ⟨rfl, hS2⟩)
        go_roundg (i - j + j)
        case measure => omega
        case rel =>
          exact ⟨i - j, j, _, by congr 1; omega, rfl, by omega, by omega, by omega, by omega, Nat.le_refl _, by rw [size_swr]; exact hds, sw_trans A.out (by have := (E.box (.cells #[.func (.func g) #[] lb, .func (.func sf) #[] sb] (ρ.t 42))).hblk; exact this) (by rw [size_swr]) hS2, f, by omega, heq⟩
      · rw [rotGo, if_neg (by omega), if_neg (by omega)] at heq
        have hc := swapRange_w L49 Er (m - i) (m + j - i) i (by omega) (by omega)
        rw [show ((m - i : Nat) : Int) = (m : Int) - i by omega, show ((m + j - i : Nat) : Int) = (m : Int) + j - i by omega] at hc
        have A : Aside _ := hS
        clear hS Er
        go_wp2_with (go_at_fn (ρ.f 49); refine hc.mono ?_; rintro e w1 ⟨rfl, hS2⟩)
        go_roundg (i + (j - i))
        case measure => omega
        case rel =>
          exact ⟨i, j - i, _, rfl, by congr 1; omega, by omega, by omega, by omega, by omega, Nat.le_refl _, by rw [size_swr]; exact hds, sw_trans A.out (by have := (E.box (.cells #[.func (.func g) #[] lb, .func (.func sf) #[] sb] (ρ.t 42))).hblk; exact this) (by rw [size_swr]) hS2, f, by omega, heq⟩
end Go.Proofs.YtlhhjdlaljmppaaGreat.SA
