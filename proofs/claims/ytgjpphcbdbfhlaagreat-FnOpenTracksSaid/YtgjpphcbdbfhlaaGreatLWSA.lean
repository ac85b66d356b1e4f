import Derived.Shelf.SlSortFuncK.SWK
import Derived.Shelf.GgSortMore.Stable
import Derived.Shelf.GgSortFunc.SmallK
import Derived.Test.YtgjpphcbdbfhlaaGreatLSA
section
/- The stable sort's functions at a row of structs: what each leaves in the row, whatever the closure that compares may lay. Over any program. No condition. -/
set_option linter.unusedVariables false
set_option linter.unusedSimpArgs false
namespace Go.Proofs.YtgjpphcbdbfhlaaGreat.SA
open Go.Shelf Go.RowKit Go.Lib Go.Sort Go.Proofs
variable {P : Program} {ρ : Ren} {α : Type} [Inhabited α] {enc : α → List Value} {k : Nat} {lt : α → α → Bool} {g : Nat} {lb : Array Value} {sf : Nat} {sb : Array Value} {blk off : Nat} {w W W' : World} {d dk d' : Array α}

/-- The world w with the row holding dk, draws and new blocks aside. -/
def SWD (enc : α → List Value) (k : Nat) (w : World) (blk off : Nat) (dk : Array α) (W : World) : Prop := ∃ D, SWK enc k { w with drawn := D } blk off dk W
theorem SWD.start (h : HoldsK enc k w blk off d) : SWD enc k w blk off d w := ⟨w.drawn, SWK.start h⟩
theorem SWD.alloc (h : SWD enc k w blk off dk W) (o : Obj) : SWD enc k w blk off dk (W.alloc o) := by obtain ⟨D, h⟩ := h; exact ⟨D, h.alloc o⟩
theorem SWD.holds (h : SWD enc k w blk off dk W) (hb : blk < w.heap.size) {d0 : Array α} (h0 : HoldsK enc k w blk off d0) (hs : dk.size = d0.size) : HoldsK enc k W blk off dk := by
  obtain ⟨D, h⟩ := h
  exact h.holds (w0 := { w with drawn := D }) hb (d0 := d0) h0 hs
theorem SWD.le (h : SWD enc k w blk off dk W) : w.heap.size ≤ W.heap.size := by obtain ⟨D, h⟩ := h; exact h.le
theorem SWD.blkLt (h : SWD enc k w blk off dk W) (hb : blk < w.heap.size) : blk < W.heap.size := Nat.lt_of_lt_of_le hb h.le
theorem SWD.swap (h : SWD enc k w blk off dk W) (hk : ∀ x, (enc x).length = k) (hb : blk < w.heap.size) (i j : Nat) (hi : i < dk.size) (hj : j < dk.size) :
    SWD enc k w blk off (swp dk i j) ((W.setCells blk (off + i * k) (enc dk[j]!)).setCells blk (off + j * k) (enc dk[i]!)) := by
  obtain ⟨D, h⟩ := h
  exact ⟨D, h.swap hk hb i j hi hj⟩
theorem heap_more {a b : Array Obj} (hs : a.size ≤ b.size) (h : ∀ k, k < a.size → b[k]? = a[k]?) : b = a ++ b.extract a.size b.size := by
  apply Array.ext
  · simp; omega
  · intro i h1 h2
    have e1 : b[i]? = some b[i] := Array.getElem?_eq_getElem h1
    by_cases hi : i < a.size
    · have e2 := h i hi
      rw [e1, Array.getElem?_eq_getElem hi] at e2
      rw [Array.getElem_append_left hi]
      exact Option.some.inj e2
    · rw [Array.getElem_append_right (by omega)]
      simp [show a.size + (i - a.size) = i by omega]
theorem sw_below (h : SWD enc k w blk off dk W) (hb : Go.RowKit.Below W.heap.size W W') : SWD enc k w blk off dk W' := by
  obtain ⟨D, n, os, rfl⟩ := h
  have e := heap_more hb.size hb.block
  generalize W'.heap.extract _ _ = os2 at e
  refine ⟨W'.drawn, 0, os ++ os2, ?_⟩
  have h1 := hb.os; have h2 := hb.tape; have h3 := hb.output
  cases W'
  simp only at e h1 h2 h3
  subst e h1 h2 h3
  unfold sortWorldK
  rw [← grow_grow]
  rfl
theorem sw_grow (h : SWD enc k w blk off dk W) (os : Array Obj) : SWD enc k w blk off dk (grow W os) := by
  obtain ⟨D, n, os0, rfl⟩ := h
  exact ⟨D, n, os0 ++ os, by unfold sortWorldK; rw [grow_grow]⟩
theorem sw_trans (h : SWD enc k w blk off dk W) (hb : blk < w.heap.size) (hs : d'.size = dk.size) (h' : SWD enc k W blk off d' W') : SWD enc k w blk off d' W' := by
  obtain ⟨D', n', os', rfl⟩ := h'
  obtain ⟨D, n, os, rfl⟩ := h
  refine ⟨D', n', os ++ os', ?_⟩
  have e := sortWorldK_on enc k { w with drawn := D' } blk off 0 n' dk d' os os' hb hs
  rw [Nat.zero_add] at e
  rw [← e]
  rfl
theorem sw_cell (h : SWD enc k w blk off dk W) {a : Addr} {v : Value} (hne : a.block ≠ blk) (hlt : a.block < w.heap.size) (hc : w.cell? a = some v) : W.cell? a = some v := by
  obtain ⟨D, n, os, rfl⟩ := h
  unfold sortWorldK
  rw [cell?_grow _ _ _ (by rw [size_putRowK]; exact hlt), cell?_putRowK_other enc k _ blk off dk a hne]
  exact hc

/-- What is asked of the closure that compares: in each such world it answers, and turns no block that lay there. -/
def LessLaysK (P : Program) (g : Nat) (lb : Array Value) (enc : α → List Value) (k : Nat) (lt : α → α → Bool) (blk off size : Nat) (w : World) : Prop :=
  ∀ (W : World) (dk : Array α), SWD enc k w blk off dk W → dk.size = size → ∀ i j : Nat, i < size → j < size →
    Calls P g (#[.int .i64 i, .int .i64 j] ++ lb) W fun e w' => e = .returned (.bool (lt dk[i]! dk[j]!)) ∧ Go.RowKit.Below W.heap.size W w'

/-- What a function of the family is told. -/
structure SE (P : Program) (enc : α → List Value) (k : Nat) (lt : α → α → Bool) (g : Nat) (lb : Array Value) (sf : Nat) (sb : Array Value) (blk off : Nat) (w : World) (d : Array α) : Prop where
  hk : ∀ x, (enc x).length = k
  eg : ∀ args w, (callFunc g args).run P w = .ok (.enter g args) w
  hless : LessLaysK P g lb enc k lt blk off d.size w
  hswap : SwapSwapsK P sf sb enc k blk off d.size
  hH : HoldsK enc k w blk off d
  hblk : blk < w.heap.size
  hsz : d.size < 4611686018427387904

theorem SE.move (E : SE P enc k lt g lb sf sb blk off w d) (h : SWD enc k w blk off dk W) (hs : dk.size = d.size) : SE P enc k lt g lb sf sb blk off W dk := by
  refine ⟨E.hk, E.eg, ?_, by rw [hs]; exact E.hswap, h.holds E.hblk E.hH hs, h.blkLt E.hblk, by rw [hs]; exact E.hsz⟩
  intro W2 d2 h2 hs2 i j hi hj
  exact E.hless W2 d2 (sw_trans h E.hblk hs2 h2) (hs2.trans hs) i j (by omega) (by omega)
theorem SE.start (E : SE P enc k lt g lb sf sb blk off w d) : SWD enc k w blk off d w := SWD.start E.hH
theorem SE.box (E : SE P enc k lt g lb sf sb blk off w d) (o : Obj) : SE P enc k lt g lb sf sb blk off (w.alloc o) d := E.move (E.start.alloc o) rfl
theorem SE.back (E : SE P enc k lt g lb sf sb blk off w d) {o : Obj} (h : SWD enc k (w.alloc o) blk off dk W) (hs : dk.size = d.size) : SWD enc k w blk off dk W := sw_trans (E.start.alloc o) E.hblk hs h
theorem SE.less (E : SE P enc k lt g lb sf sb blk off w d) (h : SWD enc k w blk off dk W) (hs : dk.size = d.size) (i j : Nat) (x y : Int) (hx : x = i) (hy : y = j) (hi : i < d.size) (hj : j < d.size) :
    Calls P g (#[.int .i64 x, .int .i64 y] ++ lb) W fun e w' => e = .returned (.bool (lt dk[i]! dk[j]!)) ∧ SWD enc k w blk off dk w' := by
  subst hx hy
  refine (E.hless W dk h hs i j hi hj).mono ?_
  rintro e w' ⟨rfl, hb⟩
  exact ⟨rfl, sw_below h hb⟩
theorem SE.swap (E : SE P enc k lt g lb sf sb blk off w d) (h : SWD enc k w blk off dk W) (hs : dk.size = d.size) (i j : Nat) (x y : Int) (hx : x = i) (hy : y = j) (hi : i < d.size) (hj : j < d.size) :
    ∃ W2, (callFunc sf (#[.int .i64 x, .int .i64 y] ++ sb)).run P W = .ok (.value (.tuple #[])) W2 ∧ SWD enc k w blk off (swp dk i j) W2 := by
  subst hx hy
  exact ⟨_, E.hswap W dk (h.holds E.hblk E.hH hs) hs i j hi hj, h.swap E.hk E.hblk i j (by omega) (by omega)⟩
theorem SE.c0 (E : SE P enc k lt g lb sf sb blk off w d) {u v : Value} {t : TypeId} (h : SWD enc k (w.alloc (.cells #[u, v] t)) blk off dk W) : W.cell? ⟨w.heap.size, 0, none⟩ = some u :=
  sw_cell h (by have := E.hblk; show w.heap.size ≠ blk; omega) (by show w.heap.size < (w.alloc _).heap.size; simp) (by simp)
theorem SE.c1 (E : SE P enc k lt g lb sf sb blk off w d) {u v : Value} {t : TypeId} (h : SWD enc k (w.alloc (.cells #[u, v] t)) blk off dk W) : W.cell? ⟨w.heap.size, 1, none⟩ = some v :=
  sw_cell h (by have := E.hblk; show w.heap.size ≠ blk; omega) (by show w.heap.size < (w.alloc _).heap.size; simp) (by simp)

set_option maxHeartbeats 1600000 in
set_option maxRecDepth 1000000 in
theorem swapRange_w (L : LaysGt.n49 P ρ) (E : SE P enc k lt g lb sf sb blk off w d) (a b n : Nat) (ha : a + n ≤ d.size) (hb : b + n ≤ d.size) :
    Calls P (ρ.f 49) #[.agg #[.func (.func g) #[] lb, .func (.func sf) #[] sb], .int .i64 a, .int .i64 b, .int .i64 n] w fun e w' => e = .returned (.tuple #[]) ∧ SWD enc k w blk off (swr a b n 0 d) w' := by
  have mixed := L.mixed; have t0 := L.t0; have a0 := L.a0; have z0 := L.z0; have v0 := L.v0; have t3 := L.t3; have a3 := L.a3; have z3 := L.z3; have v3 := L.v3; have t4 := L.t4; have a4 := L.a4; have z4 := L.z4; have v4 := L.v4; have t26 := L.t26; have a26 := L.a26; have z26 := L.z26; have v26 := L.v26; have t38 := L.t38; have a38 := L.a38; have z38 := L.z38; have v38 := L.v38; have t42 := L.t42; have a42 := L.a42; have z42 := L.z42; have v42 := L.v42
  have u42 := run_underlying L.t42
  have hsz := E.hsz
  go_enter L.f49, BodyGt.n49_ntmps ρ
  go_wp2
  go_loopg [8] n (fun kx s8 wr => ∃ (i : Nat) (dk : Array α), s8 = .int .i64 i ∧ i ≤ n ∧ n - i ≤ kx ∧ dk.size = d.size ∧ SWD enc k (w.alloc (.cells #[.func (.func g) #[] lb, .func (.func sf) #[] sb] (ρ.t 42))) blk off dk wr ∧ swr a b (n - i) i dk = swr a b n 0 d)
  case atStart => exact ⟨0, d, rfl, by omega, by omega, rfl, SWD.start (E.box _).hH, rfl⟩
  case round =>
    obtain ⟨i, dk, rfl, hin, hkx, hds, hS, heq⟩ := hrel
    by_cases hlt : (i : Int) < n
    · have c1 := E.c1 hS
      obtain ⟨W2, hs, hS2⟩ := (E.box _).swap hS hds (a + i) (b + i) ((a : Int) + i) ((b : Int) + i) (by omega) (by omega) (by omega) (by omega)
      have A : Aside _ := hS2
      clear hS2 hS
      go_wp2
      go_roundg (n - (i + 1))
      case measure => omega
      case rel =>
        rw [show n - i = (n - (i + 1)) + 1 by omega, swr] at heq
        exact ⟨i + 1, _, by simp, by omega, Nat.le_refl _, by rw [size_swp]; exact hds, A.out, heq⟩
    · go_wp2
      go_end0
      rw [show n - i = 0 by omega, swr] at heq
      exact ⟨rfl, by rw [← heq]; exact E.back hS hds⟩

set_option maxHeartbeats 1600000 in
set_option maxRecDepth 1000000 in
theorem rotate_w (L : LaysGt.n42 P ρ) (E : SE P enc k lt g lb sf sb blk off w d) (a m b : Nat) (x y z : Int) (hx : x = a) (hy : y = m) (hz : z = b) (ham : a < m) (hmb : m < b) (hb : b ≤ d.size) :
    Calls P (ρ.f 42) #[.agg #[.func (.func g) #[] lb, .func (.func sf) #[] sb], .int .i64 x, .int .i64 y, .int .i64 z] w fun e w' => e = .returned (.tuple #[]) ∧ SWD enc k w blk off (rot a m b d) w' := by
  subst hx hy hz
  have mixed := L.mixed; have t0 := L.t0; have a0 := L.a0; have z0 := L.z0; have v0 := L.v0; have t3 := L.t3; have a3 := L.a3; have z3 := L.z3; have v3 := L.v3; have t4 := L.t4; have a4 := L.a4; have z4 := L.z4; have v4 := L.v4; have t26 := L.t26; have a26 := L.a26; have z26 := L.z26; have v26 := L.v26; have t38 := L.t38; have a38 := L.a38; have z38 := L.z38; have v38 := L.v38; have t42 := L.t42; have a42 := L.a42; have z42 := L.z42; have v42 := L.v42
  have u42 := run_underlying L.t42
  have hsz := E.hsz
  have e49 : ∀ args w, (callFunc (ρ.f 49) args).run P w = .ok (.enter (ρ.f 49) args) w := enters_of L.f49 (by kernel_rfl) rfl
  have L49 : LaysGt.n49 P ρ := { L with }
  go_enter L.f42, BodyGt.n42_ntmps ρ
  go_wp2
  go_loopg [8, 9] (b - a) (fun kx s8 s9 wr => ∃ (i j : Nat) (dk : Array α), s8 = .int .i64 i ∧ s9 = .int .i64 j ∧ 0 < i ∧ 0 < j ∧ i ≤ m ∧ m + j ≤ d.size ∧ i + j ≤ kx ∧ dk.size = d.size ∧ SWD enc k (w.alloc (.cells #[.func (.func g) #[] lb, .func (.func sf) #[] sb] (ρ.t 42))) blk off dk wr ∧ ∃ f, i + j ≤ f ∧ rotGo m f i j dk = rot a m b d)
  case atStart => exact ⟨m - a, b - m, d, by congr 1; omega, by congr 1; omega, by omega, by omega, by omega, by omega, by omega, rfl, SWD.start (E.box _).hH, b - a, by omega, rfl⟩
  case round =>
    obtain ⟨i, j, dk, rfl, rfl, hi, hj, him, hmj, hkx, hds, hS, f, hf, heq⟩ := hrel
    obtain ⟨f, rfl⟩ : ∃ f', f = f' + 1 := ⟨f - 1, by omega⟩
    have c0 := E.c0 hS
    have c1 := E.c1 hS
    have Er := (E.box _).move hS hds
    by_cases hij : (i : Int) = j
    · have hij' : i = j := by omega
      subst hij'
      rw [rotGo, if_pos rfl] at heq
      have hc := swapRange_w L49 Er (m - i) m i (by omega) (by omega)
      rw [show ((m - i : Nat) : Int) = (m : Int) - i by omega] at hc
      have A : Aside _ := hS
      clear hS Er
      go_wp2_with (go_at_fn (ρ.f 49); refine hc.mono ?_; rintro e w1 ⟨rfl, hS2⟩)
      go_end0
      refine ⟨rfl, ?_⟩
      rw [← heq]
      exact E.back (sw_trans A.out (E.box _).hblk (by rw [size_swr]) hS2) (by rw [size_swr]; exact hds)
    · by_cases hgt : (i : Int) > j
      · rw [rotGo, if_neg (by omega), if_pos (by omega)] at heq
        have hc := swapRange_w L49 Er (m - i) m j (by omega) (by omega)
        rw [show ((m - i : Nat) : Int) = (m : Int) - i by omega] at hc
        have A : Aside _ := hS
        clear hS Er
        go_wp2_with (go_at_fn (ρ.f 49); refine hc.mono ?_; rintro e w1 ⟨rfl, hS2⟩)
        go_roundg (i - j + j)
        case measure => omega
        case rel =>
          exact ⟨i - j, j, _, by congr 1; omega, rfl, by omega, by omega, by omega, by omega, Nat.le_refl _, by rw [size_swr]; exact hds, sw_trans A.out (by have := (E.box (.cells #[.func (.func g) #[] lb, .func (.func sf) #[] sb] (ρ.t 42))).hblk; exact this) (by rw [size_swr]) hS2, f, by omega, heq⟩
      · rw [rotGo, if_neg (by omega), if_neg (by omega)] at heq
        have hc := swapRange_w L49 Er (m - i) (m + j - i) i (by omega) (by omega)
        rw [show ((m - i : Nat) : Int) = (m : Int) - i by omega, show ((m + j - i : Nat) : Int) = (m : Int) + j - i by omega] at hc
        have A : Aside _ := hS
        clear hS Er
        go_wp2_with (go_at_fn (ρ.f 49); refine hc.mono ?_; rintro e w1 ⟨rfl, hS2⟩)
        go_roundg (i + (j - i))
        case measure => omega
        case rel =>
          exact ⟨i, j - i, _, rfl, by congr 1; omega, by omega, by omega, by omega, by omega, Nat.le_refl _, by rw [size_swr]; exact hds, sw_trans A.out (by have := (E.box (.cells #[.func (.func g) #[] lb, .func (.func sf) #[] sb] (ρ.t 42))).hblk; exact this) (by rw [size_swr]) hS2, f, by omega, heq⟩
end Go.Proofs.YtgjpphcbdbfhlaaGreat.SA
end
section
/- The stable sort's insertion sort at a row of structs, whatever the closure that compares may lay. Over any program. No condition. -/
set_option linter.unusedVariables false
set_option linter.unusedSimpArgs false
namespace Go.Proofs.YtgjpphcbdbfhlaaGreat.SA
open Go.Shelf Go.RowKit Go.Lib Go.Sort Go.Proofs
variable {P : Program} {ρ : Ren} {α : Type} [Inhabited α] {enc : α → List Value} {k : Nat} {lt : α → α → Bool} {g : Nat} {lb : Array Value} {sf : Nat} {sb : Array Value} {blk off : Nat} {w W W' : World} {d dk d' : Array α}

set_option maxHeartbeats 2000000 in
set_option maxRecDepth 1000000 in
theorem insertion_w (L : LaysGt.n29 P ρ) (E : SE P enc k lt g lb sf sb blk off w d) (a b : Nat) (x y : Int) (hx : x = a) (hy : y = b) (hab : a ≤ b) (hb : b ≤ d.size) :
    Calls P (ρ.f 29) #[.agg #[.func (.func g) #[] lb, .func (.func sf) #[] sb], .int .i64 x, .int .i64 y] w fun e w' => e = .returned (.tuple #[]) ∧ SWD enc k w blk off (Sort.insertionSort lt d a b) w' := by
  subst hx hy
  have mixed := L.mixed; have t0 := L.t0; have a0 := L.a0; have z0 := L.z0; have v0 := L.v0; have t3 := L.t3; have a3 := L.a3; have z3 := L.z3; have v3 := L.v3; have t4 := L.t4; have a4 := L.a4; have z4 := L.z4; have v4 := L.v4; have t26 := L.t26; have a26 := L.a26; have z26 := L.z26; have v26 := L.v26; have t38 := L.t38; have a38 := L.a38; have z38 := L.z38; have v38 := L.v38; have t42 := L.t42; have a42 := L.a42; have z42 := L.z42; have v42 := L.v42
  have u42 := run_underlying L.t42
  have hsz := E.hsz
  have eg := E.eg
  go_enter L.f29, BodyGt.n29_ntmps ρ
  go_wp2
  go_loopw [6] (fun vi wr => ∃ (i : Nat) (dk : Array α), vi = .int .i64 i ∧ a < i ∧ i ≤ b + 1 ∧ dk.size = d.size ∧ SWD enc k (w.alloc (.cells #[.func (.func g) #[] lb, .func (.func sf) #[] sb] (ρ.t 42))) blk off dk wr ∧
      insOuter lt a b i dk = insOuter lt a b (a + 1) d) (fun vi _ => b + 1 - (intOf vi).toNat)
  case atStart => exact ⟨a + 1, d, by go_num, by omega, by omega, rfl, SWD.start (E.box _).hH, rfl⟩
  case round =>
    obtain ⟨i, dk, rfl, hai, hib, hsk, hS, hO⟩ := hrel
    have HO : Hid (insOuter lt a b i dk = insOuter lt a b (a + 1) d) := hO
    have HS : Hid (SWD enc k (w.alloc (.cells #[.func (.func g) #[] lb, .func (.func sf) #[] sb] (ρ.t 42))) blk off dk wr) := hS
    clear hO hS
    go_wp2
    · go_loopw [7] (fun vj wr2 => ∃ (j : Nat) (dj : Array α), vj = .int .i64 j ∧ a ≤ j ∧ j ≤ i ∧ dj.size = d.size ∧ SWD enc k (w.alloc (.cells #[.func (.func g) #[] lb, .func (.func sf) #[] sb] (ρ.t 42))) blk off dj wr2 ∧
          insInner lt a j dj = insInner lt a i dk) (fun vj _ => (intOf vj).toNat)
      case atStart => exact ⟨i, dk, rfl, by omega, Nat.le_refl _, hsk, HS.out, rfl⟩
      case round =>
        obtain ⟨j, dj, rfl, haj, hji, hsj, hS2, hI⟩ := hrel
        have hlt : i < b := by assumption
        have c0 := E.c0 hS2
        have HI : Hid (insInner lt a j dj = insInner lt a i dk) := hI
        have HS2 : Hid (SWD enc k (w.alloc (.cells #[.func (.func g) #[] lb, .func (.func sf) #[] sb] (ρ.t 42))) blk off dj wr) := hS2
        clear hI hS2
        have out : (j ≤ a ∨ lt dj[j]! dj[j - 1]! = false) → ∀ w3, SWD enc k (w.alloc (.cells #[.func (.func g) #[] lb, .func (.func sf) #[] sb] (ρ.t 42))) blk off dj w3 → ∃ i' dk', Value.int .i64 ((i : Int) + 1) = .int .i64 (i' : Nat) ∧ a < i' ∧ i' ≤ b + 1 ∧ dk'.size = d.size ∧
            SWD enc k (w.alloc (.cells #[.func (.func g) #[] lb, .func (.func sf) #[] sb] (ρ.t 42))) blk off dk' w3 ∧ insOuter lt a b i' dk' = insOuter lt a b (a + 1) d := fun hs w3 h3 =>
          ⟨i + 1, dj, by go_num, by omega, by omega, hsj, h3, by rw [← HO.out, insOuter_go _ _ _ _ _ hlt, ← HI.out, insInner_stop _ _ _ _ hs]⟩
        have OUT : Hid _ := out
        clear out
        by_cases hja : a < j
        · have hl := (E.box _).less HS2.out hsj j (j - 1) (j : Int) ((j : Int) - 1) rfl (by omega) (by omega) (by omega)
          cases hlv : lt dj[j]! dj[j - 1]! with
          | true =>
            rw [hlv] at hl
            go_wp2_with (go_at_fn g; refine hl.mono ?_; rintro e w3 ⟨rfl, h3⟩; have c1 := E.c1 h3; obtain ⟨W4, hs, h4⟩ := (E.box _).swap h3 hsj j (j - 1) (j : Int) ((j : Int) - 1) rfl (by omega) (by omega) (by omega); have H4 : Hid _ := h4; clear h3 h4)
            go_roundw
            case rel =>
              (repeat apply Exists.intro)
              refine ⟨⟨j - 1, swp dj j (j - 1), by congr 1 <;> omega, by omega, by omega, by rw [size_swp]; exact hsj, H4.out, ?_⟩, by rw [decide_eq_true hlt, show ((j - 1 : Nat) : Int) = (j : Int) - 1 by omega]⟩
              rw [← HI.out, insInner_go lt a j dj hja hlv]
            case measure => simp [intOf]; omega
          | false =>
            rw [hlv] at hl
            go_wp2_with (go_at_fn g; refine hl.mono ?_; rintro e w3 ⟨rfl, h3⟩)
            have H3 : Hid _ := h3
            clear h3
            go_roundw
            case rel => exact OUT.out (Or.inr hlv) _ H3.out
            case measure => simp [intOf]; omega
        · go_wp2
          go_roundw
          case rel => exact OUT.out (Or.inl (by omega)) _ HS2.out
          case measure => simp [intOf]; omega
    · have hge : ¬ i < b := by assumption
      go_end0
      refine ⟨rfl, ?_⟩
      unfold Sort.insertionSort
      rw [← HO.out, insOuter_stop _ _ _ _ _ hge]
      exact E.back HS.out hsk
end Go.Proofs.YtgjpphcbdbfhlaaGreat.SA
end
section
/- The stable sort's merge at a row of structs, whatever the closure that compares may lay. Over any program. No condition. -/
set_option linter.unusedVariables false
set_option linter.unusedSimpArgs false
namespace Go.Proofs.YtgjpphcbdbfhlaaGreat.SA
open Go.Shelf Go.RowKit Go.Lib Go.Sort Go.Proofs
variable {P : Program} {ρ : Ren} {α : Type} [Inhabited α] {enc : α → List Value} {k : Nat} {lt : α → α → Bool} {g : Nat} {lb : Array Value} {sf : Nat} {sb : Array Value} {blk off : Nat} {w W W' : World} {d dk d' : Array α}

theorem bsr_stop (p : Nat → Bool) (f i j : Nat) (h : ¬ i < j) : bsr p f i j = i := by
  cases f with
  | zero => rfl
  | succ f => rw [bsr, if_neg h]

set_option maxHeartbeats 2000000 in
set_option maxRecDepth 1000000 in
theorem sym_one_w (L : LaysGt.n30 P ρ) (E : SE P enc k lt g lb sf sb blk off w d) (a m b : Nat) (x y z : Int) (hx : x = a) (hy : y = m) (hz : z = b) (ham : a < m) (hmb : m < b) (hb : b ≤ d.size) (h1 : m - a = 1) :
    Calls P (ρ.f 30) #[.agg #[.func (.func g) #[] lb, .func (.func sf) #[] sb], .int .i64 x, .int .i64 y, .int .i64 z] w fun e w' => e = .returned (.tuple #[]) ∧ SWD enc k w blk off (upS (bsr (fun h => lt d[h]! d[a]!) (b - m) m b - 1 - a) a d) w' := by
  subst hx hy hz
  have mixed := L.mixed; have t0 := L.t0; have a0 := L.a0; have z0 := L.z0; have v0 := L.v0; have t3 := L.t3; have a3 := L.a3; have z3 := L.z3; have v3 := L.v3; have t4 := L.t4; have a4 := L.a4; have z4 := L.z4; have v4 := L.v4; have t26 := L.t26; have a26 := L.a26; have z26 := L.z26; have v26 := L.v26; have t38 := L.t38; have a38 := L.a38; have z38 := L.z38; have v38 := L.v38; have t42 := L.t42; have a42 := L.a42; have z42 := L.z42; have v42 := L.v42; have t47 := L.t47; have a47 := L.a47; have z47 := L.z47; have v47 := L.v47
  have u42 := run_underlying L.t42
  have hsz := E.hsz
  have eg := E.eg
  have q1 : ((m : Int) - (a : Int) == 1) = true := by rw [beq_iff_eq]; omega
  go_enter L.f30, BodyGt.n30_ntmps ρ
  go_wp2
  try simp only [q1]
  go_loopg [8, 9] (b - m) (fun kx s8 s9 wr => ∃ (i j : Nat), s8 = .int .i64 i ∧ s9 = .int .i64 j ∧ m ≤ i ∧ i ≤ j ∧ j ≤ b ∧ j - i ≤ kx ∧ SWD enc k (w.alloc (.cells #[.func (.func g) #[] lb, .func (.func sf) #[] sb] (ρ.t 42))) blk off d wr ∧ ∃ f', j - i ≤ f' ∧ bsr (fun h => lt d[h]! d[a]!) f' i j = bsr (fun h => lt d[h]! d[a]!) (b - m) m b)
  case atStart => exact ⟨m, b, by congr 1 <;> omega, by congr 1 <;> omega, by omega, by omega, by omega, by omega, SWD.start (E.box _).hH, b - m, by omega, rfl⟩
  case round =>
    obtain ⟨i, j, rfl, rfl, hmi, hij, hjb, hkx, hS, f', hf', heq⟩ := hrel
    by_cases hlt : (i : Int) < j
    · obtain ⟨f', rfl⟩ : ∃ f2, f' = f2 + 1 := ⟨f' - 1, by omega⟩
      rw [bsr, if_pos (by omega)] at heq
      have c0 := E.c0 hS
      have hl := (E.box _).less hS rfl ((i + j) / 2) (a) (((i : Int) + j) / 2) ((a : Int)) (by omega) (by omega) (by omega) (by omega)
      clear hS
      cases hlv : lt d[(i + j) / 2]! d[a]! with
      | true =>
        rw [hlv] at hl
        simp only [hlv, ↓reduceIte, Bool.not_true, Bool.not_false, Bool.false_eq_true] at heq
        go_wp2_with (go_at_fn g; refine hl.mono ?_; rintro e w3 ⟨rfl, h3⟩)
        have H3 : Hid _ := h3
        clear h3
        go_roundg (j - ((i + j) / 2 + 1))
        case measure => omega
        case rel => exact ⟨(i + j) / 2 + 1, j, by congr 1 <;> omega, rfl, by omega, by omega, by omega, Nat.le_refl _, H3.out, f', by omega, heq⟩
      | false =>
        rw [hlv] at hl
        simp only [hlv, ↓reduceIte, Bool.not_true, Bool.not_false, Bool.false_eq_true] at heq
        go_wp2_with (go_at_fn g; refine hl.mono ?_; rintro e w3 ⟨rfl, h3⟩)
        have H3 : Hid _ := h3
        clear h3
        go_roundg ((i + j) / 2 - i)
        case measure => omega
        case rel => exact ⟨i, (i + j) / 2, rfl, by congr 1 <;> omega, by omega, by omega, by omega, Nat.le_refl _, H3.out, f', by omega, heq⟩
    · rw [bsr_stop _ _ _ _ (by omega)] at heq
      have HS : Hid _ := hS
      clear hS
      go_wp2
      go_loopg [11] (i - 1 - a) (fun kx s11 wr2 => ∃ (q : Nat) (dk : Array α), s11 = .int .i64 q ∧ a ≤ q ∧ q ≤ i - 1 ∧ i - 1 - q ≤ kx ∧ dk.size = d.size ∧ SWD enc k (w.alloc (.cells #[.func (.func g) #[] lb, .func (.func sf) #[] sb] (ρ.t 42))) blk off dk wr2 ∧ upS (i - 1 - q) q dk = upS (i - 1 - a) a d)
      case atStart => exact ⟨a, d, rfl, by omega, by omega, by omega, rfl, HS.out, rfl⟩
      case round =>
        obtain ⟨q, dk, rfl, haq, hqi, hkx2, hds, hS2, heq2⟩ := hrel
        by_cases hlt2 : (q : Int) < i - 1
        · have c1 := E.c1 hS2
          obtain ⟨W2, hs, hS3⟩ := (E.box _).swap hS2 hds q (q + 1) (q : Int) ((q : Int) + 1) rfl (by omega) (by omega) (by omega)
          have A : Aside _ := hS3
          clear hS3 hS2
          go_wp2
          go_roundg (i - 1 - (q + 1))
          case measure => omega
          case rel =>
            rw [show i - 1 - q = (i - 1 - (q + 1)) + 1 by omega, upS] at heq2
            exact ⟨q + 1, _, by simp, by omega, by omega, Nat.le_refl _, by rw [size_swp]; exact hds, A.out, heq2⟩
        · have HS2 : Hid _ := hS2
          clear hS2
          go_wp2
          (try simp only [Exit.inBlock, Exit.then]); refine bodyPost_ret (results_none rfl _ _ _) rfl ?_
          rw [show i - 1 - q = 0 by omega, upS] at heq2
          exact ⟨rfl, by rw [← heq, ← heq2]; exact E.back HS2.out hds⟩

set_option maxHeartbeats 2000000 in
set_option maxRecDepth 1000000 in
theorem sym_two_w (L : LaysGt.n30 P ρ) (E : SE P enc k lt g lb sf sb blk off w d) (a m b : Nat) (x y z : Int) (hx : x = a) (hy : y = m) (hz : z = b) (ham : a < m) (hmb : m < b) (hb : b ≤ d.size) (h1 : ¬ m - a = 1) (h2 : b - m = 1) :
    Calls P (ρ.f 30) #[.agg #[.func (.func g) #[] lb, .func (.func sf) #[] sb], .int .i64 x, .int .i64 y, .int .i64 z] w fun e w' => e = .returned (.tuple #[]) ∧ SWD enc k w blk off (dnS (m - bsr (fun h => !lt d[m]! d[h]!) (m - a) a m) m d) w' := by
  subst hx hy hz
  have mixed := L.mixed; have t0 := L.t0; have a0 := L.a0; have z0 := L.z0; have v0 := L.v0; have t3 := L.t3; have a3 := L.a3; have z3 := L.z3; have v3 := L.v3; have t4 := L.t4; have a4 := L.a4; have z4 := L.z4; have v4 := L.v4; have t26 := L.t26; have a26 := L.a26; have z26 := L.z26; have v26 := L.v26; have t38 := L.t38; have a38 := L.a38; have z38 := L.z38; have v38 := L.v38; have t42 := L.t42; have a42 := L.a42; have z42 := L.z42; have v42 := L.v42; have t47 := L.t47; have a47 := L.a47; have z47 := L.z47; have v47 := L.v47
  have u42 := run_underlying L.t42
  have hsz := E.hsz
  have eg := E.eg
  have q1 : ((m : Int) - (a : Int) == 1) = false := by rw [beq_eq_false_iff_ne]; omega
  have q2 : ((b : Int) - (m : Int) == 1) = true := by rw [beq_iff_eq]; omega
  go_enter L.f30, BodyGt.n30_ntmps ρ
  go_wp2
  try simp only [q1, q2]
  go_loopg [12, 13] (m - a) (fun kx s8 s9 wr => ∃ (i j : Nat), s8 = .int .i64 i ∧ s9 = .int .i64 j ∧ a ≤ i ∧ i ≤ j ∧ j ≤ m ∧ j - i ≤ kx ∧ SWD enc k (w.alloc (.cells #[.func (.func g) #[] lb, .func (.func sf) #[] sb] (ρ.t 42))) blk off d wr ∧ ∃ f', j - i ≤ f' ∧ bsr (fun h => !lt d[m]! d[h]!) f' i j = bsr (fun h => !lt d[m]! d[h]!) (m - a) a m)
  case atStart => exact ⟨a, m, by congr 1 <;> omega, by congr 1 <;> omega, by omega, by omega, by omega, by omega, SWD.start (E.box _).hH, m - a, by omega, rfl⟩
  case round =>
    obtain ⟨i, j, rfl, rfl, hmi, hij, hjb, hkx, hS, f', hf', heq⟩ := hrel
    by_cases hlt : (i : Int) < j
    · obtain ⟨f', rfl⟩ : ∃ f2, f' = f2 + 1 := ⟨f' - 1, by omega⟩
      rw [bsr, if_pos (by omega)] at heq
      have c0 := E.c0 hS
      have hl := (E.box _).less hS rfl (m) ((i + j) / 2) ((m : Int)) (((i : Int) + j) / 2) (by omega) (by omega) (by omega) (by omega)
      clear hS
      cases hlv : lt d[m]! d[(i + j) / 2]! with
      | true =>
        rw [hlv] at hl
        simp only [hlv, ↓reduceIte, Bool.not_true, Bool.not_false, Bool.false_eq_true] at heq
        go_wp2_with (go_at_fn g; refine hl.mono ?_; rintro e w3 ⟨rfl, h3⟩)
        have H3 : Hid _ := h3
        clear h3
        go_roundg ((i + j) / 2 - i)
        case measure => omega
        case rel => exact ⟨i, (i + j) / 2, rfl, by congr 1 <;> omega, by omega, by omega, by omega, Nat.le_refl _, H3.out, f', by omega, heq⟩
      | false =>
        rw [hlv] at hl
        simp only [hlv, ↓reduceIte, Bool.not_true, Bool.not_false, Bool.false_eq_true] at heq
        go_wp2_with (go_at_fn g; refine hl.mono ?_; rintro e w3 ⟨rfl, h3⟩)
        have H3 : Hid _ := h3
        clear h3
        go_roundg (j - ((i + j) / 2 + 1))
        case measure => omega
        case rel => exact ⟨(i + j) / 2 + 1, j, by congr 1 <;> omega, rfl, by omega, by omega, by omega, Nat.le_refl _, H3.out, f', by omega, heq⟩
    · rw [bsr_stop _ _ _ _ (by omega)] at heq
      have HS : Hid _ := hS
      clear hS
      go_wp2
      go_loopg [15] (m - i) (fun kx s11 wr2 => ∃ (q : Nat) (dk : Array α), s11 = .int .i64 q ∧ i ≤ q ∧ q ≤ m ∧ q - i ≤ kx ∧ dk.size = d.size ∧ SWD enc k (w.alloc (.cells #[.func (.func g) #[] lb, .func (.func sf) #[] sb] (ρ.t 42))) blk off dk wr2 ∧ dnS (q - i) q dk = dnS (m - i) m d)
      case atStart => exact ⟨m, d, rfl, by omega, by omega, by omega, rfl, HS.out, rfl⟩
      case round =>
        obtain ⟨q, dk, rfl, haq, hqi, hkx2, hds, hS2, heq2⟩ := hrel
        by_cases hlt2 : (q : Int) > i
        · have c1 := E.c1 hS2
          obtain ⟨W2, hs, hS3⟩ := (E.box _).swap hS2 hds q (q - 1) (q : Int) ((q : Int) - 1) rfl (by omega) (by omega) (by omega)
          have A : Aside _ := hS3
          clear hS3 hS2
          go_wp2
          go_roundg (q - 1 - i)
          case measure => omega
          case rel =>
            rw [show q - i = (q - 1 - i) + 1 by omega, dnS] at heq2
            exact ⟨q - 1, _, by congr 1 <;> omega, by omega, by omega, Nat.le_refl _, by rw [size_swp]; exact hds, A.out, heq2⟩
        · have HS2 : Hid _ := hS2
          clear hS2
          go_wp2
          (try simp only [Exit.inBlock, Exit.then]); refine bodyPost_ret (results_none rfl _ _ _) rfl ?_
          rw [show q - i = 0 by omega, dnS] at heq2
          exact ⟨rfl, by rw [← heq, ← heq2]; exact E.back HS2.out hds⟩
end Go.Proofs.YtgjpphcbdbfhlaaGreat.SA
end
section
/- The stable sort's merge at a row of structs, whatever the closure that compares may lay: whole. Over any program. No condition. -/
set_option linter.unusedVariables false
set_option linter.unusedSimpArgs false
namespace Go.Proofs.YtgjpphcbdbfhlaaGreat.SA
open Go.Shelf Go.RowKit Go.Lib Go.Sort Go.Proofs
variable {P : Program} {ρ : Ren} {α : Type} [Inhabited α] {enc : α → List Value} {k : Nat} {lt : α → α → Bool} {g : Nat} {lb : Array Value} {sf : Nat} {sb : Array Value} {blk off : Nat} {w W W' : World} {d dk d' : Array α}

theorem size_rotGo (m : Nat) : ∀ (f i j : Nat) (d : Array α), (rotGo m f i j d).size = d.size := by
  intro f
  induction f with
  | zero => intro i j d; rfl
  | succ f ih =>
    intro i j d
    rw [rotGo]
    split
    · rw [size_swr]
    · split <;> rw [ih, size_swr]
theorem size_rot (a m b : Nat) (d : Array α) : (rot a m b d).size = d.size := size_rotGo m _ _ _ d
def st1 (a m b s : Nat) (d : Array α) : Array α := if s < m ∧ m < (a + b) / 2 + m - s then rot s m ((a + b) / 2 + m - s) d else d
def st2 (lt : α → α → Bool) (f a m b s : Nat) (d : Array α) : Array α := if a < s ∧ s < (a + b) / 2 then sym lt f a s ((a + b) / 2) d else d
def st3 (lt : α → α → Bool) (f a m b s : Nat) (d : Array α) : Array α := if (a + b) / 2 < (a + b) / 2 + m - s ∧ (a + b) / 2 + m - s < b then sym lt f ((a + b) / 2) ((a + b) / 2 + m - s) b d else d
theorem sym_eq (f a m b s : Nat) (d : Array α) (h1 : ¬ m - a = 1) (h2 : ¬ b - m = 1) (hs : startOf lt a m b d = s) : sym lt (f + 1) a m b d = st3 lt f a m b s (st2 lt f a m b s (st1 a m b s d)) := by
  subst hs
  rw [sym, if_neg h1, if_neg h2]
  rfl

set_option maxHeartbeats 6000000 in
set_option maxRecDepth 1000000 in
theorem sym_three_w (L : LaysGt.n30 P ρ) (E : SE P enc k lt g lb sf sb blk off w d) (f a m b : Nat) (x y z : Int) (hx : x = a) (hy : y = m) (hz : z = b) (ham : a < m) (hmb : m < b) (hb : b ≤ d.size) (hf : b - a ≤ f + 1) (h1 : ¬ m - a = 1) (h2 : ¬ b - m = 1)
    (ih : ∀ (a m b : Nat) (d : Array α) (w : World) (x y z : Int), SE P enc k lt g lb sf sb blk off w d → x = a → y = m → z = b → a < m → m < b → b ≤ d.size → b - a ≤ f →
      Calls P (ρ.f 30) #[.agg #[.func (.func g) #[] lb, .func (.func sf) #[] sb], .int .i64 x, .int .i64 y, .int .i64 z] w fun e w' => e = .returned (.tuple #[]) ∧ SWD enc k w blk off (sym lt f a m b d) w') :
    Calls P (ρ.f 30) #[.agg #[.func (.func g) #[] lb, .func (.func sf) #[] sb], .int .i64 x, .int .i64 y, .int .i64 z] w fun e w' => e = .returned (.tuple #[]) ∧ SWD enc k w blk off (sym lt (f + 1) a m b d) w' := by
  subst hx hy hz
  have mixed := L.mixed; have t0 := L.t0; have a0 := L.a0; have z0 := L.z0; have v0 := L.v0; have t3 := L.t3; have a3 := L.a3; have z3 := L.z3; have v3 := L.v3; have t4 := L.t4; have a4 := L.a4; have z4 := L.z4; have v4 := L.v4; have t26 := L.t26; have a26 := L.a26; have z26 := L.z26; have v26 := L.v26; have t38 := L.t38; have a38 := L.a38; have z38 := L.z38; have v38 := L.v38; have t42 := L.t42; have a42 := L.a42; have z42 := L.z42; have v42 := L.v42; have t47 := L.t47; have a47 := L.a47; have z47 := L.z47; have v47 := L.v47
  have u42 := run_underlying L.t42
  have hsz := E.hsz
  have eg := E.eg
  have IH : Hid _ := ih
  clear ih
  have e30 : ∀ args w, (callFunc (ρ.f 30) args).run P w = .ok (.enter (ρ.f 30) args) w := enters_of L.f30 (by kernel_rfl) rfl
  have e42 : ∀ args w, (callFunc (ρ.f 42) args).run P w = .ok (.enter (ρ.f 42) args) w := enters_of L.f42 (by kernel_rfl) rfl
  have L42 : LaysGt.n42 P ρ := { L with }
  have q1 : ((m : Int) - (a : Int) == 1) = false := by rw [beq_eq_false_iff_ne]; omega
  have q2 : ((b : Int) - (m : Int) == 1) = false := by rw [beq_eq_false_iff_ne]; omega
  by_cases hm : m > (a + b) / 2
  · have q3 : decide ((m : Int) > ((a : Int) + b) / 2) = true := decide_eq_true (by omega)
    have q4 : decide (((a : Int) + b) / 2 < (m : Int)) = true := decide_eq_true (by omega)
    go_enter L.f30, BodyGt.n30_ntmps ρ
    go_wp2
    go_loopg [18, 19] (b - a) (fun kx s8 s9 wr => ∃ (i j : Nat), s8 = .int .i64 i ∧ s9 = .int .i64 j ∧ ((a + b) / 2 + m - b) ≤ i ∧ i ≤ j ∧ j ≤ ((a + b) / 2) ∧ j - i ≤ kx ∧ SWD enc k (w.alloc (.cells #[.func (.func g) #[] lb, .func (.func sf) #[] sb] (ρ.t 42))) blk off d wr ∧ ∃ f', j - i ≤ f' ∧ bsr (fun c => !lt d[(a + b) / 2 + m - 1 - c]! d[c]!) f' i j = startOf lt a m b d)
    case atStart => exact ⟨((a + b) / 2 + m - b), ((a + b) / 2), by congr 1 <;> omega, by congr 1 <;> omega, by omega, by omega, by omega, by omega, SWD.start (E.box _).hH, b - a, by omega, by unfold startOf; rw [if_pos hm, if_pos hm]⟩
    case round =>
      obtain ⟨i, j, rfl, rfl, hmi, hij, hjb, hkx, hS, f', hf', heq⟩ := hrel
      by_cases hlt : (i : Int) < j
      · obtain ⟨f', rfl⟩ : ∃ f2, f' = f2 + 1 := ⟨f' - 1, by omega⟩
        rw [bsr, if_pos (by omega)] at heq
        have c0 := E.c0 hS
        have hl := (E.box _).less hS rfl ((a + b) / 2 + m - 1 - (i + j) / 2) ((i + j) / 2) (((a : Int) + b) / 2 + m - 1 - ((i : Int) + j) / 2) (((i : Int) + j) / 2) (by omega) (by omega) (by omega) (by omega)
        clear hS
        cases hlv : lt d[(a + b) / 2 + m - 1 - (i + j) / 2]! d[(i + j) / 2]! with
        | true =>
          rw [hlv] at hl
          simp only [hlv, ↓reduceIte, Bool.not_true, Bool.not_false, Bool.false_eq_true] at heq
          go_wp2_with (go_at_fn g; refine hl.mono ?_; rintro e w3 ⟨rfl, h3⟩)
          have H3 : Hid _ := h3
          clear h3
          go_roundg ((i + j) / 2 - i)
          case measure => omega
          case rel => exact ⟨i, (i + j) / 2, rfl, by congr 1 <;> omega, by omega, by omega, by omega, Nat.le_refl _, H3.out, f', by omega, heq⟩
        | false =>
          rw [hlv] at hl
          simp only [hlv, ↓reduceIte, Bool.not_true, Bool.not_false, Bool.false_eq_true] at heq
          go_wp2_with (go_at_fn g; refine hl.mono ?_; rintro e w3 ⟨rfl, h3⟩)
          have H3 : Hid _ := h3
          clear h3
          go_roundg (j - ((i + j) / 2 + 1))
          case measure => omega
          case rel => exact ⟨(i + j) / 2 + 1, j, by congr 1 <;> omega, rfl, by omega, by omega, by omega, Nat.le_refl _, H3.out, f', by omega, heq⟩
      · rw [bsr_stop _ _ _ _ (by omega)] at heq
        have hsym := sym_eq (lt := lt) f a m b i d h1 h2 heq.symm
        have HQ : Hid _ := hsym
        obtain ⟨D0, hD0⟩ : ∃ D0 : Array α, D0 = d := ⟨d, rfl⟩
        have HS : Hid (SWD enc k (w.alloc (.cells #[.func (.func g) #[] lb, .func (.func sf) #[] sb] (ρ.t 42))) blk off D0 wr) := by rw [hD0]; exact hS
        have hZ : Hid (D0.size = d.size) := by rw [hD0]; rfl
        have HD : Hid (D0 = d) := hD0
        clear hD0
        have c0 := E.c0 hS
        have c1 := E.c1 hS
        clear hsym heq hS
        go_wp2_with (first
          | (go_at_fn (ρ.f 42); refine (rotate_w L42 ((E.box _).move HS.out hZ.out) i m ((a + b) / 2 + m - i) _ _ _ (by omega) (by omega) (by omega) (by omega) (by omega) (by have := hZ.out; omega)).mono ?_; rintro e w1 ⟨rfl, hS2⟩; replace HS : Hid _ := (sw_trans HS.out (E.box _).hblk (size_rot _ _ _ _) hS2); replace hZ : Hid _ := ((size_rot i m ((a + b) / 2 + m - i) _).trans hZ.out); replace c0 := E.c0 HS.out; replace c1 := E.c1 HS.out; clear hS2)
          | (go_at_fn (ρ.f 30); refine (IH.out a i ((a + b) / 2) _ _ _ _ _ ((E.box _).move HS.out hZ.out) (by omega) (by omega) (by omega) (by omega) (by omega) (by have := hZ.out; omega) (by omega)).mono ?_; rintro e w1 ⟨rfl, hS2⟩; replace HS : Hid _ := (sw_trans HS.out (E.box _).hblk (sym_in (lt := lt) f a i ((a + b) / 2) _ (by omega) (by omega) (by have := hZ.out; omega)).size hS2); replace hZ : Hid _ := ((sym_in (lt := lt) f a i ((a + b) / 2) _ (by omega) (by omega) (by have := hZ.out; omega)).size.trans hZ.out); replace c0 := E.c0 HS.out; replace c1 := E.c1 HS.out; clear hS2)
          | (go_at_fn (ρ.f 30); refine (IH.out ((a + b) / 2) ((a + b) / 2 + m - i) b _ _ _ _ _ ((E.box _).move HS.out hZ.out) (by omega) (by omega) (by omega) (by omega) (by omega) (by have := hZ.out; omega) (by omega)).mono ?_; rintro e w1 ⟨rfl, hS2⟩; replace HS : Hid _ := (sw_trans HS.out (E.box _).hblk (sym_in (lt := lt) f ((a + b) / 2) ((a + b) / 2 + m - i) b _ (by omega) (by omega) (by have := hZ.out; omega)).size hS2); replace hZ : Hid _ := ((sym_in (lt := lt) f ((a + b) / 2) ((a + b) / 2 + m - i) b _ (by omega) (by omega) (by have := hZ.out; omega)).size.trans hZ.out); replace c0 := E.c0 HS.out; replace c1 := E.c1 HS.out; clear hS2))
        all_goals
          go_end0
          refine ⟨rfl, ?_⟩
          rw [HQ.out]
          have hD0 := HD.out
          subst hD0
          unfold st3 st2 st1
          have hb3 := E.back HS.out hZ.out
          (repeat' first
            | exact hb3
            | rw [if_pos (by omega)]
            | rw [if_neg (by omega)])
  · have q3 : decide ((m : Int) > ((a : Int) + b) / 2) = false := decide_eq_false (by omega)
    have q4 : decide (((a : Int) + b) / 2 < (m : Int)) = false := decide_eq_false (by omega)
    go_enter L.f30, BodyGt.n30_ntmps ρ
    go_wp2
    go_loopg [18, 19] (b - a) (fun kx s8 s9 wr => ∃ (i j : Nat), s8 = .int .i64 i ∧ s9 = .int .i64 j ∧ a ≤ i ∧ i ≤ j ∧ j ≤ m ∧ j - i ≤ kx ∧ SWD enc k (w.alloc (.cells #[.func (.func g) #[] lb, .func (.func sf) #[] sb] (ρ.t 42))) blk off d wr ∧ ∃ f', j - i ≤ f' ∧ bsr (fun c => !lt d[(a + b) / 2 + m - 1 - c]! d[c]!) f' i j = startOf lt a m b d)
    case atStart => exact ⟨a, m, by congr 1 <;> omega, by congr 1 <;> omega, by omega, by omega, by omega, by omega, SWD.start (E.box _).hH, b - a, by omega, by unfold startOf; rw [if_neg hm, if_neg hm]⟩
    case round =>
      obtain ⟨i, j, rfl, rfl, hmi, hij, hjb, hkx, hS, f', hf', heq⟩ := hrel
      by_cases hlt : (i : Int) < j
      · obtain ⟨f', rfl⟩ : ∃ f2, f' = f2 + 1 := ⟨f' - 1, by omega⟩
        rw [bsr, if_pos (by omega)] at heq
        have c0 := E.c0 hS
        have hl := (E.box _).less hS rfl ((a + b) / 2 + m - 1 - (i + j) / 2) ((i + j) / 2) (((a : Int) + b) / 2 + m - 1 - ((i : Int) + j) / 2) (((i : Int) + j) / 2) (by omega) (by omega) (by omega) (by omega)
        clear hS
        cases hlv : lt d[(a + b) / 2 + m - 1 - (i + j) / 2]! d[(i + j) / 2]! with
        | true =>
          rw [hlv] at hl
          simp only [hlv, ↓reduceIte, Bool.not_true, Bool.not_false, Bool.false_eq_true] at heq
          go_wp2_with (go_at_fn g; refine hl.mono ?_; rintro e w3 ⟨rfl, h3⟩)
          have H3 : Hid _ := h3
          clear h3
          go_roundg ((i + j) / 2 - i)
          case measure => omega
          case rel => exact ⟨i, (i + j) / 2, rfl, by congr 1 <;> omega, by omega, by omega, by omega, Nat.le_refl _, H3.out, f', by omega, heq⟩
        | false =>
          rw [hlv] at hl
          simp only [hlv, ↓reduceIte, Bool.not_true, Bool.not_false, Bool.false_eq_true] at heq
          go_wp2_with (go_at_fn g; refine hl.mono ?_; rintro e w3 ⟨rfl, h3⟩)
          have H3 : Hid _ := h3
          clear h3
          go_roundg (j - ((i + j) / 2 + 1))
          case measure => omega
          case rel => exact ⟨(i + j) / 2 + 1, j, by congr 1 <;> omega, rfl, by omega, by omega, by omega, Nat.le_refl _, H3.out, f', by omega, heq⟩
      · rw [bsr_stop _ _ _ _ (by omega)] at heq
        have hsym := sym_eq (lt := lt) f a m b i d h1 h2 heq.symm
        have HQ : Hid _ := hsym
        obtain ⟨D0, hD0⟩ : ∃ D0 : Array α, D0 = d := ⟨d, rfl⟩
        have HS : Hid (SWD enc k (w.alloc (.cells #[.func (.func g) #[] lb, .func (.func sf) #[] sb] (ρ.t 42))) blk off D0 wr) := by rw [hD0]; exact hS
        have hZ : Hid (D0.size = d.size) := by rw [hD0]; rfl
        have HD : Hid (D0 = d) := hD0
        clear hD0
        have c0 := E.c0 hS
        have c1 := E.c1 hS
        clear hsym heq hS
        go_wp2_with (first
          | (go_at_fn (ρ.f 42); refine (rotate_w L42 ((E.box _).move HS.out hZ.out) i m ((a + b) / 2 + m - i) _ _ _ (by omega) (by omega) (by omega) (by omega) (by omega) (by have := hZ.out; omega)).mono ?_; rintro e w1 ⟨rfl, hS2⟩; replace HS : Hid _ := (sw_trans HS.out (E.box _).hblk (size_rot _ _ _ _) hS2); replace hZ : Hid _ := ((size_rot i m ((a + b) / 2 + m - i) _).trans hZ.out); replace c0 := E.c0 HS.out; replace c1 := E.c1 HS.out; clear hS2)
          | (go_at_fn (ρ.f 30); refine (IH.out a i ((a + b) / 2) _ _ _ _ _ ((E.box _).move HS.out hZ.out) (by omega) (by omega) (by omega) (by omega) (by omega) (by have := hZ.out; omega) (by omega)).mono ?_; rintro e w1 ⟨rfl, hS2⟩; replace HS : Hid _ := (sw_trans HS.out (E.box _).hblk (sym_in (lt := lt) f a i ((a + b) / 2) _ (by omega) (by omega) (by have := hZ.out; omega)).size hS2); replace hZ : Hid _ := ((sym_in (lt := lt) f a i ((a + b) / 2) _ (by omega) (by omega) (by have := hZ.out; omega)).size.trans hZ.out); replace c0 := E.c0 HS.out; replace c1 := E.c1 HS.out; clear hS2)
          | (go_at_fn (ρ.f 30); refine (IH.out ((a + b) / 2) ((a + b) / 2 + m - i) b _ _ _ _ _ ((E.box _).move HS.out hZ.out) (by omega) (by omega) (by omega) (by omega) (by omega) (by have := hZ.out; omega) (by omega)).mono ?_; rintro e w1 ⟨rfl, hS2⟩; replace HS : Hid _ := (sw_trans HS.out (E.box _).hblk (sym_in (lt := lt) f ((a + b) / 2) ((a + b) / 2 + m - i) b _ (by omega) (by omega) (by have := hZ.out; omega)).size hS2); replace hZ : Hid _ := ((sym_in (lt := lt) f ((a + b) / 2) ((a + b) / 2 + m - i) b _ (by omega) (by omega) (by have := hZ.out; omega)).size.trans hZ.out); replace c0 := E.c0 HS.out; replace c1 := E.c1 HS.out; clear hS2))
        all_goals
          go_end0
          refine ⟨rfl, ?_⟩
          rw [HQ.out]
          have hD0 := HD.out
          subst hD0
          unfold st3 st2 st1
          have hb3 := E.back HS.out hZ.out
          (repeat' first
            | exact hb3
            | rw [if_pos (by omega)]
            | rw [if_neg (by omega)])
theorem sym_w (L : LaysGt.n30 P ρ) : ∀ (f a m b : Nat) (d : Array α) (w : World) (x y z : Int), SE P enc k lt g lb sf sb blk off w d → x = a → y = m → z = b → a < m → m < b → b ≤ d.size → b - a ≤ f →
    Calls P (ρ.f 30) #[.agg #[.func (.func g) #[] lb, .func (.func sf) #[] sb], .int .i64 x, .int .i64 y, .int .i64 z] w fun e w' => e = .returned (.tuple #[]) ∧ SWD enc k w blk off (sym lt f a m b d) w' := by
  intro f
  induction f with
  | zero => intros; omega
  | succ f ih =>
    intro a m b d w x y z E hx hy hz ham hmb hb hf
    by_cases h1 : m - a = 1
    · rw [sym, if_pos h1]
      exact sym_one_w L E a m b x y z hx hy hz ham hmb hb h1
    · by_cases h2 : b - m = 1
      · rw [sym, if_neg h1, if_pos h2]
        exact sym_two_w L E a m b x y z hx hy hz ham hmb hb h1 h2
      · exact sym_three_w L E f a m b x y z hx hy hz ham hmb hb hf h1 h2 ih
end Go.Proofs.YtgjpphcbdbfhlaaGreat.SA
end
section
/- The stable sort at a row of structs, whatever the closure that compares may lay: whole. Over any program. No condition. -/
set_option linter.unusedVariables false
set_option linter.unusedSimpArgs false
namespace Go.Proofs.YtgjpphcbdbfhlaaGreat.SA
open Go.Shelf Go.RowKit Go.Lib Go.Sort Go.Proofs
variable {P : Program} {ρ : Ren} {α : Type} [Inhabited α] {enc : α → List Value} {k : Nat} {lt : α → α → Bool} {g : Nat} {lb : Array Value} {sf : Nat} {sb : Array Value} {blk off : Nat} {w W W' : World} {d dk d' : Array α}

theorem ins_size (a b : Nat) (d : Array α) (hb : b ≤ d.size) : (Sort.insertionSort lt d a b).size = d.size := (ins_in (lt := lt) a b d hb).size
theorem sym_size (f a m b : Nat) (d : Array α) (h1 : a < m) (h2 : m < b) (hb : b ≤ d.size) : (sym lt f a m b d).size = d.size := (sym_in (lt := lt) f a m b d h1 h2 hb).size

set_option maxHeartbeats 4000000 in
set_option maxRecDepth 1000000 in
theorem stable_w (L : LaysGt.n15 P ρ) (E : SE P enc k lt g lb sf sb blk off w d) (n : Nat) (hn : n ≤ d.size) (hn2 : n < 1152921504606846976) :
    Calls P (ρ.f 15) #[.agg #[.func (.func g) #[] lb, .func (.func sf) #[] sb], .int .i64 n] w fun e w' => e = .returned (.tuple #[]) ∧ SWD enc k w blk off (stableA lt n d) w' := by
  have mixed := L.mixed; have t0 := L.t0; have a0 := L.a0; have z0 := L.z0; have v0 := L.v0; have t3 := L.t3; have a3 := L.a3; have z3 := L.z3; have v3 := L.v3; have t4 := L.t4; have a4 := L.a4; have z4 := L.z4; have v4 := L.v4; have t26 := L.t26; have a26 := L.a26; have z26 := L.z26; have v26 := L.v26; have t38 := L.t38; have a38 := L.a38; have z38 := L.z38; have v38 := L.v38; have t42 := L.t42; have a42 := L.a42; have z42 := L.z42; have v42 := L.v42; have t47 := L.t47; have a47 := L.a47; have z47 := L.z47; have v47 := L.v47
  have u42 := run_underlying L.t42
  have hsz := E.hsz
  have e29 : ∀ args w, (callFunc (ρ.f 29) args).run P w = .ok (.enter (ρ.f 29) args) w := enters_of L.f29 (by kernel_rfl) rfl
  have e30 : ∀ args w, (callFunc (ρ.f 30) args).run P w = .ok (.enter (ρ.f 30) args) w := enters_of L.f30 (by kernel_rfl) rfl
  have L29 : LaysGt.n29 P ρ := { L with }
  have L30 : LaysGt.n30 P ρ := { L with }
  go_enter L.f15, BodyGt.n15_ntmps ρ
  go_wp2
  go_loopg [5, 6] n (fun kx s5 s6 wr => ∃ (a : Nat) (dk : Array α), s5 = .int .i64 a ∧ s6 = .int .i64 ((a : Int) + 20) ∧ a ≤ n ∧ n - a ≤ kx ∧ dk.size = d.size ∧ SWD enc k (w.alloc (.cells #[.func (.func g) #[] lb, .func (.func sf) #[] sb] (ρ.t 42))) blk off dk wr ∧ ∃ f, n - a ≤ f ∧ blk1 lt n f a dk = blk1 lt n n 0 d)
  case atStart => exact ⟨0, d, rfl, rfl, by omega, by omega, rfl, SWD.start (E.box _).hH, n, by omega, rfl⟩
  case round =>
    obtain ⟨a, dk, rfl, rfl, han, hkx, hds, hS, f, hf, heq⟩ := hrel
    have c0 := E.c0 hS
    have c1 := E.c1 hS
    have Er := (E.box _).move hS hds
    by_cases hlt : (a : Int) + 20 ≤ n
    · obtain ⟨f, rfl⟩ : ∃ f', f = f' + 1 := ⟨f - 1, by omega⟩
      rw [blk1, if_pos (by omega)] at heq
      have hc := insertion_w L29 Er a (a + 20) (a : Int) ((a : Int) + 20) rfl (by omega) (by omega) (by omega)
      have HS : Hid _ := hS
      have HQ : Hid _ := heq
      have HZ : Hid _ := hds
      clear hS Er heq hds
      go_wp2_with (go_at_fn (ρ.f 29); refine hc.mono ?_; rintro e w1 ⟨rfl, hS2⟩)
      have H2 : Hid _ := hS2
      clear hS2
      go_roundg (n - (a + 20))
      case measure => omega
      case rel =>
        have hz : (Sort.insertionSort lt dk a (a + 20)).size = dk.size := ins_size _ _ _ (by have := HZ.out; omega)
        exact ⟨a + 20, _, by simp, by simp, by omega, Nat.le_refl _, hz.trans HZ.out, sw_trans HS.out (E.box (.cells #[.func (.func g) #[] lb, .func (.func sf) #[] sb] (ρ.t 42))).hblk hz H2.out, f, by omega, HQ.out⟩
    · have heq2 : Sort.insertionSort lt dk a n = blk1 lt n n 0 d := by
        rw [← heq]
        cases f with
        | zero => rfl
        | succ f => rw [blk1, if_neg (by omega)]
      have hc := insertion_w L29 Er a n (a : Int) (n : Int) rfl rfl (by omega) (by omega)
      have hz : (Sort.insertionSort lt dk a n).size = dk.size := ins_size _ _ _ (by omega)
      rw [heq2] at hc hz
      have HS : Hid _ := hS
      have HQ : Hid _ := heq2
      have HZ : Hid (dk.size = d.size) := hds
      have Hz : Hid _ := hz
      clear hS Er heq heq2 hds hz
      go_wp2_with (go_at_fn (ρ.f 29); refine hc.mono ?_; rintro e w1 ⟨rfl, hS2⟩)
      have H1 : Hid (SWD enc k (w.alloc (.cells #[.func (.func g) #[] lb, .func (.func sf) #[] sb] (ρ.t 42))) blk off (blk1 lt n n 0 d) w1) := sw_trans HS.out (E.box (.cells #[.func (.func g) #[] lb, .func (.func sf) #[] sb] (ρ.t 42))).hblk Hz.out hS2
      have HB : Hid ((blk1 lt n n 0 d).size = d.size) := Hz.out.trans HZ.out
      clear hS2
      go_loopg [4] n (fun kx s4 wr => ∃ (bs : Nat) (dk : Array α), s4 = .int .i64 bs ∧ 0 < bs ∧ bs < 2305843009213693952 ∧ n - bs ≤ kx ∧ dk.size = d.size ∧ SWD enc k (w.alloc (.cells #[.func (.func g) #[] lb, .func (.func sf) #[] sb] (ρ.t 42))) blk off dk wr ∧ ∃ f, n ≤ bs + f ∧ outer2 lt n f bs dk = stableA lt n d)
      case atStart => exact ⟨20, _, rfl, by omega, by omega, by omega, HB.out, H1.out, n, by omega, rfl⟩
      case round =>
        obtain ⟨bs, d1, rfl, hbs, hbs2, hkx2, hds1, hS1, f1, hf1, heq1⟩ := hrel
        have hds1' : Hid (d1.size = d.size) := hds1
        have hS1' : Hid (SWD enc k (w.alloc (.cells #[.func (.func g) #[] lb, .func (.func sf) #[] sb] (ρ.t 42))) blk off d1 wr) := hS1
        clear hS1 hds1
        by_cases hlt2 : (bs : Int) < n
        · obtain ⟨f1, rfl⟩ : ∃ f', f1 = f' + 1 := ⟨f1 - 1, by omega⟩
          rw [outer2, if_pos (by omega)] at heq1
          have HQ1 : Hid _ := heq1
          clear heq1
          go_wp2
          go_loopg [5, 6] n (fun kx s5 s6 wr => ∃ (a : Nat) (dk : Array α), s5 = .int .i64 a ∧ s6 = .int .i64 ((a : Int) + 2 * bs) ∧ a ≤ n ∧ n - a ≤ kx ∧ dk.size = d.size ∧ SWD enc k (w.alloc (.cells #[.func (.func g) #[] lb, .func (.func sf) #[] sb] (ρ.t 42))) blk off dk wr ∧ ∃ f, n ≤ a + f ∧ inner2 lt n bs f a dk = inner2 lt n bs n 0 d1)
          case atStart => exact ⟨0, d1, rfl, by congr 1 <;> omega, by omega, by omega, hds1'.out, hS1'.out, n, by omega, rfl⟩
          case round =>
            obtain ⟨a, d2, rfl, rfl, han2, hkx3, hds2, hS2, f2, hf2, heq2⟩ := hrel
            have c0 := E.c0 hS2
            have c1 := E.c1 hS2
            have Er2 := (E.box _).move hS2 hds2
            have hds2' : Hid (d2.size = d.size) := hds2
            have hS2' : Hid (SWD enc k (w.alloc (.cells #[.func (.func g) #[] lb, .func (.func sf) #[] sb] (ρ.t 42))) blk off d2 wr) := hS2
            clear hS2
            by_cases hlt3 : (a : Int) + 2 * bs ≤ n
            · obtain ⟨f2, rfl⟩ : ∃ f', f2 = f' + 1 := ⟨f2 - 1, by omega⟩
              rw [inner2, if_pos (by omega)] at heq2
              have HQ2 : Hid _ := heq2
              have hz : Hid ((sym lt n a (a + bs) (a + 2 * bs) d2).size = d2.size) := sym_size _ _ _ _ _ (by omega) (by omega) (by omega)
              have hc := sym_w L30 n a (a + bs) (a + 2 * bs) d2 wr (a : Int) ((a : Int) + bs) ((a : Int) + 2 * bs) Er2 rfl (by omega) (by omega) (by omega) (by omega) (by omega) (by omega)
              clear heq2 Er2 hds2
              go_wp2_with (go_at_fn (ρ.f 30); refine hc.mono ?_; rintro e w1 ⟨rfl, hS3⟩)
              have H3 : Hid _ := hS3
              clear hS3
              go_roundg (n - (a + 2 * bs))
              case measure => omega
              case rel =>
                exact ⟨a + 2 * bs, _, by congr 1 <;> omega, by congr 1 <;> omega, by omega, Nat.le_refl _, hz.out.trans hds2'.out, sw_trans hS2'.out (E.box (.cells #[.func (.func g) #[] lb, .func (.func sf) #[] sb] (ρ.t 42))).hblk hz.out H3.out, f2, by omega, HQ2.out⟩
            · by_cases hm : (a : Int) + bs < n
              · have heq3 : sym lt n a (a + bs) n d2 = inner2 lt n bs n 0 d1 := by
                  rw [← heq2]
                  cases f2 with
                  | zero => rw [inner2, if_pos (by omega)]
                  | succ f2 => rw [inner2, if_neg (by omega), if_pos (by omega)]
                have hz : Hid ((inner2 lt n bs n 0 d1).size = d2.size) := by rw [← heq3]; exact sym_size _ _ _ _ _ (by omega) (by omega) (by omega)
                have hc := sym_w L30 n a (a + bs) n d2 wr (a : Int) ((a : Int) + bs) (n : Int) Er2 rfl (by omega) rfl (by omega) (by omega) (by omega) (by omega)
                rw [heq3] at hc
                clear heq2 heq3 Er2 hds2
                go_wp2_with (go_at_fn (ρ.f 30); refine hc.mono ?_; rintro e w1 ⟨rfl, hS3⟩)
                have H3 : Hid _ := hS3
                clear hS3
                go_roundg (n - bs * 2)
                case measure => omega
                case rel =>
                  exact ⟨bs * 2, _, by congr 1 <;> omega, by omega, by omega, Nat.le_refl _, hz.out.trans hds2'.out, sw_trans hS2'.out (E.box (.cells #[.func (.func g) #[] lb, .func (.func sf) #[] sb] (ρ.t 42))).hblk hz.out H3.out, f1, by omega, HQ1.out⟩
              · have heq3 : d2 = inner2 lt n bs n 0 d1 := by
                  rw [← heq2]
                  cases f2 with
                  | zero => rw [inner2, if_neg (by omega)]
                  | succ f2 => rw [inner2, if_neg (by omega), if_neg (by omega)]
                have HQ3 : Hid _ := heq3
                clear heq2 heq3 Er2 hds2
                go_wp2
                go_roundg (n - bs * 2)
                case measure => omega
                case rel =>
                  exact ⟨bs * 2, _, by congr 1 <;> omega, by omega, by omega, Nat.le_refl _, hds2'.out, hS2'.out, f1, by omega, by rw [HQ3.out]; exact HQ1.out⟩
        · have heq2 : d1 = stableA lt n d := by
            rw [← heq1]
            cases f1 with
            | zero => rfl
            | succ f1 => rw [outer2, if_neg (by omega)]
          have HQ1 : Hid _ := heq2
          clear heq1 heq2
          go_wp2
          go_end0
          exact ⟨rfl, by rw [← HQ1.out]; exact E.back hS1'.out hds1'.out⟩
end Go.Proofs.YtgjpphcbdbfhlaaGreat.SA
end
section
/- sort.SliceStable at a row of structs of whatever length, whatever the closure that compares may lay. Over any program. No condition. -/
set_option linter.unusedVariables false
set_option linter.unusedSimpArgs false
namespace Go.Proofs.YtgjpphcbdbfhlaaGreat.SA
open Go.Shelf Go.RowKit Go.Lib Go.Sort Go.Proofs
variable {P : Program} {ρ : Ren} {α : Type} [Inhabited α]

theorem stableA_tiny (lt : α → α → Bool) (n : Nat) (d : Array α) (h : n ≤ 1) : stableA lt n d = d := by
  have e : Sort.insertionSort lt d 0 n = d := by
    unfold Sort.insertionSort
    exact insOuter_stop _ _ _ _ _ (by omega)
  have b : blk1 lt n n 0 d = d := by
    rcases n with _ | n
    · exact e
    · rw [blk1, if_neg (by omega)]; exact e
  unfold stableA
  rw [b]
  rcases n with _ | n
  · rfl
  · rw [outer2, if_neg (by omega)]

theorem sliceStable_w (L : LaysGt.n8 P ρ) (t e : TypeId) (i ie : TypeInfo) (hi : P.info? t = some i) (hd : i.desc = .slice e) (hpk : P.packed t = false) (hie : P.info? e = some ie) (ke : Nat) (hke : ∀ w, (Extern.Rtype.kind e).run P w = .ok ke w)
    (enc : α → List Value) (k : Nat) (hk : ∀ x, (enc x).length = k) (hs1 : ie.size = k) (hagg : ∀ w, (isAgg e).run P w = .ok true w) (h1 : ∀ x, ∀ v ∈ enc x, v.oneCell' = true) (lt : α → α → Bool) (g : Nat) (lb : Array Value)
    (eg : ∀ args w, (callFunc g args).run P w = .ok (.enter g args) w) (blk off c : Nat) (d : Array α) (hsz : d.size < 1152921504606846976)
    (f : Nat) (hf : P.funcs.findIdx? (·.name == "internal/reflectlite" ++ ".Swapper$" ++ toString (swapperK d.size ie ke)) = some f)
    (gS : Bool) (hx : 2 ≤ d.size → ∀ args W, (callFunc f args).run P W = ((Extern.ReflectliteSwapper.swap gS args).run P W).andThen fun v w' => .ok (.value v) w')
    (w : World) (hless : LessLaysK P g lb enc k lt blk off d.size w) (hH : HoldsK enc k w blk off d) (hblk : blk < w.heap.size) :
    Calls P (ρ.f 8) #[.iface t (.slice (some ⟨blk, off, none⟩) d.size c), .func (.func g) #[] lb] w fun e w' =>
      e = .returned (.tuple #[]) ∧ SWD enc k w blk off (stableA lt d.size d) w' := by
  by_cases h2 : 2 ≤ d.size
  · refine Any.sort_SliceStable_of_stable L t e i ie hi hd hpk hie ke hke _ d.size c (by omega) f hf (.func g) #[] lb w _ ?_
    have hB : sliceBound P e ie ke (some ⟨blk, off, none⟩) d.size c = #[.slice (some ⟨blk, off, none⟩) d.size c, typeHandle P e] := by
      unfold sliceBound; rw [if_neg (swapperK_gt _ _ _ h2)]
    have hW : SWD enc k w blk off d (stableWorld P ρ t (some ⟨blk, off, none⟩) d.size c w) := by
      unfold stableWorld
      exact ((SWD.start hH).alloc _).alloc _
    generalize stableWorld P ρ t (some ⟨blk, off, none⟩) d.size c w = w1 at hW ⊢
    rw [hB]
    have E0 : SE P enc k lt g lb f #[.slice (some ⟨blk, off, none⟩) d.size c, typeHandle P e] blk off w d :=
      ⟨hk, eg, hless, swapSwapsK_of_literal gS f (hx h2) e ie hie enc k hk hs1 hagg h1 blk off d.size c, hH, hblk, by omega⟩
    refine (stable_w (P := P) (ρ := ρ) { L with } (E0.move hW rfl) d.size (Nat.le_refl _) hsz).mono ?_
    rintro e w' ⟨rfl, hS⟩
    have hz : (stableA lt d.size d).size = d.size := by
      have b0 := blk1_in (lt := lt) d.size d.size 0 d (Nat.le_refl _) (Nat.zero_le _)
      have b1 := outer2_in (lt := lt) d.size d.size 20 (blk1 lt d.size d.size 0 d) (by omega) (by rw [b0.size]; exact Nat.le_refl _)
      exact b1.size.trans b0.size
    exact ⟨rfl, sw_trans hW hblk hz hS⟩
  · refine (Any.sort_SliceStable_tiny L t e i ie hi hd hpk hie ke hke _ d.size c (by omega) f hf (.func g) #[] lb w).mono ?_
    rintro e w' ⟨rfl, os, rfl⟩
    exact ⟨rfl, by rw [stableA_tiny lt d.size d (by omega)]; exact sw_grow (SWD.start hH) os⟩
end Go.Proofs.YtgjpphcbdbfhlaaGreat.SA
end
