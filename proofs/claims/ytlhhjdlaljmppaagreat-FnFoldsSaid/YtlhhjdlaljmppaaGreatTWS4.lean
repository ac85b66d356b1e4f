/- The stable sort's merge at a row of structs, whatever the closure that compares may lay: whole. Over any program. No condition. -/
import Derived.Test.YtlhhjdlaljmppaaGreatTWS3
set_option linter.unusedVariables false
set_option linter.unusedSimpArgs false
namespace Go.Proofs.YtlhhjdlaljmppaaGreat.SA
open Go.Shelf Go.RowKit Go.Lib Go.Sort Go.Proofs
variable {P : Program} {ρ : Ren} {α : Type} [Inhabited α] {enc : α → List Value} {k : Nat} {lt : α → α → Bool} {g : Nat} {lb : Array Value} {sf : Nat} {sb : Array Value} {blk off : Nat} {w W W' : World} {d dk d' : Array α}

theorem size_rotGo (m : Nat) : ∀ (f i j : Nat) (d : Array α), (rotGo m f i j d).size = d.size := by
  intro f
  induction f with
  | zero => intro i j d; rfl
  | succ f ih =>
    intro i j d
    rw [rotGo]
    split
    · rw [size_swr]
    · split <;> rw [ih, size_swr]
theorem size_rot (a m b : Nat) (d : Array α) : (rot a m b d).size = d.size := size_rotGo m _ _ _ d
def st1 (a m b s : Nat) (d : Array α) : Array α := if s < m ∧ m < (a + b) / 2 + m - s then rot s m ((a + b) / 2 + m - s) d else d
def st2 (lt : α → α → Bool) (f a m b s : Nat) (d : Array α) : Array α := if a < s ∧ s < (a + b) / 2 then sym lt f a s ((a + b) / 2) d else d
def st3 (lt : α → α → Bool) (f a m b s : Nat) (d : Array α) : Array α := if (a + b) / 2 < (a + b) / 2 + m - s ∧ (a + b) / 2 + m - s < b then sym lt f ((a + b) / 2) ((a + b) / 2 + m - s) b d else d
theorem sym_eq (f a m b s : Nat) (d : Array α) (h1 : ¬ m - a = 1) (h2 : ¬ b - m = 1) (hs : startOf lt a m b d = s) : sym lt (f + 1) a m b d = st3 lt f a m b s (st2 lt f a m b s (st1 a m b s d)) := by
  subst hs
  rw [sym, if_neg h1, if_neg h2]
  rfl

set_option maxHeartbeats 6000000 in
set_option maxRecDepth 1000000 in
theorem sym_three_w (L : LaysGt.n30 P ρ) (E : SE P enc k lt g lb sf sb blk off w d) (f a m b : Nat) (x y z : Int) (hx : x = a) (hy : y = m) (hz : z = b) (ham : a < m) (hmb : m < b) (hb : b ≤ d.size) (hf : b - a ≤ f + 1) (h1 : ¬ m - a = 1) (h2 : ¬ b - m = 1)
    (ih : ∀ (a m b : Nat) (d : Array α) (w : World) (x y z : Int), SE P enc k lt g lb sf sb blk off w d → x = a → y = m → z = b → a < m → m < b → b ≤ d.size → b - a ≤ f →
      Calls P (ρ.f 30) #[.agg #[.func (.func g) #[] lb, .func (.func sf) #[] sb], .int .i64 x, .int .i64 y, .int .i64 z] w fun e w' => e = .returned (.tuple #[]) ∧ SWD enc k w blk off (sym lt f a m b d) w') :
    Calls P (ρ.f 30) #[.agg #[.func (.func g) #[] lb, .func (.func sf) #[] sb], .int .i64 x, .int .i64 y, .int .i64 z] w fun e w' => e = .returned (.tuple #[]) ∧ SWD enc k w blk off (sym lt (f + 1) a m b d) w' := by
  subst hx hy hz
  have mixed := L.mixed; have t0 := L.t0; have a0 := L.a0; have z0 := L.z0; have v0 := L.v0; have t3 := L.t3; have a3 := L.a3; have z3 := L.z3; have v3 := L.v3; have t4 := L.t4; have a4 := L.a4; have z4 := L.z4; have v4 := L.v4; have t26 := L.t26; have a26 := L.a26; have z26 := L.z26; have v26 := L.v26; have t38 := L.t38; have a38 := L.a38; have z38 := L.z38; have v38 := L.v38; have t42 := L.t42; have a42 := L.a42; have z42 := L.z42; have v42 := L.v42; have t47 := L.t47; have a47 := L.a47; have z47 := L.z47; have v47 := L.v47
  have u42 := run_underlying L.t42
  have hsz := E.hsz
  have eg := E.eg
  have IH : Hid _ := ih
  clear ih
  have e30 : ∀ args w, (callFunc (ρ.f 30) args).run P w = .ok (.enter (ρ.f 30) args) w := enters_of L.f30 (by kernel_rfl) rfl
  have e42 : ∀ args w, (callFunc (ρ.f 42) args).run P w = .ok (.enter (ρ.f 42) args) w := enters_of L.f42 (by kernel_rfl) rfl
  have L42 : LaysGt.n42 P ρ := { L with }
  have q1 : ((m : Int) - (a : Int) == 1) = false := by rw [beq_eq_false_iff_ne]; omega
  have q2 : ((b : Int) - (m : Int) == 1) = false := by rw [beq_eq_false_iff_ne]; omega
  by_cases hm : m > (a + b) / 2
  · have q3 : decide ((m : Int) > ((a : Int) + b) / 2) = true := decide_eq_true (by omega)
    have q4 : decide (((a : Int) + b) / 2 < (m : Int)) = true := decide_eq_true (by omega)
    go_enter L.f30, BodyGt.n30_ntmps ρ
    go_wp2
    go_loopg [18, 19] (b - a) (fun kx s8 s9 wr => ∃ (i j : Nat), s8 = .int .i64 i ∧ s9 = .int .i64 j ∧ ((a + b) / 2 + m - b) ≤ i ∧ i ≤ j ∧ j ≤ ((a + b) / 2) ∧ j - i ≤ kx ∧ SWD enc k (w.alloc (.cells #[.func (.func g) #[] lb, .func (.func sf) #[] sb] (ρ.t 42))) blk off d wr ∧ ∃ f', j - i ≤ f' ∧ bsr (fun c => !lt d[(a + b) / 2 + m - 1 - c]! d[c]!) f' i j = startOf lt a m b d)
    case atStart => exact ⟨((a + b) / 2 + m - b), ((a + b) / 2), by congr 1 <;> omega, by congr 1 <;> omega, by omega, by omega, by omega, by omega, SWD.start (E.box _).hH, b - a, by omega, by unfold startOf; rw [if_pos hm, if_pos hm]⟩
    case round =>
      obtain ⟨i, j, rfl, rfl, hmi, hij, hjb, hkx, hS, f', hf', heq⟩ := hrel
      by_cases hlt : (i : Int) < j
      · obtain ⟨f', rfl⟩ : ∃ f2, f' = f2 + 1 := ⟨f' - 1, by omega⟩
        rw [bsr, if_pos (by omega)] at heq
        have c0 := E.c0 hS
        have hl := (E.box _).less hS rfl ((a + b) / 2 + m - 1 - (i + j) / 2) ((i + j) / 2) (((a : Int) + b) / 2 + m - 1 - ((i : Int) + j) / 2) (((i : Int) + j) / 2) (by omega) (by omega) (by omega) (by omega)
        clear hS
        cases hlv : lt d[(a + b) / 2 + m - 1 - (i + j) / 2]! d[(i + j) / 2]! with
        | true =>
          rw [hlv] at hl
          simp only [hlv, ↓reduceIte, Bool.not_true, Bool.not_false, Bool.false_eq_true] at heq
          go_wp2_with (go_at_fn g; refine hl.mono ?_; rintro e w3 ⟨rfl, h3⟩)
          have H3 : Hid _ := h3
          clear h3
          go_roundg ((i + j) / 2 - i)
          case measure => omega
          case rel => exact ⟨i, (i + j) / 2, rfl, by congr 1 <;> omega, by omega, by omega, by omega, Nat.le_refl _, H3.out, f', by omega, heq⟩
        | false =>
          rw [hlv] at hl
          simp only [hlv, ↓reduceIte, Bool.not_true, Bool.not_false, Bool.false_eq_true] at heq
          go_wp2_with (go_at_fn g; refine hl.mono ?_; rintro e w3 ⟨rfl, h3⟩)
          have H3 : Hid _ := h3
          clear h3
          go_roundg (j - ((i + j) / 2 + 1))
          case measure => omega
          case rel => exact ⟨(i + j) / 2 + 1, j, by congr 1 <;> omega, rfl, by omega, by omega, by omega, Nat.le_refl _, H3.out, f', by omega, heq⟩
      · rw [bsr_stop _ _ _ _ (by omega)] at heq
        have hsym := sym_eq (lt := lt) f a m b i d h1 h2 heq.symm
        have HQ : Hid _ := hsym
        obtain ⟨D0, hD0⟩ : ∃ D0 : Array α, D0 = d := ⟨d, rfl⟩
        have HS : Hid (SWD enc k (w.alloc (.cells #[.func (.func g) #[] lb, .func (.func sf) #[] sb] (ρ.t 42))) blk off D0 wr) := by rw [hD0]; exact hS
        have hZ : Hid (D0.size = d.size) := by rw [hD0]; rfl
        have HD : Hid (D0 = d) := hD0
        clear hD0
        have c0 := E.c0 hS
        have c1 := E.c1 hS
        clear hsym heq hS
        go_wp2_with (first
          | (go_at_fn (ρ.f 42); refine (rotate_w L42 ((E.box _).move HS.out hZ.out) i m ((a + b) / 2 + m - i) _ _ _ (by omega) (by omega) (by omega) (by omega) (by omega) (by have := hZ.out; omega)).mono ?_; rintro e w1 ⟨rfl, hS2⟩; replace HS : Hid _ := (sw_trans HS.out (E.box _).hblk (size_rot _ _ _ _) hS2); replace hZ : Hid _ := ((size_rot i m ((a + b) / 2 + m - i) _).trans hZ.out); replace c0 := E.c0 HS.out; replace c1 := E.c1 HS.out; clear hS2)
          | (go_at_fn (ρ.f 30); refine (IH.out a i ((a + b) / 2) _ _ _ _ _ ((E.box _).move HS.out hZ.out) (by omega) (by omega) (by omega) (by omega) (by omega) (by have := hZ.out; omega) (by omega)).mono ?_; rintro e w1 ⟨rfl, hS2⟩; replace HS : Hid _ := (sw_trans HS.out (E.box _).hblk (sym_in (lt := lt) f a i ((a + b) / 2) _ (by omega) (by omega) (by have := hZ.out; omega)).size hS2); replace hZ : Hid _ := ((sym_in (lt := lt) f a i ((a + b) / 2) _ (by omega) (by omega) (by have := hZ.out; omega)).size.trans hZ.out); replace c0 := E.c0 HS.out; replace c1 := E.c1 HS.out; clear hS2)
          | (go_at_fn (ρ.f 30); refine (IH.out ((a + b) / 2) ((a + b) / 2 + m - i) b _ _ _ _ _ ((E.box _).move HS.out hZ.out) (by omega) (by omega) (by omega) (by omega) (by omega) (by have := hZ.out; omega) (by omega)).mono ?_; rintro e w1 ⟨rfl, hS2⟩; replace HS : Hid _ := (sw_trans HS.out (E.box _).hblk (sym_in (lt := lt) f ((a + b) / 2) ((a + b) / 2 + m - i) b _ (by omega) (by omega) (by have := hZ.out; omega)).size hS2); replace hZ : Hid _ := ((sym_in (lt := lt) f ((a + b) / 2) ((a + b) / 2 + m - i) b _ (by omega) (by omega) (by have := hZ.out; omega)).size.trans hZ.out); replace c0 := E.c0 HS.out; replace c1 := E.c1 HS.out; clear hS2))
        all_goals
          go_end0
          refine ⟨rfl, ?_⟩
          rw [HQ.out]
          have hD0 := HD.out
          subst hD0
          unfold st3 st2 st1
          have hb3 := E.back HS.out hZ.out
          (repeat' first
            | exact hb3
            | rw [if_pos (by omega)]
            | rw [if_neg (by omega)])
  · have q3 : decide ((m : Int) > ((a : Int) + b) / 2) = false := decide_eq_false (by omega)
    have q4 : decide (((a : Int) + b) / 2 < (m : Int)) = false := decide_eq_false (by omega)
    go_enter L.f30, BodyGt.n30_ntmps ρ
    go_wp2
    go_loopg [18, 19] (b - a) (fun kx s8 s9 wr => ∃ (i j : Nat), s8 = .int .i64 i ∧ s9 = .int .i64 j ∧ a ≤ i ∧ i ≤ j ∧ j ≤ m ∧ j - i ≤ kx ∧ SWD enc k (w.alloc (.cells #[.func (.func g) #[] lb, .func (.func sf) #[] sb] (ρ.t 42))) blk off d wr ∧ ∃ f', j - i ≤ f' ∧ bsr (fun c => !lt d[(a + b) / 2 + m - 1 - c]! d[c]!) f' i j = startOf lt a m b d)
    case atStart => exact ⟨a, m, by congr 1 <;> omega, by congr 1 <;> omega, by omega, by omega, by omega, by omega, SWD.start (E.box _).hH, b - a, by omega, by unfold startOf; rw [if_neg hm, if_neg hm]⟩
    case round =>
      obtain ⟨i, j, rfl, rfl, hmi, hij, hjb, hkx, hS, f', hf', heq⟩ := hrel
      by_cases hlt : (i : Int) < j
      · obtain ⟨f', rfl⟩ : ∃ f2, f' = f2 + 1 := ⟨f' - 1, by omega⟩
        rw [bsr, if_pos (by omega)] at heq
        have c0 := E.c0 hS
        have hl := (E.box _).less hS rfl ((a + b) / 2 + m - 1 - (i + j) / 2) ((i + j) / 2) (((a : Int) + b) / 2 + m - 1 - ((i : Int) + j) / 2) (((i : Int) + j) / 2) (by omega) (by omega) (by omega) (by omega)
        clear hS
        cases hlv : lt d[(a + b) / 2 + m - 1 - (i + j) / 2]! d[(i + j) / 2]! with
        | true =>
          rw [hlv] at hl
          simp only [hlv, ↓reduceIte, Bool.not_true, Bool.not_false, Bool.false_eq_true] at heq
          go_wp2_with (go_at_fn g; refine hl.mono ?_; rintro e w3 ⟨rfl, h3⟩)
          have H3 : Hid _ := h3
          clear h3
          go_roundg ((i + j) / 2 - i)
          case measure => omega
          case rel => exact ⟨i, (i + j) / 2, rfl, by congr 1 <;> omega, by omega, by omega, by omega, Nat.le_refl _, H3.out, f', by omega, heq⟩
        | false =>
          rw [hlv] at hl
          simp only [hlv, ↓reduceIte, Bool.not_true, Bool.not_false, Bool.false_eq_true] at heq
          go_wp2_with (go_at_fn g; refine hl.mono ?_; rintro e w3 ⟨rfl, h3⟩)
          have H3 : Hid _ := h3
          clear h3
          go_roundg (j - ((i + j) / 2 + 1))
          case measure => omega
          case rel => exact ⟨(i + j) / 2 + 1, j, by congr 1 <;> omega, rfl, by omega, by omega, by omega, Nat.le_refl _, H3.out, f', by omega, heq⟩
      · rw [bsr_stop _ _ _ _ (by omega)] at heq
        have hsym := sym_eq (lt := lt) f a m b i d h1 h2 heq.symm
        have HQ : Hid _ := hsym
        obtain ⟨D0, hD0⟩ : ∃ D0 : Array α, D0 = d := ⟨d, rfl⟩
        have HS : Hid (SWD enc k (w.alloc (.cells #[.func (.func g) #[] lb, .func (.func sf) #[] sb] (ρ.t 42))) blk off D0 wr) := by rw [hD0]; exact hS
        have hZ : Hid (D0.size = d.size) := by rw [hD0]; rfl
        have HD : Hid (D0 = d) := hD0
        clear hD0
        have c0 := E.c0 hS
        have c1 := E.c1 hS
        clear hsym heq hS
        go_wp2_with (first
          | (go_at_fn (ρ.f 42); refine (rotate_w L42 ((E.box _).move HS.out hZ.out) i m ((a + b) / 2 + m - i) _ _ _ (by omega) (by omega) (by omega) (by omega) (by omega) (by have := hZ.out; omega)).mono ?_; rintro e w1 ⟨rfl, hS2⟩; replace HS : Hid _ := (sw_trans HS.out (E.box _).hblk (size_rot _ _ _ _) hS2); replace hZ : Hid _ := ((size_rot i m ((a + b) / 2 + m - i) _).trans hZ.out); replace c0 := E.c0 HS.out; replace c1 := E.c1 HS.out; clear hS2)
          | (go_at_fn (ρ.f 30); refine (IH.out a i ((a + b) / 2) _ _ _ _ _ ((E.box _).move HS.out hZ.out) (by omega) (by omega) (by omega) (by omega) (by omega) (by have := hZ.out; omega) (by omega)).mono ?_; rintro e w1 ⟨rfl, hS2⟩; replace HS : Hid _ := (sw_trans HS.out (E.box _).hblk (sym_in (lt := lt) f a i ((a + b) / 2) _ (by omega) (by omega) (by have := hZ.out; omega)).size hS2); replace hZ : Hid _ := ((sym_in (lt := lt) f a i ((a + b) / 2) _ (by omega) (by omega) (by have := hZ.out; omega)).size.trans hZ.out); replace c0 := E.c0 HS.out; replace c1 := E.c1 HS.out; clear hS2)
          | (go_at_fn (ρ.f 30); refine (IH.out ((a + b) / 2) ((a + b) / 2 + m - i) b _ _ _ _ _ ((E.box _).move HS.out hZ.out) (by omega) (by omega) (by omega) (by omega) (by omega) (by have := hZ.out; omega) (by omega)).mono ?_; rintro e w1 ⟨rfl, hS2⟩; replace HS : Hid _ := (sw_trans HS.out (E.box _).hblk (sym_in (lt := lt) f ((a + b) / 2) ((a + b) / 2 + m - i) b _ (by omega) (by omega) (by have := hZ.out; omega)).size hS2); replace hZ : Hid _ := ((sym_in (lt := lt) f ((a + b) / 2) ((a + b) / 2 + m - i) b _ (by omega) (by omega) (by have := hZ.out; omega)).size.trans hZ.out); replace c0 := E.c0 HS.out; replace c1 := E.c1 HS.out; clear hS2))
        all_goals
          go_end0
          refine ⟨rfl, ?_⟩
          rw [HQ.out]
          have hD0 := HD.out
          subst hD0
          unfold st3 st2 st1
          have hb3 := E.back HS.out hZ.out
          (repeat' first
            | exact hb3
            | rw [if_pos (by omega)]
            | rw [if_neg (by omega)])
theorem sym_w (L : LaysGt.n30 P ρ) : ∀ (f a m b : Nat) (d : Array α) (w : World) (x y z : Int), SE P enc k lt g lb sf sb blk off w d → x = a → y = m → z = b → a < m → m < b → b ≤ d.size → b - a ≤ f →
    Calls P (ρ.f 30) #[.agg #[.func (.func g) #[] lb, .func (.func sf) #[] sb], .int .i64 x, .int .i64 y, .int .i64 z] w fun e w' => e = .returned (.tuple #[]) ∧ SWD enc k w blk off (sym lt f a m b d) w' := by
  intro f
  induction f with
  | zero => intros; omega
  | succ f ih =>
    intro a m b d w x y z E hx hy hz ham hmb hb hf
    by_cases h1 : m - a = 1
    · rw [sym, if_pos h1]
      exact sym_one_w L E a m b x y z hx hy hz ham hmb hb h1
    · by_cases h2 : b - m = 1
      · rw [sym, if_neg h1, if_pos h2]
        exact sym_two_w L E a m b x y z hx hy hz ham hmb hb h1 h2
      · exact sym_three_w L E f a m b x y z hx hy hz ham hmb hb hf h1 h2 ih
end Go.Proofs.YtlhhjdlaljmppaaGreat.SA
