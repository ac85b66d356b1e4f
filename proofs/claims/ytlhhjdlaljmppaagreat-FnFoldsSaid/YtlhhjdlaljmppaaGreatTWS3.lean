/- The stable sort's merge at a row of structs, whatever the closure that compares may lay. Over any program. No condition. -/
import Derived.Test.YtlhhjdlaljmppaaGreatTWS
set_option linter.unusedVariables false
set_option linter.unusedSimpArgs false
namespace Go.Proofs.YtlhhjdlaljmppaaGreat.SA
open Go.Shelf Go.RowKit Go.Lib Go.Sort Go.Proofs
variable {P : Program} {ρ : Ren} {α : Type} [Inhabited α] {enc : α → List Value} {k : Nat} {lt : α → α → Bool} {g : Nat} {lb : Array Value} {sf : Nat} {sb : Array Value} {blk off : Nat} {w W W' : World} {d dk d' : Array α}

theorem bsr_stop (p : Nat → Bool) (f i j : Nat) (h : ¬ i < j) : bsr p f i j = i := by
  cases f with
  | zero => rfl
  | succ f => rw [bsr, if_neg h]

set_option maxHeartbeats 2000000 in
set_option maxRecDepth 1000000 in
theorem sym_one_w (L : LaysGt.n30 P ρ) (E : SE P enc k lt g lb sf sb blk off w d) (a m b : Nat) (x y z : Int) (hx : x = a) (hy : y = m) (hz : z = b) (ham : a < m) (hmb : m < b) (hb : b ≤ d.size) (h1 : m - a = 1) :
    Calls P (ρ.f 30) #[.agg #[.func (.func g) #[] lb, .func (.func sf) #[] sb], .int .i64 x, .int .i64 y, .int .i64 z] w fun e w' => e = .returned (.tuple #[]) ∧ SWD enc k w blk off (upS (bsr (fun h => lt d[h]! d[a]!) (b - m) m b - 1 - a) a d) w' := by
  subst hx hy hz
  have mixed := L.mixed; have t0 := L.t0; have a0 := L.a0; have z0 := L.z0; have v0 := L.v0; have t3 := L.t3; have a3 := L.a3; have z3 := L.z3; have v3 := L.v3; have t4 := L.t4; have a4 := L.a4; have z4 := L.z4; have v4 := L.v4; have t26 := L.t26; have a26 := L.a26; have z26 := L.z26; have v26 := L.v26; have t38 := L.t38; have a38 := L.a38; have z38 := L.z38; have v38 := L.v38; have t42 := L.t42; have a42 := L.a42; have z42 := L.z42; have v42 := L.v42; have t47 := L.t47; have a47 := L.a47; have z47 := L.z47; have v47 := L.v47
  have u42 := run_underlying L.t42
  have hsz := E.hsz
  have eg := E.eg
  have q1 : ((m : Int) - (a : Int) == 1) = true := by rw [beq_iff_eq]; omega
  go_enter L.f30, BodyGt.n30_ntmps ρ
  go_wp2
  try simp only [q1]
  go_loopg [8, 9] (b - m) (fun kx s8 s9 wr => ∃ (i j : Nat), s8 = .int .i64 i ∧ s9 = .int .i64 j ∧ m ≤ i ∧ i ≤ j ∧ j ≤ b ∧ j - i ≤ kx ∧ SWD enc k (w.alloc (.cells #[.func (.func g) #[] lb, .func (.func sf) #[] sb] (ρ.t 42))) blk off d wr ∧ ∃ f', j - i ≤ f' ∧ bsr (fun h => lt d[h]! d[a]!) f' i j = bsr (fun h => lt d[h]! d[a]!) (b - m) m b)
  case atStart => exact ⟨m, b, by congr 1 <;> omega, by congr 1 <;> omega, by omega, by omega, by omega, by omega, SWD.start (E.box _).hH, b - m, by omega, rfl⟩
  case round =>
    obtain ⟨i, j, rfl, rfl, hmi, hij, hjb, hkx, hS, f', hf', heq⟩ := hrel
    by_cases hlt : (i : Int) < j
    · obtain ⟨f', rfl⟩ : ∃ f2, f' = f2 + 1 := ⟨f' - 1, by omega⟩
      rw [bsr, if_pos (by omega)] at heq
      have c0 := E.c0 hS
      have hl := (E.box _).less hS rfl ((i + j) / 2) (a) (((i : Int) + j) / 2) ((a : Int)) (by omega) (by omega) (by omega) (by omega)
      clear hS
      cases hlv : lt d[(i + j) / 2]! d[a]! with
      | true =>
        rw [hlv] at hl
        simp only [hlv, ↓reduceIte, Bool.not_true, Bool.not_false, Bool.false_eq_true] at heq
        go_wp2_with (go_at_fn g; refine hl.mono ?_; rintro e w3 ⟨rfl, h3⟩)
        have H3 : Hid _ := h3
        clear h3
        go_roundg (j - ((i + j) / 2 + 1))
        case measure => omega
        case rel => exact ⟨(i + j) / 2 + 1, j, by congr 1 <;> omega, rfl, by omega, by omega, by omega, Nat.le_refl _, H3.out, f', by omega, heq⟩
      | false =>
        rw [hlv] at hl
        simp only [hlv, ↓reduceIte, Bool.not_true, Bool.not_false, Bool.false_eq_true] at heq
        go_wp2_with (go_at_fn g; refine hl.mono ?_; rintro e w3 ⟨rfl, h3⟩)
        have H3 : Hid _ := h3
        clear h3
        go_roundg ((i + j) / 2 - i)
        case measure => omega
        case rel => exact ⟨i, (i + j) / 2, rfl, by congr 1 <;> omega, by omega, by omega, by omega, Nat.le_refl _, H3.out, f', by omega, heq⟩
    · rw [bsr_stop _ _ _ _ (by omega)] at heq
      have HS : Hid _ := hS
      clear hS
      go_wp2
      go_loopg [11] (i - 1 - a) (fun kx s11 wr2 => ∃ (q : Nat) (dk : Array α), s11 = .int .i64 q ∧ a ≤ q ∧ q ≤ i - 1 ∧ i - 1 - q ≤ kx ∧ dk.size = d.size ∧ SWD enc k (w.alloc (.cells #[.func (.func g) #[] lb, .func (.func sf) #[] sb] (ρ.t 42))) blk off dk wr2 ∧ upS (i - 1 - q) q dk = upS (i - 1 - a) a d)
      case atStart => exact ⟨a, d, rfl, by omega, by omega, by omega, rfl, HS.out, rfl⟩
      case round =>
        obtain ⟨q, dk, rfl, haq, hqi, hkx2, hds, hS2, heq2⟩ := hrel
        by_cases hlt2 : (q : Int) < i - 1
        · have c1 := E.c1 hS2
          obtain ⟨W2, hs, hS3⟩ := (E.box _).swap hS2 hds q (q + 1) (q : Int) ((q : Int) + 1) rfl (by omega) (by omega) (by omega)
          have A : Aside _ := hS3
          clear hS3 hS2
          go_wp2
          go_roundg (i - 1 - (q + 1))
          case measure => omega
          case rel =>
            rw [show i - 1 - q = (i - 1 - (q + 1)) + 1 by omega, upS] at heq2
            exact ⟨q + 1, _, by simp, by omega, by omega, Nat.le_refl _, by rw [size_swp]; exact hds, A.out, heq2⟩
        · have HS2 : Hid _ := hS2
          clear hS2
          go_wp2
          (try simp only [Exit.inBlock, Exit.then]); refine bodyPost_ret (results_none rfl _ _ _) rfl ?_
          rw [show i - 1 - q = 0 by omega, upS] at heq2
          exact ⟨rfl, by rw [← heq, ← heq2]; exact E.back HS2.out hds⟩

set_option maxHeartbeats 2000000 in
set_option maxRecDepth 1000000 in
theorem sym_two_w (L : LaysGt.n30 P ρ) (E : SE P enc k lt g lb sf sb blk off w d) (a m b : Nat) (x y z : Int) (hx : x = a) (hy : y = m) (hz : z = b) (ham : a < m) (hmb : m < b) (hb : b ≤ d.size) (h1 : ¬ m - a = 1) (h2 : b - m = 1) :
    Calls P (ρ.f 30) #[.agg #[.func (.func g) #[] lb, .func (.func sf) #[] sb], .int .i64 x, .int .i64 y, .int .i64 z] w fun e w' => e = .returned (.tuple #[]) ∧ SWD enc k w blk off (dnS (m - bsr (fun h => !lt d[m]! d[h]!) (m - a) a m) m d) w' := by
  subst hx hy hz
  have mixed := L.mixed; have t0 := L.t0; have a0 := L.a0; have z0 := L.z0; have v0 := L.v0; have t3 := L.t3; have a3 := L.a3; have z3 := L.z3; have v3 := L.v3; have t4 := L.t4; have a4 := L.a4; have z4 := L.z4; have v4 := L.v4; have t26 := L.t26; have a26 := L.a26; have z26 := L.z26; have v26 := L.v26; have t38 := L.t38; have a38 := L.a38; have z38 := L.z38; have v38 := L.v38; have t42 := L.t42; have a42 := L.a42; have z42 := L.z42; have v42 := L.v42; have t47 := L.t47; have a47 := L.a47; have z47 := L.z47; have v47 := L.v47
  have u42 := run_underlying L.t42
  have hsz := E.hsz
  have eg := E.eg
  have q1 : ((m : Int) - (a : Int) == 1) = false := by rw [beq_eq_false_iff_ne]; omega
  have q2 : ((b : Int) - (m : Int) == 1) = true := by rw [beq_iff_eq]; omega
  go_enter L.f30, BodyGt.n30_ntmps ρ
  go_wp2
  try simp only [q1, q2]
  go_loopg [12, 13] (m - a) (fun kx s8 s9 wr => ∃ (i j : Nat), s8 = .int .i64 i ∧ s9 = .int .i64 j ∧ a ≤ i ∧ i ≤ j ∧ j ≤ m ∧ j - i ≤ kx ∧ SWD enc k (w.alloc (.cells #[.func (.func g) #[] lb, .func (.func sf) #[] sb] (ρ.t 42))) blk off d wr ∧ ∃ f', j - i ≤ f' ∧ bsr (fun h => !lt d[m]! d[h]!) f' i j = bsr (fun h => !lt d[m]! d[h]!) (m - a) a m)
  case atStart => exact ⟨a, m, by congr 1 <;> omega, by congr 1 <;> omega, by omega, by omega, by omega, by omega, SWD.start (E.box _).hH, m - a, by omega, rfl⟩
  case round =>
    obtain ⟨i, j, rfl, rfl, hmi, hij, hjb, hkx, hS, f', hf', heq⟩ := hrel
    by_cases hlt : (i : Int) < j
    · obtain ⟨f', rfl⟩ : ∃ f2, f' = f2 + 1 := ⟨f' - 1, by omega⟩
      rw [bsr, if_pos (by omega)] at heq
      have c0 := E.c0 hS
      have hl := (E.box _).less hS rfl (m) ((i + j) / 2) ((m : Int)) (((i : Int) + j) / 2) (by omega) (by omega) (by omega) (by omega)
      clear hS
      cases hlv : lt d[m]! d[(i + j) / 2]! with
      | true =>
        rw [hlv] at hl
        simp only [hlv, ↓reduceIte, Bool.not_true, Bool.not_false, Bool.false_eq_true] at heq
        go_wp2_with (go_at_fn g; refine hl.mono ?_; rintro e w3 ⟨rfl, h3⟩)
        have H3 : Hid _ := h3
        clear h3
        go_roundg ((i + j) / 2 - i)
        case measure => omega
        case rel => exact ⟨i, (i + j) / 2, rfl, by congr 1 <;> omega, by omega, by omega, by omega, Nat.le_refl _, H3.out, f', by omega, heq⟩
      | false =>
        rw [hlv] at hl
        simp only [hlv, ↓reduceIte, Bool.not_true, Bool.not_false, Bool.false_eq_true] at heq
        go_wp2_with (go_at_fn g; refine hl.mono ?_; rintro e w3 ⟨rfl, h3⟩)
        have H3 : Hid _ := h3
        clear h3
        go_roundg (j - ((i + j) / 2 + 1))
        case measure => omega
        case rel => exact ⟨(i + j) / 2 + 1, j, by congr 1 <;> omega, rfl, by omega, by omega, by omega, Nat.le_refl _, H3.out, f', by omega, heq⟩
    · rw [bsr_stop _ _ _ _ (by omega)] at heq
      have HS : Hid _ := hS
      clear hS
      go_wp2
      go_loopg [15] (m - i) (fun kx s11 wr2 => ∃ (q : Nat) (dk : Array α), s11 = .int .i64 q ∧ i ≤ q ∧ q ≤ m ∧ q - i ≤ kx ∧ dk.size = d.size ∧ SWD enc k (w.alloc (.cells #[.func (.func g) #[] lb, .func (.func sf) #[] sb] (ρ.t 42))) blk off dk wr2 ∧ dnS (q - i) q dk = dnS (m - i) m d)
      case atStart => exact ⟨m, d, rfl, by omega, by omega, by omega, rfl, HS.out, rfl⟩
      case round =>
        obtain ⟨q, dk, rfl, haq, hqi, hkx2, hds, hS2, heq2⟩ := hrel
        by_cases hlt2 : (q : Int) > i
        · have c1 := E.c1 hS2
          obtain ⟨W2, hs, hS3⟩ := (E.box _).swap hS2 hds q (q - 1) (q : Int) ((q : Int) - 1) rfl (by omega) (by omega) (by omega)
          have A : Aside _ := hS3
          clear hS3 hS2
          go_wp2
          go_roundg (q - 1 - i)
          case measure => omega
          case rel =>
            rw [show q - i = (q - 1 - i) + 1 by omega, dnS] at heq2
            exact ⟨q - 1, _, by congr 1 <;> omega, by omega, by omega, Nat.le_refl _, by rw [size_swp]; exact hds, A.out, heq2⟩
        · have HS2 : Hid _ := hS2
          clear hS2
          go_wp2
          (try simp only [Exit.inBlock, Exit.then]); refine bodyPost_ret (results_none rfl _ _ _) rfl ?_
          rw [show q - i = 0 by omega, dnS] at heq2
          exact ⟨rfl, by rw [← heq, ← heq2]; exact E.back HS2.out hds⟩
end Go.Proofs.YtlhhjdlaljmppaaGreat.SA
