/- The stable sort's insertion sort at a row of structs, whatever the closure that compares may lay. Over any program. No condition. -/
import Derived.Test.YtlhhjdlaljmppaaGreatTWS
set_option linter.unusedVariables false
set_option linter.unusedSimpArgs false
namespace Go.Proofs.YtlhhjdlaljmppaaGreat.SA
open Go.Shelf Go.RowKit Go.Lib Go.Sort Go.Proofs
variable {P : Program} {ρ : Ren} {α : Type} [Inhabited α] {enc : α → List Value} {k : Nat} {lt : α → α → Bool} {g : Nat} {lb : Array Value} {sf : Nat} {sb : Array Value} {blk off : Nat} {w W W' : World} {d dk d' : Array α}

set_option maxHeartbeats 2000000 in
set_option maxRecDepth 1000000 in
theorem insertion_w (L : LaysGt.n29 P ρ) (E : SE P enc k lt g lb sf sb blk off w d) (a b : Nat) (x y : Int) (hx : x = a) (hy : y = b) (hab : a ≤ b) (hb : b ≤ d.size) :
    Calls P (ρ.f 29) #[.agg #[.func (.func g) #[] lb, .func (.func sf) #[] sb], .int .i64 x, .int .i64 y] w fun e w' => e = .returned (.tuple #[]) ∧ SWD enc k w blk off (Sort.insertionSort lt d a b) w' := by
  subst hx hy
  have mixed := L.mixed; have t0 := L.t0; have a0 := L.a0; have z0 := L.z0; have v0 := L.v0; have t3 := L.t3; have a3 := L.a3; have z3 := L.z3; have v3 := L.v3; have t4 := L.t4; have a4 := L.a4; have z4 := L.z4; have v4 := L.v4; have t26 := L.t26; have a26 := L.a26; have z26 := L.z26; have v26 := L.v26; have t38 := L.t38; have a38 := L.a38; have z38 := L.z38; have v38 := L.v38; have t42 := L.t42; have a42 := L.a42; have z42 := L.z42; have v42 := L.v42
  have u42 := run_underlying L.t42
  have hsz := E.hsz
  have eg := E.eg
  go_enter L.f29, BodyGt.n29_ntmps ρ
  go_wp2
  go_loopw [6] (fun vi wr => ∃ (i : Nat) (dk : Array α), vi = .int .i64 i ∧ a < i ∧ i ≤ b + 1 ∧ dk.size = d.size ∧ SWD enc k (w.alloc (.cells #[.func (.func g) #[] lb, .func (.func sf) #[] sb] (ρ.t 42))) blk off dk wr ∧
      insOuter lt a b i dk = insOuter lt a b (a + 1) d) (fun vi _ => b + 1 - (intOf vi).toNat)
  case atStart => exact ⟨a + 1, d, by go_num, by omega, by omega, rfl, SWD.start (E.box _).hH, rfl⟩
  case round =>
    obtain ⟨i, dk, rfl, hai, hib, hsk, hS, hO⟩ := hrel
    have HO : Hid (insOuter lt a b i dk = insOuter lt a b (a + 1) d) := hO
    have HS : Hid (SWD enc k (w.alloc (.cells #[.func (.func g) #[] lb, .func (.func sf) #[] sb] (ρ.t 42))) blk off dk wr) := hS
    clear hO hS
    go_wp2
    · go_loopw [7] (fun vj wr2 => ∃ (j : Nat) (dj : Array α), vj = .int .i64 j ∧ a ≤ j ∧ j ≤ i ∧ dj.size = d.size ∧ SWD enc k (w.alloc (.cells #[.func (.func g) #[] lb, .func (.func sf) #[] sb] (ρ.t 42))) blk off dj wr2 ∧
          insInner lt a j dj = insInner lt a i dk) (fun vj _ => (intOf vj).toNat)
      case atStart => exact ⟨i, dk, rfl, by omega, Nat.le_refl _, hsk, HS.out, rfl⟩
      case round =>
        obtain ⟨j, dj, rfl, haj, hji, hsj, hS2, hI⟩ := hrel
        have hlt : i < b := by assumption
        have c0 := E.c0 hS2
        have HI : Hid (insInner lt a j dj = insInner lt a i dk) := hI
        have HS2 : Hid (SWD enc k (w.alloc (.cells #[.func (.func g) #[] lb, .func (.func sf) #[] sb] (ρ.t 42))) blk off dj wr) := hS2
        clear hI hS2
        have out : (j ≤ a ∨ lt dj[j]! dj[j - 1]! = false) → ∀ w3, SWD enc k (w.alloc (.cells #[.func (.func g) #[] lb, .func (.func sf) #[] sb] (ρ.t 42))) blk off dj w3 → ∃ i' dk', Value.int .i64 ((i : Int) + 1) = .int .i64 (i' : Nat) ∧ a < i' ∧ i' ≤ b + 1 ∧ dk'.size = d.size ∧
            SWD enc k (w.alloc (.cells #[.func (.func g) #[] lb, .func (.func sf) #[] sb] (ρ.t 42))) blk off dk' w3 ∧ insOuter lt a b i' dk' = insOuter lt a b (a + 1) d := fun hs w3 h3 =>
          ⟨i + 1, dj, by go_num, by omega, by omega, hsj, h3, by rw [← HO.out, insOuter_go _ _ _ _ _ hlt, ← HI.out, insInner_stop _ _ _ _ hs]⟩
        have OUT : Hid _ := out
        clear out
        by_cases hja : a < j
        · have hl := (E.box _).less HS2.out hsj j (j - 1) (j : Int) ((j : Int) - 1) rfl (by omega) (by omega) (by omega)
          cases hlv : lt dj[j]! dj[j - 1]! with
          | true =>
            rw [hlv] at hl
            go_wp2_with (go_at_fn g; refine hl.mono ?_; rintro e w3 ⟨rfl, h3⟩; have c1 := E.c1 h3; obtain ⟨W4, hs, h4⟩ := (E.box _).swap h3 hsj j (j - 1) (j : Int) ((j : Int) - 1) rfl (by omega) (by omega) (by omega); have H4 : Hid _ := h4; clear h3 h4)
            go_roundw
            case rel =>
              (repeat apply Exists.intro)
              refine ⟨⟨j - 1, swp dj j (j - 1), by congr 1 <;> omega, by omega, by omega, by rw [size_swp]; exact hsj, H4.out, ?_⟩, by rw [decide_eq_true hlt, show ((j - 1 : Nat) : Int) = (j : Int) - 1 by omega]⟩
              rw [← HI.out, insInner_go lt a j dj hja hlv]
            case measure => simp [intOf]; omega
          | false =>
            rw [hlv] at hl
            go_wp2_with (go_at_fn g; refine hl.mono ?_; rintro e w3 ⟨rfl, h3⟩)
            have H3 : Hid _ := h3
            clear h3
            go_roundw
            case rel => exact OUT.out (Or.inr hlv) _ H3.out
            case measure => simp [intOf]; omega
        · go_wp2
          go_roundw
          case rel => exact OUT.out (Or.inl (by omega)) _ HS2.out
          case measure => simp [intOf]; omega
    · have hge : ¬ i < b := by assumption
      go_end0
      refine ⟨rfl, ?_⟩
      unfold Sort.insertionSort
      rw [← HO.out, insOuter_stop _ _ _ _ _ hge]
      exact E.back HS.out hsk
end Go.Proofs.YtlhhjdlaljmppaaGreat.SA
