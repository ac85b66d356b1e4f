/- The stable sort at a row of structs, whatever the closure that compares may lay: whole. Over any program. No condition. -/
import Derived.Test.YtlhhjdlaljmppaaGreatTWS2
import Derived.Test.YtlhhjdlaljmppaaGreatTWS4
set_option linter.unusedVariables false
set_option linter.unusedSimpArgs false
namespace Go.Proofs.YtlhhjdlaljmppaaGreat.SA
open Go.Shelf Go.RowKit Go.Lib Go.Sort Go.Proofs
variable {P : Program} {ρ : Ren} {α : Type} [Inhabited α] {enc : α → List Value} {k : Nat} {lt : α → α → Bool} {g : Nat} {lb : Array Value} {sf : Nat} {sb : Array Value} {blk off : Nat} {w W W' : World} {d dk d' : Array α}

theorem ins_size (a b : Nat) (d : Array α) (hb : b ≤ d.size) : (Sort.insertionSort lt d a b).size = d.size := (ins_in (lt := lt) a b d hb).size
theorem sym_size (f a m b : Nat) (d : Array α) (h1 : a < m) (h2 : m < b) (hb : b ≤ d.size) : (sym lt f a m b d).size = d.size := (sym_in (lt := lt) f a m b d h1 h2 hb).size

set_option maxHeartbeats 4000000 in
set_option maxRecDepth 1000000 in
theorem stable_w (L : LaysGt.n15 P ρ) (E : SE P enc k lt g lb sf sb blk off w d) (n : Nat) (hn : n ≤ d.size) (hn2 : n < 1152921504606846976) :
    Calls P (ρ.f 15) #[.agg #[.func (.func g) #[] lb, .func (.func sf) #[] sb], .int .i64 n] w fun e w' => e = .returned (.tuple #[]) ∧ SWD enc k w blk off (stableA lt n d) w' := by
  have mixed := L.mixed; have t0 := L.t0; have a0 := L.a0; have z0 := L.z0; have v0 := L.v0; have t3 := L.t3; have a3 := L.a3; have z3 := L.z3; have v3 := L.v3; have t4 := L.t4; have a4 := L.a4; have z4 := L.z4; have v4 := L.v4; have t26 := L.t26; have a26 := L.a26; have z26 := L.z26; have v26 := L.v26; have t38 := L.t38; have a38 := L.a38; have z38 := L.z38; have v38 := L.v38; have t42 := L.t42; have a42 := L.a42; have z42 := L.z42; have v42 := L.v42; have t47 := L.t47; have a47 := L.a47; have z47 := L.z47; have v47 := L.v47
  have u42 := run_underlying L.t42
  have hsz := E.hsz
  have e29 : ∀ args w, (callFunc (ρ.f 29) args).run P w = .ok (.enter (ρ.f 29) args) w := enters_of L.f29 (by kernel_rfl) rfl
  have e30 : ∀ args w, (callFunc (ρ.f 30) args).run P w = .ok (.enter (ρ.f 30) args) w := enters_of L.f30 (by kernel_rfl) rfl
  have L29 : LaysGt.n29 P ρ := { L with }
  have L30 : LaysGt.n30 P ρ := { L with }
  go_enter L.f15, BodyGt.n15_ntmps ρ
  go_wp2
  go_loopg [5, 6] n (fun kx s5 s6 wr => ∃ (a : Nat) (dk : Array α), s5 = .int .i64 a ∧ s6 = .int .i64 ((a : Int) + 20) ∧ a ≤ n ∧ n - a ≤ kx ∧ dk.size = d.size ∧ SWD enc k (w.alloc (.cells #[.func (.func g) #[] lb, .func (.func sf) #[] sb] (ρ.t 42))) blk off dk wr ∧ ∃ f, n - a ≤ f ∧ blk1 lt n f a dk = blk1 lt n n 0 d)
  case atStart => exact ⟨0, d, rfl, rfl, by omega, by omega, rfl, SWD.start (E.box _).hH, n, by omega, rfl⟩
  case round =>
    obtain ⟨a, dk, rfl, rfl, han, hkx, hds, hS, f, hf, heq⟩ := hrel
    have c0 := E.c0 hS
    have c1 := E.c1 hS
    have Er := (E.box _).move hS hds
    by_cases hlt : (a : Int) + 20 ≤ n
    · obtain ⟨f, rfl⟩ : ∃ f', f = f' + 1 := ⟨f - 1, by omega⟩
      rw [blk1, if_pos (by omega)] at heq
      have hc := insertion_w L29 Er a (a + 20) (a : Int) ((a : Int) + 20) rfl (by omega) (by omega) (by omega)
      have HS : Hid _ := hS
      have HQ : Hid _ := heq
      have HZ : Hid _ := hds
      clear hS Er heq hds
      go_wp2_with (go_at_fn (ρ.f 29); refine hc.mono ?_; rintro e w1 ⟨rfl, hS2⟩)
      have H2 : Hid _ := hS2
      clear hS2
      go_roundg (n - (a + 20))
      case measure => omega
      case rel =>
        have hz : (Sort.insertionSort lt dk a (a + 20)).size = dk.size := ins_size _ _ _ (by have := HZ.out; omega)
        exact ⟨a + 20, _, by simp, by simp, by omega, Nat.le_refl _, hz.trans HZ.out, sw_trans HS.out (E.box (.cells #[.func (.func g) #[] lb, .func (.func sf) #[] sb] (ρ.t 42))).hblk hz H2.out, f, by omega, HQ.out⟩
    · have heq2 : Sort.insertionSort lt dk a n = blk1 lt n n 0 d := by
        rw [← heq]
        cases f with
        | zero => rfl
        | succ f => rw [blk1, if_neg (by omega)]
      have hc := insertion_w L29 Er a n (a : Int) (n : Int) rfl rfl (by omega) (by omega)
      have hz : (Sort.insertionSort lt dk a n).size = dk.size := ins_size _ _ _ (by omega)
      rw [heq2] at hc hz
      have HS : Hid _ := hS
      have HQ : Hid _ := heq2
      have HZ : Hid (dk.size = d.size) := hds
      have Hz : Hid _ := hz
      clear hS Er heq heq2 hds hz
      go_wp2_with (go_at_fn (ρ.f 29); refine hc.mono ?_; rintro e w1 ⟨rfl, hS2⟩)
      have H1 : Hid (SWD enc k (w.alloc (.cells #[.func (.func g) #[] lb, .func (.func sf) #[] sb] (ρ.t 42))) blk off (blk1 lt n n 0 d) w1) := sw_trans HS.out (E.box (.cells #[.func (.func g) #[] lb, .func (.func sf) #[] sb] (ρ.t 42))).hblk Hz.out hS2
      have HB : Hid ((blk1 lt n n 0 d).size = d.size) := Hz.out.trans HZ.out
      clear hS2
      go_loopg [4] n (fun kx s4 wr => ∃ (bs : Nat) (dk : Array α), s4 = .int .i64 bs ∧ 0 < bs ∧ bs < 2305843009213693952 ∧ n - bs ≤ kx ∧ dk.size = d.size ∧ SWD enc k (w.alloc (.cells #[.func (.func g) #[] lb, .func (.func sf) #[] sb] (ρ.t 42))) blk off dk wr ∧ ∃ f, n ≤ bs + f ∧ outer2 lt n f bs dk = stableA lt n d)
      case atStart => exact ⟨20, _, rfl, by omega, by omega, by omega, HB.out, H1.out, n, by omega, rfl⟩
      case round =>
        obtain ⟨bs, d1, rfl, hbs, hbs2, hkx2, hds1, hS1, f1, hf1, heq1⟩ := hrel
        have hds1' : Hid (d1.size = d.size) := hds1
        have hS1' : Hid (SWD enc k (w.alloc (.cells #[.func (.func g) #[] lb, .func (.func sf) #[] sb] (ρ.t 42))) blk off d1 wr) := hS1
        clear hS1 hds1
        by_cases hlt2 : (bs : Int) < n
        · obtain ⟨f1, rfl⟩ : ∃ f', f1 = f' + 1 := ⟨f1 - 1, by omega⟩
          rw [outer2, if_pos (by omega)] at heq1
          have HQ1 : Hid _ := heq1
          clear heq1
          go_wp2
          go_loopg [5, 6] n (fun kx s5 s6 wr => ∃ (a : Nat) (dk : Array α), s5 = .int .i64 a ∧ s6 = .int .i64 ((a : Int) + 2 * bs) ∧ a ≤ n ∧ n - a ≤ kx ∧ dk.size = d.size ∧ SWD enc k (w.alloc (.cells #[.func (.func g) #[] lb, .func (.func sf) #[] sb] (ρ.t 42))) blk off dk wr ∧ ∃ f, n ≤ a + f ∧ inner2 lt n bs f a dk = inner2 lt n bs n 0 d1)
          case atStart => exact ⟨0, d1, rfl, by congr 1 <;> omega, by omega, by omega, hds1'.out, hS1'.out, n, by omega, rfl⟩
          case round =>
            obtain ⟨a, d2, rfl, rfl, han2, hkx3, hds2, hS2, f2, hf2, heq2⟩ := hrel
            have c0 := E.c0 hS2
            have c1 := E.c1 hS2
            have Er2 := (E.box _).move hS2 hds2
            have hds2' : Hid (d2.size = d.size) := hds2
            have hS2' : Hid (SWD enc k (w.alloc (.cells #[.func (.func g) #[] lb, .func (.func sf) #[] sb] (ρ.t 42))) blk off d2 wr) := hS2
            clear hS2
            by_cases hlt3 : (a : Int) + 2 * bs ≤ n
            · obtain ⟨f2, rfl⟩ : ∃ f', f2 = f' + 1 := ⟨f2 - 1, by omega⟩
              rw [inner2, if_pos (by omega)] at heq2
              have HQ2 : Hid _ := heq2
              have hz : Hid ((sym lt n a (a + bs) (a + 2 * bs) d2).size = d2.size) := sym_size _ _ _ _ _ (by omega) (by omega) (by omega)
              have hc := sym_w L30 n a (a + bs) (a + 2 * bs) d2 wr (a : Int) ((a : Int) + bs) ((a : Int) + 2 * bs) Er2 rfl (by omega) (by omega) (by omega) (by omega) (by omega) (by omega)
              clear heq2 Er2 hds2
              go_wp2_with (go_at_fn (ρ.f 30); refine hc.mono ?_; rintro e w1 ⟨rfl, hS3⟩)
              have H3 : Hid _ := hS3
              clear hS3
              go_roundg (n - (a + 2 * bs))
              case measure => omega
              case rel =>
                exact ⟨a + 2 * bs, _, by congr 1 <;> omega, by congr 1 <;> omega, by omega, Nat.le_refl _, hz.out.trans hds2'.out, sw_trans hS2'.out (E.box (.cells #[.func (.func g) #[] lb, .func (.func sf) #[] sb] (ρ.t 42))).hblk hz.out H3.out, f2, by omega, HQ2.out⟩
            · by_cases hm : (a : Int) + bs < n
              · have heq3 : sym lt n a (a + bs) n d2 = inner2 lt n bs n 0 d1 := by
                  rw [← heq2]
                  cases f2 with
                  | zero => rw [inner2, if_pos (by omega)]
                  | succ f2 => rw [inner2, if_neg (by omega), if_pos (by omega)]
                have hz : Hid ((inner2 lt n bs n 0 d1).size = d2.size) := by rw [← heq3]; exact sym_size _ _ _ _ _ (by omega) (by omega) (by omega)
                have hc := sym_w L30 n a (a + bs) n d2 wr (a : Int) ((a : Int) + bs) (n : Int) Er2 rfl (by omega) rfl (by omega) (by omega) (by omega) (by omega)
                rw [heq3] at hc
                clear heq2 heq3 Er2 hds2
                go_wp2_with (go_at_fn (ρ.f 30); refine hc.mono ?_; rintro e w1 ⟨rfl, hS3⟩)
                have H3 : Hid _ := hS3
                clear hS3
                go_roundg (n - bs * 2)
                case measure => omega
                case rel =>
                  exact ⟨bs * 2, _, by congr 1 <;> omega, by omega, by omega, Nat.le_refl _, hz.out.trans hds2'.out, sw_trans hS2'.out (E.box (.cells #[.func (.func g) #[] lb, .func (.func sf) #[] sb] (ρ.t 42))).hblk hz.out H3.out, f1, by omega, HQ1.out⟩
              · have heq3 : d2 = inner2 lt n bs n 0 d1 := by
                  rw [← heq2]
                  cases f2 with
                  | zero => rw [inner2, if_neg (by omega)]
                  | succ f2 => rw [inner2, if_neg (by omega), if_neg (by omega)]
                have HQ3 : Hid _ := heq3
                clear heq2 heq3 Er2 hds2
                go_wp2
                go_roundg (n - bs * 2)
                case measure => omega
                case rel =>
                  exact ⟨bs * 2, _, by congr 1 <;> omega, by omega, by omega, Nat.le_refl _, hds2'.out, hS2'.out, f1, by omega, by rw [HQ3.out]; exact HQ1.out⟩
        · have heq2 : d1 = stableA lt n d := by
            rw [← heq1]
            cases f1 with
            | zero => rfl
            | succ f1 => rw [outer2, if_neg (by omega)]
          have HQ1 : Hid _ := heq2
          clear heq1 heq2
          go_wp2
          go_end0
          exact ⟨rfl, by rw [← HQ1.out]; exact E.back hS1'.out hds1'.out⟩
end Go.Proofs.YtlhhjdlaljmppaaGreat.SA
