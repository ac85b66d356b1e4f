/- Written by a program of this session over the print of the loaded functions: what each Go function computes, and that the call comes to it. -/
import Derived.Test.YtgooeiibhhbboaaFRC
import Derived.Test.YtgooeiibhhbboaaF0
import Derived.Test.YtgooeiibhhbboaaF6
import Derived.Test.YtgooeiibhhbboaaF9
import Derived.Test.YtgooeiibhhbboaaF10
import Derived.Test.YtgooeiibhhbboaaF11
namespace Go.Proofs.Ytgooeiibhhbboaa.F
open Go.RowKit Go.Proofs.YtgooeiibhhbboaaW.PrintWords Go.Proofs.YtgooeiibhhbboaaW.PrintLast Go.Proofs.YtgooeiibhhbboaaW.PrintMore
attribute [local go_sem] max2_int min2_int max_two min_two max_three min_three max_four min_four   -- for this text's walks alone
set_option linter.unusedVariables false
set_option linter.unusedSimpArgs false

/-! ### impl_foldScore: function 95 -/
def impl_foldScore.l0 : Nat → List (S90) → Int → List (S90) → Int → Int → List Int → Int → Option ((List (S90)) × Int)
  | 0, _, _, _, _, _, _, _ => none
  | k + 1, x6, x7, x12, x13, x14, x230000, x230001 => if x14 < x13 then (if 0 ≤ x14 then (if x14 < (x12.length : Int) then ((impl_foldPitch.f k x230000 x230001 ((rd_T90 x12 x14).f0)).bind fun t235 => ((impl_Note.f x6).bind fun t236 => ((some (([(⟨t235, (rd_T90 x12 x14).f1, (rd_T90 x12 x14).f2⟩ : S90)] : List (S90)) : List (S90))).bind fun y239 => (if t236.length + y239.length < 5864062014805 then ((impl_sortedNotes.f (t236 ++ y239)).bind fun t245 => (if t235 = 0 then (impl_foldScore.l0 k x6 (wrap64 (x7 + 1)) x12 x13 (wrap64 (x14 + 1)) x230000 x230001) else ((impl_IsScore.f k t245).bind fun t248 => (if t248 = true then (impl_foldScore.l0 k t245 x7 x12 x13 (wrap64 (x14 + 1)) x230000 x230001) else (impl_foldScore.l0 k x6 (wrap64 (x7 + 1)) x12 x13 (wrap64 (x14 + 1)) x230000 x230001))))) else (none))))) else (none)) else (none)) else (some (x6, x7))
def impl_foldScore.f (k : Nat) (l0_0 : List Int) (a0_1 : Int) (l1 : List (S90)) : Option ((List (S90)) × Int) := impl_foldScore.l0 k (([] : List (S90))) 0 l1 (l1.length : Int) 0 l0_0 a0_1
theorem impl_foldScore.mono_l : ∀ k, (∀ y0 y1 y2 y3 y4 y5 y6, LeO (impl_foldScore.l0 k y0 y1 y2 y3 y4 y5 y6) (impl_foldScore.l0 (k + 1) y0 y1 y2 y3 y4 y5 y6))
  | 0 => fun _ _ _ _ _ _ _ r h => by simp [impl_foldScore.l0] at h
  | k + 1 => by
    have ih0 := impl_foldScore.mono_l k
    · intro y0 y1 y2 y3 y4 y5 y6
      unfold impl_foldScore.l0
      repeat' first
      | (with_reducible exact ih0 _ _ _ _ _ _ _)
      | (with_reducible exact impl_IsScore.mono _ _)
      | (with_reducible exact impl_foldPitch.mono _ _ _ _)
      | (with_reducible exact LeO.refl _)
      | (with_reducible exact LeO.none _)
      | (with_reducible refine LeO.ite ?_ ?_)
      | (with_reducible refine LeO.bind ?_ (fun _ => ?_))
      | exact ih0 _ _ _ _ _ _ _
      | exact impl_IsScore.mono _ _
      | exact impl_foldPitch.mono _ _ _ _
      | exact LeO.none _
      | refine LeO.ite ?_ ?_
      | refine LeO.bind ?_ (fun _ => ?_)
theorem impl_foldScore.mono : ∀ a0 a1 a2 k, LeO (impl_foldScore.f k a0 a1 a2) (impl_foldScore.f (k + 1) a0 a1 a2) := by
  intro a0 a1 a2 k
  have ih0 := impl_foldScore.mono_l k
  unfold impl_foldScore.f
  repeat' first
      | (with_reducible exact ih0 _ _ _ _ _ _ _)
      | (with_reducible exact impl_IsScore.mono _ _)
      | (with_reducible exact impl_foldPitch.mono _ _ _ _)
      | (with_reducible exact LeO.refl _)
      | (with_reducible exact LeO.none _)
      | (with_reducible refine LeO.ite ?_ ?_)
      | (with_reducible refine LeO.bind ?_ (fun _ => ?_))
      | exact ih0 _ _ _ _ _ _ _
      | exact impl_IsScore.mono _ _
      | exact impl_foldPitch.mono _ _ _ _
      | exact LeO.none _
      | refine LeO.ite ?_ ?_
      | refine LeO.bind ?_ (fun _ => ?_)
set_option maxHeartbeats 8000000 in
set_option maxRecDepth 100000 in
theorem impl_foldScore.calls (k : Nat) (A0_0 : Option Addr) (c0_0 : Nat) (l0_0 : List Int) (a0_1 : Int) (A1 : Option Addr) (c1 : Nat) (l1 : List (S90)) (r1 : List (S90)) (r2 : Int) (w : World) (hr0_0 : Kd.C (Kd.int .i64) w A0_0 l0_0.length l0_0) (hc0_0 : l0_0.length ≤ c0_0) (hr1 : Kd.C k90 w A1 l1.length l1) (hc1 : l1.length ≤ c1) (h : impl_foldScore.f k l0_0 a0_1 l1 = some (r1, r2)) :
    Calls Try.prog 95 #[.agg #[.slice A0_0 l0_0.length c0_0, .int .i64 a0_1], .slice A1 l1.length c1] w fun e w' => ∃ v0_ : Value, e = .returned (.tuple #[v0_, .int .i64 r2]) ∧ Kd.R k90 90 w' w.heap.size (fun _ => True) v0_ r1 ∧ Below w.heap.size w w' := by
  have hu28 := Try.underlying28
  have hu90 := Try.underlying90
  have HR0_0 := Aside0.mk hr0_0
  have HC0_0 := Aside0.mk hc0_0
  clear hr0_0 hc0_0
  have HR1 := Aside0.mk hr1
  have HC1 := Aside0.mk hc1
  clear hr1 hc1
  have HB := Aside0.mk (Below.refl w.heap.size w)
  have H : (impl_foldScore.l0 k (([] : List (S90))) 0 l1 (l1.length : Int) 0 l0_0 a0_1) = some (r1, r2) := h
  clear h
  obtain ⟨y230, hy230⟩ : ∃ y_ : List (S90), y_ = (([] : List (S90))) := ⟨_, rfl⟩
  replace H : (impl_foldScore.l0 k y230 0 l1 (l1.length : Int) 0 l0_0 a0_1) = some (r1, r2) := by first | (rw [hy230]; with_reducible exact H) | (have H2_ := (Option.bind_some _ _).symm.trans H; rw [hy230]; with_reducible exact H2_) | (have H2_ := (Option.bind_some _ _).symm.trans H; with_reducible exact H2_) | with_reducible exact H | (rw [hy230]; exact H) | exact H
  have Ny230 := Aside0.mk hy230
  clear hy230
  have H' := Aside0.mk H
  clear H
  go_enter Try.func95, Try.ntmps95
  go_wp2_with (first | ((with_reducible refine gate_dst (N := 2) rfl ?_); refine box_event ?hg (N := 2) ?hd (cs := #[.slice A0_0 l0_0.length c0_0, .int .i64 a0_1]) (t := 28) ?hr ?_; (case hd => rfl); (case hg => rfl); (case hr => first | (go_simp; done) | (go_simp; rfl)); intro gb229 hg w3 hbox hb; have n0_ := Aside0.mk (below_step (eq0 HB) hb); have n1_ := Aside0.mk (hbox); have n2_ := Aside0.mk ((by rw [hg]; exact (below_size (eq0 HB)) : w.heap.size ≤ gb229)); have n3_ := Aside0.mk ((by rw [hg]; exact (below_size (eq0 HB)) : w.heap.size ≤ gb229)); clear HB; have HB := n0_; have BK229 := n1_; have GW229 := n2_; have GE229 := n3_; clear n0_ n1_ n2_ n3_; clear hb hbox hg) | ((with_reducible refine gate_dst (N := 11) rfl ?_); refine Kd.R_lit k90 _ 90 ?hg (N := 11) ?hd (xs := ([] : List (S90))) (inner := []) (ok := fun _ => True) (okp := fun _ => True) ?hr ?hp (fun _ hk => hk) trivial (Below.refl _ _) (Nat.le_refl _) (by simp) ?_; (case hd => rfl); (case hg => rfl); (case hr => first | (go_simp; done) | (go_simp; rfl)); (case hp => exact (Reps.none _ _)); intro v231 w4 ho5 hb hg_ hnew_; clear hg_ hnew_; (first | rw [← Ny230.out] at ho5 | (simp only [Int.reduceToNat] at ho5; rw [← Ny230.out] at ho5)); have n0_ := Aside0.mk (Kd.R_lower ho5 (below_size (eq1 HB GE229))); have n1_ := Aside0.mk (blk_below (g := gb229) (o := .cells #[.slice A0_0 l0_0.length c0_0, .int .i64 a0_1] 28 (0, 0)) (bq BK229) hb); have n2_ := Aside0.mk (below_step (eq1 HB GE229) hb); clear BK229; clear HB; have HO232 := n0_; have BK229 := n1_; have HB := n2_; clear n0_ n1_ n2_; clear hb ho5))
  go_loopg [6, 7, 14] k (fun kq v6 v7 v14 w' => ∃ (x6_1 : List (S90)) (x7_1 : Int) (x14_1 : Int), v7 = .int .i64 x7_1 ∧ v14 = .int .i64 x14_1 ∧ Aside0 (impl_foldScore.l0 kq x6_1 x7_1 l1 (l1.length : Int) x14_1 l0_0 a0_1 = some (r1, r2)) ∧ Aside0 (kq ≤ k) ∧ Aside0 (Kd.R k90 90 w' w.heap.size (fun _ => True) v6 x6_1) ∧ Aside0 (w'.heap[gb229]? = some (.cells #[(.slice A0_0 l0_0.length c0_0), .int .i64 a0_1] 28 (0, 0))) ∧ Aside0 (Below w.heap.size w w'))
  case atStart => exact ⟨(y230), (0), (0), (by first | rfl | (simp; done) | (simp [*]; done)), (by first | rfl | (simp; done) | (simp [*]; done)), H', ⟨Nat.le_refl _⟩, ⟨kq HO232⟩, ⟨bq BK229⟩, ⟨eq1 HB GE229⟩⟩
  case round =>
    clear H'
    try clear c1
    try clear p2
    obtain ⟨x6_1, x7_1, x14_1, rfl, rfl, HA, HK1, HO_6, BK229, HB⟩ := hrel
    cases gk with
    | zero => exact absurd HA.out (by simp [impl_foldScore.l0])
    | succ k1 =>
      have H := HA.out
      clear HA
      simp only [impl_foldScore.l0] at H
      by_cases c6 : x14_1 < (l1.length : Int)
      · rw [if_pos c6] at H
        have c6b0 : decide (x14_1 < (l1.length : Int)) = true := decide_eq_true c6
        clear c6
        by_cases c7 : 0 ≤ x14_1
        · rw [if_pos c7] at H
          have c7b0 : decide (0 ≤ x14_1) = true := decide_eq_true c7
          clear c7
          by_cases c8 : x14_1 < (l1.length : Int)
          · rw [if_pos c8] at H
            have c8b0 : decide (x14_1 < (l1.length : Int)) = true := decide_eq_true c8
            clear c8
            replace H := Option.bind_eq_some_iff.mp H
            obtain ⟨t235, A90, H⟩ := H
            replace H : ((impl_Note.f x6_1).bind fun t236 => ((some (([(⟨t235, (rd_T90 l1 x14_1).f1, (rd_T90 l1 x14_1).f2⟩ : S90)] : List (S90)) : List (S90))).bind fun y239 => (if t236.length + y239.length < 5864062014805 then ((impl_sortedNotes.f (t236 ++ y239)).bind fun t245 => (if t235 = 0 then (impl_foldScore.l0 k1 x6_1 (wrap64 (x7_1 + 1)) l1 (l1.length : Int) (wrap64 (x14_1 + 1)) l0_0 a0_1) else ((impl_IsScore.f k1 t245).bind fun t248 => (if t248 = true then (impl_foldScore.l0 k1 t245 x7_1 l1 (l1.length : Int) (wrap64 (x14_1 + 1)) l0_0 a0_1) else (impl_foldScore.l0 k1 x6_1 (wrap64 (x7_1 + 1)) l1 (l1.length : Int) (wrap64 (x14_1 + 1)) l0_0 a0_1))))) else (none)))) = some (r1, r2) := H
            have A9 := Aside0.mk A90
            clear A90
            replace H := Option.bind_eq_some_iff.mp H
            obtain ⟨t236, A100, H⟩ := H
            replace H : ((some (([(⟨t235, (rd_T90 l1 x14_1).f1, (rd_T90 l1 x14_1).f2⟩ : S90)] : List (S90)) : List (S90))).bind fun y239 => (if t236.length + y239.length < 5864062014805 then ((impl_sortedNotes.f (t236 ++ y239)).bind fun t245 => (if t235 = 0 then (impl_foldScore.l0 k1 x6_1 (wrap64 (x7_1 + 1)) l1 (l1.length : Int) (wrap64 (x14_1 + 1)) l0_0 a0_1) else ((impl_IsScore.f k1 t245).bind fun t248 => (if t248 = true then (impl_foldScore.l0 k1 t245 x7_1 l1 (l1.length : Int) (wrap64 (x14_1 + 1)) l0_0 a0_1) else (impl_foldScore.l0 k1 x6_1 (wrap64 (x7_1 + 1)) l1 (l1.length : Int) (wrap64 (x14_1 + 1)) l0_0 a0_1))))) else (none))) = some (r1, r2) := H
            have A10 := Aside0.mk A100
            clear A100
            obtain ⟨y239, hy239⟩ : ∃ y_ : List (S90), y_ = (([(⟨t235, (rd_T90 l1 x14_1).f1, (rd_T90 l1 x14_1).f2⟩ : S90)] : List (S90))) := ⟨_, rfl⟩
            replace H : (if t236.length + y239.length < 5864062014805 then ((impl_sortedNotes.f (t236 ++ y239)).bind fun t245 => (if t235 = 0 then (impl_foldScore.l0 k1 x6_1 (wrap64 (x7_1 + 1)) l1 (l1.length : Int) (wrap64 (x14_1 + 1)) l0_0 a0_1) else ((impl_IsScore.f k1 t245).bind fun t248 => (if t248 = true then (impl_foldScore.l0 k1 t245 x7_1 l1 (l1.length : Int) (wrap64 (x14_1 + 1)) l0_0 a0_1) else (impl_foldScore.l0 k1 x6_1 (wrap64 (x7_1 + 1)) l1 (l1.length : Int) (wrap64 (x14_1 + 1)) l0_0 a0_1))))) else (none)) = some (r1, r2) := by first | (rw [hy239]; with_reducible exact H) | (have H2_ := (Option.bind_some _ _).symm.trans H; rw [hy239]; with_reducible exact H2_) | (have H2_ := (Option.bind_some _ _).symm.trans H; with_reducible exact H2_) | with_reducible exact H | (rw [hy239]; exact H) | exact H
            have Ny239 := Aside0.mk hy239
            clear hy239
            by_cases c11 : t236.length + y239.length < 5864062014805
            · rw [if_pos c11] at H
              have LMc11 := Aside0.mk c11
              clear c11
              obtain ⟨y242, hy242⟩ : ∃ y_ : List (S90), y_ = (t236 ++ y239) := ⟨_, rfl⟩
              replace H : ((impl_sortedNotes.f y242).bind fun t245 => (if t235 = 0 then (impl_foldScore.l0 k1 x6_1 (wrap64 (x7_1 + 1)) l1 (l1.length : Int) (wrap64 (x14_1 + 1)) l0_0 a0_1) else ((impl_IsScore.f k1 t245).bind fun t248 => (if t248 = true then (impl_foldScore.l0 k1 t245 x7_1 l1 (l1.length : Int) (wrap64 (x14_1 + 1)) l0_0 a0_1) else (impl_foldScore.l0 k1 x6_1 (wrap64 (x7_1 + 1)) l1 (l1.length : Int) (wrap64 (x14_1 + 1)) l0_0 a0_1))))) = some (r1, r2) := by first | (rw [hy242]; with_reducible exact H) | (have H2_ := (Option.bind_some _ _).symm.trans H; rw [hy242]; with_reducible exact H2_) | (have H2_ := (Option.bind_some _ _).symm.trans H; with_reducible exact H2_) | with_reducible exact H | (rw [hy242]; exact H) | exact H
              have Ny242 := Aside0.mk hy242
              clear hy242
              replace H := Option.bind_eq_some_iff.mp H
              obtain ⟨t245, A120, H⟩ := H
              replace H : (if t235 = 0 then (impl_foldScore.l0 k1 x6_1 (wrap64 (x7_1 + 1)) l1 (l1.length : Int) (wrap64 (x14_1 + 1)) l0_0 a0_1) else ((impl_IsScore.f k1 t245).bind fun t248 => (if t248 = true then (impl_foldScore.l0 k1 t245 x7_1 l1 (l1.length : Int) (wrap64 (x14_1 + 1)) l0_0 a0_1) else (impl_foldScore.l0 k1 x6_1 (wrap64 (x7_1 + 1)) l1 (l1.length : Int) (wrap64 (x14_1 + 1)) l0_0 a0_1)))) = some (r1, r2) := H
              have A12 := Aside0.mk A120
              clear A120
              by_cases c13 : t235 = 0
              · rw [if_pos c13] at H
                have c13b0 : (t235 == 0) = true := beq_iff_eq.mpr c13
                have c13b1 : (t235 != 0) = false := bne_eq_false_iff_eq.mpr c13
                clear c13
                have H' := Aside0.mk H
                clear H
                have p233 : 0 ≤ (x14_1 : Int) := of_decide_eq_true (by first | (with_reducible assumption) | assumption)
                have q233 : x14_1 < (l1.length : Int) := of_decide_eq_true (by first | (with_reducible assumption) | assumption)
                obtain ⟨ad233, e233, hx233_0, hx233_1, hx233_2⟩ := at_T90 HR1.out x14_1 p233 q233
                cases e233
                replace hx233_0 := (HB.out.cell (World.block_lt_of_cell? w _ hx233_0)).trans hx233_0
                replace hx233_1 := (HB.out.cell (World.block_lt_of_cell? w _ hx233_1)).trans hx233_1
                replace hx233_2 := (HB.out.cell (World.block_lt_of_cell? w _ hx233_2)).trans hx233_2
                replace p233 := eq_true p233
                replace q233 := eq_true q233
                try go_wp2_with (first | ((with_reducible refine gate_dst (N := 9) rfl ?_); refine box_event ?hg (N := 9) ?hd (cs := #[.int .i64 0, .int .i64 0, .int .i64 0]) (t := 90) ?hr ?_; (case hd => rfl); (case hg => rfl); (case hr => first | (go_simp; done) | (go_simp; rfl)); intro gb234 hg w14 hbox hb; have n0_ := Aside0.mk (Kd.R_below (Kd.R_elderB (kq HO_6) gb234 (Nat.le_of_eq hg.symm)) hb); have n1_ := Aside0.mk (blk_below (g := gb229) (o := .cells #[.slice A0_0 l0_0.length c0_0, .int .i64 a0_1] 28 (0, 0)) (bq BK229) hb); have n2_ := Aside0.mk (below_step (eq1 HB GE229) hb); have n3_ := Aside0.mk (hbox); have n4_ := Aside0.mk ((by rw [hg]; exact (below_size (eq1 HB GE229)) : w.heap.size ≤ gb234)); have n5_ := Aside0.mk ((by rw [hg]; exact (below_size (eq1 HB GE229)) : w.heap.size ≤ gb234)); have n6_ := Aside0.mk ((by rw [hg]; exact Nat.ne_of_lt (blk_lt (g := gb229) (o := .cells #[.slice A0_0 l0_0.length c0_0, .int .i64 a0_1] 28 (0, 0)) (bq BK229)) : gb229 ≠ gb234)); have n7_ := Aside0.mk ((by rw [hg]; exact Nat.ne_of_gt (blk_lt (g := gb229) (o := .cells #[.slice A0_0 l0_0.length c0_0, .int .i64 a0_1] 28 (0, 0)) (bq BK229)) : gb234 ≠ gb229)); clear HO_6; clear BK229; clear HB; have HO_6 := n0_; have BK229 := n1_; have HB := n2_; have BK234 := n3_; have GW234 := n4_; have GE234 := n5_; have NB229_234 := n6_; have NB234_229 := n7_; clear n0_ n1_ n2_ n3_ n4_ n5_ n6_ n7_; clear hb hbox hg; have hnb15 := NB234_229.out; have hnc15 := NB229_234.out; have hcz16_0 : w14.cell? ⟨gb234, 0, none⟩ = some (.int .i64 0) := (blk_cell BK234.out 0).trans rfl; have hcz16_1 : w14.cell? ⟨gb234, 1, none⟩ = some (.int .i64 0) := (blk_cell BK234.out 1).trans rfl; have hcz16_2 : w14.cell? ⟨gb234, 2, none⟩ = some (.int .i64 0) := (blk_cell BK234.out 2).trans rfl; have hfz16_0 := blk_frozen BK234.out 0; have hfz16_1 := blk_frozen BK234.out 1; have hfz16_2 := blk_frozen BK234.out 2; have hcz17_0 : w14.cell? ⟨gb229, 0, none⟩ = some (.slice A0_0 l0_0.length c0_0) := (blk_cell BK229.out 0).trans rfl; have hcz17_1 : w14.cell? ⟨gb229, 1, none⟩ = some (.int .i64 a0_1) := (blk_cell BK229.out 1).trans rfl; have hfz17_0 := blk_frozen BK229.out 0; have hfz17_1 := blk_frozen BK229.out 1) | ((with_reducible refine gate_callee (f := 79) rfl ?_); refine goesL_ (some 21) rfl rfl Try.func79 (by kernel_rfl) rfl #[.agg #[.slice A0_0 l0_0.length c0_0, .int .i64 a0_1], .int .i64 ((rd_T90 l1 x14_1).f0)] rfl (by (try simp only [List.map_toArray, List.map_cons, List.map_nil]); first | done | rfl | (simp only [List.length_drop, List.length_take]; rfl)) ?_; (with_reducible refine (impl_foldPitch.calls k1 _ _ l0_0 a0_1 ((rd_T90 l1 x14_1).f0) t235 _ ?side1 ?side2 A9.out).mono ?_); (case side1 => exact Kd.C_below HR0_0.out (eq2 HB GE229 GE234)); (case side2 => exact HC0_0.out); rintro e w18 ⟨rfl, hb⟩; refine ⟨_, rfl, ?_⟩; have n0_ := Aside0.mk (Kd.R_below (by (with_reducible repeat (first | apply Kd.R_alloc | apply Kd.R_drewN | apply Kd.R_drew)); exact (Kd.R_mono (Kd.R_far (p := ⟨gb234, 2, none⟩) (Kd.R_far (p := ⟨gb234, 1, none⟩) (Kd.R_far (p := ⟨gb234, 0, none⟩) (Kd.R_mono HO_6.out (fun k_ hk => (⟨hk, hk.2⟩ : _ ∧ k_ ≠ gb234))) (fun _ hk => hk.2) (.int .i64 ((rd_T90 l1 x14_1).f0))) (fun _ hk => hk.2) (.int .i64 ((rd_T90 l1 x14_1).f1))) (fun _ hk => hk.2) (.int .i64 ((rd_T90 l1 x14_1).f2))) (fun _ h_ => h_.1))) hb); have n1_ := Aside0.mk (blk_below (g := gb229) (o := .cells #[.slice A0_0 l0_0.length c0_0, .int .i64 a0_1] 28 (0, 0)) (by (with_reducible repeat (first | refine blk_drewN ?_ _ | refine blk_drew ?_ | refine blk_alloc ?_ _)); refine blk_far ?_ NB229_234.out _; (with_reducible repeat (first | refine blk_drewN ?_ _ | refine blk_drew ?_ | refine blk_alloc ?_ _)); refine blk_far ?_ NB229_234.out _; (with_reducible repeat (first | refine blk_drewN ?_ _ | refine blk_drew ?_ | refine blk_alloc ?_ _)); refine blk_far ?_ NB229_234.out _; (with_reducible repeat (first | refine blk_drewN ?_ _ | refine blk_drew ?_ | refine blk_alloc ?_ _)); exact BK229.out) hb); have n2_ := Aside0.mk (blk_below (g := gb234) (o := .cells #[.int .i64 ((rd_T90 l1 x14_1).f0), .int .i64 ((rd_T90 l1 x14_1).f1), .int .i64 ((rd_T90 l1 x14_1).f2)] 90 (0, 0)) (by (with_reducible repeat (first | refine blk_drewN ?_ _ | refine blk_drew ?_ | refine blk_alloc ?_ _)); refine blk_put (cs := #[.int .i64 ((rd_T90 l1 x14_1).f0), .int .i64 ((rd_T90 l1 x14_1).f1), .int .i64 0]) ?_ 2 _ rfl; (with_reducible repeat (first | refine blk_drewN ?_ _ | refine blk_drew ?_ | refine blk_alloc ?_ _)); refine blk_put (cs := #[.int .i64 ((rd_T90 l1 x14_1).f0), .int .i64 0, .int .i64 0]) ?_ 1 _ rfl; (with_reducible repeat (first | refine blk_drewN ?_ _ | refine blk_drew ?_ | refine blk_alloc ?_ _)); refine blk_put (cs := #[.int .i64 0, .int .i64 0, .int .i64 0]) ?_ 0 _ rfl; (with_reducible repeat (first | refine blk_drewN ?_ _ | refine blk_drew ?_ | refine blk_alloc ?_ _)); exact BK234.out) hb); have n3_ := Aside0.mk (below_step (eq2 HB GE229 GE234) hb); clear HO_6; clear BK229; clear BK234; clear HB; have HO_6 := n0_; have BK229 := n1_; have BK234 := n2_; have HB := n3_; clear n0_ n1_ n2_ n3_; (try clear hb); (try clear hb2); (try clear hk); (try clear hi); have hcz19_0 : w18.cell? ⟨gb234, 0, none⟩ = some (.int .i64 ((rd_T90 l1 x14_1).f0)) := (blk_cell BK234.out 0).trans rfl; have hcz19_1 : w18.cell? ⟨gb234, 1, none⟩ = some (.int .i64 ((rd_T90 l1 x14_1).f1)) := (blk_cell BK234.out 1).trans rfl; have hcz19_2 : w18.cell? ⟨gb234, 2, none⟩ = some (.int .i64 ((rd_T90 l1 x14_1).f2)) := (blk_cell BK234.out 2).trans rfl; have hfz19_0 := blk_frozen BK234.out 0; have hfz19_1 := blk_frozen BK234.out 1; have hfz19_2 := blk_frozen BK234.out 2; obtain ⟨Ao20, co20, eo20⟩ := Kd.R_slice HO_6.out; subst eo20))
                have n0_ : Aside0 (Kd.R k90 90 (w18.setCell ⟨gb234, 0, none⟩ (.int .i64 t235)) w.heap.size (fun k_ => k_ ≠ gb234) (.slice Ao20 x6_1.length co20) x6_1) := ⟨by (with_reducible repeat (first | apply Kd.R_alloc | apply Kd.R_drewN | apply Kd.R_drew)); exact Kd.R_mono (Kd.R_far (p := ⟨gb234, 0, none⟩) (Kd.R_mono HO_6.out (fun k_ hk => (⟨hk, hk.2⟩ : _ ∧ k_ ≠ gb234))) (fun _ hk => hk.2) (.int .i64 t235)) (fun _ hk => hk.1.2)⟩
                have n1_ : Aside0 ((w18.setCell ⟨gb234, 0, none⟩ (.int .i64 t235)).heap[gb229]? = some (.cells #[.slice A0_0 l0_0.length c0_0, .int .i64 a0_1] 28 (0, 0))) := ⟨by (with_reducible repeat (first | refine blk_drewN ?_ _ | refine blk_drew ?_ | refine blk_alloc ?_ _)); refine blk_far ?_ NB229_234.out _; (with_reducible repeat (first | refine blk_drewN ?_ _ | refine blk_drew ?_ | refine blk_alloc ?_ _)); exact BK229.out⟩
                have n2_ : Aside0 ((w18.setCell ⟨gb234, 0, none⟩ (.int .i64 t235)).heap[gb234]? = some (.cells #[.int .i64 t235, .int .i64 ((rd_T90 l1 x14_1).f1), .int .i64 ((rd_T90 l1 x14_1).f2)] 90 (0, 0))) := ⟨by (with_reducible repeat (first | refine blk_drewN ?_ _ | refine blk_drew ?_ | refine blk_alloc ?_ _)); refine blk_put (cs := #[.int .i64 ((rd_T90 l1 x14_1).f0), .int .i64 ((rd_T90 l1 x14_1).f1), .int .i64 ((rd_T90 l1 x14_1).f2)]) ?_ 0 _ rfl; (with_reducible repeat (first | refine blk_drewN ?_ _ | refine blk_drew ?_ | refine blk_alloc ?_ _)); exact BK234.out⟩
                have n3_ : Aside0 (Below w.heap.size w (w18.setCell ⟨gb234, 0, none⟩ (.int .i64 t235))) := ⟨eq2 HB GE229 GE234⟩
                (try clear HO_6)
                (try clear BK229)
                (try clear BK234)
                (try clear HB)
                generalize (w18.setCell ⟨gb234, 0, none⟩ (.int .i64 t235)) = w21 at n0_ n1_ n2_ n3_ ⊢
                have HO_6 := n0_
                have BK229 := n1_
                have BK234 := n2_
                have HB := n3_
                clear n0_ n1_ n2_ n3_
                have n0_ := Aside0.mk (Kd.R_drew HO_6.out)
                have n1_ := Aside0.mk (blk_drew BK229.out)
                have n2_ := Aside0.mk (blk_drew BK234.out)
                have n3_ := Aside0.mk (below_drew1 HB.out)
                clear HO_6
                clear BK229
                clear BK234
                clear HB
                have HO_6 := n0_
                have BK229 := n1_
                have BK234 := n2_
                have HB := n3_
                clear n0_ n1_ n2_ n3_
                refine start_ (n := 7) (S := fun w' => w'.cell? ⟨gb234, 0, none⟩ = some (.int .i64 t235) ∧ w'.cell? ⟨gb234, 1, none⟩ = some (.int .i64 ((rd_T90 l1 x14_1).f1)) ∧ w'.cell? ⟨gb234, 2, none⟩ = some (.int .i64 ((rd_T90 l1 x14_1).f2))) (ds := []) #[false, false, false, false, false, false, false] (by kernel_rfl) rfl rfl ⟨(blk_cell BK234.out 0).trans rfl, (blk_cell BK234.out 1).trans rfl, (blk_cell BK234.out 2).trans rfl⟩ (fun hHeld => ?_)
                generalize w21.drew = w22 at HO_6 BK229 BK234 HB hHeld ⊢
                refine pure_ (i := 0) (N := some 23) (v := ?_) (a' := ?_) #[true, false, false, false, false, false, false] rfl rfl (by kernel_rfl) (fun _ _ _ h => h) (Or.inl ⟨by rfl, ?_⟩) ?_ ?_
                rotate_left
                · intro w'
                  go_simp
                  with_reducible rfl
                rotate_left
                · simp only [Act.put, List.setIfInBounds_toArray, List.set_cons_zero, List.set_cons_succ, i64_w, i32_w]
                  rfl
                refine take_ (i := 2) (N := some 25) (v := ?_) (a' := ?_) #[true, false, true, false, false, false, false] rfl rfl (by kernel_rfl) (fun _ _ _ h => h) (Or.inl ⟨by rfl, ?_⟩) hHeld ?_ ?_
                rotate_left
                · rintro w' ⟨s0, s1, s2⟩
                  go_simp
                  with_reducible rfl
                rotate_left
                · simp only [Act.put, List.setIfInBounds_toArray, List.set_cons_zero, List.set_cons_succ, i64_w, i32_w]
                  rfl
                refine join_ (σ := Value × Value) 3 #[true, true, true, true, false, false, false] (fun s_ => [(24, s_.1), (26, s_.2)]) (fun s_ w' => (w'.cell? ⟨gb234, 0, none⟩ = some (.int .i64 t235) ∧ w'.cell? ⟨gb234, 1, none⟩ = some (.int .i64 ((rd_T90 l1 x14_1).f1)) ∧ w'.cell? ⟨gb234, 2, none⟩ = some (.int .i64 ((rd_T90 l1 x14_1).f2))) ∧ (Kd.R k90 90 w' w.heap.size (fun k_ => some k_ ≠ (s_.2 : Value).ownBlock ∧ some k_ ≠ (.slice Ao20 x6_1.length co20 : Value).ownBlock ∧ k_ ≠ gb234) s_.1 t236) ∧ (Kd.R k90 90 w' w.heap.size (fun k_ => some k_ ≠ (s_.1 : Value).ownBlock ∧ some k_ ≠ (.slice Ao20 x6_1.length co20 : Value).ownBlock ∧ k_ ≠ gb234) s_.2 y239) ∧ (Kd.R k90 90 w' w.heap.size (fun k_ => some k_ ≠ (s_.1 : Value).ownBlock ∧ some k_ ≠ (s_.2 : Value).ownBlock ∧ k_ ≠ gb234) (.slice Ao20 x6_1.length co20) x6_1) ∧ (w'.heap[gb229]? = some (.cells #[.slice A0_0 l0_0.length c0_0, .int .i64 a0_1] 28 (0, 0))) ∧ (w'.heap[gb234]? = some (.cells #[.int .i64 t235, .int .i64 ((rd_T90 l1 x14_1).f1), .int .i64 ((rd_T90 l1 x14_1).f2)] 90 (0, 0))) ∧ (Below w.heap.size w w')) ?_ ?_
                rotate_left
                · intro hCont
                  refine two_ (i := 1) (j := 3) (Ni := some 24) (Nj := some 26) #[true, true, true, false, false, false, false] #[true, false, true, true, false, false, false] rfl rfl rfl rfl (by kernel_rfl) (by decide) (by decide) (fun K hK => ?_) (fun K hK => ?_)
                  · skip
                    refine goes_ Try.func99 (by kernel_rfl) rfl #[.slice Ao20 x6_1.length co20] (by rfl) rfl rfl (by (try simp only [List.map_toArray, List.map_cons, List.map_nil]); first | done | rfl | (simp only [List.length_drop, List.length_take]; rfl)) ?_
                    with_reducible refine (impl_Note.calls _ _ x6_1 t236 _ ?side1 ?side2 A10.out).mono ?_
                    (case side1 => repeat (first | exact (Kd.R_reads' HO_6.out).2.2 | (with_reducible refine Kd.C_alloc ?_ _) | (with_reducible refine Kd.C_drewN ?_ _) | (with_reducible refine Kd.C_drew ?_)))
                    (case side2 => exact (Kd.R_reads' HO_6.out).2.1)
                    rintro e w23 ⟨v237, rfl, ho0, hb⟩
                    refine ⟨_, rfl, ?_⟩
                    have n0_ := Aside0.mk (Kd.R_elder' (kq HO_6) (Kd.R_base ho0) hb)
                    have n1_ := Aside0.mk (Kd.R_lower (Kd.R_newB (Kd.R_new' ho0 (Kd.R_lt (kq HO_6))) (g := gb234) (o := .cells #[.int .i64 t235, .int .i64 ((rd_T90 l1 x14_1).f1), .int .i64 ((rd_T90 l1 x14_1).f2)] 90 (0, 0)) (bq BK234)) (below_size (eq2 HB GE229 GE234)))
                    have n2_ := Aside0.mk (blk_below (g := gb229) (o := .cells #[.slice A0_0 l0_0.length c0_0, .int .i64 a0_1] 28 (0, 0)) (bq BK229) hb)
                    have n3_ := Aside0.mk (blk_below (g := gb234) (o := .cells #[.int .i64 t235, .int .i64 ((rd_T90 l1 x14_1).f1), .int .i64 ((rd_T90 l1 x14_1).f2)] 90 (0, 0)) (bq BK234) hb)
                    have n4_ := Aside0.mk (below_step (eq2 HB GE229 GE234) hb)
                    clear HO_6
                    clear BK229
                    clear BK234
                    clear HB
                    have HO_6 := n0_
                    have HO238 := n1_
                    have BK229 := n2_
                    have BK234 := n3_
                    have HB := n4_
                    clear n0_ n1_ n2_ n3_ n4_
                    (try clear hb)
                    (try clear hb2)
                    (try clear hk)
                    (try clear hi)
                    (try clear ho0)
                    refine hK.out _ _ ⟨(blk_cell BK234.out 0).trans rfl, (blk_cell BK234.out 1).trans rfl, (blk_cell BK234.out 2).trans rfl⟩ (fun hHeld => ?_)
                    clear hK K
                    refine norm_ (a' := ?_) ?_ ?_
                    rotate_left
                    · show Act.put _ (some 24) _ = _
                      simp only [Act.put, List.setIfInBounds_toArray, List.set_cons_zero, List.set_cons_succ, i64_w, i32_w]
                      rfl
                    refine one_ (i := 3) (N := some 26) #[true, true, true, true, false, false, false] rfl rfl (by kernel_rfl) (by decide) (fun K hK => ?_)
                    refine Kd.R_lit_step k90 _ 90 ?hg (N := 26) ?hd (xs := ([(⟨t235, (rd_T90 l1 x14_1).f1, (rd_T90 l1 x14_1).f2⟩ : S90)] : List (S90))) (inner := [.int .i64 t235, .int .i64 ((rd_T90 l1 x14_1).f1), .int .i64 ((rd_T90 l1 x14_1).f2)]) (ok := fun _ => True) (okp := fun _ => True) ?hr ?hp (fun _ hk => hk) trivial (Below.refl _ _) (Nat.le_refl _) (by simp) ?_; (case hd => rfl); (case hg => rfl); (case hr => first | (go_simp; done) | (go_simp; rfl)); (case hp => exact (Reps.c3 (show Kd.M k90 _ _ _ (⟨t235, (rd_T90 l1 x14_1).f1, (rd_T90 l1 x14_1).f2⟩ : S90) [.int .i64 t235, .int .i64 ((rd_T90 l1 x14_1).f1), .int .i64 ((rd_T90 l1 x14_1).f2)] from (k90_mkM _ _ _ (⟨t235, (rd_T90 l1 x14_1).f1, (rd_T90 l1 x14_1).f2⟩ : S90) )) (Reps.none _ _)))
                    intro v240 w24 ho25 hb hg_ hnew_
                    clear hg_ hnew_
                    (first | rw [← Ny239.out] at ho25 | (simp only [Int.reduceToNat] at ho25; rw [← Ny239.out] at ho25))
                    have n0_ := Aside0.mk (Kd.R_elder' (kq HO_6) (Kd.R_base ho25) hb)
                    have n1_ := Aside0.mk (Kd.R_elder' (kq HO238) (Kd.R_base ho25) hb)
                    have n2_ := Aside0.mk (Kd.R_lower (Kd.R_newB (Kd.R_new' (Kd.R_new' ho25 (Kd.R_lt (kq HO_6))) (Kd.R_lt (kq HO238))) (g := gb234) (o := .cells #[.int .i64 t235, .int .i64 ((rd_T90 l1 x14_1).f1), .int .i64 ((rd_T90 l1 x14_1).f2)] 90 (0, 0)) (bq BK234)) (below_size (eq2 HB GE229 GE234)))
                    have n3_ := Aside0.mk (blk_below (g := gb229) (o := .cells #[.slice A0_0 l0_0.length c0_0, .int .i64 a0_1] 28 (0, 0)) (bq BK229) hb)
                    have n4_ := Aside0.mk (blk_below (g := gb234) (o := .cells #[.int .i64 t235, .int .i64 ((rd_T90 l1 x14_1).f1), .int .i64 ((rd_T90 l1 x14_1).f2)] 90 (0, 0)) (bq BK234) hb)
                    have n5_ := Aside0.mk (below_step (eq2 HB GE229 GE234) hb)
                    clear HO_6
                    clear HO238
                    clear BK229
                    clear BK234
                    clear HB
                    have HO_6 := n0_
                    have HO238 := n1_
                    have HO241 := n2_
                    have BK229 := n3_
                    have BK234 := n4_
                    have HB := n5_
                    clear n0_ n1_ n2_ n3_ n4_ n5_
                    clear hb ho25
                    refine hK.out _ _ ⟨(blk_cell BK234.out 0).trans rfl, (blk_cell BK234.out 1).trans rfl, (blk_cell BK234.out 2).trans rfl⟩ (fun hHeld => ?_)
                    clear hK K
                    refine norm_ (a' := ?_) ?_ ?_
                    rotate_left
                    · show Act.put _ (some 26) _ = _
                      simp only [Act.put, List.setIfInBounds_toArray, List.set_cons_zero, List.set_cons_succ, i64_w, i32_w]
                      rfl
                    exact norm_ (by simp only [putAll, Act.put, List.setIfInBounds_toArray, List.set_cons_zero, List.set_cons_succ]) (hCont (v237, v240) _ ⟨hHeld, (by (with_reducible repeat (first | apply Kd.R_alloc | apply Kd.R_drewN | apply Kd.R_drew)); exact Kd.R_mono HO238.out (fun _ hk => ⟨hk.2, ⟨hk.1.1.2, hk.1.2⟩⟩)), (by (with_reducible repeat (first | apply Kd.R_alloc | apply Kd.R_drewN | apply Kd.R_drew)); exact Kd.R_mono HO241.out (fun _ hk => ⟨hk.1.2, ⟨hk.1.1.2, hk.2⟩⟩)), (by (with_reducible repeat (first | apply Kd.R_alloc | apply Kd.R_drewN | apply Kd.R_drew)); exact Kd.R_mono HO_6.out (fun _ hk => ⟨hk.1.2, ⟨hk.2, hk.1.1⟩⟩)), (bq BK229), (bq BK234), (eq2 HB GE229 GE234)⟩)
                  · skip
                    refine Kd.R_lit_step k90 _ 90 ?hg (N := 26) ?hd (xs := ([(⟨t235, (rd_T90 l1 x14_1).f1, (rd_T90 l1 x14_1).f2⟩ : S90)] : List (S90))) (inner := [.int .i64 t235, .int .i64 ((rd_T90 l1 x14_1).f1), .int .i64 ((rd_T90 l1 x14_1).f2)]) (ok := fun _ => True) (okp := fun _ => True) ?hr ?hp (fun _ hk => hk) trivial (Below.refl _ _) (Nat.le_refl _) (by simp) ?_; (case hd => rfl); (case hg => rfl); (case hr => first | (go_simp; done) | (go_simp; rfl)); (case hp => exact (Reps.c3 (show Kd.M k90 _ _ _ (⟨t235, (rd_T90 l1 x14_1).f1, (rd_T90 l1 x14_1).f2⟩ : S90) [.int .i64 t235, .int .i64 ((rd_T90 l1 x14_1).f1), .int .i64 ((rd_T90 l1 x14_1).f2)] from (k90_mkM _ _ _ (⟨t235, (rd_T90 l1 x14_1).f1, (rd_T90 l1 x14_1).f2⟩ : S90) )) (Reps.none _ _)))
                    intro v240 w23 ho24 hb hg_ hnew_
                    clear hg_ hnew_
                    (first | rw [← Ny239.out] at ho24 | (simp only [Int.reduceToNat] at ho24; rw [← Ny239.out] at ho24))
                    have n0_ := Aside0.mk (Kd.R_elder' (kq HO_6) (Kd.R_base ho24) hb)
                    have n1_ := Aside0.mk (Kd.R_lower (Kd.R_newB (Kd.R_new' ho24 (Kd.R_lt (kq HO_6))) (g := gb234) (o := .cells #[.int .i64 t235, .int .i64 ((rd_T90 l1 x14_1).f1), .int .i64 ((rd_T90 l1 x14_1).f2)] 90 (0, 0)) (bq BK234)) (below_size (eq2 HB GE229 GE234)))
                    have n2_ := Aside0.mk (blk_below (g := gb229) (o := .cells #[.slice A0_0 l0_0.length c0_0, .int .i64 a0_1] 28 (0, 0)) (bq BK229) hb)
                    have n3_ := Aside0.mk (blk_below (g := gb234) (o := .cells #[.int .i64 t235, .int .i64 ((rd_T90 l1 x14_1).f1), .int .i64 ((rd_T90 l1 x14_1).f2)] 90 (0, 0)) (bq BK234) hb)
                    have n4_ := Aside0.mk (below_step (eq2 HB GE229 GE234) hb)
                    clear HO_6
                    clear BK229
                    clear BK234
                    clear HB
                    have HO_6 := n0_
                    have HO241 := n1_
                    have BK229 := n2_
                    have BK234 := n3_
                    have HB := n4_
                    clear n0_ n1_ n2_ n3_ n4_
                    clear hb ho24
                    refine hK.out _ _ ⟨(blk_cell BK234.out 0).trans rfl, (blk_cell BK234.out 1).trans rfl, (blk_cell BK234.out 2).trans rfl⟩ (fun hHeld => ?_)
                    clear hK K
                    refine norm_ (a' := ?_) ?_ ?_
                    rotate_left
                    · show Act.put _ (some 26) _ = _
                      simp only [Act.put, List.setIfInBounds_toArray, List.set_cons_zero, List.set_cons_succ, i64_w, i32_w]
                      rfl
                    refine one_ (i := 1) (N := some 24) #[true, true, true, true, false, false, false] rfl rfl (by kernel_rfl) (by decide) (fun K hK => ?_)
                    refine goes_ Try.func99 (by kernel_rfl) rfl #[.slice Ao20 x6_1.length co20] (by rfl) rfl rfl (by (try simp only [List.map_toArray, List.map_cons, List.map_nil]); first | done | rfl | (simp only [List.length_drop, List.length_take]; rfl)) ?_
                    with_reducible refine (impl_Note.calls _ _ x6_1 t236 _ ?side1 ?side2 A10.out).mono ?_
                    (case side1 => repeat (first | exact (Kd.R_reads' HO_6.out).2.2 | (with_reducible refine Kd.C_alloc ?_ _) | (with_reducible refine Kd.C_drewN ?_ _) | (with_reducible refine Kd.C_drew ?_)))
                    (case side2 => exact (Kd.R_reads' HO_6.out).2.1)
                    rintro e w25 ⟨v237, rfl, ho0, hb⟩
                    refine ⟨_, rfl, ?_⟩
                    have n0_ := Aside0.mk (Kd.R_elder' (kq HO_6) (Kd.R_base ho0) hb)
                    have n1_ := Aside0.mk (Kd.R_elder' (kq HO241) (Kd.R_base ho0) hb)
                    have n2_ := Aside0.mk (Kd.R_lower (Kd.R_newB (Kd.R_new' (Kd.R_new' ho0 (Kd.R_lt (kq HO_6))) (Kd.R_lt (kq HO241))) (g := gb234) (o := .cells #[.int .i64 t235, .int .i64 ((rd_T90 l1 x14_1).f1), .int .i64 ((rd_T90 l1 x14_1).f2)] 90 (0, 0)) (bq BK234)) (below_size (eq2 HB GE229 GE234)))
                    have n3_ := Aside0.mk (blk_below (g := gb229) (o := .cells #[.slice A0_0 l0_0.length c0_0, .int .i64 a0_1] 28 (0, 0)) (bq BK229) hb)
                    have n4_ := Aside0.mk (blk_below (g := gb234) (o := .cells #[.int .i64 t235, .int .i64 ((rd_T90 l1 x14_1).f1), .int .i64 ((rd_T90 l1 x14_1).f2)] 90 (0, 0)) (bq BK234) hb)
                    have n5_ := Aside0.mk (below_step (eq2 HB GE229 GE234) hb)
                    clear HO_6
                    clear HO241
                    clear BK229
                    clear BK234
                    clear HB
                    have HO_6 := n0_
                    have HO241 := n1_
                    have HO238 := n2_
                    have BK229 := n3_
                    have BK234 := n4_
                    have HB := n5_
                    clear n0_ n1_ n2_ n3_ n4_ n5_
                    (try clear hb)
                    (try clear hb2)
                    (try clear hk)
                    (try clear hi)
                    (try clear ho0)
                    refine hK.out _ _ ⟨(blk_cell BK234.out 0).trans rfl, (blk_cell BK234.out 1).trans rfl, (blk_cell BK234.out 2).trans rfl⟩ (fun hHeld => ?_)
                    clear hK K
                    refine norm_ (a' := ?_) ?_ ?_
                    rotate_left
                    · show Act.put _ (some 24) _ = _
                      simp only [Act.put, List.setIfInBounds_toArray, List.set_cons_zero, List.set_cons_succ, i64_w, i32_w]
                      rfl
                    exact norm_ (by simp only [putAll, Act.put, List.setIfInBounds_toArray, List.set_cons_zero, List.set_cons_succ]) (hCont (v237, v240) _ ⟨hHeld, (by (with_reducible repeat (first | apply Kd.R_alloc | apply Kd.R_drewN | apply Kd.R_drew)); exact Kd.R_mono HO238.out (fun _ hk => ⟨hk.1.2, ⟨hk.1.1.2, hk.2⟩⟩)), (by (with_reducible repeat (first | apply Kd.R_alloc | apply Kd.R_drewN | apply Kd.R_drew)); exact Kd.R_mono HO241.out (fun _ hk => ⟨hk.2, ⟨hk.1.1.2, hk.1.2⟩⟩)), (by (with_reducible repeat (first | apply Kd.R_alloc | apply Kd.R_drewN | apply Kd.R_drew)); exact Kd.R_mono HO_6.out (fun _ hk => ⟨hk.2, ⟨hk.1.2, hk.1.1⟩⟩)), (bq BK229), (bq BK234), (eq2 HB GE229 GE234)⟩)
                rintro ⟨v237, v240⟩ w26 ⟨hS_, h0_, h1_, h2_, h3_, h4_, h5_⟩
                have n0_ : Aside0 (Kd.R k90 90 w26 w.heap.size (fun k_ => some k_ ≠ (v240 : Value).ownBlock ∧ some k_ ≠ (.slice Ao20 x6_1.length co20 : Value).ownBlock ∧ k_ ≠ gb234) v237 t236) := ⟨h0_⟩
                have n1_ : Aside0 (Kd.R k90 90 w26 w.heap.size (fun k_ => some k_ ≠ (v237 : Value).ownBlock ∧ some k_ ≠ (.slice Ao20 x6_1.length co20 : Value).ownBlock ∧ k_ ≠ gb234) v240 y239) := ⟨h1_⟩
                have n2_ : Aside0 (Kd.R k90 90 w26 w.heap.size (fun k_ => some k_ ≠ (v237 : Value).ownBlock ∧ some k_ ≠ (v240 : Value).ownBlock ∧ k_ ≠ gb234) (.slice Ao20 x6_1.length co20) x6_1) := ⟨h2_⟩
                have n3_ : Aside0 (w26.heap[gb229]? = some (.cells #[.slice A0_0 l0_0.length c0_0, .int .i64 a0_1] 28 (0, 0))) := ⟨h3_⟩
                have n4_ : Aside0 (w26.heap[gb234]? = some (.cells #[.int .i64 t235, .int .i64 ((rd_T90 l1 x14_1).f1), .int .i64 ((rd_T90 l1 x14_1).f2)] 90 (0, 0))) := ⟨h4_⟩
                have n5_ : Aside0 (Below w.heap.size w w26) := ⟨h5_⟩
                clear HO_6
                clear BK229
                clear BK234
                clear HB
                clear h0_ h1_ h2_ h3_ h4_ h5_
                have HO238 := n0_
                have HO241 := n1_
                have HO_6 := n2_
                have BK229 := n3_
                have BK234 := n4_
                have HB := n5_
                clear n0_ n1_ n2_ n3_ n4_ n5_
                have hHeld : w26.cell? ⟨gb234, 0, none⟩ = some (.int .i64 t235) ∧ w26.cell? ⟨gb234, 1, none⟩ = some (.int .i64 ((rd_T90 l1 x14_1).f1)) ∧ w26.cell? ⟨gb234, 2, none⟩ = some (.int .i64 ((rd_T90 l1 x14_1).f2)) := hS_
                obtain ⟨Ao28, co28, eo28⟩ := Kd.R_slice HO241.out
                (first | subst eo28 | (injection eo28 with f1_ f2_ f3_; have f4_ := f1_.symm; have f5_ := f3_.symm; clear f1_ f2_ f3_; subst f4_; subst f5_))
                refine norm_ (a' := ?_) ?_ ?_
                rotate_left
                · simp only [putAll, Act.put, List.setIfInBounds_toArray, List.set_cons_zero, List.set_cons_succ]
                  rfl
                refine one_ (i := 4) (N := some 27) #[true, true, true, true, true, false, false] rfl rfl (by kernel_rfl) (by decide) (fun K hK => ?_)
                refine Kd.R_append_rows_step k90 (w0 := w) w.heap.size (by rfl) (.tmp 24) (.tmp 26) 35 90 (.agg #[(.int .i64 0), (.int .i64 0), (.int .i64 0)]) 24 rfl Try.underlying35 info90 rfl (by decide) (by omega) v237 t236 y239 _ _ _ (fun k_ => some k_ ≠ (.slice Ao20 x6_1.length co20 : Value).ownBlock ∧ some k_ ≠ (.slice Ao28 y239.length co28 : Value).ownBlock ∧ k_ ≠ gb234) (fun _ => False) rfl rfl ?aO ?aR (fun _ _ h => h) (fun _ h => h.elim) ?aF ?aB ?aS ?aL ?_
                (case aR => repeat (first | exact (Kd.R_reads' HO241.out).2.2 | (with_reducible refine Kd.C_alloc ?_ _) | (with_reducible refine Kd.C_drewN ?_ _) | (with_reducible refine Kd.C_drew ?_)))
                (case aB => exact (eq2 HB GE229 GE234))
                (case aF => exact (fun k_ hk => ⟨Kd.fresh' (Kd.R_lt (kq HO_6)) k_ hk, Kd.fresh' (Kd.R_lt (kq HO241)) k_ hk, Kd.freshB (g := gb234) (o := .cells #[.int .i64 t235, .int .i64 ((rd_T90 l1 x14_1).f1), .int .i64 ((rd_T90 l1 x14_1).f2)] 90 (0, 0)) (bq BK234) k_ hk⟩))
                (case aO => exact (by (with_reducible repeat (first | apply Kd.R_alloc | apply Kd.R_drewN | apply Kd.R_drew)); exact Kd.R_mono HO238.out (fun _ hk => ⟨hk.2.1, ⟨hk.1, hk.2.2⟩⟩)))
                (case aS => exact (below_size (eq2 HB GE229 GE234)))
                (case aL => have := LMc11.out; omega)
                intro v243 w27 ho hb hg hat
                rw [← Ny242.out] at ho
                have n0_ := Aside0.mk (Kd.R_after (ok := (fun k_ => some k_ ≠ (.slice Ao28 y239.length co28 : Value).ownBlock ∧ k_ ≠ gb234)) (by (with_reducible repeat (first | apply Kd.R_alloc | apply Kd.R_drewN | apply Kd.R_drew)); exact Kd.R_mono HO_6.out (fun _ hk => ⟨⟨hk.2.1, hk.2.2⟩, hk.1⟩)) hg hat)
                have n1_ := Aside0.mk (blk_grown (g := gb229) (o := .cells #[.slice A0_0 l0_0.length c0_0, .int .i64 a0_1] 28 (0, 0)) (bq BK229) hg (Kd.R_ne HO238.out BK229.out (by decide)))
                have n2_ := Aside0.mk (blk_grown (g := gb234) (o := .cells #[.int .i64 t235, .int .i64 ((rd_T90 l1 x14_1).f1), .int .i64 ((rd_T90 l1 x14_1).f2)] 90 (0, 0)) (bq BK234) hg (Kd.R_away HO238.out (fun _ hk => hk.2.2)))
                have n3_ := Aside0.mk (Kd.R_after (ok := (fun k_ => some k_ ≠ (.slice Ao20 x6_1.length co20 : Value).ownBlock ∧ k_ ≠ gb234)) (by (with_reducible repeat (first | apply Kd.R_alloc | apply Kd.R_drewN | apply Kd.R_drew)); exact Kd.R_mono HO241.out (fun _ hk => ⟨⟨hk.2.1, hk.2.2⟩, hk.1⟩)) hg hat)
                have n4_ := Aside0.mk (hb)
                have n5_ := Aside0.mk (ho)
                clear HO_6
                clear BK229
                clear BK234
                clear HO241
                clear HB
                clear HO238
                have HO_6 := n0_
                have BK229 := n1_
                have BK234 := n2_
                have HO241 := n3_
                have HB := n4_
                have HO244 := n5_
                clear n0_ n1_ n2_ n3_ n4_ n5_
                clear ho hb hg hat
                obtain ⟨Ao29, co29, eo29⟩ := Kd.R_slice HO244.out
                (first | subst eo29 | (injection eo29 with f1_ f2_ f3_; have f4_ := f1_.symm; have f5_ := f3_.symm; clear f1_ f2_ f3_; subst f4_; subst f5_))
                refine hK.out _ _ ⟨(blk_cell BK234.out 0).trans rfl, (blk_cell BK234.out 1).trans rfl, (blk_cell BK234.out 2).trans rfl⟩ (fun hHeld => ?_)
                clear hK K
                refine norm_ (a' := ?_) ?_ ?_
                rotate_left
                · show Act.put _ (some 27) _ = _
                  simp only [Act.put, List.setIfInBounds_toArray, List.set_cons_zero, List.set_cons_succ, i64_w, i32_w]
                  rfl
                refine one_ (i := 5) (N := some 28) #[true, true, true, true, true, true, false] rfl rfl (by kernel_rfl) (by decide) (fun K hK => ?_)
                refine goes_ Try.func140 (by kernel_rfl) rfl #[.slice Ao29 y242.length co29] (by rfl) rfl rfl (by (try simp only [List.map_toArray, List.map_cons, List.map_nil]); first | done | rfl | (simp only [List.length_drop, List.length_take]; rfl)) ?_
                with_reducible refine (impl_sortedNotes.calls _ _ y242 t245 _ ?side1 ?side2 A12.out).mono ?_
                (case side1 => repeat (first | exact (Kd.R_reads' HO244.out).2.2 | (with_reducible refine Kd.C_alloc ?_ _) | (with_reducible refine Kd.C_drewN ?_ _) | (with_reducible refine Kd.C_drew ?_)))
                (case side2 => exact (Kd.R_reads' HO244.out).2.1)
                rintro e w30 ⟨v246, rfl, ho0, hb⟩
                refine ⟨_, rfl, ?_⟩
                have n0_ := Aside0.mk (Kd.R_elder' (kq HO_6) (Kd.R_base ho0) hb)
                have n1_ := Aside0.mk (Kd.R_elder' (kq HO241) (Kd.R_base ho0) hb)
                have n2_ := Aside0.mk (Kd.R_elder' (kq HO244) (Kd.R_base ho0) hb)
                have n3_ := Aside0.mk (Kd.R_lower (Kd.R_newB (Kd.R_new' (Kd.R_new' (Kd.R_new' ho0 (Kd.R_lt (kq HO_6))) (Kd.R_lt (kq HO241))) (Kd.R_lt (kq HO244))) (g := gb234) (o := .cells #[.int .i64 t235, .int .i64 ((rd_T90 l1 x14_1).f1), .int .i64 ((rd_T90 l1 x14_1).f2)] 90 (0, 0)) (bq BK234)) (below_size (eq2 HB GE229 GE234)))
                have n4_ := Aside0.mk (blk_below (g := gb229) (o := .cells #[.slice A0_0 l0_0.length c0_0, .int .i64 a0_1] 28 (0, 0)) (bq BK229) hb)
                have n5_ := Aside0.mk (blk_below (g := gb234) (o := .cells #[.int .i64 t235, .int .i64 ((rd_T90 l1 x14_1).f1), .int .i64 ((rd_T90 l1 x14_1).f2)] 90 (0, 0)) (bq BK234) hb)
                have n6_ := Aside0.mk (below_step (eq2 HB GE229 GE234) hb)
                clear HO_6
                clear HO241
                clear HO244
                clear BK229
                clear BK234
                clear HB
                have HO_6 := n0_
                have HO241 := n1_
                have HO244 := n2_
                have HO247 := n3_
                have BK229 := n4_
                have BK234 := n5_
                have HB := n6_
                clear n0_ n1_ n2_ n3_ n4_ n5_ n6_
                (try clear hb)
                (try clear hb2)
                (try clear hk)
                (try clear hi)
                (try clear ho0)
                refine hK.out _ _ ⟨(blk_cell BK234.out 0).trans rfl, (blk_cell BK234.out 1).trans rfl, (blk_cell BK234.out 2).trans rfl⟩ (fun hHeld => ?_)
                clear hK K
                refine norm_ (a' := ?_) ?_ ?_
                rotate_left
                · show Act.put _ (some 28) _ = _
                  simp only [Act.put, List.setIfInBounds_toArray, List.set_cons_zero, List.set_cons_succ, i64_w, i32_w]
                  rfl
                refine pure_ (i := 6) (N := some 10) (v := ?_) (a' := ?_) #[true, true, true, true, true, true, true] rfl rfl (by kernel_rfl) (fun _ _ _ h => h) (Or.inl ⟨by rfl, ?_⟩) ?_ ?_
                rotate_left
                · intro w'
                  go_simp
                  with_reducible rfl
                rotate_left
                · simp only [Act.put, List.setIfInBounds_toArray, List.set_cons_zero, List.set_cons_succ, i64_w, i32_w]
                  rfl
                refine done_ (by kernel_rfl) ?_
                have hcz31_0 : w30.cell? ⟨gb234, 0, none⟩ = some (.int .i64 t235) := (blk_cell BK234.out 0).trans rfl
                have hcz31_1 : w30.cell? ⟨gb234, 1, none⟩ = some (.int .i64 ((rd_T90 l1 x14_1).f1)) := (blk_cell BK234.out 1).trans rfl
                have hcz31_2 : w30.cell? ⟨gb234, 2, none⟩ = some (.int .i64 ((rd_T90 l1 x14_1).f2)) := (blk_cell BK234.out 2).trans rfl
                have hfz31_0 := blk_frozen BK234.out 0
                have hfz31_1 := blk_frozen BK234.out 1
                have hfz31_2 := blk_frozen BK234.out 2
                try go_wp2
                go_roundg k1
                case measure => have := HK1.out; omega
                case rel => exact ⟨(x6_1), (wrap64 (x7_1 + 1)), (wrap64 (x14_1 + 1)), (by first | rfl | (simp; done) | (simp [*]; done)), (by first | rfl | (simp; done) | (simp [*]; done)), H', ⟨by have := HK1.out; omega⟩, ⟨by (with_reducible repeat (first | apply Kd.R_alloc | apply Kd.R_drewN | apply Kd.R_drew)); exact Kd.R_mono HO_6.out (fun _ hk => trivial)⟩, ⟨bq BK229⟩, ⟨eq2 HB GE229 GE234⟩⟩
              · rw [if_neg c13] at H
                have c13b0 : (t235 == 0) = false := beq_eq_false_iff_ne.mpr c13
                have c13b1 : (t235 != 0) = true := bne_iff_ne.mpr c13
                replace H := Option.bind_eq_some_iff.mp H
                obtain ⟨t248, A320, H⟩ := H
                replace H : (if t248 = true then (impl_foldScore.l0 k1 t245 x7_1 l1 (l1.length : Int) (wrap64 (x14_1 + 1)) l0_0 a0_1) else (impl_foldScore.l0 k1 x6_1 (wrap64 (x7_1 + 1)) l1 (l1.length : Int) (wrap64 (x14_1 + 1)) l0_0 a0_1)) = some (r1, r2) := H
                have A32 := Aside0.mk A320
                clear A320
                by_cases c33 : t248 = true
                · subst c33
                  have H1 : (impl_foldScore.l0 k1 t245 x7_1 l1 (l1.length : Int) (wrap64 (x14_1 + 1)) l0_0 a0_1) = some (r1, r2) := by rw [if_pos rfl] at H; exact H
                  clear H
                  have H := H1
                  clear H1
                  have H' := Aside0.mk H
                  clear H
                  have p233 : 0 ≤ (x14_1 : Int) := of_decide_eq_true (by first | (with_reducible assumption) | assumption)
                  have q233 : x14_1 < (l1.length : Int) := of_decide_eq_true (by first | (with_reducible assumption) | assumption)
                  obtain ⟨ad233, e233, hx233_0, hx233_1, hx233_2⟩ := at_T90 HR1.out x14_1 p233 q233
                  cases e233
                  replace hx233_0 := (HB.out.cell (World.block_lt_of_cell? w _ hx233_0)).trans hx233_0
                  replace hx233_1 := (HB.out.cell (World.block_lt_of_cell? w _ hx233_1)).trans hx233_1
                  replace hx233_2 := (HB.out.cell (World.block_lt_of_cell? w _ hx233_2)).trans hx233_2
                  replace p233 := eq_true p233
                  replace q233 := eq_true q233
                  try go_wp2_with (first | ((with_reducible refine gate_dst (N := 9) rfl ?_); refine box_event ?hg (N := 9) ?hd (cs := #[.int .i64 0, .int .i64 0, .int .i64 0]) (t := 90) ?hr ?_; (case hd => rfl); (case hg => rfl); (case hr => first | (go_simp; done) | (go_simp; rfl)); intro gb234 hg w34 hbox hb; have n0_ := Aside0.mk (Kd.R_below (Kd.R_elderB (kq HO_6) gb234 (Nat.le_of_eq hg.symm)) hb); have n1_ := Aside0.mk (blk_below (g := gb229) (o := .cells #[.slice A0_0 l0_0.length c0_0, .int .i64 a0_1] 28 (0, 0)) (bq BK229) hb); have n2_ := Aside0.mk (below_step (eq1 HB GE229) hb); have n3_ := Aside0.mk (hbox); have n4_ := Aside0.mk ((by rw [hg]; exact (below_size (eq1 HB GE229)) : w.heap.size ≤ gb234)); have n5_ := Aside0.mk ((by rw [hg]; exact (below_size (eq1 HB GE229)) : w.heap.size ≤ gb234)); have n6_ := Aside0.mk ((by rw [hg]; exact Nat.ne_of_lt (blk_lt (g := gb229) (o := .cells #[.slice A0_0 l0_0.length c0_0, .int .i64 a0_1] 28 (0, 0)) (bq BK229)) : gb229 ≠ gb234)); have n7_ := Aside0.mk ((by rw [hg]; exact Nat.ne_of_gt (blk_lt (g := gb229) (o := .cells #[.slice A0_0 l0_0.length c0_0, .int .i64 a0_1] 28 (0, 0)) (bq BK229)) : gb234 ≠ gb229)); clear HO_6; clear BK229; clear HB; have HO_6 := n0_; have BK229 := n1_; have HB := n2_; have BK234 := n3_; have GW234 := n4_; have GE234 := n5_; have NB229_234 := n6_; have NB234_229 := n7_; clear n0_ n1_ n2_ n3_ n4_ n5_ n6_ n7_; clear hb hbox hg; have hnb35 := NB234_229.out; have hnc35 := NB229_234.out; have hcz36_0 : w34.cell? ⟨gb234, 0, none⟩ = some (.int .i64 0) := (blk_cell BK234.out 0).trans rfl; have hcz36_1 : w34.cell? ⟨gb234, 1, none⟩ = some (.int .i64 0) := (blk_cell BK234.out 1).trans rfl; have hcz36_2 : w34.cell? ⟨gb234, 2, none⟩ = some (.int .i64 0) := (blk_cell BK234.out 2).trans rfl; have hfz36_0 := blk_frozen BK234.out 0; have hfz36_1 := blk_frozen BK234.out 1; have hfz36_2 := blk_frozen BK234.out 2; have hcz37_0 : w34.cell? ⟨gb229, 0, none⟩ = some (.slice A0_0 l0_0.length c0_0) := (blk_cell BK229.out 0).trans rfl; have hcz37_1 : w34.cell? ⟨gb229, 1, none⟩ = some (.int .i64 a0_1) := (blk_cell BK229.out 1).trans rfl; have hfz37_0 := blk_frozen BK229.out 0; have hfz37_1 := blk_frozen BK229.out 1) | ((with_reducible refine gate_callee (f := 79) rfl ?_); refine goesL_ (some 21) rfl rfl Try.func79 (by kernel_rfl) rfl #[.agg #[.slice A0_0 l0_0.length c0_0, .int .i64 a0_1], .int .i64 ((rd_T90 l1 x14_1).f0)] rfl (by (try simp only [List.map_toArray, List.map_cons, List.map_nil]); first | done | rfl | (simp only [List.length_drop, List.length_take]; rfl)) ?_; (with_reducible refine (impl_foldPitch.calls k1 _ _ l0_0 a0_1 ((rd_T90 l1 x14_1).f0) t235 _ ?side1 ?side2 A9.out).mono ?_); (case side1 => exact Kd.C_below HR0_0.out (eq2 HB GE229 GE234)); (case side2 => exact HC0_0.out); rintro e w38 ⟨rfl, hb⟩; refine ⟨_, rfl, ?_⟩; have n0_ := Aside0.mk (Kd.R_below (by (with_reducible repeat (first | apply Kd.R_alloc | apply Kd.R_drewN | apply Kd.R_drew)); exact (Kd.R_mono (Kd.R_far (p := ⟨gb234, 2, none⟩) (Kd.R_far (p := ⟨gb234, 1, none⟩) (Kd.R_far (p := ⟨gb234, 0, none⟩) (Kd.R_mono HO_6.out (fun k_ hk => (⟨hk, hk.2⟩ : _ ∧ k_ ≠ gb234))) (fun _ hk => hk.2) (.int .i64 ((rd_T90 l1 x14_1).f0))) (fun _ hk => hk.2) (.int .i64 ((rd_T90 l1 x14_1).f1))) (fun _ hk => hk.2) (.int .i64 ((rd_T90 l1 x14_1).f2))) (fun _ h_ => h_.1))) hb); have n1_ := Aside0.mk (blk_below (g := gb229) (o := .cells #[.slice A0_0 l0_0.length c0_0, .int .i64 a0_1] 28 (0, 0)) (by (with_reducible repeat (first | refine blk_drewN ?_ _ | refine blk_drew ?_ | refine blk_alloc ?_ _)); refine blk_far ?_ NB229_234.out _; (with_reducible repeat (first | refine blk_drewN ?_ _ | refine blk_drew ?_ | refine blk_alloc ?_ _)); refine blk_far ?_ NB229_234.out _; (with_reducible repeat (first | refine blk_drewN ?_ _ | refine blk_drew ?_ | refine blk_alloc ?_ _)); refine blk_far ?_ NB229_234.out _; (with_reducible repeat (first | refine blk_drewN ?_ _ | refine blk_drew ?_ | refine blk_alloc ?_ _)); exact BK229.out) hb); have n2_ := Aside0.mk (blk_below (g := gb234) (o := .cells #[.int .i64 ((rd_T90 l1 x14_1).f0), .int .i64 ((rd_T90 l1 x14_1).f1), .int .i64 ((rd_T90 l1 x14_1).f2)] 90 (0, 0)) (by (with_reducible repeat (first | refine blk_drewN ?_ _ | refine blk_drew ?_ | refine blk_alloc ?_ _)); refine blk_put (cs := #[.int .i64 ((rd_T90 l1 x14_1).f0), .int .i64 ((rd_T90 l1 x14_1).f1), .int .i64 0]) ?_ 2 _ rfl; (with_reducible repeat (first | refine blk_drewN ?_ _ | refine blk_drew ?_ | refine blk_alloc ?_ _)); refine blk_put (cs := #[.int .i64 ((rd_T90 l1 x14_1).f0), .int .i64 0, .int .i64 0]) ?_ 1 _ rfl; (with_reducible repeat (first | refine blk_drewN ?_ _ | refine blk_drew ?_ | refine blk_alloc ?_ _)); refine blk_put (cs := #[.int .i64 0, .int .i64 0, .int .i64 0]) ?_ 0 _ rfl; (with_reducible repeat (first | refine blk_drewN ?_ _ | refine blk_drew ?_ | refine blk_alloc ?_ _)); exact BK234.out) hb); have n3_ := Aside0.mk (below_step (eq2 HB GE229 GE234) hb); clear HO_6; clear BK229; clear BK234; clear HB; have HO_6 := n0_; have BK229 := n1_; have BK234 := n2_; have HB := n3_; clear n0_ n1_ n2_ n3_; (try clear hb); (try clear hb2); (try clear hk); (try clear hi); have hcz39_0 : w38.cell? ⟨gb234, 0, none⟩ = some (.int .i64 ((rd_T90 l1 x14_1).f0)) := (blk_cell BK234.out 0).trans rfl; have hcz39_1 : w38.cell? ⟨gb234, 1, none⟩ = some (.int .i64 ((rd_T90 l1 x14_1).f1)) := (blk_cell BK234.out 1).trans rfl; have hcz39_2 : w38.cell? ⟨gb234, 2, none⟩ = some (.int .i64 ((rd_T90 l1 x14_1).f2)) := (blk_cell BK234.out 2).trans rfl; have hfz39_0 := blk_frozen BK234.out 0; have hfz39_1 := blk_frozen BK234.out 1; have hfz39_2 := blk_frozen BK234.out 2; obtain ⟨Ao40, co40, eo40⟩ := Kd.R_slice HO_6.out; subst eo40))
                  have n0_ : Aside0 (Kd.R k90 90 (w38.setCell ⟨gb234, 0, none⟩ (.int .i64 t235)) w.heap.size (fun k_ => k_ ≠ gb234) (.slice Ao40 x6_1.length co40) x6_1) := ⟨by (with_reducible repeat (first | apply Kd.R_alloc | apply Kd.R_drewN | apply Kd.R_drew)); exact Kd.R_mono (Kd.R_far (p := ⟨gb234, 0, none⟩) (Kd.R_mono HO_6.out (fun k_ hk => (⟨hk, hk.2⟩ : _ ∧ k_ ≠ gb234))) (fun _ hk => hk.2) (.int .i64 t235)) (fun _ hk => hk.1.2)⟩
                  have n1_ : Aside0 ((w38.setCell ⟨gb234, 0, none⟩ (.int .i64 t235)).heap[gb229]? = some (.cells #[.slice A0_0 l0_0.length c0_0, .int .i64 a0_1] 28 (0, 0))) := ⟨by (with_reducible repeat (first | refine blk_drewN ?_ _ | refine blk_drew ?_ | refine blk_alloc ?_ _)); refine blk_far ?_ NB229_234.out _; (with_reducible repeat (first | refine blk_drewN ?_ _ | refine blk_drew ?_ | refine blk_alloc ?_ _)); exact BK229.out⟩
                  have n2_ : Aside0 ((w38.setCell ⟨gb234, 0, none⟩ (.int .i64 t235)).heap[gb234]? = some (.cells #[.int .i64 t235, .int .i64 ((rd_T90 l1 x14_1).f1), .int .i64 ((rd_T90 l1 x14_1).f2)] 90 (0, 0))) := ⟨by (with_reducible repeat (first | refine blk_drewN ?_ _ | refine blk_drew ?_ | refine blk_alloc ?_ _)); refine blk_put (cs := #[.int .i64 ((rd_T90 l1 x14_1).f0), .int .i64 ((rd_T90 l1 x14_1).f1), .int .i64 ((rd_T90 l1 x14_1).f2)]) ?_ 0 _ rfl; (with_reducible repeat (first | refine blk_drewN ?_ _ | refine blk_drew ?_ | refine blk_alloc ?_ _)); exact BK234.out⟩
                  have n3_ : Aside0 (Below w.heap.size w (w38.setCell ⟨gb234, 0, none⟩ (.int .i64 t235))) := ⟨eq2 HB GE229 GE234⟩
                  (try clear HO_6)
                  (try clear BK229)
                  (try clear BK234)
                  (try clear HB)
                  generalize (w38.setCell ⟨gb234, 0, none⟩ (.int .i64 t235)) = w41 at n0_ n1_ n2_ n3_ ⊢
                  have HO_6 := n0_
                  have BK229 := n1_
                  have BK234 := n2_
                  have HB := n3_
                  clear n0_ n1_ n2_ n3_
                  have n0_ := Aside0.mk (Kd.R_drew HO_6.out)
                  have n1_ := Aside0.mk (blk_drew BK229.out)
                  have n2_ := Aside0.mk (blk_drew BK234.out)
                  have n3_ := Aside0.mk (below_drew1 HB.out)
                  clear HO_6
                  clear BK229
                  clear BK234
                  clear HB
                  have HO_6 := n0_
                  have BK229 := n1_
                  have BK234 := n2_
                  have HB := n3_
                  clear n0_ n1_ n2_ n3_
                  refine start_ (n := 7) (S := fun w' => w'.cell? ⟨gb234, 0, none⟩ = some (.int .i64 t235) ∧ w'.cell? ⟨gb234, 1, none⟩ = some (.int .i64 ((rd_T90 l1 x14_1).f1)) ∧ w'.cell? ⟨gb234, 2, none⟩ = some (.int .i64 ((rd_T90 l1 x14_1).f2))) (ds := []) #[false, false, false, false, false, false, false] (by kernel_rfl) rfl rfl ⟨(blk_cell BK234.out 0).trans rfl, (blk_cell BK234.out 1).trans rfl, (blk_cell BK234.out 2).trans rfl⟩ (fun hHeld => ?_)
                  generalize w41.drew = w42 at HO_6 BK229 BK234 HB hHeld ⊢
                  refine pure_ (i := 0) (N := some 23) (v := ?_) (a' := ?_) #[true, false, false, false, false, false, false] rfl rfl (by kernel_rfl) (fun _ _ _ h => h) (Or.inl ⟨by rfl, ?_⟩) ?_ ?_
                  rotate_left
                  · intro w'
                    go_simp
                    with_reducible rfl
                  rotate_left
                  · simp only [Act.put, List.setIfInBounds_toArray, List.set_cons_zero, List.set_cons_succ, i64_w, i32_w]
                    rfl
                  refine take_ (i := 2) (N := some 25) (v := ?_) (a' := ?_) #[true, false, true, false, false, false, false] rfl rfl (by kernel_rfl) (fun _ _ _ h => h) (Or.inl ⟨by rfl, ?_⟩) hHeld ?_ ?_
                  rotate_left
                  · rintro w' ⟨s0, s1, s2⟩
                    go_simp
                    with_reducible rfl
                  rotate_left
                  · simp only [Act.put, List.setIfInBounds_toArray, List.set_cons_zero, List.set_cons_succ, i64_w, i32_w]
                    rfl
                  refine join_ (σ := Value × Value) 3 #[true, true, true, true, false, false, false] (fun s_ => [(24, s_.1), (26, s_.2)]) (fun s_ w' => (w'.cell? ⟨gb234, 0, none⟩ = some (.int .i64 t235) ∧ w'.cell? ⟨gb234, 1, none⟩ = some (.int .i64 ((rd_T90 l1 x14_1).f1)) ∧ w'.cell? ⟨gb234, 2, none⟩ = some (.int .i64 ((rd_T90 l1 x14_1).f2))) ∧ (Kd.R k90 90 w' w.heap.size (fun k_ => some k_ ≠ (s_.2 : Value).ownBlock ∧ some k_ ≠ (.slice Ao40 x6_1.length co40 : Value).ownBlock ∧ k_ ≠ gb234) s_.1 t236) ∧ (Kd.R k90 90 w' w.heap.size (fun k_ => some k_ ≠ (s_.1 : Value).ownBlock ∧ some k_ ≠ (.slice Ao40 x6_1.length co40 : Value).ownBlock ∧ k_ ≠ gb234) s_.2 y239) ∧ (Kd.R k90 90 w' w.heap.size (fun k_ => some k_ ≠ (s_.1 : Value).ownBlock ∧ some k_ ≠ (s_.2 : Value).ownBlock ∧ k_ ≠ gb234) (.slice Ao40 x6_1.length co40) x6_1) ∧ (w'.heap[gb229]? = some (.cells #[.slice A0_0 l0_0.length c0_0, .int .i64 a0_1] 28 (0, 0))) ∧ (w'.heap[gb234]? = some (.cells #[.int .i64 t235, .int .i64 ((rd_T90 l1 x14_1).f1), .int .i64 ((rd_T90 l1 x14_1).f2)] 90 (0, 0))) ∧ (Below w.heap.size w w')) ?_ ?_
                  rotate_left
                  · intro hCont
                    refine two_ (i := 1) (j := 3) (Ni := some 24) (Nj := some 26) #[true, true, true, false, false, false, false] #[true, false, true, true, false, false, false] rfl rfl rfl rfl (by kernel_rfl) (by decide) (by decide) (fun K hK => ?_) (fun K hK => ?_)
                    · skip
                      refine goes_ Try.func99 (by kernel_rfl) rfl #[.slice Ao40 x6_1.length co40] (by rfl) rfl rfl (by (try simp only [List.map_toArray, List.map_cons, List.map_nil]); first | done | rfl | (simp only [List.length_drop, List.length_take]; rfl)) ?_
                      with_reducible refine (impl_Note.calls _ _ x6_1 t236 _ ?side1 ?side2 A10.out).mono ?_
                      (case side1 => repeat (first | exact (Kd.R_reads' HO_6.out).2.2 | (with_reducible refine Kd.C_alloc ?_ _) | (with_reducible refine Kd.C_drewN ?_ _) | (with_reducible refine Kd.C_drew ?_)))
                      (case side2 => exact (Kd.R_reads' HO_6.out).2.1)
                      rintro e w43 ⟨v237, rfl, ho0, hb⟩
                      refine ⟨_, rfl, ?_⟩
                      have n0_ := Aside0.mk (Kd.R_elder' (kq HO_6) (Kd.R_base ho0) hb)
                      have n1_ := Aside0.mk (Kd.R_lower (Kd.R_newB (Kd.R_new' ho0 (Kd.R_lt (kq HO_6))) (g := gb234) (o := .cells #[.int .i64 t235, .int .i64 ((rd_T90 l1 x14_1).f1), .int .i64 ((rd_T90 l1 x14_1).f2)] 90 (0, 0)) (bq BK234)) (below_size (eq2 HB GE229 GE234)))
                      have n2_ := Aside0.mk (blk_below (g := gb229) (o := .cells #[.slice A0_0 l0_0.length c0_0, .int .i64 a0_1] 28 (0, 0)) (bq BK229) hb)
                      have n3_ := Aside0.mk (blk_below (g := gb234) (o := .cells #[.int .i64 t235, .int .i64 ((rd_T90 l1 x14_1).f1), .int .i64 ((rd_T90 l1 x14_1).f2)] 90 (0, 0)) (bq BK234) hb)
                      have n4_ := Aside0.mk (below_step (eq2 HB GE229 GE234) hb)
                      clear HO_6
                      clear BK229
                      clear BK234
                      clear HB
                      have HO_6 := n0_
                      have HO238 := n1_
                      have BK229 := n2_
                      have BK234 := n3_
                      have HB := n4_
                      clear n0_ n1_ n2_ n3_ n4_
                      (try clear hb)
                      (try clear hb2)
                      (try clear hk)
                      (try clear hi)
                      (try clear ho0)
                      refine hK.out _ _ ⟨(blk_cell BK234.out 0).trans rfl, (blk_cell BK234.out 1).trans rfl, (blk_cell BK234.out 2).trans rfl⟩ (fun hHeld => ?_)
                      clear hK K
                      refine norm_ (a' := ?_) ?_ ?_
                      rotate_left
                      · show Act.put _ (some 24) _ = _
                        simp only [Act.put, List.setIfInBounds_toArray, List.set_cons_zero, List.set_cons_succ, i64_w, i32_w]
                        rfl
                      refine one_ (i := 3) (N := some 26) #[true, true, true, true, false, false, false] rfl rfl (by kernel_rfl) (by decide) (fun K hK => ?_)
                      refine Kd.R_lit_step k90 _ 90 ?hg (N := 26) ?hd (xs := ([(⟨t235, (rd_T90 l1 x14_1).f1, (rd_T90 l1 x14_1).f2⟩ : S90)] : List (S90))) (inner := [.int .i64 t235, .int .i64 ((rd_T90 l1 x14_1).f1), .int .i64 ((rd_T90 l1 x14_1).f2)]) (ok := fun _ => True) (okp := fun _ => True) ?hr ?hp (fun _ hk => hk) trivial (Below.refl _ _) (Nat.le_refl _) (by simp) ?_; (case hd => rfl); (case hg => rfl); (case hr => first | (go_simp; done) | (go_simp; rfl)); (case hp => exact (Reps.c3 (show Kd.M k90 _ _ _ (⟨t235, (rd_T90 l1 x14_1).f1, (rd_T90 l1 x14_1).f2⟩ : S90) [.int .i64 t235, .int .i64 ((rd_T90 l1 x14_1).f1), .int .i64 ((rd_T90 l1 x14_1).f2)] from (k90_mkM _ _ _ (⟨t235, (rd_T90 l1 x14_1).f1, (rd_T90 l1 x14_1).f2⟩ : S90) )) (Reps.none _ _)))
                      intro v240 w44 ho45 hb hg_ hnew_
                      clear hg_ hnew_
                      (first | rw [← Ny239.out] at ho45 | (simp only [Int.reduceToNat] at ho45; rw [← Ny239.out] at ho45))
                      have n0_ := Aside0.mk (Kd.R_elder' (kq HO_6) (Kd.R_base ho45) hb)
                      have n1_ := Aside0.mk (Kd.R_elder' (kq HO238) (Kd.R_base ho45) hb)
                      have n2_ := Aside0.mk (Kd.R_lower (Kd.R_newB (Kd.R_new' (Kd.R_new' ho45 (Kd.R_lt (kq HO_6))) (Kd.R_lt (kq HO238))) (g := gb234) (o := .cells #[.int .i64 t235, .int .i64 ((rd_T90 l1 x14_1).f1), .int .i64 ((rd_T90 l1 x14_1).f2)] 90 (0, 0)) (bq BK234)) (below_size (eq2 HB GE229 GE234)))
                      have n3_ := Aside0.mk (blk_below (g := gb229) (o := .cells #[.slice A0_0 l0_0.length c0_0, .int .i64 a0_1] 28 (0, 0)) (bq BK229) hb)
                      have n4_ := Aside0.mk (blk_below (g := gb234) (o := .cells #[.int .i64 t235, .int .i64 ((rd_T90 l1 x14_1).f1), .int .i64 ((rd_T90 l1 x14_1).f2)] 90 (0, 0)) (bq BK234) hb)
                      have n5_ := Aside0.mk (below_step (eq2 HB GE229 GE234) hb)
                      clear HO_6
                      clear HO238
                      clear BK229
                      clear BK234
                      clear HB
                      have HO_6 := n0_
                      have HO238 := n1_
                      have HO241 := n2_
                      have BK229 := n3_
                      have BK234 := n4_
                      have HB := n5_
                      clear n0_ n1_ n2_ n3_ n4_ n5_
                      clear hb ho45
                      refine hK.out _ _ ⟨(blk_cell BK234.out 0).trans rfl, (blk_cell BK234.out 1).trans rfl, (blk_cell BK234.out 2).trans rfl⟩ (fun hHeld => ?_)
                      clear hK K
                      refine norm_ (a' := ?_) ?_ ?_
                      rotate_left
                      · show Act.put _ (some 26) _ = _
                        simp only [Act.put, List.setIfInBounds_toArray, List.set_cons_zero, List.set_cons_succ, i64_w, i32_w]
                        rfl
                      exact norm_ (by simp only [putAll, Act.put, List.setIfInBounds_toArray, List.set_cons_zero, List.set_cons_succ]) (hCont (v237, v240) _ ⟨hHeld, (by (with_reducible repeat (first | apply Kd.R_alloc | apply Kd.R_drewN | apply Kd.R_drew)); exact Kd.R_mono HO238.out (fun _ hk => ⟨hk.2, ⟨hk.1.1.2, hk.1.2⟩⟩)), (by (with_reducible repeat (first | apply Kd.R_alloc | apply Kd.R_drewN | apply Kd.R_drew)); exact Kd.R_mono HO241.out (fun _ hk => ⟨hk.1.2, ⟨hk.1.1.2, hk.2⟩⟩)), (by (with_reducible repeat (first | apply Kd.R_alloc | apply Kd.R_drewN | apply Kd.R_drew)); exact Kd.R_mono HO_6.out (fun _ hk => ⟨hk.1.2, ⟨hk.2, hk.1.1⟩⟩)), (bq BK229), (bq BK234), (eq2 HB GE229 GE234)⟩)
                    · skip
                      refine Kd.R_lit_step k90 _ 90 ?hg (N := 26) ?hd (xs := ([(⟨t235, (rd_T90 l1 x14_1).f1, (rd_T90 l1 x14_1).f2⟩ : S90)] : List (S90))) (inner := [.int .i64 t235, .int .i64 ((rd_T90 l1 x14_1).f1), .int .i64 ((rd_T90 l1 x14_1).f2)]) (ok := fun _ => True) (okp := fun _ => True) ?hr ?hp (fun _ hk => hk) trivial (Below.refl _ _) (Nat.le_refl _) (by simp) ?_; (case hd => rfl); (case hg => rfl); (case hr => first | (go_simp; done) | (go_simp; rfl)); (case hp => exact (Reps.c3 (show Kd.M k90 _ _ _ (⟨t235, (rd_T90 l1 x14_1).f1, (rd_T90 l1 x14_1).f2⟩ : S90) [.int .i64 t235, .int .i64 ((rd_T90 l1 x14_1).f1), .int .i64 ((rd_T90 l1 x14_1).f2)] from (k90_mkM _ _ _ (⟨t235, (rd_T90 l1 x14_1).f1, (rd_T90 l1 x14_1).f2⟩ : S90) )) (Reps.none _ _)))
                      intro v240 w43 ho44 hb hg_ hnew_
                      clear hg_ hnew_
                      (first | rw [← Ny239.out] at ho44 | (simp only [Int.reduceToNat] at ho44; rw [← Ny239.out] at ho44))
                      have n0_ := Aside0.mk (Kd.R_elder' (kq HO_6) (Kd.R_base ho44) hb)
                      have n1_ := Aside0.mk (Kd.R_lower (Kd.R_newB (Kd.R_new' ho44 (Kd.R_lt (kq HO_6))) (g := gb234) (o := .cells #[.int .i64 t235, .int .i64 ((rd_T90 l1 x14_1).f1), .int .i64 ((rd_T90 l1 x14_1).f2)] 90 (0, 0)) (bq BK234)) (below_size (eq2 HB GE229 GE234)))
                      have n2_ := Aside0.mk (blk_below (g := gb229) (o := .cells #[.slice A0_0 l0_0.length c0_0, .int .i64 a0_1] 28 (0, 0)) (bq BK229) hb)
                      have n3_ := Aside0.mk (blk_below (g := gb234) (o := .cells #[.int .i64 t235, .int .i64 ((rd_T90 l1 x14_1).f1), .int .i64 ((rd_T90 l1 x14_1).f2)] 90 (0, 0)) (bq BK234) hb)
                      have n4_ := Aside0.mk (below_step (eq2 HB GE229 GE234) hb)
                      clear HO_6
                      clear BK229
                      clear BK234
                      clear HB
                      have HO_6 := n0_
                      have HO241 := n1_
                      have BK229 := n2_
                      have BK234 := n3_
                      have HB := n4_
                      clear n0_ n1_ n2_ n3_ n4_
                      clear hb ho44
                      refine hK.out _ _ ⟨(blk_cell BK234.out 0).trans rfl, (blk_cell BK234.out 1).trans rfl, (blk_cell BK234.out 2).trans rfl⟩ (fun hHeld => ?_)
                      clear hK K
                      refine norm_ (a' := ?_) ?_ ?_
                      rotate_left
                      · show Act.put _ (some 26) _ = _
                        simp only [Act.put, List.setIfInBounds_toArray, List.set_cons_zero, List.set_cons_succ, i64_w, i32_w]
                        rfl
                      refine one_ (i := 1) (N := some 24) #[true, true, true, true, false, false, false] rfl rfl (by kernel_rfl) (by decide) (fun K hK => ?_)
                      refine goes_ Try.func99 (by kernel_rfl) rfl #[.slice Ao40 x6_1.length co40] (by rfl) rfl rfl (by (try simp only [List.map_toArray, List.map_cons, List.map_nil]); first | done | rfl | (simp only [List.length_drop, List.length_take]; rfl)) ?_
                      with_reducible refine (impl_Note.calls _ _ x6_1 t236 _ ?side1 ?side2 A10.out).mono ?_
                      (case side1 => repeat (first | exact (Kd.R_reads' HO_6.out).2.2 | (with_reducible refine Kd.C_alloc ?_ _) | (with_reducible refine Kd.C_drewN ?_ _) | (with_reducible refine Kd.C_drew ?_)))
                      (case side2 => exact (Kd.R_reads' HO_6.out).2.1)
                      rintro e w45 ⟨v237, rfl, ho0, hb⟩
                      refine ⟨_, rfl, ?_⟩
                      have n0_ := Aside0.mk (Kd.R_elder' (kq HO_6) (Kd.R_base ho0) hb)
                      have n1_ := Aside0.mk (Kd.R_elder' (kq HO241) (Kd.R_base ho0) hb)
                      have n2_ := Aside0.mk (Kd.R_lower (Kd.R_newB (Kd.R_new' (Kd.R_new' ho0 (Kd.R_lt (kq HO_6))) (Kd.R_lt (kq HO241))) (g := gb234) (o := .cells #[.int .i64 t235, .int .i64 ((rd_T90 l1 x14_1).f1), .int .i64 ((rd_T90 l1 x14_1).f2)] 90 (0, 0)) (bq BK234)) (below_size (eq2 HB GE229 GE234)))
                      have n3_ := Aside0.mk (blk_below (g := gb229) (o := .cells #[.slice A0_0 l0_0.length c0_0, .int .i64 a0_1] 28 (0, 0)) (bq BK229) hb)
                      have n4_ := Aside0.mk (blk_below (g := gb234) (o := .cells #[.int .i64 t235, .int .i64 ((rd_T90 l1 x14_1).f1), .int .i64 ((rd_T90 l1 x14_1).f2)] 90 (0, 0)) (bq BK234) hb)
                      have n5_ := Aside0.mk (below_step (eq2 HB GE229 GE234) hb)
                      clear HO_6
                      clear HO241
                      clear BK229
                      clear BK234
                      clear HB
                      have HO_6 := n0_
                      have HO241 := n1_
                      have HO238 := n2_
                      have BK229 := n3_
                      have BK234 := n4_
                      have HB := n5_
                      clear n0_ n1_ n2_ n3_ n4_ n5_
                      (try clear hb)
                      (try clear hb2)
                      (try clear hk)
                      (try clear hi)
                      (try clear ho0)
                      refine hK.out _ _ ⟨(blk_cell BK234.out 0).trans rfl, (blk_cell BK234.out 1).trans rfl, (blk_cell BK234.out 2).trans rfl⟩ (fun hHeld => ?_)
                      clear hK K
                      refine norm_ (a' := ?_) ?_ ?_
                      rotate_left
                      · show Act.put _ (some 24) _ = _
                        simp only [Act.put, List.setIfInBounds_toArray, List.set_cons_zero, List.set_cons_succ, i64_w, i32_w]
                        rfl
                      exact norm_ (by simp only [putAll, Act.put, List.setIfInBounds_toArray, List.set_cons_zero, List.set_cons_succ]) (hCont (v237, v240) _ ⟨hHeld, (by (with_reducible repeat (first | apply Kd.R_alloc | apply Kd.R_drewN | apply Kd.R_drew)); exact Kd.R_mono HO238.out (fun _ hk => ⟨hk.1.2, ⟨hk.1.1.2, hk.2⟩⟩)), (by (with_reducible repeat (first | apply Kd.R_alloc | apply Kd.R_drewN | apply Kd.R_drew)); exact Kd.R_mono HO241.out (fun _ hk => ⟨hk.2, ⟨hk.1.1.2, hk.1.2⟩⟩)), (by (with_reducible repeat (first | apply Kd.R_alloc | apply Kd.R_drewN | apply Kd.R_drew)); exact Kd.R_mono HO_6.out (fun _ hk => ⟨hk.2, ⟨hk.1.2, hk.1.1⟩⟩)), (bq BK229), (bq BK234), (eq2 HB GE229 GE234)⟩)
                  rintro ⟨v237, v240⟩ w46 ⟨hS_, h0_, h1_, h2_, h3_, h4_, h5_⟩
                  have n0_ : Aside0 (Kd.R k90 90 w46 w.heap.size (fun k_ => some k_ ≠ (v240 : Value).ownBlock ∧ some k_ ≠ (.slice Ao40 x6_1.length co40 : Value).ownBlock ∧ k_ ≠ gb234) v237 t236) := ⟨h0_⟩
                  have n1_ : Aside0 (Kd.R k90 90 w46 w.heap.size (fun k_ => some k_ ≠ (v237 : Value).ownBlock ∧ some k_ ≠ (.slice Ao40 x6_1.length co40 : Value).ownBlock ∧ k_ ≠ gb234) v240 y239) := ⟨h1_⟩
                  have n2_ : Aside0 (Kd.R k90 90 w46 w.heap.size (fun k_ => some k_ ≠ (v237 : Value).ownBlock ∧ some k_ ≠ (v240 : Value).ownBlock ∧ k_ ≠ gb234) (.slice Ao40 x6_1.length co40) x6_1) := ⟨h2_⟩
                  have n3_ : Aside0 (w46.heap[gb229]? = some (.cells #[.slice A0_0 l0_0.length c0_0, .int .i64 a0_1] 28 (0, 0))) := ⟨h3_⟩
                  have n4_ : Aside0 (w46.heap[gb234]? = some (.cells #[.int .i64 t235, .int .i64 ((rd_T90 l1 x14_1).f1), .int .i64 ((rd_T90 l1 x14_1).f2)] 90 (0, 0))) := ⟨h4_⟩
                  have n5_ : Aside0 (Below w.heap.size w w46) := ⟨h5_⟩
                  clear HO_6
                  clear BK229
                  clear BK234
                  clear HB
                  clear h0_ h1_ h2_ h3_ h4_ h5_
                  have HO238 := n0_
                  have HO241 := n1_
                  have HO_6 := n2_
                  have BK229 := n3_
                  have BK234 := n4_
                  have HB := n5_
                  clear n0_ n1_ n2_ n3_ n4_ n5_
                  have hHeld : w46.cell? ⟨gb234, 0, none⟩ = some (.int .i64 t235) ∧ w46.cell? ⟨gb234, 1, none⟩ = some (.int .i64 ((rd_T90 l1 x14_1).f1)) ∧ w46.cell? ⟨gb234, 2, none⟩ = some (.int .i64 ((rd_T90 l1 x14_1).f2)) := hS_
                  obtain ⟨Ao48, co48, eo48⟩ := Kd.R_slice HO241.out
                  (first | subst eo48 | (injection eo48 with f1_ f2_ f3_; have f4_ := f1_.symm; have f5_ := f3_.symm; clear f1_ f2_ f3_; subst f4_; subst f5_))
                  refine norm_ (a' := ?_) ?_ ?_
                  rotate_left
                  · simp only [putAll, Act.put, List.setIfInBounds_toArray, List.set_cons_zero, List.set_cons_succ]
                    rfl
                  refine one_ (i := 4) (N := some 27) #[true, true, true, true, true, false, false] rfl rfl (by kernel_rfl) (by decide) (fun K hK => ?_)
                  refine Kd.R_append_rows_step k90 (w0 := w) w.heap.size (by rfl) (.tmp 24) (.tmp 26) 35 90 (.agg #[(.int .i64 0), (.int .i64 0), (.int .i64 0)]) 24 rfl Try.underlying35 info90 rfl (by decide) (by omega) v237 t236 y239 _ _ _ (fun k_ => some k_ ≠ (.slice Ao40 x6_1.length co40 : Value).ownBlock ∧ some k_ ≠ (.slice Ao48 y239.length co48 : Value).ownBlock ∧ k_ ≠ gb234) (fun _ => False) rfl rfl ?aO ?aR (fun _ _ h => h) (fun _ h => h.elim) ?aF ?aB ?aS ?aL ?_
                  (case aR => repeat (first | exact (Kd.R_reads' HO241.out).2.2 | (with_reducible refine Kd.C_alloc ?_ _) | (with_reducible refine Kd.C_drewN ?_ _) | (with_reducible refine Kd.C_drew ?_)))
                  (case aB => exact (eq2 HB GE229 GE234))
                  (case aF => exact (fun k_ hk => ⟨Kd.fresh' (Kd.R_lt (kq HO_6)) k_ hk, Kd.fresh' (Kd.R_lt (kq HO241)) k_ hk, Kd.freshB (g := gb234) (o := .cells #[.int .i64 t235, .int .i64 ((rd_T90 l1 x14_1).f1), .int .i64 ((rd_T90 l1 x14_1).f2)] 90 (0, 0)) (bq BK234) k_ hk⟩))
                  (case aO => exact (by (with_reducible repeat (first | apply Kd.R_alloc | apply Kd.R_drewN | apply Kd.R_drew)); exact Kd.R_mono HO238.out (fun _ hk => ⟨hk.2.1, ⟨hk.1, hk.2.2⟩⟩)))
                  (case aS => exact (below_size (eq2 HB GE229 GE234)))
                  (case aL => have := LMc11.out; omega)
                  intro v243 w47 ho hb hg hat
                  rw [← Ny242.out] at ho
                  have n0_ := Aside0.mk (Kd.R_after (ok := (fun k_ => some k_ ≠ (.slice Ao48 y239.length co48 : Value).ownBlock ∧ k_ ≠ gb234)) (by (with_reducible repeat (first | apply Kd.R_alloc | apply Kd.R_drewN | apply Kd.R_drew)); exact Kd.R_mono HO_6.out (fun _ hk => ⟨⟨hk.2.1, hk.2.2⟩, hk.1⟩)) hg hat)
                  have n1_ := Aside0.mk (blk_grown (g := gb229) (o := .cells #[.slice A0_0 l0_0.length c0_0, .int .i64 a0_1] 28 (0, 0)) (bq BK229) hg (Kd.R_ne HO238.out BK229.out (by decide)))
                  have n2_ := Aside0.mk (blk_grown (g := gb234) (o := .cells #[.int .i64 t235, .int .i64 ((rd_T90 l1 x14_1).f1), .int .i64 ((rd_T90 l1 x14_1).f2)] 90 (0, 0)) (bq BK234) hg (Kd.R_away HO238.out (fun _ hk => hk.2.2)))
                  have n3_ := Aside0.mk (Kd.R_after (ok := (fun k_ => some k_ ≠ (.slice Ao40 x6_1.length co40 : Value).ownBlock ∧ k_ ≠ gb234)) (by (with_reducible repeat (first | apply Kd.R_alloc | apply Kd.R_drewN | apply Kd.R_drew)); exact Kd.R_mono HO241.out (fun _ hk => ⟨⟨hk.2.1, hk.2.2⟩, hk.1⟩)) hg hat)
                  have n4_ := Aside0.mk (hb)
                  have n5_ := Aside0.mk (ho)
                  clear HO_6
                  clear BK229
                  clear BK234
                  clear HO241
                  clear HB
                  clear HO238
                  have HO_6 := n0_
                  have BK229 := n1_
                  have BK234 := n2_
                  have HO241 := n3_
                  have HB := n4_
                  have HO244 := n5_
                  clear n0_ n1_ n2_ n3_ n4_ n5_
                  clear ho hb hg hat
                  obtain ⟨Ao49, co49, eo49⟩ := Kd.R_slice HO244.out
                  (first | subst eo49 | (injection eo49 with f1_ f2_ f3_; have f4_ := f1_.symm; have f5_ := f3_.symm; clear f1_ f2_ f3_; subst f4_; subst f5_))
                  refine hK.out _ _ ⟨(blk_cell BK234.out 0).trans rfl, (blk_cell BK234.out 1).trans rfl, (blk_cell BK234.out 2).trans rfl⟩ (fun hHeld => ?_)
                  clear hK K
                  refine norm_ (a' := ?_) ?_ ?_
                  rotate_left
                  · show Act.put _ (some 27) _ = _
                    simp only [Act.put, List.setIfInBounds_toArray, List.set_cons_zero, List.set_cons_succ, i64_w, i32_w]
                    rfl
                  refine one_ (i := 5) (N := some 28) #[true, true, true, true, true, true, false] rfl rfl (by kernel_rfl) (by decide) (fun K hK => ?_)
                  refine goes_ Try.func140 (by kernel_rfl) rfl #[.slice Ao49 y242.length co49] (by rfl) rfl rfl (by (try simp only [List.map_toArray, List.map_cons, List.map_nil]); first | done | rfl | (simp only [List.length_drop, List.length_take]; rfl)) ?_
                  with_reducible refine (impl_sortedNotes.calls _ _ y242 t245 _ ?side1 ?side2 A12.out).mono ?_
                  (case side1 => repeat (first | exact (Kd.R_reads' HO244.out).2.2 | (with_reducible refine Kd.C_alloc ?_ _) | (with_reducible refine Kd.C_drewN ?_ _) | (with_reducible refine Kd.C_drew ?_)))
                  (case side2 => exact (Kd.R_reads' HO244.out).2.1)
                  rintro e w50 ⟨v246, rfl, ho0, hb⟩
                  refine ⟨_, rfl, ?_⟩
                  have n0_ := Aside0.mk (Kd.R_elder' (kq HO_6) (Kd.R_base ho0) hb)
                  have n1_ := Aside0.mk (Kd.R_elder' (kq HO241) (Kd.R_base ho0) hb)
                  have n2_ := Aside0.mk (Kd.R_elder' (kq HO244) (Kd.R_base ho0) hb)
                  have n3_ := Aside0.mk (Kd.R_lower (Kd.R_newB (Kd.R_new' (Kd.R_new' (Kd.R_new' ho0 (Kd.R_lt (kq HO_6))) (Kd.R_lt (kq HO241))) (Kd.R_lt (kq HO244))) (g := gb234) (o := .cells #[.int .i64 t235, .int .i64 ((rd_T90 l1 x14_1).f1), .int .i64 ((rd_T90 l1 x14_1).f2)] 90 (0, 0)) (bq BK234)) (below_size (eq2 HB GE229 GE234)))
                  have n4_ := Aside0.mk (blk_below (g := gb229) (o := .cells #[.slice A0_0 l0_0.length c0_0, .int .i64 a0_1] 28 (0, 0)) (bq BK229) hb)
                  have n5_ := Aside0.mk (blk_below (g := gb234) (o := .cells #[.int .i64 t235, .int .i64 ((rd_T90 l1 x14_1).f1), .int .i64 ((rd_T90 l1 x14_1).f2)] 90 (0, 0)) (bq BK234) hb)
                  have n6_ := Aside0.mk (below_step (eq2 HB GE229 GE234) hb)
                  clear HO_6
                  clear HO241
                  clear HO244
                  clear BK229
                  clear BK234
                  clear HB
                  have HO_6 := n0_
                  have HO241 := n1_
                  have HO244 := n2_
                  have HO247 := n3_
                  have BK229 := n4_
                  have BK234 := n5_
                  have HB := n6_
                  clear n0_ n1_ n2_ n3_ n4_ n5_ n6_
                  (try clear hb)
                  (try clear hb2)
                  (try clear hk)
                  (try clear hi)
                  (try clear ho0)
                  refine hK.out _ _ ⟨(blk_cell BK234.out 0).trans rfl, (blk_cell BK234.out 1).trans rfl, (blk_cell BK234.out 2).trans rfl⟩ (fun hHeld => ?_)
                  clear hK K
                  refine norm_ (a' := ?_) ?_ ?_
                  rotate_left
                  · show Act.put _ (some 28) _ = _
                    simp only [Act.put, List.setIfInBounds_toArray, List.set_cons_zero, List.set_cons_succ, i64_w, i32_w]
                    rfl
                  refine pure_ (i := 6) (N := some 10) (v := ?_) (a' := ?_) #[true, true, true, true, true, true, true] rfl rfl (by kernel_rfl) (fun _ _ _ h => h) (Or.inl ⟨by rfl, ?_⟩) ?_ ?_
                  rotate_left
                  · intro w'
                    go_simp
                    with_reducible rfl
                  rotate_left
                  · simp only [Act.put, List.setIfInBounds_toArray, List.set_cons_zero, List.set_cons_succ, i64_w, i32_w]
                    rfl
                  refine done_ (by kernel_rfl) ?_
                  have hcz51_0 : w50.cell? ⟨gb234, 0, none⟩ = some (.int .i64 t235) := (blk_cell BK234.out 0).trans rfl
                  have hcz51_1 : w50.cell? ⟨gb234, 1, none⟩ = some (.int .i64 ((rd_T90 l1 x14_1).f1)) := (blk_cell BK234.out 1).trans rfl
                  have hcz51_2 : w50.cell? ⟨gb234, 2, none⟩ = some (.int .i64 ((rd_T90 l1 x14_1).f2)) := (blk_cell BK234.out 2).trans rfl
                  have hfz51_0 := blk_frozen BK234.out 0
                  have hfz51_1 := blk_frozen BK234.out 1
                  have hfz51_2 := blk_frozen BK234.out 2
                  obtain ⟨Ao52, co52, eo52⟩ := Kd.R_slice HO247.out
                  subst eo52
                  try go_wp2_with (first | (go_at_call 84; (with_reducible refine (impl_IsScore.calls k1 _ _ t245 true _ ?side1 ?side2 A32.out).mono ?_); (case side1 => repeat (first | exact (Kd.R_reads' HO247.out).2.2 | (with_reducible refine Kd.C_alloc ?_ _) | (with_reducible refine Kd.C_drewN ?_ _) | (with_reducible refine Kd.C_drew ?_))); (case side2 => exact (Kd.R_reads' HO247.out).2.1); rintro e w53 ⟨rfl, hb⟩; have n0_ := Aside0.mk (Kd.R_below (kq HO_6) hb); have n1_ := Aside0.mk (Kd.R_below (kq HO241) hb); have n2_ := Aside0.mk (Kd.R_below (kq HO244) hb); have n3_ := Aside0.mk (Kd.R_below (kq HO247) hb); have n4_ := Aside0.mk (blk_below (g := gb229) (o := .cells #[.slice A0_0 l0_0.length c0_0, .int .i64 a0_1] 28 (0, 0)) (bq BK229) hb); have n5_ := Aside0.mk (blk_below (g := gb234) (o := .cells #[.int .i64 t235, .int .i64 ((rd_T90 l1 x14_1).f1), .int .i64 ((rd_T90 l1 x14_1).f2)] 90 (0, 0)) (bq BK234) hb); have n6_ := Aside0.mk (below_step (eq2 HB GE229 GE234) hb); clear HO_6; clear HO241; clear HO244; clear HO247; clear BK229; clear BK234; clear HB; have HO_6 := n0_; have HO241 := n1_; have HO244 := n2_; have HO247 := n3_; have BK229 := n4_; have BK234 := n5_; have HB := n6_; clear n0_ n1_ n2_ n3_ n4_ n5_ n6_; (try clear hb); (try clear hb2); (try clear hk); (try clear hi)))
                  go_roundg k1
                  case measure => have := HK1.out; omega
                  case rel => exact ⟨(t245), (x7_1), (wrap64 (x14_1 + 1)), (by first | rfl | (simp; done) | (simp [*]; done)), (by first | rfl | (simp; done) | (simp [*]; done)), H', ⟨by have := HK1.out; omega⟩, ⟨by (with_reducible repeat (first | apply Kd.R_alloc | apply Kd.R_drewN | apply Kd.R_drew)); exact Kd.R_mono HO247.out (fun _ hk => trivial)⟩, ⟨bq BK229⟩, ⟨eq2 HB GE229 GE234⟩⟩
                · replace c33 := Bool.eq_false_iff.mpr c33
                  subst c33
                  have H1 : (impl_foldScore.l0 k1 x6_1 (wrap64 (x7_1 + 1)) l1 (l1.length : Int) (wrap64 (x14_1 + 1)) l0_0 a0_1) = some (r1, r2) := by rw [if_neg (show ¬ (false = true) by decide)] at H; exact H
                  clear H
                  have H := H1
                  clear H1
                  have H' := Aside0.mk H
                  clear H
                  have p233 : 0 ≤ (x14_1 : Int) := of_decide_eq_true (by first | (with_reducible assumption) | assumption)
                  have q233 : x14_1 < (l1.length : Int) := of_decide_eq_true (by first | (with_reducible assumption) | assumption)
                  obtain ⟨ad233, e233, hx233_0, hx233_1, hx233_2⟩ := at_T90 HR1.out x14_1 p233 q233
                  cases e233
                  replace hx233_0 := (HB.out.cell (World.block_lt_of_cell? w _ hx233_0)).trans hx233_0
                  replace hx233_1 := (HB.out.cell (World.block_lt_of_cell? w _ hx233_1)).trans hx233_1
                  replace hx233_2 := (HB.out.cell (World.block_lt_of_cell? w _ hx233_2)).trans hx233_2
                  replace p233 := eq_true p233
                  replace q233 := eq_true q233
                  try go_wp2_with (first | ((with_reducible refine gate_dst (N := 9) rfl ?_); refine box_event ?hg (N := 9) ?hd (cs := #[.int .i64 0, .int .i64 0, .int .i64 0]) (t := 90) ?hr ?_; (case hd => rfl); (case hg => rfl); (case hr => first | (go_simp; done) | (go_simp; rfl)); intro gb234 hg w54 hbox hb; have n0_ := Aside0.mk (Kd.R_below (Kd.R_elderB (kq HO_6) gb234 (Nat.le_of_eq hg.symm)) hb); have n1_ := Aside0.mk (blk_below (g := gb229) (o := .cells #[.slice A0_0 l0_0.length c0_0, .int .i64 a0_1] 28 (0, 0)) (bq BK229) hb); have n2_ := Aside0.mk (below_step (eq1 HB GE229) hb); have n3_ := Aside0.mk (hbox); have n4_ := Aside0.mk ((by rw [hg]; exact (below_size (eq1 HB GE229)) : w.heap.size ≤ gb234)); have n5_ := Aside0.mk ((by rw [hg]; exact (below_size (eq1 HB GE229)) : w.heap.size ≤ gb234)); have n6_ := Aside0.mk ((by rw [hg]; exact Nat.ne_of_lt (blk_lt (g := gb229) (o := .cells #[.slice A0_0 l0_0.length c0_0, .int .i64 a0_1] 28 (0, 0)) (bq BK229)) : gb229 ≠ gb234)); have n7_ := Aside0.mk ((by rw [hg]; exact Nat.ne_of_gt (blk_lt (g := gb229) (o := .cells #[.slice A0_0 l0_0.length c0_0, .int .i64 a0_1] 28 (0, 0)) (bq BK229)) : gb234 ≠ gb229)); clear HO_6; clear BK229; clear HB; have HO_6 := n0_; have BK229 := n1_; have HB := n2_; have BK234 := n3_; have GW234 := n4_; have GE234 := n5_; have NB229_234 := n6_; have NB234_229 := n7_; clear n0_ n1_ n2_ n3_ n4_ n5_ n6_ n7_; clear hb hbox hg; have hnb55 := NB234_229.out; have hnc55 := NB229_234.out; have hcz56_0 : w54.cell? ⟨gb234, 0, none⟩ = some (.int .i64 0) := (blk_cell BK234.out 0).trans rfl; have hcz56_1 : w54.cell? ⟨gb234, 1, none⟩ = some (.int .i64 0) := (blk_cell BK234.out 1).trans rfl; have hcz56_2 : w54.cell? ⟨gb234, 2, none⟩ = some (.int .i64 0) := (blk_cell BK234.out 2).trans rfl; have hfz56_0 := blk_frozen BK234.out 0; have hfz56_1 := blk_frozen BK234.out 1; have hfz56_2 := blk_frozen BK234.out 2; have hcz57_0 : w54.cell? ⟨gb229, 0, none⟩ = some (.slice A0_0 l0_0.length c0_0) := (blk_cell BK229.out 0).trans rfl; have hcz57_1 : w54.cell? ⟨gb229, 1, none⟩ = some (.int .i64 a0_1) := (blk_cell BK229.out 1).trans rfl; have hfz57_0 := blk_frozen BK229.out 0; have hfz57_1 := blk_frozen BK229.out 1) | ((with_reducible refine gate_callee (f := 79) rfl ?_); refine goesL_ (some 21) rfl rfl Try.func79 (by kernel_rfl) rfl #[.agg #[.slice A0_0 l0_0.length c0_0, .int .i64 a0_1], .int .i64 ((rd_T90 l1 x14_1).f0)] rfl (by (try simp only [List.map_toArray, List.map_cons, List.map_nil]); first | done | rfl | (simp only [List.length_drop, List.length_take]; rfl)) ?_; (with_reducible refine (impl_foldPitch.calls k1 _ _ l0_0 a0_1 ((rd_T90 l1 x14_1).f0) t235 _ ?side1 ?side2 A9.out).mono ?_); (case side1 => exact Kd.C_below HR0_0.out (eq2 HB GE229 GE234)); (case side2 => exact HC0_0.out); rintro e w58 ⟨rfl, hb⟩; refine ⟨_, rfl, ?_⟩; have n0_ := Aside0.mk (Kd.R_below (by (with_reducible repeat (first | apply Kd.R_alloc | apply Kd.R_drewN | apply Kd.R_drew)); exact (Kd.R_mono (Kd.R_far (p := ⟨gb234, 2, none⟩) (Kd.R_far (p := ⟨gb234, 1, none⟩) (Kd.R_far (p := ⟨gb234, 0, none⟩) (Kd.R_mono HO_6.out (fun k_ hk => (⟨hk, hk.2⟩ : _ ∧ k_ ≠ gb234))) (fun _ hk => hk.2) (.int .i64 ((rd_T90 l1 x14_1).f0))) (fun _ hk => hk.2) (.int .i64 ((rd_T90 l1 x14_1).f1))) (fun _ hk => hk.2) (.int .i64 ((rd_T90 l1 x14_1).f2))) (fun _ h_ => h_.1))) hb); have n1_ := Aside0.mk (blk_below (g := gb229) (o := .cells #[.slice A0_0 l0_0.length c0_0, .int .i64 a0_1] 28 (0, 0)) (by (with_reducible repeat (first | refine blk_drewN ?_ _ | refine blk_drew ?_ | refine blk_alloc ?_ _)); refine blk_far ?_ NB229_234.out _; (with_reducible repeat (first | refine blk_drewN ?_ _ | refine blk_drew ?_ | refine blk_alloc ?_ _)); refine blk_far ?_ NB229_234.out _; (with_reducible repeat (first | refine blk_drewN ?_ _ | refine blk_drew ?_ | refine blk_alloc ?_ _)); refine blk_far ?_ NB229_234.out _; (with_reducible repeat (first | refine blk_drewN ?_ _ | refine blk_drew ?_ | refine blk_alloc ?_ _)); exact BK229.out) hb); have n2_ := Aside0.mk (blk_below (g := gb234) (o := .cells #[.int .i64 ((rd_T90 l1 x14_1).f0), .int .i64 ((rd_T90 l1 x14_1).f1), .int .i64 ((rd_T90 l1 x14_1).f2)] 90 (0, 0)) (by (with_reducible repeat (first | refine blk_drewN ?_ _ | refine blk_drew ?_ | refine blk_alloc ?_ _)); refine blk_put (cs := #[.int .i64 ((rd_T90 l1 x14_1).f0), .int .i64 ((rd_T90 l1 x14_1).f1), .int .i64 0]) ?_ 2 _ rfl; (with_reducible repeat (first | refine blk_drewN ?_ _ | refine blk_drew ?_ | refine blk_alloc ?_ _)); refine blk_put (cs := #[.int .i64 ((rd_T90 l1 x14_1).f0), .int .i64 0, .int .i64 0]) ?_ 1 _ rfl; (with_reducible repeat (first | refine blk_drewN ?_ _ | refine blk_drew ?_ | refine blk_alloc ?_ _)); refine blk_put (cs := #[.int .i64 0, .int .i64 0, .int .i64 0]) ?_ 0 _ rfl; (with_reducible repeat (first | refine blk_drewN ?_ _ | refine blk_drew ?_ | refine blk_alloc ?_ _)); exact BK234.out) hb); have n3_ := Aside0.mk (below_step (eq2 HB GE229 GE234) hb); clear HO_6; clear BK229; clear BK234; clear HB; have HO_6 := n0_; have BK229 := n1_; have BK234 := n2_; have HB := n3_; clear n0_ n1_ n2_ n3_; (try clear hb); (try clear hb2); (try clear hk); (try clear hi); have hcz59_0 : w58.cell? ⟨gb234, 0, none⟩ = some (.int .i64 ((rd_T90 l1 x14_1).f0)) := (blk_cell BK234.out 0).trans rfl; have hcz59_1 : w58.cell? ⟨gb234, 1, none⟩ = some (.int .i64 ((rd_T90 l1 x14_1).f1)) := (blk_cell BK234.out 1).trans rfl; have hcz59_2 : w58.cell? ⟨gb234, 2, none⟩ = some (.int .i64 ((rd_T90 l1 x14_1).f2)) := (blk_cell BK234.out 2).trans rfl; have hfz59_0 := blk_frozen BK234.out 0; have hfz59_1 := blk_frozen BK234.out 1; have hfz59_2 := blk_frozen BK234.out 2; obtain ⟨Ao60, co60, eo60⟩ := Kd.R_slice HO_6.out; subst eo60))
                  have n0_ : Aside0 (Kd.R k90 90 (w58.setCell ⟨gb234, 0, none⟩ (.int .i64 t235)) w.heap.size (fun k_ => k_ ≠ gb234) (.slice Ao60 x6_1.length co60) x6_1) := ⟨by (with_reducible repeat (first | apply Kd.R_alloc | apply Kd.R_drewN | apply Kd.R_drew)); exact Kd.R_mono (Kd.R_far (p := ⟨gb234, 0, none⟩) (Kd.R_mono HO_6.out (fun k_ hk => (⟨hk, hk.2⟩ : _ ∧ k_ ≠ gb234))) (fun _ hk => hk.2) (.int .i64 t235)) (fun _ hk => hk.1.2)⟩
                  have n1_ : Aside0 ((w58.setCell ⟨gb234, 0, none⟩ (.int .i64 t235)).heap[gb229]? = some (.cells #[.slice A0_0 l0_0.length c0_0, .int .i64 a0_1] 28 (0, 0))) := ⟨by (with_reducible repeat (first | refine blk_drewN ?_ _ | refine blk_drew ?_ | refine blk_alloc ?_ _)); refine blk_far ?_ NB229_234.out _; (with_reducible repeat (first | refine blk_drewN ?_ _ | refine blk_drew ?_ | refine blk_alloc ?_ _)); exact BK229.out⟩
                  have n2_ : Aside0 ((w58.setCell ⟨gb234, 0, none⟩ (.int .i64 t235)).heap[gb234]? = some (.cells #[.int .i64 t235, .int .i64 ((rd_T90 l1 x14_1).f1), .int .i64 ((rd_T90 l1 x14_1).f2)] 90 (0, 0))) := ⟨by (with_reducible repeat (first | refine blk_drewN ?_ _ | refine blk_drew ?_ | refine blk_alloc ?_ _)); refine blk_put (cs := #[.int .i64 ((rd_T90 l1 x14_1).f0), .int .i64 ((rd_T90 l1 x14_1).f1), .int .i64 ((rd_T90 l1 x14_1).f2)]) ?_ 0 _ rfl; (with_reducible repeat (first | refine blk_drewN ?_ _ | refine blk_drew ?_ | refine blk_alloc ?_ _)); exact BK234.out⟩
                  have n3_ : Aside0 (Below w.heap.size w (w58.setCell ⟨gb234, 0, none⟩ (.int .i64 t235))) := ⟨eq2 HB GE229 GE234⟩
                  (try clear HO_6)
                  (try clear BK229)
                  (try clear BK234)
                  (try clear HB)
                  generalize (w58.setCell ⟨gb234, 0, none⟩ (.int .i64 t235)) = w61 at n0_ n1_ n2_ n3_ ⊢
                  have HO_6 := n0_
                  have BK229 := n1_
                  have BK234 := n2_
                  have HB := n3_
                  clear n0_ n1_ n2_ n3_
                  have n0_ := Aside0.mk (Kd.R_drew HO_6.out)
                  have n1_ := Aside0.mk (blk_drew BK229.out)
                  have n2_ := Aside0.mk (blk_drew BK234.out)
                  have n3_ := Aside0.mk (below_drew1 HB.out)
                  clear HO_6
                  clear BK229
                  clear BK234
                  clear HB
                  have HO_6 := n0_
                  have BK229 := n1_
                  have BK234 := n2_
                  have HB := n3_
                  clear n0_ n1_ n2_ n3_
                  refine start_ (n := 7) (S := fun w' => w'.cell? ⟨gb234, 0, none⟩ = some (.int .i64 t235) ∧ w'.cell? ⟨gb234, 1, none⟩ = some (.int .i64 ((rd_T90 l1 x14_1).f1)) ∧ w'.cell? ⟨gb234, 2, none⟩ = some (.int .i64 ((rd_T90 l1 x14_1).f2))) (ds := []) #[false, false, false, false, false, false, false] (by kernel_rfl) rfl rfl ⟨(blk_cell BK234.out 0).trans rfl, (blk_cell BK234.out 1).trans rfl, (blk_cell BK234.out 2).trans rfl⟩ (fun hHeld => ?_)
                  generalize w61.drew = w62 at HO_6 BK229 BK234 HB hHeld ⊢
                  refine pure_ (i := 0) (N := some 23) (v := ?_) (a' := ?_) #[true, false, false, false, false, false, false] rfl rfl (by kernel_rfl) (fun _ _ _ h => h) (Or.inl ⟨by rfl, ?_⟩) ?_ ?_
                  rotate_left
                  · intro w'
                    go_simp
                    with_reducible rfl
                  rotate_left
                  · simp only [Act.put, List.setIfInBounds_toArray, List.set_cons_zero, List.set_cons_succ, i64_w, i32_w]
                    rfl
                  refine take_ (i := 2) (N := some 25) (v := ?_) (a' := ?_) #[true, false, true, false, false, false, false] rfl rfl (by kernel_rfl) (fun _ _ _ h => h) (Or.inl ⟨by rfl, ?_⟩) hHeld ?_ ?_
                  rotate_left
                  · rintro w' ⟨s0, s1, s2⟩
                    go_simp
                    with_reducible rfl
                  rotate_left
                  · simp only [Act.put, List.setIfInBounds_toArray, List.set_cons_zero, List.set_cons_succ, i64_w, i32_w]
                    rfl
                  refine join_ (σ := Value × Value) 3 #[true, true, true, true, false, false, false] (fun s_ => [(24, s_.1), (26, s_.2)]) (fun s_ w' => (w'.cell? ⟨gb234, 0, none⟩ = some (.int .i64 t235) ∧ w'.cell? ⟨gb234, 1, none⟩ = some (.int .i64 ((rd_T90 l1 x14_1).f1)) ∧ w'.cell? ⟨gb234, 2, none⟩ = some (.int .i64 ((rd_T90 l1 x14_1).f2))) ∧ (Kd.R k90 90 w' w.heap.size (fun k_ => some k_ ≠ (s_.2 : Value).ownBlock ∧ some k_ ≠ (.slice Ao60 x6_1.length co60 : Value).ownBlock ∧ k_ ≠ gb234) s_.1 t236) ∧ (Kd.R k90 90 w' w.heap.size (fun k_ => some k_ ≠ (s_.1 : Value).ownBlock ∧ some k_ ≠ (.slice Ao60 x6_1.length co60 : Value).ownBlock ∧ k_ ≠ gb234) s_.2 y239) ∧ (Kd.R k90 90 w' w.heap.size (fun k_ => some k_ ≠ (s_.1 : Value).ownBlock ∧ some k_ ≠ (s_.2 : Value).ownBlock ∧ k_ ≠ gb234) (.slice Ao60 x6_1.length co60) x6_1) ∧ (w'.heap[gb229]? = some (.cells #[.slice A0_0 l0_0.length c0_0, .int .i64 a0_1] 28 (0, 0))) ∧ (w'.heap[gb234]? = some (.cells #[.int .i64 t235, .int .i64 ((rd_T90 l1 x14_1).f1), .int .i64 ((rd_T90 l1 x14_1).f2)] 90 (0, 0))) ∧ (Below w.heap.size w w')) ?_ ?_
                  rotate_left
                  · intro hCont
                    refine two_ (i := 1) (j := 3) (Ni := some 24) (Nj := some 26) #[true, true, true, false, false, false, false] #[true, false, true, true, false, false, false] rfl rfl rfl rfl (by kernel_rfl) (by decide) (by decide) (fun K hK => ?_) (fun K hK => ?_)
                    · skip
                      refine goes_ Try.func99 (by kernel_rfl) rfl #[.slice Ao60 x6_1.length co60] (by rfl) rfl rfl (by (try simp only [List.map_toArray, List.map_cons, List.map_nil]); first | done | rfl | (simp only [List.length_drop, List.length_take]; rfl)) ?_
                      with_reducible refine (impl_Note.calls _ _ x6_1 t236 _ ?side1 ?side2 A10.out).mono ?_
                      (case side1 => repeat (first | exact (Kd.R_reads' HO_6.out).2.2 | (with_reducible refine Kd.C_alloc ?_ _) | (with_reducible refine Kd.C_drewN ?_ _) | (with_reducible refine Kd.C_drew ?_)))
                      (case side2 => exact (Kd.R_reads' HO_6.out).2.1)
                      rintro e w63 ⟨v237, rfl, ho0, hb⟩
                      refine ⟨_, rfl, ?_⟩
                      have n0_ := Aside0.mk (Kd.R_elder' (kq HO_6) (Kd.R_base ho0) hb)
                      have n1_ := Aside0.mk (Kd.R_lower (Kd.R_newB (Kd.R_new' ho0 (Kd.R_lt (kq HO_6))) (g := gb234) (o := .cells #[.int .i64 t235, .int .i64 ((rd_T90 l1 x14_1).f1), .int .i64 ((rd_T90 l1 x14_1).f2)] 90 (0, 0)) (bq BK234)) (below_size (eq2 HB GE229 GE234)))
                      have n2_ := Aside0.mk (blk_below (g := gb229) (o := .cells #[.slice A0_0 l0_0.length c0_0, .int .i64 a0_1] 28 (0, 0)) (bq BK229) hb)
                      have n3_ := Aside0.mk (blk_below (g := gb234) (o := .cells #[.int .i64 t235, .int .i64 ((rd_T90 l1 x14_1).f1), .int .i64 ((rd_T90 l1 x14_1).f2)] 90 (0, 0)) (bq BK234) hb)
                      have n4_ := Aside0.mk (below_step (eq2 HB GE229 GE234) hb)
                      clear HO_6
                      clear BK229
                      clear BK234
                      clear HB
                      have HO_6 := n0_
                      have HO238 := n1_
                      have BK229 := n2_
                      have BK234 := n3_
                      have HB := n4_
                      clear n0_ n1_ n2_ n3_ n4_
                      (try clear hb)
                      (try clear hb2)
                      (try clear hk)
                      (try clear hi)
                      (try clear ho0)
                      refine hK.out _ _ ⟨(blk_cell BK234.out 0).trans rfl, (blk_cell BK234.out 1).trans rfl, (blk_cell BK234.out 2).trans rfl⟩ (fun hHeld => ?_)
                      clear hK K
                      refine norm_ (a' := ?_) ?_ ?_
                      rotate_left
                      · show Act.put _ (some 24) _ = _
                        simp only [Act.put, List.setIfInBounds_toArray, List.set_cons_zero, List.set_cons_succ, i64_w, i32_w]
                        rfl
                      refine one_ (i := 3) (N := some 26) #[true, true, true, true, false, false, false] rfl rfl (by kernel_rfl) (by decide) (fun K hK => ?_)
                      refine Kd.R_lit_step k90 _ 90 ?hg (N := 26) ?hd (xs := ([(⟨t235, (rd_T90 l1 x14_1).f1, (rd_T90 l1 x14_1).f2⟩ : S90)] : List (S90))) (inner := [.int .i64 t235, .int .i64 ((rd_T90 l1 x14_1).f1), .int .i64 ((rd_T90 l1 x14_1).f2)]) (ok := fun _ => True) (okp := fun _ => True) ?hr ?hp (fun _ hk => hk) trivial (Below.refl _ _) (Nat.le_refl _) (by simp) ?_; (case hd => rfl); (case hg => rfl); (case hr => first | (go_simp; done) | (go_simp; rfl)); (case hp => exact (Reps.c3 (show Kd.M k90 _ _ _ (⟨t235, (rd_T90 l1 x14_1).f1, (rd_T90 l1 x14_1).f2⟩ : S90) [.int .i64 t235, .int .i64 ((rd_T90 l1 x14_1).f1), .int .i64 ((rd_T90 l1 x14_1).f2)] from (k90_mkM _ _ _ (⟨t235, (rd_T90 l1 x14_1).f1, (rd_T90 l1 x14_1).f2⟩ : S90) )) (Reps.none _ _)))
                      intro v240 w64 ho65 hb hg_ hnew_
                      clear hg_ hnew_
                      (first | rw [← Ny239.out] at ho65 | (simp only [Int.reduceToNat] at ho65; rw [← Ny239.out] at ho65))
                      have n0_ := Aside0.mk (Kd.R_elder' (kq HO_6) (Kd.R_base ho65) hb)
                      have n1_ := Aside0.mk (Kd.R_elder' (kq HO238) (Kd.R_base ho65) hb)
                      have n2_ := Aside0.mk (Kd.R_lower (Kd.R_newB (Kd.R_new' (Kd.R_new' ho65 (Kd.R_lt (kq HO_6))) (Kd.R_lt (kq HO238))) (g := gb234) (o := .cells #[.int .i64 t235, .int .i64 ((rd_T90 l1 x14_1).f1), .int .i64 ((rd_T90 l1 x14_1).f2)] 90 (0, 0)) (bq BK234)) (below_size (eq2 HB GE229 GE234)))
                      have n3_ := Aside0.mk (blk_below (g := gb229) (o := .cells #[.slice A0_0 l0_0.length c0_0, .int .i64 a0_1] 28 (0, 0)) (bq BK229) hb)
                      have n4_ := Aside0.mk (blk_below (g := gb234) (o := .cells #[.int .i64 t235, .int .i64 ((rd_T90 l1 x14_1).f1), .int .i64 ((rd_T90 l1 x14_1).f2)] 90 (0, 0)) (bq BK234) hb)
                      have n5_ := Aside0.mk (below_step (eq2 HB GE229 GE234) hb)
                      clear HO_6
                      clear HO238
                      clear BK229
                      clear BK234
                      clear HB
                      have HO_6 := n0_
                      have HO238 := n1_
                      have HO241 := n2_
                      have BK229 := n3_
                      have BK234 := n4_
                      have HB := n5_
                      clear n0_ n1_ n2_ n3_ n4_ n5_
                      clear hb ho65
                      refine hK.out _ _ ⟨(blk_cell BK234.out 0).trans rfl, (blk_cell BK234.out 1).trans rfl, (blk_cell BK234.out 2).trans rfl⟩ (fun hHeld => ?_)
                      clear hK K
                      refine norm_ (a' := ?_) ?_ ?_
                      rotate_left
                      · show Act.put _ (some 26) _ = _
                        simp only [Act.put, List.setIfInBounds_toArray, List.set_cons_zero, List.set_cons_succ, i64_w, i32_w]
                        rfl
                      exact norm_ (by simp only [putAll, Act.put, List.setIfInBounds_toArray, List.set_cons_zero, List.set_cons_succ]) (hCont (v237, v240) _ ⟨hHeld, (by (with_reducible repeat (first | apply Kd.R_alloc | apply Kd.R_drewN | apply Kd.R_drew)); exact Kd.R_mono HO238.out (fun _ hk => ⟨hk.2, ⟨hk.1.1.2, hk.1.2⟩⟩)), (by (with_reducible repeat (first | apply Kd.R_alloc | apply Kd.R_drewN | apply Kd.R_drew)); exact Kd.R_mono HO241.out (fun _ hk => ⟨hk.1.2, ⟨hk.1.1.2, hk.2⟩⟩)), (by (with_reducible repeat (first | apply Kd.R_alloc | apply Kd.R_drewN | apply Kd.R_drew)); exact Kd.R_mono HO_6.out (fun _ hk => ⟨hk.1.2, ⟨hk.2, hk.1.1⟩⟩)), (bq BK229), (bq BK234), (eq2 HB GE229 GE234)⟩)
                    · skip
                      refine Kd.R_lit_step k90 _ 90 ?hg (N := 26) ?hd (xs := ([(⟨t235, (rd_T90 l1 x14_1).f1, (rd_T90 l1 x14_1).f2⟩ : S90)] : List (S90))) (inner := [.int .i64 t235, .int .i64 ((rd_T90 l1 x14_1).f1), .int .i64 ((rd_T90 l1 x14_1).f2)]) (ok := fun _ => True) (okp := fun _ => True) ?hr ?hp (fun _ hk => hk) trivial (Below.refl _ _) (Nat.le_refl _) (by simp) ?_; (case hd => rfl); (case hg => rfl); (case hr => first | (go_simp; done) | (go_simp; rfl)); (case hp => exact (Reps.c3 (show Kd.M k90 _ _ _ (⟨t235, (rd_T90 l1 x14_1).f1, (rd_T90 l1 x14_1).f2⟩ : S90) [.int .i64 t235, .int .i64 ((rd_T90 l1 x14_1).f1), .int .i64 ((rd_T90 l1 x14_1).f2)] from (k90_mkM _ _ _ (⟨t235, (rd_T90 l1 x14_1).f1, (rd_T90 l1 x14_1).f2⟩ : S90) )) (Reps.none _ _)))
                      intro v240 w63 ho64 hb hg_ hnew_
                      clear hg_ hnew_
                      (first | rw [← Ny239.out] at ho64 | (simp only [Int.reduceToNat] at ho64; rw [← Ny239.out] at ho64))
                      have n0_ := Aside0.mk (Kd.R_elder' (kq HO_6) (Kd.R_base ho64) hb)
                      have n1_ := Aside0.mk (Kd.R_lower (Kd.R_newB (Kd.R_new' ho64 (Kd.R_lt (kq HO_6))) (g := gb234) (o := .cells #[.int .i64 t235, .int .i64 ((rd_T90 l1 x14_1).f1), .int .i64 ((rd_T90 l1 x14_1).f2)] 90 (0, 0)) (bq BK234)) (below_size (eq2 HB GE229 GE234)))
                      have n2_ := Aside0.mk (blk_below (g := gb229) (o := .cells #[.slice A0_0 l0_0.length c0_0, .int .i64 a0_1] 28 (0, 0)) (bq BK229) hb)
                      have n3_ := Aside0.mk (blk_below (g := gb234) (o := .cells #[.int .i64 t235, .int .i64 ((rd_T90 l1 x14_1).f1), .int .i64 ((rd_T90 l1 x14_1).f2)] 90 (0, 0)) (bq BK234) hb)
                      have n4_ := Aside0.mk (below_step (eq2 HB GE229 GE234) hb)
                      clear HO_6
                      clear BK229
                      clear BK234
                      clear HB
                      have HO_6 := n0_
                      have HO241 := n1_
                      have BK229 := n2_
                      have BK234 := n3_
                      have HB := n4_
                      clear n0_ n1_ n2_ n3_ n4_
                      clear hb ho64
                      refine hK.out _ _ ⟨(blk_cell BK234.out 0).trans rfl, (blk_cell BK234.out 1).trans rfl, (blk_cell BK234.out 2).trans rfl⟩ (fun hHeld => ?_)
                      clear hK K
                      refine norm_ (a' := ?_) ?_ ?_
                      rotate_left
                      · show Act.put _ (some 26) _ = _
                        simp only [Act.put, List.setIfInBounds_toArray, List.set_cons_zero, List.set_cons_succ, i64_w, i32_w]
                        rfl
                      refine one_ (i := 1) (N := some 24) #[true, true, true, true, false, false, false] rfl rfl (by kernel_rfl) (by decide) (fun K hK => ?_)
                      refine goes_ Try.func99 (by kernel_rfl) rfl #[.slice Ao60 x6_1.length co60] (by rfl) rfl rfl (by (try simp only [List.map_toArray, List.map_cons, List.map_nil]); first | done | rfl | (simp only [List.length_drop, List.length_take]; rfl)) ?_
                      with_reducible refine (impl_Note.calls _ _ x6_1 t236 _ ?side1 ?side2 A10.out).mono ?_
                      (case side1 => repeat (first | exact (Kd.R_reads' HO_6.out).2.2 | (with_reducible refine Kd.C_alloc ?_ _) | (with_reducible refine Kd.C_drewN ?_ _) | (with_reducible refine Kd.C_drew ?_)))
                      (case side2 => exact (Kd.R_reads' HO_6.out).2.1)
                      rintro e w65 ⟨v237, rfl, ho0, hb⟩
                      refine ⟨_, rfl, ?_⟩
                      have n0_ := Aside0.mk (Kd.R_elder' (kq HO_6) (Kd.R_base ho0) hb)
                      have n1_ := Aside0.mk (Kd.R_elder' (kq HO241) (Kd.R_base ho0) hb)
                      have n2_ := Aside0.mk (Kd.R_lower (Kd.R_newB (Kd.R_new' (Kd.R_new' ho0 (Kd.R_lt (kq HO_6))) (Kd.R_lt (kq HO241))) (g := gb234) (o := .cells #[.int .i64 t235, .int .i64 ((rd_T90 l1 x14_1).f1), .int .i64 ((rd_T90 l1 x14_1).f2)] 90 (0, 0)) (bq BK234)) (below_size (eq2 HB GE229 GE234)))
                      have n3_ := Aside0.mk (blk_below (g := gb229) (o := .cells #[.slice A0_0 l0_0.length c0_0, .int .i64 a0_1] 28 (0, 0)) (bq BK229) hb)
                      have n4_ := Aside0.mk (blk_below (g := gb234) (o := .cells #[.int .i64 t235, .int .i64 ((rd_T90 l1 x14_1).f1), .int .i64 ((rd_T90 l1 x14_1).f2)] 90 (0, 0)) (bq BK234) hb)
                      have n5_ := Aside0.mk (below_step (eq2 HB GE229 GE234) hb)
                      clear HO_6
                      clear HO241
                      clear BK229
                      clear BK234
                      clear HB
                      have HO_6 := n0_
                      have HO241 := n1_
                      have HO238 := n2_
                      have BK229 := n3_
                      have BK234 := n4_
                      have HB := n5_
                      clear n0_ n1_ n2_ n3_ n4_ n5_
                      (try clear hb)
                      (try clear hb2)
                      (try clear hk)
                      (try clear hi)
                      (try clear ho0)
                      refine hK.out _ _ ⟨(blk_cell BK234.out 0).trans rfl, (blk_cell BK234.out 1).trans rfl, (blk_cell BK234.out 2).trans rfl⟩ (fun hHeld => ?_)
                      clear hK K
                      refine norm_ (a' := ?_) ?_ ?_
                      rotate_left
                      · show Act.put _ (some 24) _ = _
                        simp only [Act.put, List.setIfInBounds_toArray, List.set_cons_zero, List.set_cons_succ, i64_w, i32_w]
                        rfl
                      exact norm_ (by simp only [putAll, Act.put, List.setIfInBounds_toArray, List.set_cons_zero, List.set_cons_succ]) (hCont (v237, v240) _ ⟨hHeld, (by (with_reducible repeat (first | apply Kd.R_alloc | apply Kd.R_drewN | apply Kd.R_drew)); exact Kd.R_mono HO238.out (fun _ hk => ⟨hk.1.2, ⟨hk.1.1.2, hk.2⟩⟩)), (by (with_reducible repeat (first | apply Kd.R_alloc | apply Kd.R_drewN | apply Kd.R_drew)); exact Kd.R_mono HO241.out (fun _ hk => ⟨hk.2, ⟨hk.1.1.2, hk.1.2⟩⟩)), (by (with_reducible repeat (first | apply Kd.R_alloc | apply Kd.R_drewN | apply Kd.R_drew)); exact Kd.R_mono HO_6.out (fun _ hk => ⟨hk.2, ⟨hk.1.2, hk.1.1⟩⟩)), (bq BK229), (bq BK234), (eq2 HB GE229 GE234)⟩)
                  rintro ⟨v237, v240⟩ w66 ⟨hS_, h0_, h1_, h2_, h3_, h4_, h5_⟩
                  have n0_ : Aside0 (Kd.R k90 90 w66 w.heap.size (fun k_ => some k_ ≠ (v240 : Value).ownBlock ∧ some k_ ≠ (.slice Ao60 x6_1.length co60 : Value).ownBlock ∧ k_ ≠ gb234) v237 t236) := ⟨h0_⟩
                  have n1_ : Aside0 (Kd.R k90 90 w66 w.heap.size (fun k_ => some k_ ≠ (v237 : Value).ownBlock ∧ some k_ ≠ (.slice Ao60 x6_1.length co60 : Value).ownBlock ∧ k_ ≠ gb234) v240 y239) := ⟨h1_⟩
                  have n2_ : Aside0 (Kd.R k90 90 w66 w.heap.size (fun k_ => some k_ ≠ (v237 : Value).ownBlock ∧ some k_ ≠ (v240 : Value).ownBlock ∧ k_ ≠ gb234) (.slice Ao60 x6_1.length co60) x6_1) := ⟨h2_⟩
                  have n3_ : Aside0 (w66.heap[gb229]? = some (.cells #[.slice A0_0 l0_0.length c0_0, .int .i64 a0_1] 28 (0, 0))) := ⟨h3_⟩
                  have n4_ : Aside0 (w66.heap[gb234]? = some (.cells #[.int .i64 t235, .int .i64 ((rd_T90 l1 x14_1).f1), .int .i64 ((rd_T90 l1 x14_1).f2)] 90 (0, 0))) := ⟨h4_⟩
                  have n5_ : Aside0 (Below w.heap.size w w66) := ⟨h5_⟩
                  clear HO_6
                  clear BK229
                  clear BK234
                  clear HB
                  clear h0_ h1_ h2_ h3_ h4_ h5_
                  have HO238 := n0_
                  have HO241 := n1_
                  have HO_6 := n2_
                  have BK229 := n3_
                  have BK234 := n4_
                  have HB := n5_
                  clear n0_ n1_ n2_ n3_ n4_ n5_
                  have hHeld : w66.cell? ⟨gb234, 0, none⟩ = some (.int .i64 t235) ∧ w66.cell? ⟨gb234, 1, none⟩ = some (.int .i64 ((rd_T90 l1 x14_1).f1)) ∧ w66.cell? ⟨gb234, 2, none⟩ = some (.int .i64 ((rd_T90 l1 x14_1).f2)) := hS_
                  obtain ⟨Ao68, co68, eo68⟩ := Kd.R_slice HO241.out
                  (first | subst eo68 | (injection eo68 with f1_ f2_ f3_; have f4_ := f1_.symm; have f5_ := f3_.symm; clear f1_ f2_ f3_; subst f4_; subst f5_))
                  refine norm_ (a' := ?_) ?_ ?_
                  rotate_left
                  · simp only [putAll, Act.put, List.setIfInBounds_toArray, List.set_cons_zero, List.set_cons_succ]
                    rfl
                  refine one_ (i := 4) (N := some 27) #[true, true, true, true, true, false, false] rfl rfl (by kernel_rfl) (by decide) (fun K hK => ?_)
                  refine Kd.R_append_rows_step k90 (w0 := w) w.heap.size (by rfl) (.tmp 24) (.tmp 26) 35 90 (.agg #[(.int .i64 0), (.int .i64 0), (.int .i64 0)]) 24 rfl Try.underlying35 info90 rfl (by decide) (by omega) v237 t236 y239 _ _ _ (fun k_ => some k_ ≠ (.slice Ao60 x6_1.length co60 : Value).ownBlock ∧ some k_ ≠ (.slice Ao68 y239.length co68 : Value).ownBlock ∧ k_ ≠ gb234) (fun _ => False) rfl rfl ?aO ?aR (fun _ _ h => h) (fun _ h => h.elim) ?aF ?aB ?aS ?aL ?_
                  (case aR => repeat (first | exact (Kd.R_reads' HO241.out).2.2 | (with_reducible refine Kd.C_alloc ?_ _) | (with_reducible refine Kd.C_drewN ?_ _) | (with_reducible refine Kd.C_drew ?_)))
                  (case aB => exact (eq2 HB GE229 GE234))
                  (case aF => exact (fun k_ hk => ⟨Kd.fresh' (Kd.R_lt (kq HO_6)) k_ hk, Kd.fresh' (Kd.R_lt (kq HO241)) k_ hk, Kd.freshB (g := gb234) (o := .cells #[.int .i64 t235, .int .i64 ((rd_T90 l1 x14_1).f1), .int .i64 ((rd_T90 l1 x14_1).f2)] 90 (0, 0)) (bq BK234) k_ hk⟩))
                  (case aO => exact (by (with_reducible repeat (first | apply Kd.R_alloc | apply Kd.R_drewN | apply Kd.R_drew)); exact Kd.R_mono HO238.out (fun _ hk => ⟨hk.2.1, ⟨hk.1, hk.2.2⟩⟩)))
                  (case aS => exact (below_size (eq2 HB GE229 GE234)))
                  (case aL => have := LMc11.out; omega)
                  intro v243 w67 ho hb hg hat
                  rw [← Ny242.out] at ho
                  have n0_ := Aside0.mk (Kd.R_after (ok := (fun k_ => some k_ ≠ (.slice Ao68 y239.length co68 : Value).ownBlock ∧ k_ ≠ gb234)) (by (with_reducible repeat (first | apply Kd.R_alloc | apply Kd.R_drewN | apply Kd.R_drew)); exact Kd.R_mono HO_6.out (fun _ hk => ⟨⟨hk.2.1, hk.2.2⟩, hk.1⟩)) hg hat)
                  have n1_ := Aside0.mk (blk_grown (g := gb229) (o := .cells #[.slice A0_0 l0_0.length c0_0, .int .i64 a0_1] 28 (0, 0)) (bq BK229) hg (Kd.R_ne HO238.out BK229.out (by decide)))
                  have n2_ := Aside0.mk (blk_grown (g := gb234) (o := .cells #[.int .i64 t235, .int .i64 ((rd_T90 l1 x14_1).f1), .int .i64 ((rd_T90 l1 x14_1).f2)] 90 (0, 0)) (bq BK234) hg (Kd.R_away HO238.out (fun _ hk => hk.2.2)))
                  have n3_ := Aside0.mk (Kd.R_after (ok := (fun k_ => some k_ ≠ (.slice Ao60 x6_1.length co60 : Value).ownBlock ∧ k_ ≠ gb234)) (by (with_reducible repeat (first | apply Kd.R_alloc | apply Kd.R_drewN | apply Kd.R_drew)); exact Kd.R_mono HO241.out (fun _ hk => ⟨⟨hk.2.1, hk.2.2⟩, hk.1⟩)) hg hat)
                  have n4_ := Aside0.mk (hb)
                  have n5_ := Aside0.mk (ho)
                  clear HO_6
                  clear BK229
                  clear BK234
                  clear HO241
                  clear HB
                  clear HO238
                  have HO_6 := n0_
                  have BK229 := n1_
                  have BK234 := n2_
                  have HO241 := n3_
                  have HB := n4_
                  have HO244 := n5_
                  clear n0_ n1_ n2_ n3_ n4_ n5_
                  clear ho hb hg hat
                  obtain ⟨Ao69, co69, eo69⟩ := Kd.R_slice HO244.out
                  (first | subst eo69 | (injection eo69 with f1_ f2_ f3_; have f4_ := f1_.symm; have f5_ := f3_.symm; clear f1_ f2_ f3_; subst f4_; subst f5_))
                  refine hK.out _ _ ⟨(blk_cell BK234.out 0).trans rfl, (blk_cell BK234.out 1).trans rfl, (blk_cell BK234.out 2).trans rfl⟩ (fun hHeld => ?_)
                  clear hK K
                  refine norm_ (a' := ?_) ?_ ?_
                  rotate_left
                  · show Act.put _ (some 27) _ = _
                    simp only [Act.put, List.setIfInBounds_toArray, List.set_cons_zero, List.set_cons_succ, i64_w, i32_w]
                    rfl
                  refine one_ (i := 5) (N := some 28) #[true, true, true, true, true, true, false] rfl rfl (by kernel_rfl) (by decide) (fun K hK => ?_)
                  refine goes_ Try.func140 (by kernel_rfl) rfl #[.slice Ao69 y242.length co69] (by rfl) rfl rfl (by (try simp only [List.map_toArray, List.map_cons, List.map_nil]); first | done | rfl | (simp only [List.length_drop, List.length_take]; rfl)) ?_
                  with_reducible refine (impl_sortedNotes.calls _ _ y242 t245 _ ?side1 ?side2 A12.out).mono ?_
                  (case side1 => repeat (first | exact (Kd.R_reads' HO244.out).2.2 | (with_reducible refine Kd.C_alloc ?_ _) | (with_reducible refine Kd.C_drewN ?_ _) | (with_reducible refine Kd.C_drew ?_)))
                  (case side2 => exact (Kd.R_reads' HO244.out).2.1)
                  rintro e w70 ⟨v246, rfl, ho0, hb⟩
                  refine ⟨_, rfl, ?_⟩
                  have n0_ := Aside0.mk (Kd.R_elder' (kq HO_6) (Kd.R_base ho0) hb)
                  have n1_ := Aside0.mk (Kd.R_elder' (kq HO241) (Kd.R_base ho0) hb)
                  have n2_ := Aside0.mk (Kd.R_elder' (kq HO244) (Kd.R_base ho0) hb)
                  have n3_ := Aside0.mk (Kd.R_lower (Kd.R_newB (Kd.R_new' (Kd.R_new' (Kd.R_new' ho0 (Kd.R_lt (kq HO_6))) (Kd.R_lt (kq HO241))) (Kd.R_lt (kq HO244))) (g := gb234) (o := .cells #[.int .i64 t235, .int .i64 ((rd_T90 l1 x14_1).f1), .int .i64 ((rd_T90 l1 x14_1).f2)] 90 (0, 0)) (bq BK234)) (below_size (eq2 HB GE229 GE234)))
                  have n4_ := Aside0.mk (blk_below (g := gb229) (o := .cells #[.slice A0_0 l0_0.length c0_0, .int .i64 a0_1] 28 (0, 0)) (bq BK229) hb)
                  have n5_ := Aside0.mk (blk_below (g := gb234) (o := .cells #[.int .i64 t235, .int .i64 ((rd_T90 l1 x14_1).f1), .int .i64 ((rd_T90 l1 x14_1).f2)] 90 (0, 0)) (bq BK234) hb)
                  have n6_ := Aside0.mk (below_step (eq2 HB GE229 GE234) hb)
                  clear HO_6
                  clear HO241
                  clear HO244
                  clear BK229
                  clear BK234
                  clear HB
                  have HO_6 := n0_
                  have HO241 := n1_
                  have HO244 := n2_
                  have HO247 := n3_
                  have BK229 := n4_
                  have BK234 := n5_
                  have HB := n6_
                  clear n0_ n1_ n2_ n3_ n4_ n5_ n6_
                  (try clear hb)
                  (try clear hb2)
                  (try clear hk)
                  (try clear hi)
                  (try clear ho0)
                  refine hK.out _ _ ⟨(blk_cell BK234.out 0).trans rfl, (blk_cell BK234.out 1).trans rfl, (blk_cell BK234.out 2).trans rfl⟩ (fun hHeld => ?_)
                  clear hK K
                  refine norm_ (a' := ?_) ?_ ?_
                  rotate_left
                  · show Act.put _ (some 28) _ = _
                    simp only [Act.put, List.setIfInBounds_toArray, List.set_cons_zero, List.set_cons_succ, i64_w, i32_w]
                    rfl
                  refine pure_ (i := 6) (N := some 10) (v := ?_) (a' := ?_) #[true, true, true, true, true, true, true] rfl rfl (by kernel_rfl) (fun _ _ _ h => h) (Or.inl ⟨by rfl, ?_⟩) ?_ ?_
                  rotate_left
                  · intro w'
                    go_simp
                    with_reducible rfl
                  rotate_left
                  · simp only [Act.put, List.setIfInBounds_toArray, List.set_cons_zero, List.set_cons_succ, i64_w, i32_w]
                    rfl
                  refine done_ (by kernel_rfl) ?_
                  have hcz71_0 : w70.cell? ⟨gb234, 0, none⟩ = some (.int .i64 t235) := (blk_cell BK234.out 0).trans rfl
                  have hcz71_1 : w70.cell? ⟨gb234, 1, none⟩ = some (.int .i64 ((rd_T90 l1 x14_1).f1)) := (blk_cell BK234.out 1).trans rfl
                  have hcz71_2 : w70.cell? ⟨gb234, 2, none⟩ = some (.int .i64 ((rd_T90 l1 x14_1).f2)) := (blk_cell BK234.out 2).trans rfl
                  have hfz71_0 := blk_frozen BK234.out 0
                  have hfz71_1 := blk_frozen BK234.out 1
                  have hfz71_2 := blk_frozen BK234.out 2
                  obtain ⟨Ao72, co72, eo72⟩ := Kd.R_slice HO247.out
                  subst eo72
                  try go_wp2_with (first | (go_at_call 84; (with_reducible refine (impl_IsScore.calls k1 _ _ t245 false _ ?side1 ?side2 A32.out).mono ?_); (case side1 => repeat (first | exact (Kd.R_reads' HO247.out).2.2 | (with_reducible refine Kd.C_alloc ?_ _) | (with_reducible refine Kd.C_drewN ?_ _) | (with_reducible refine Kd.C_drew ?_))); (case side2 => exact (Kd.R_reads' HO247.out).2.1); rintro e w73 ⟨rfl, hb⟩; have n0_ := Aside0.mk (Kd.R_below (kq HO_6) hb); have n1_ := Aside0.mk (Kd.R_below (kq HO241) hb); have n2_ := Aside0.mk (Kd.R_below (kq HO244) hb); have n3_ := Aside0.mk (Kd.R_below (kq HO247) hb); have n4_ := Aside0.mk (blk_below (g := gb229) (o := .cells #[.slice A0_0 l0_0.length c0_0, .int .i64 a0_1] 28 (0, 0)) (bq BK229) hb); have n5_ := Aside0.mk (blk_below (g := gb234) (o := .cells #[.int .i64 t235, .int .i64 ((rd_T90 l1 x14_1).f1), .int .i64 ((rd_T90 l1 x14_1).f2)] 90 (0, 0)) (bq BK234) hb); have n6_ := Aside0.mk (below_step (eq2 HB GE229 GE234) hb); clear HO_6; clear HO241; clear HO244; clear HO247; clear BK229; clear BK234; clear HB; have HO_6 := n0_; have HO241 := n1_; have HO244 := n2_; have HO247 := n3_; have BK229 := n4_; have BK234 := n5_; have HB := n6_; clear n0_ n1_ n2_ n3_ n4_ n5_ n6_; (try clear hb); (try clear hb2); (try clear hk); (try clear hi)))
                  go_roundg k1
                  case measure => have := HK1.out; omega
                  case rel => exact ⟨(x6_1), (wrap64 (x7_1 + 1)), (wrap64 (x14_1 + 1)), (by first | rfl | (simp; done) | (simp [*]; done)), (by first | rfl | (simp; done) | (simp [*]; done)), H', ⟨by have := HK1.out; omega⟩, ⟨by (with_reducible repeat (first | apply Kd.R_alloc | apply Kd.R_drewN | apply Kd.R_drew)); exact Kd.R_mono HO_6.out (fun _ hk => trivial)⟩, ⟨bq BK229⟩, ⟨eq2 HB GE229 GE234⟩⟩
            · rw [if_neg c11] at H
              exact absurd H (by simp)
          · rw [if_neg c8] at H
            exact absurd H (by simp)
        · rw [if_neg c7] at H
          exact absurd H (by simp)
      · rw [if_neg c6] at H
        have c6b0 : decide (x14_1 < (l1.length : Int)) = false := decide_eq_false c6
        clear c6
        simp only [Option.some.injEq, Prod.mk.injEq] at H
        obtain ⟨rfl, rfl⟩ := H
        go_wp2
        go_ret2
        exact ⟨_, by first | rfl | (simp [errW_none, errW_some] <;> rfl) | (simp [*, errW_none, errW_some] <;> rfl), kq HO_6, eq1 HB GE229⟩

end Go.Proofs.Ytgooeiibhhbboaa.F
