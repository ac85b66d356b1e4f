/- Written by a program of this session over the print of the loaded functions: what each Go function computes, and that the call comes to it. -/
import Derived.Test.YtgooeiibhhbboaaFRC
import Derived.Test.YtgooeiibhhbboaaF0
import Derived.Test.YtgooeiibhhbboaaF3
import Derived.Test.YtgooeiibhhbboaaF5
import Derived.Test.YtgooeiibhhbboaaF7
namespace Go.Proofs.Ytgooeiibhhbboaa.F
open Go.RowKit Go.Proofs.YtgooeiibhhbboaaW.PrintWords Go.Proofs.YtgooeiibhhbboaaW.PrintLast Go.Proofs.YtgooeiibhhbboaaW.PrintMore
attribute [local go_sem] max2_int min2_int max_two min_two max_three min_three max_four min_four   -- for this text's walks alone
set_option linter.unusedVariables false
set_option linter.unusedSimpArgs false

/-! ### spec_trFold: function 93 -/
mutual
def spec_trFold.l0 : Nat → Int → List (S90) → Int → List (S90) → Int → Int → List Int → Int → Option ((List (S90)) × Int)
  | 0, _, _, _, _, _, _, _, _ => none
  | k + 1, x2, x8, x9, x15, x16, x17, x195000, x195001 => if x17 < x16 then (if 0 ≤ x17 then (if x17 < (x15.length : Int) then ((spec_ntPitch.f (wrap64 (((rd_T90 x15 x17).f0) + x2))).bind fun t197 => (if t197 = true then ((spec_trNearest.f k x195000 x195001 (wrap64 (((rd_T90 x15 x17).f0) + x2)) 12).bind fun t198 => (spec_trFold.j1 k x2 x8 x9 t198 x15 x16 x17 x195000 x195001 ((rd_T90 x15 x17).f0) ((rd_T90 x15 x17).f1) ((rd_T90 x15 x17).f2))) else (spec_trFold.j1 k x2 x8 x9 (-1) x15 x16 x17 x195000 x195001 ((rd_T90 x15 x17).f0) ((rd_T90 x15 x17).f1) ((rd_T90 x15 x17).f2)))) else (none)) else (none)) else (some (x8, x9))
def spec_trFold.j1 : Nat → Int → List (S90) → Int → Int → List (S90) → Int → Int → List Int → Int → Int → Int → Int → Option ((List (S90)) × Int)
  | 0, _, _, _, _, _, _, _, _, _, _, _, _ => none
  | k + 1, x2, x8, x9, x12, x15, x16, x17, x195000, x195001, x197000, x197001, x197002 => (some (([] : List (S90)) : List (S90))).bind fun y199 => (if y199.length + x8.length < 5864062014805 then ((some (y199 ++ x8 : List (S90))).bind fun y202 => ((some (([(⟨x12, x197001, x197002⟩ : S90)] : List (S90)) : List (S90))).bind fun y205 => (if y202.length + y205.length < 5864062014805 then ((spec_ntSorted.f k (y202 ++ y205)).bind fun bt211 => (if bt211.2 = true then (spec_trFold.l0 k x2 bt211.1 x9 x15 x16 (wrap64 (x17 + 1)) x195000 x195001) else (spec_trFold.l0 k x2 x8 (wrap64 (x9 + 1)) x15 x16 (wrap64 (x17 + 1)) x195000 x195001))) else (none)))) else (none))
end
def spec_trFold.f (k : Nat) (l0_0 : List Int) (a0_1 : Int) (l1 : List (S90)) (a2 : Int) : Option ((List (S90)) × Int) := spec_trFold.l0 k a2 ([] : List (S90)) 0 l1 (l1.length : Int) 0 l0_0 a0_1
theorem spec_trFold.mono_l : ∀ k, (∀ y0 y1 y2 y3 y4 y5 y6 y7, LeO (spec_trFold.l0 k y0 y1 y2 y3 y4 y5 y6 y7) (spec_trFold.l0 (k + 1) y0 y1 y2 y3 y4 y5 y6 y7)) ∧ (∀ y0 y1 y2 y3 y4 y5 y6 y7 y8 y9 y10 y11, LeO (spec_trFold.j1 k y0 y1 y2 y3 y4 y5 y6 y7 y8 y9 y10 y11) (spec_trFold.j1 (k + 1) y0 y1 y2 y3 y4 y5 y6 y7 y8 y9 y10 y11))
  | 0 => ⟨fun _ _ _ _ _ _ _ _ r h => by simp [spec_trFold.l0] at h, fun _ _ _ _ _ _ _ _ _ _ _ _ r h => by simp [spec_trFold.j1] at h⟩
  | k + 1 => by
    obtain ⟨ih0, ih1⟩ := spec_trFold.mono_l k
    refine ⟨?_, ?_⟩
    · intro y0 y1 y2 y3 y4 y5 y6 y7
      unfold spec_trFold.l0
      repeat' first
      | (with_reducible exact ih0 _ _ _ _ _ _ _ _)
      | (with_reducible exact ih1 _ _ _ _ _ _ _ _ _ _ _ _)
      | (with_reducible exact spec_ntSorted.mono _ _)
      | (with_reducible exact spec_trNearest.mono _ _ _ _ _)
      | (with_reducible exact LeO.refl _)
      | (with_reducible exact LeO.none _)
      | (with_reducible refine LeO.ite ?_ ?_)
      | (with_reducible refine LeO.bind ?_ (fun _ => ?_))
      | exact ih0 _ _ _ _ _ _ _ _
      | exact ih1 _ _ _ _ _ _ _ _ _ _ _ _
      | exact spec_ntSorted.mono _ _
      | exact spec_trNearest.mono _ _ _ _ _
      | exact LeO.none _
      | refine LeO.ite ?_ ?_
      | refine LeO.bind ?_ (fun _ => ?_)
    · intro y0 y1 y2 y3 y4 y5 y6 y7 y8 y9 y10 y11
      unfold spec_trFold.j1
      repeat' first
      | (with_reducible exact ih0 _ _ _ _ _ _ _ _)
      | (with_reducible exact ih1 _ _ _ _ _ _ _ _ _ _ _ _)
      | (with_reducible exact spec_ntSorted.mono _ _)
      | (with_reducible exact spec_trNearest.mono _ _ _ _ _)
      | (with_reducible exact LeO.refl _)
      | (with_reducible exact LeO.none _)
      | (with_reducible refine LeO.ite ?_ ?_)
      | (with_reducible refine LeO.bind ?_ (fun _ => ?_))
      | exact ih0 _ _ _ _ _ _ _ _
      | exact ih1 _ _ _ _ _ _ _ _ _ _ _ _
      | exact spec_ntSorted.mono _ _
      | exact spec_trNearest.mono _ _ _ _ _
      | exact LeO.none _
      | refine LeO.ite ?_ ?_
      | refine LeO.bind ?_ (fun _ => ?_)
theorem spec_trFold.mono : ∀ a0 a1 a2 a3 k, LeO (spec_trFold.f k a0 a1 a2 a3) (spec_trFold.f (k + 1) a0 a1 a2 a3) := by
  intro a0 a1 a2 a3 k
  obtain ⟨ih0, ih1⟩ := spec_trFold.mono_l k
  unfold spec_trFold.f
  repeat' first
      | (with_reducible exact ih0 _ _ _ _ _ _ _ _)
      | (with_reducible exact ih1 _ _ _ _ _ _ _ _ _ _ _ _)
      | (with_reducible exact spec_ntSorted.mono _ _)
      | (with_reducible exact spec_trNearest.mono _ _ _ _ _)
      | (with_reducible exact LeO.refl _)
      | (with_reducible exact LeO.none _)
      | (with_reducible refine LeO.ite ?_ ?_)
      | (with_reducible refine LeO.bind ?_ (fun _ => ?_))
      | exact ih0 _ _ _ _ _ _ _ _
      | exact ih1 _ _ _ _ _ _ _ _ _ _ _ _
      | exact spec_ntSorted.mono _ _
      | exact spec_trNearest.mono _ _ _ _ _
      | exact LeO.none _
      | refine LeO.ite ?_ ?_
      | refine LeO.bind ?_ (fun _ => ?_)
def spec_trFold.T9 : Bool × List (List Nat × List Nat) := (true, [([], []), ([], []), ([0, 1], [0, 1]), ([], []), ([], []), ([4], [4]), ([], []), ([6], [6]), ([3, 5, 7], [3, 5, 7]), ([8], [8]), ([2, 9, 2], [2, 9]), ([10, 10], [10]), ([11], [11]), ([12], [12]), ([12], [12]), ([13, 11, 0, 1, 2, 3, 4, 5, 6, 7, 8, 9, 10, 11, 12, 13], [13]), ([14, 15, 0, 1, 2, 3, 4, 5, 6, 7, 8, 9, 10, 11, 12, 13, 14, 15], [14])])
def spec_trFold.B9 : List Nat := [0, 0, 3, 0, 0, 16, 0, 64, 248, 504, 1023, 2047, 4095, 8191, 8191, 16383, 65535]
theorem spec_trFold.tab9 : rtab .any (opsOf Try.f93 9) = spec_trFold.T9 := by kernel_rfl
theorem spec_trFold.bits9 : waitsOk spec_trFold.T9.2 spec_trFold.B9 = true := by kernel_rfl
set_option maxHeartbeats 8000000 in
set_option maxRecDepth 100000 in
theorem spec_trFold.calls (k : Nat) (A0_0 : Option Addr) (c0_0 : Nat) (l0_0 : List Int) (a0_1 : Int) (A1 : Option Addr) (c1 : Nat) (l1 : List (S90)) (a2 : Int) (r1 : List (S90)) (r2 : Int) (w : World) (hr0_0 : Kd.C (Kd.int .i64) w A0_0 l0_0.length l0_0) (hc0_0 : l0_0.length ≤ c0_0) (hr1 : Kd.C k90 w A1 l1.length l1) (hc1 : l1.length ≤ c1) (h : spec_trFold.f k l0_0 a0_1 l1 a2 = some (r1, r2)) :
    Calls Try.prog 93 #[.agg #[.slice A0_0 l0_0.length c0_0, .int .i64 a0_1], .slice A1 l1.length c1, .int .i64 a2] w fun e w' => ∃ v0_ : Value, e = .returned (.tuple #[v0_, .int .i64 r2]) ∧ Kd.R k90 90 w' w.heap.size (fun _ => True) v0_ r1 ∧ Below w.heap.size w w' := by
  have hu28 := Try.underlying28
  have hu90 := Try.underlying90
  have HR0_0 := Aside0.mk hr0_0
  have HC0_0 := Aside0.mk hc0_0
  clear hr0_0 hc0_0
  have HR1 := Aside0.mk hr1
  have HC1 := Aside0.mk hc1
  clear hr1 hc1
  have HB := Aside0.mk (Below.refl w.heap.size w)
  have H : (spec_trFold.l0 k a2 ([] : List (S90)) 0 l1 (l1.length : Int) 0 l0_0 a0_1) = some (r1, r2) := h
  clear h
  have H' := Aside0.mk H
  clear H
  go_enter Try.func93, Try.ntmps93
  go_wp2_with (first | ((with_reducible refine gate_dst (N := 3) rfl ?_); refine box_event ?hg (N := 3) ?hd (cs := #[.slice A0_0 l0_0.length c0_0, .int .i64 a0_1]) (t := 28) ?hr ?_; (case hd => rfl); (case hg => rfl); (case hr => first | (go_simp; done) | (go_simp; rfl)); intro gb194 hg w4 hbox hb; have n0_ := Aside0.mk (below_step (eq0 HB) hb); have n1_ := Aside0.mk (hbox); have n2_ := Aside0.mk ((by rw [hg]; exact (below_size (eq0 HB)) : w.heap.size ≤ gb194)); have n3_ := Aside0.mk ((by rw [hg]; exact (below_size (eq0 HB)) : w.heap.size ≤ gb194)); clear HB; have HB := n0_; have BK194 := n1_; have GW194 := n2_; have GE194 := n3_; clear n0_ n1_ n2_ n3_; clear hb hbox hg))
  go_loopg [8, 9, 17] k (fun kq v8 v9 v17 w' => ∃ (x8_1 : List (S90)) (x9_1 : Int) (x17_1 : Int), v9 = .int .i64 x9_1 ∧ v17 = .int .i64 x17_1 ∧ Aside0 (spec_trFold.l0 kq a2 x8_1 x9_1 l1 (l1.length : Int) x17_1 l0_0 a0_1 = some (r1, r2)) ∧ Aside0 (kq ≤ k) ∧ Aside0 (Kd.R k90 90 w' w.heap.size (fun _ => True) v8 x8_1) ∧ Aside0 (w'.heap[gb194]? = some (.cells #[(.slice A0_0 l0_0.length c0_0), .int .i64 a0_1] 28 (0, 0))) ∧ Aside0 (Below w.heap.size w w'))
  case atStart => exact ⟨(([] : List (S90))), (0), (0), (by first | rfl | (simp; done) | (simp [*]; done)), (by first | rfl | (simp; done) | (simp [*]; done)), H', ⟨Nat.le_refl _⟩, ⟨by first | exact Kd.R_nil _ _ _ _ _ | exact Kd.N_nil _ _ _ _ _ | exact Kd.V_nil _ _ _ _ _ | exact Kd.Q_nil _ _ _ _ _ | exact Kd.S_nil _ _ _ _ _⟩, ⟨bq BK194⟩, ⟨eq1 HB GE194⟩⟩
  case round =>
    clear H'
    try clear c1
    try clear p2
    obtain ⟨x8_1, x9_1, x17_1, rfl, rfl, HA, HK1, HO_8, BK194, HB⟩ := hrel
    cases gk with
    | zero => exact absurd HA.out (by simp [spec_trFold.l0])
    | succ k1 =>
      have H := HA.out
      clear HA
      simp only [spec_trFold.l0] at H
      by_cases c5 : x17_1 < (l1.length : Int)
      · rw [if_pos c5] at H
        have c5b0 : decide (x17_1 < (l1.length : Int)) = true := decide_eq_true c5
        clear c5
        by_cases c6 : 0 ≤ x17_1
        · rw [if_pos c6] at H
          have c6b0 : decide (0 ≤ x17_1) = true := decide_eq_true c6
          clear c6
          by_cases c7 : x17_1 < (l1.length : Int)
          · rw [if_pos c7] at H
            have c7b0 : decide (x17_1 < (l1.length : Int)) = true := decide_eq_true c7
            clear c7
            replace H := Option.bind_eq_some_iff.mp H
            obtain ⟨t197, A80, H⟩ := H
            replace H : (if t197 = true then ((spec_trNearest.f k1 l0_0 a0_1 (wrap64 (((rd_T90 l1 x17_1).f0) + a2)) 12).bind fun t198 => (spec_trFold.j1 k1 a2 x8_1 x9_1 t198 l1 (l1.length : Int) x17_1 l0_0 a0_1 ((rd_T90 l1 x17_1).f0) ((rd_T90 l1 x17_1).f1) ((rd_T90 l1 x17_1).f2))) else (spec_trFold.j1 k1 a2 x8_1 x9_1 (-1) l1 (l1.length : Int) x17_1 l0_0 a0_1 ((rd_T90 l1 x17_1).f0) ((rd_T90 l1 x17_1).f1) ((rd_T90 l1 x17_1).f2))) = some (r1, r2) := H
            have A8 := Aside0.mk A80
            clear A80
            have HC9 := Aside0.mk H
            clear H
            have p195 : 0 ≤ (x17_1 : Int) := of_decide_eq_true (by first | (with_reducible assumption) | assumption)
            have q195 : x17_1 < (l1.length : Int) := of_decide_eq_true (by first | (with_reducible assumption) | assumption)
            obtain ⟨ad195, e195, hx195_0, hx195_1, hx195_2⟩ := at_T90 HR1.out x17_1 p195 q195
            cases e195
            replace hx195_0 := (HB.out.cell (World.block_lt_of_cell? w _ hx195_0)).trans hx195_0
            replace hx195_1 := (HB.out.cell (World.block_lt_of_cell? w _ hx195_1)).trans hx195_1
            replace hx195_2 := (HB.out.cell (World.block_lt_of_cell? w _ hx195_2)).trans hx195_2
            replace p195 := eq_true p195
            replace q195 := eq_true q195
            go_upto_if 25 with (first | ((with_reducible refine gate_dst (N := 11) rfl ?_); refine box_event ?hg (N := 11) ?hd (cs := #[.int .i64 0, .int .i64 0, .int .i64 0]) (t := 90) ?hr ?_; (case hd => rfl); (case hg => rfl); (case hr => first | (go_simp; done) | (go_simp; rfl)); intro gb196 hg w10 hbox hb; have n0_ := Aside0.mk (Kd.R_below (Kd.R_elderB (kq HO_8) gb196 (Nat.le_of_eq hg.symm)) hb); have n1_ := Aside0.mk (blk_below (g := gb194) (o := .cells #[.slice A0_0 l0_0.length c0_0, .int .i64 a0_1] 28 (0, 0)) (bq BK194) hb); have n2_ := Aside0.mk (below_step (eq1 HB GE194) hb); have n3_ := Aside0.mk (hbox); have n4_ := Aside0.mk ((by rw [hg]; exact (below_size (eq1 HB GE194)) : w.heap.size ≤ gb196)); have n5_ := Aside0.mk ((by rw [hg]; exact (below_size (eq1 HB GE194)) : w.heap.size ≤ gb196)); have n6_ := Aside0.mk ((by rw [hg]; exact Nat.ne_of_lt (blk_lt (g := gb194) (o := .cells #[.slice A0_0 l0_0.length c0_0, .int .i64 a0_1] 28 (0, 0)) (bq BK194)) : gb194 ≠ gb196)); have n7_ := Aside0.mk ((by rw [hg]; exact Nat.ne_of_gt (blk_lt (g := gb194) (o := .cells #[.slice A0_0 l0_0.length c0_0, .int .i64 a0_1] 28 (0, 0)) (bq BK194)) : gb196 ≠ gb194)); clear HO_8; clear BK194; clear HB; have HO_8 := n0_; have BK194 := n1_; have HB := n2_; have BK196 := n3_; have GW196 := n4_; have GE196 := n5_; have NB194_196 := n6_; have NB196_194 := n7_; clear n0_ n1_ n2_ n3_ n4_ n5_ n6_ n7_; clear hb hbox hg; have hnb11 := NB196_194.out; have hnc11 := NB194_196.out; have hcz12_0 : w10.cell? ⟨gb196, 0, none⟩ = some (.int .i64 0) := (blk_cell BK196.out 0).trans rfl; have hcz12_1 : w10.cell? ⟨gb196, 1, none⟩ = some (.int .i64 0) := (blk_cell BK196.out 1).trans rfl; have hcz12_2 : w10.cell? ⟨gb196, 2, none⟩ = some (.int .i64 0) := (blk_cell BK196.out 2).trans rfl; have hfz12_0 := blk_frozen BK196.out 0; have hfz12_1 := blk_frozen BK196.out 1; have hfz12_2 := blk_frozen BK196.out 2) | ((with_reducible refine gate_callee (f := 73) rfl ?_); refine goesL_ (some 25) rfl rfl Try.func73 (by kernel_rfl) rfl #[.int .i64 (wrap64 (((rd_T90 l1 x17_1).f0) + a2))] rfl (by (try simp only [List.map_toArray, List.map_cons, List.map_nil]); first | done | rfl | (simp only [List.length_drop, List.length_take]; rfl)) ?_; (with_reducible refine (spec_ntPitch.calls (wrap64 (((rd_T90 l1 x17_1).f0) + a2)) t197 _ A8.out).mono ?_); rintro e w' ⟨rfl, ⟨nd, rfl⟩⟩; refine ⟨_, rfl, ?_⟩))
            (try simp only [Act.put, List.setIfInBounds_toArray, List.set_cons_zero, List.set_cons_succ])
            go_cut [12] (fun v12 wc => ∃ (kq : Nat) (x12_8 : Int), v12 = .int .i64 x12_8 ∧ Aside0 (spec_trFold.j1 kq a2 x8_1 x9_1 x12_8 l1 (l1.length : Int) x17_1 l0_0 a0_1 ((rd_T90 l1 x17_1).f0) ((rd_T90 l1 x17_1).f1) ((rd_T90 l1 x17_1).f2) = some (r1, r2)) ∧ Aside0 (kq ≤ k1) ∧ Aside0 (Kd.R k90 90 wc w.heap.size (fun k_ => k_ ≠ gb196) u8 x8_1) ∧ Aside0 (wc.heap[gb194]? = some (.cells #[(.slice A0_0 l0_0.length c0_0), .int .i64 a0_1] 28 (0, 0))) ∧ Aside0 (wc.heap[gb196]? = some (.cells #[.int .i64 ((rd_T90 l1 x17_1).f0), .int .i64 ((rd_T90 l1 x17_1).f1), .int .i64 ((rd_T90 l1 x17_1).f2)] 90 (0, 0))) ∧ Aside0 (Below w.heap.size w wc))
            case first =>
              have H := HC9.out
              clear HC9
              by_cases c13 : t197 = true
              · subst c13
                have H1 : ((spec_trNearest.f k1 l0_0 a0_1 (wrap64 (((rd_T90 l1 x17_1).f0) + a2)) 12).bind fun t198 => (spec_trFold.j1 k1 a2 x8_1 x9_1 t198 l1 (l1.length : Int) x17_1 l0_0 a0_1 ((rd_T90 l1 x17_1).f0) ((rd_T90 l1 x17_1).f1) ((rd_T90 l1 x17_1).f2))) = some (r1, r2) := by rw [if_pos rfl] at H; exact H
                clear H
                have H := H1
                clear H1
                replace H := Option.bind_eq_some_iff.mp H
                obtain ⟨t198, A140, H⟩ := H
                replace H : (spec_trFold.j1 k1 a2 x8_1 x9_1 t198 l1 (l1.length : Int) x17_1 l0_0 a0_1 ((rd_T90 l1 x17_1).f0) ((rd_T90 l1 x17_1).f1) ((rd_T90 l1 x17_1).f2)) = some (r1, r2) := H
                have A14 := Aside0.mk A140
                clear A140
                have H' := Aside0.mk H
                clear H
                have hnb15 := NB194_196.out
                have hnc15 := NB196_194.out
                have hcz16_0 : w10.cell? ⟨gb194, 0, none⟩ = some (.slice A0_0 l0_0.length c0_0) := (blk_cell BK194.out 0).trans rfl
                have hcz16_1 : w10.cell? ⟨gb194, 1, none⟩ = some (.int .i64 a0_1) := (blk_cell BK194.out 1).trans rfl
                have hfz16_0 := blk_frozen BK194.out 0
                have hfz16_1 := blk_frozen BK194.out 1
                have hcz17_0 : w10.cell? ⟨gb196, 0, none⟩ = some (.int .i64 0) := (blk_cell BK196.out 0).trans rfl
                have hcz17_1 : w10.cell? ⟨gb196, 1, none⟩ = some (.int .i64 0) := (blk_cell BK196.out 1).trans rfl
                have hcz17_2 : w10.cell? ⟨gb196, 2, none⟩ = some (.int .i64 0) := (blk_cell BK196.out 2).trans rfl
                have hfz17_0 := blk_frozen BK196.out 0
                have hfz17_1 := blk_frozen BK196.out 1
                have hfz17_2 := blk_frozen BK196.out 2
                go_wp2_with (first | ((with_reducible refine gate_callee (f := 74) rfl ?_); refine goesL_ (some 31) rfl rfl Try.func74 (by kernel_rfl) rfl #[.agg #[.slice A0_0 l0_0.length c0_0, .int .i64 a0_1], .int .i64 (wrap64 (((rd_T90 l1 x17_1).f0) + a2)), .int .i64 12] rfl (by (try simp only [List.map_toArray, List.map_cons, List.map_nil]); first | done | rfl | (simp only [List.length_drop, List.length_take]; rfl)) ?_; (with_reducible refine (spec_trNearest.calls k1 _ _ l0_0 a0_1 (wrap64 (((rd_T90 l1 x17_1).f0) + a2)) 12 t198 _ ?side1 ?side2 A14.out).mono ?_); (case side1 => exact Kd.C_below HR0_0.out (eq2 HB GE194 GE196)); (case side2 => exact HC0_0.out); rintro e w18 ⟨rfl, hb⟩; refine ⟨_, rfl, ?_⟩; have n0_ := Aside0.mk (Kd.R_below (by (with_reducible repeat (first | apply Kd.R_alloc | apply Kd.R_drewN | apply Kd.R_drew)); exact (Kd.R_mono (Kd.R_far (p := ⟨gb196, 2, none⟩) (Kd.R_far (p := ⟨gb196, 1, none⟩) (Kd.R_far (p := ⟨gb196, 0, none⟩) (Kd.R_mono HO_8.out (fun k_ hk => (⟨hk, hk.2⟩ : _ ∧ k_ ≠ gb196))) (fun _ hk => hk.2) (.int .i64 ((rd_T90 l1 x17_1).f0))) (fun _ hk => hk.2) (.int .i64 ((rd_T90 l1 x17_1).f1))) (fun _ hk => hk.2) (.int .i64 ((rd_T90 l1 x17_1).f2))) (fun _ h_ => h_.1))) hb); have n1_ := Aside0.mk (blk_below (g := gb194) (o := .cells #[.slice A0_0 l0_0.length c0_0, .int .i64 a0_1] 28 (0, 0)) (by (with_reducible repeat (first | refine blk_drewN ?_ _ | refine blk_drew ?_ | refine blk_alloc ?_ _)); refine blk_far ?_ NB194_196.out _; (with_reducible repeat (first | refine blk_drewN ?_ _ | refine blk_drew ?_ | refine blk_alloc ?_ _)); refine blk_far ?_ NB194_196.out _; (with_reducible repeat (first | refine blk_drewN ?_ _ | refine blk_drew ?_ | refine blk_alloc ?_ _)); refine blk_far ?_ NB194_196.out _; (with_reducible repeat (first | refine blk_drewN ?_ _ | refine blk_drew ?_ | refine blk_alloc ?_ _)); exact BK194.out) hb); have n2_ := Aside0.mk (blk_below (g := gb196) (o := .cells #[.int .i64 ((rd_T90 l1 x17_1).f0), .int .i64 ((rd_T90 l1 x17_1).f1), .int .i64 ((rd_T90 l1 x17_1).f2)] 90 (0, 0)) (by (with_reducible repeat (first | refine blk_drewN ?_ _ | refine blk_drew ?_ | refine blk_alloc ?_ _)); refine blk_put (cs := #[.int .i64 ((rd_T90 l1 x17_1).f0), .int .i64 ((rd_T90 l1 x17_1).f1), .int .i64 0]) ?_ 2 _ rfl; (with_reducible repeat (first | refine blk_drewN ?_ _ | refine blk_drew ?_ | refine blk_alloc ?_ _)); refine blk_put (cs := #[.int .i64 ((rd_T90 l1 x17_1).f0), .int .i64 0, .int .i64 0]) ?_ 1 _ rfl; (with_reducible repeat (first | refine blk_drewN ?_ _ | refine blk_drew ?_ | refine blk_alloc ?_ _)); refine blk_put (cs := #[.int .i64 0, .int .i64 0, .int .i64 0]) ?_ 0 _ rfl; (with_reducible repeat (first | refine blk_drewN ?_ _ | refine blk_drew ?_ | refine blk_alloc ?_ _)); exact BK196.out) hb); have n3_ := Aside0.mk (below_step (eq2 HB GE194 GE196) hb); clear HO_8; clear BK194; clear BK196; clear HB; have HO_8 := n0_; have BK194 := n1_; have BK196 := n2_; have HB := n3_; clear n0_ n1_ n2_ n3_; (try clear hb); (try clear hb2); (try clear hk); (try clear hi)))
                go_meet
                case rel => exact ⟨_, (t198), (by first | rfl | (simp; done) | (simp [*]; done)), H', ⟨by have := HK1.out; first | omega | exact Nat.le_refl _⟩, ⟨by (with_reducible repeat (first | apply Kd.R_alloc | apply Kd.R_drewN | apply Kd.R_drew)); exact Kd.R_mono HO_8.out (fun _ hk => hk.2)⟩, ⟨bq BK194⟩, ⟨bq BK196⟩, ⟨eq2 HB GE194 GE196⟩⟩
              · replace c13 := Bool.eq_false_iff.mpr c13
                subst c13
                have H1 : (spec_trFold.j1 k1 a2 x8_1 x9_1 (-1) l1 (l1.length : Int) x17_1 l0_0 a0_1 ((rd_T90 l1 x17_1).f0) ((rd_T90 l1 x17_1).f1) ((rd_T90 l1 x17_1).f2)) = some (r1, r2) := by rw [if_neg (show ¬ (false = true) by decide)] at H; exact H
                clear H
                have H := H1
                clear H1
                have H' := Aside0.mk H
                clear H
                go_wp2
                go_meet
                case rel => exact ⟨_, ((-1)), (by first | rfl | (simp; done) | (simp [*]; done)), H', ⟨by have := HK1.out; first | omega | exact Nat.le_refl _⟩, ⟨by (with_reducible repeat (first | apply Kd.R_alloc | apply Kd.R_drewN | apply Kd.R_drew)); exact Kd.R_mono (Kd.R_far (p := ⟨gb196, 2, none⟩) (Kd.R_far (p := ⟨gb196, 1, none⟩) (Kd.R_far (p := ⟨gb196, 0, none⟩) (Kd.R_mono HO_8.out (fun k_ hk => (⟨hk, hk.2⟩ : _ ∧ k_ ≠ gb196))) (fun _ hk => hk.2) (.int .i64 ((rd_T90 l1 x17_1).f0))) (fun _ hk => hk.2) (.int .i64 ((rd_T90 l1 x17_1).f1))) (fun _ hk => hk.2) (.int .i64 ((rd_T90 l1 x17_1).f2))) (fun _ hk => hk.1.2)⟩, ⟨by (with_reducible repeat (first | refine blk_drewN ?_ _ | refine blk_drew ?_ | refine blk_alloc ?_ _)); refine blk_far ?_ NB194_196.out _; (with_reducible repeat (first | refine blk_drewN ?_ _ | refine blk_drew ?_ | refine blk_alloc ?_ _)); refine blk_far ?_ NB194_196.out _; (with_reducible repeat (first | refine blk_drewN ?_ _ | refine blk_drew ?_ | refine blk_alloc ?_ _)); refine blk_far ?_ NB194_196.out _; (with_reducible repeat (first | refine blk_drewN ?_ _ | refine blk_drew ?_ | refine blk_alloc ?_ _)); exact BK194.out⟩, ⟨by (with_reducible repeat (first | refine blk_drewN ?_ _ | refine blk_drew ?_ | refine blk_alloc ?_ _)); refine blk_put (cs := #[.int .i64 ((rd_T90 l1 x17_1).f0), .int .i64 ((rd_T90 l1 x17_1).f1), .int .i64 0]) ?_ 2 _ rfl; (with_reducible repeat (first | refine blk_drewN ?_ _ | refine blk_drew ?_ | refine blk_alloc ?_ _)); refine blk_put (cs := #[.int .i64 ((rd_T90 l1 x17_1).f0), .int .i64 0, .int .i64 0]) ?_ 1 _ rfl; (with_reducible repeat (first | refine blk_drewN ?_ _ | refine blk_drew ?_ | refine blk_alloc ?_ _)); refine blk_put (cs := #[.int .i64 0, .int .i64 0, .int .i64 0]) ?_ 0 _ rfl; (with_reducible repeat (first | refine blk_drewN ?_ _ | refine blk_drew ?_ | refine blk_alloc ?_ _)); exact BK196.out⟩, ⟨eq2 HB GE194 GE196⟩⟩
            case rest =>
              clear HC9
              try clear c1
              try clear p1
              try clear q1
              try clear hx1
              try clear p2
              try clear c5
              try clear c5b0
              try clear c6
              try clear c6b0
              try clear p6
              try clear c7
              try clear c7b0
              try clear c9
              try clear c11
              try clear c13
              try clear c15
              try clear hcz12_0
              try clear hcz12_1
              try clear hcz12_2
              try clear hcz16_0
              try clear hcz16_1
              try clear hcz17_0
              try clear hcz17_1
              try clear hcz17_2
              try clear hfz12_0
              try clear hfz12_1
              try clear hfz12_2
              try clear hfz16_0
              try clear hfz16_1
              try clear hfz17_0
              try clear hfz17_1
              try clear hfz17_2
              try clear hx195_0
              try clear hx195_1
              try clear hx195_2
              try clear p195
              try clear p2
              try clear q195
              obtain ⟨kq, x12_8, rfl, HA, HJ8, HO_8, BK194, BK196, HB⟩ := hcut
              cases kq with
              | zero => exact absurd HA.out (by simp [spec_trFold.j1])
              | succ kj8 =>
                have H := HA.out
                clear HA
                simp only [spec_trFold.j1] at H
                obtain ⟨y199, hy199⟩ : ∃ y_ : List (S90), y_ = (([] : List (S90))) := ⟨_, rfl⟩
                replace H : (if y199.length + x8_1.length < 5864062014805 then ((some (y199 ++ x8_1 : List (S90))).bind fun y202 => ((some (([(⟨x12_8, ((rd_T90 l1 x17_1).f1), ((rd_T90 l1 x17_1).f2)⟩ : S90)] : List (S90)) : List (S90))).bind fun y205 => (if y202.length + y205.length < 5864062014805 then ((spec_ntSorted.f kj8 (y202 ++ y205)).bind fun bt211 => (if bt211.2 = true then (spec_trFold.l0 kj8 a2 bt211.1 x9_1 l1 (l1.length : Int) (wrap64 (x17_1 + 1)) l0_0 a0_1) else (spec_trFold.l0 kj8 a2 x8_1 (wrap64 (x9_1 + 1)) l1 (l1.length : Int) (wrap64 (x17_1 + 1)) l0_0 a0_1))) else (none)))) else (none)) = some (r1, r2) := by first | (rw [hy199]; with_reducible exact H) | (have H2_ := (Option.bind_some _ _).symm.trans H; rw [hy199]; with_reducible exact H2_) | (have H2_ := (Option.bind_some _ _).symm.trans H; with_reducible exact H2_) | with_reducible exact H | (rw [hy199]; exact H) | exact H
                have Ny199 := Aside0.mk hy199
                clear hy199
                by_cases c19 : y199.length + x8_1.length < 5864062014805
                · rw [if_pos c19] at H
                  have LMc19 := Aside0.mk c19
                  clear c19
                  obtain ⟨y202, hy202⟩ : ∃ y_ : List (S90), y_ = (y199 ++ x8_1) := ⟨_, rfl⟩
                  replace H : ((some (([(⟨x12_8, ((rd_T90 l1 x17_1).f1), ((rd_T90 l1 x17_1).f2)⟩ : S90)] : List (S90)) : List (S90))).bind fun y205 => (if y202.length + y205.length < 5864062014805 then ((spec_ntSorted.f kj8 (y202 ++ y205)).bind fun bt211 => (if bt211.2 = true then (spec_trFold.l0 kj8 a2 bt211.1 x9_1 l1 (l1.length : Int) (wrap64 (x17_1 + 1)) l0_0 a0_1) else (spec_trFold.l0 kj8 a2 x8_1 (wrap64 (x9_1 + 1)) l1 (l1.length : Int) (wrap64 (x17_1 + 1)) l0_0 a0_1))) else (none))) = some (r1, r2) := by first | (rw [hy202]; with_reducible exact H) | (have H2_ := (Option.bind_some _ _).symm.trans H; rw [hy202]; with_reducible exact H2_) | (have H2_ := (Option.bind_some _ _).symm.trans H; with_reducible exact H2_) | with_reducible exact H | (rw [hy202]; exact H) | exact H
                  have Ny202 := Aside0.mk hy202
                  clear hy202
                  obtain ⟨y205, hy205⟩ : ∃ y_ : List (S90), y_ = (([(⟨x12_8, ((rd_T90 l1 x17_1).f1), ((rd_T90 l1 x17_1).f2)⟩ : S90)] : List (S90))) := ⟨_, rfl⟩
                  replace H : (if y202.length + y205.length < 5864062014805 then ((spec_ntSorted.f kj8 (y202 ++ y205)).bind fun bt211 => (if bt211.2 = true then (spec_trFold.l0 kj8 a2 bt211.1 x9_1 l1 (l1.length : Int) (wrap64 (x17_1 + 1)) l0_0 a0_1) else (spec_trFold.l0 kj8 a2 x8_1 (wrap64 (x9_1 + 1)) l1 (l1.length : Int) (wrap64 (x17_1 + 1)) l0_0 a0_1))) else (none)) = some (r1, r2) := by first | (rw [hy205]; with_reducible exact H) | (have H2_ := (Option.bind_some _ _).symm.trans H; rw [hy205]; with_reducible exact H2_) | (have H2_ := (Option.bind_some _ _).symm.trans H; with_reducible exact H2_) | with_reducible exact H | (rw [hy205]; exact H) | exact H
                  have Ny205 := Aside0.mk hy205
                  clear hy205
                  by_cases c20 : y202.length + y205.length < 5864062014805
                  · rw [if_pos c20] at H
                    have LMc20 := Aside0.mk c20
                    clear c20
                    obtain ⟨y208, hy208⟩ : ∃ y_ : List (S90), y_ = (y202 ++ y205) := ⟨_, rfl⟩
                    replace H : ((spec_ntSorted.f kj8 y208).bind fun bt211 => (if bt211.2 = true then (spec_trFold.l0 kj8 a2 bt211.1 x9_1 l1 (l1.length : Int) (wrap64 (x17_1 + 1)) l0_0 a0_1) else (spec_trFold.l0 kj8 a2 x8_1 (wrap64 (x9_1 + 1)) l1 (l1.length : Int) (wrap64 (x17_1 + 1)) l0_0 a0_1))) = some (r1, r2) := by first | (rw [hy208]; with_reducible exact H) | (have H2_ := (Option.bind_some _ _).symm.trans H; rw [hy208]; with_reducible exact H2_) | (have H2_ := (Option.bind_some _ _).symm.trans H; with_reducible exact H2_) | with_reducible exact H | (rw [hy208]; exact H) | exact H
                    have Ny208 := Aside0.mk hy208
                    clear hy208
                    replace H := Option.bind_eq_some_iff.mp H
                    obtain ⟨⟨t211, t212⟩, A210, H⟩ := H
                    replace H : (if t212 = true then (spec_trFold.l0 kj8 a2 t211 x9_1 l1 (l1.length : Int) (wrap64 (x17_1 + 1)) l0_0 a0_1) else (spec_trFold.l0 kj8 a2 x8_1 (wrap64 (x9_1 + 1)) l1 (l1.length : Int) (wrap64 (x17_1 + 1)) l0_0 a0_1)) = some (r1, r2) := H
                    have A21 := Aside0.mk A210
                    clear A210
                    by_cases c22 : t212 = true
                    · subst c22
                      have H1 : (spec_trFold.l0 kj8 a2 t211 x9_1 l1 (l1.length : Int) (wrap64 (x17_1 + 1)) l0_0 a0_1) = some (r1, r2) := by rw [if_pos rfl] at H; exact H
                      clear H
                      have H := H1
                      clear H1
                      have H' := Aside0.mk H
                      clear H
                      obtain ⟨Ao23, co23, eo23⟩ := Kd.R_slice HO_8.out
                      subst eo23
                      try go_wp2
                      have n0_ := Aside0.mk (Kd.R_drew HO_8.out)
                      have n1_ := Aside0.mk (blk_drew BK194.out)
                      have n2_ := Aside0.mk (blk_drew BK196.out)
                      have n3_ := Aside0.mk (below_drew1 HB.out)
                      clear HO_8
                      clear BK194
                      clear BK196
                      clear HB
                      have HO_8 := n0_
                      have BK194 := n1_
                      have BK196 := n2_
                      have HB := n3_
                      clear n0_ n1_ n2_ n3_
                      refine start_ (n := 17) (S := fun w' => w'.cell? ⟨gb196, 0, none⟩ = some (.int .i64 ((rd_T90 l1 x17_1).f0)) ∧ w'.cell? ⟨gb196, 1, none⟩ = some (.int .i64 ((rd_T90 l1 x17_1).f1)) ∧ w'.cell? ⟨gb196, 2, none⟩ = some (.int .i64 ((rd_T90 l1 x17_1).f2))) (ds := []) #[false, false, false, false, false, false, false, false, false, false, false, false, false, false, false, false, false] (by kernel_rfl) rfl rfl ⟨(blk_cell BK196.out 0).trans rfl, (blk_cell BK196.out 1).trans rfl, (blk_cell BK196.out 2).trans rfl⟩ (fun hHeld => ?_); refine with_tabW spec_trFold.tab9 spec_trFold.bits9 (fun HT_ HW_ => ?_)
                      generalize wc.drew = w24 at HO_8 BK194 BK196 HB hHeld ⊢
                      refine pure_ (i := 1) (N := some 34) (v := ?_) (a' := ?_) #[false, true, false, false, false, false, false, false, false, false, false, false, false, false, false, false, false] rfl rfl (any_of HT_.out (by kernel_rfl)) (fun _ _ _ h => h) (Or.inl ⟨by rfl, ?_⟩) ?_ ?_
                      rotate_left
                      · intro w'
                        go_simp
                        with_reducible rfl
                      rotate_left
                      · simp only [Act.put, List.setIfInBounds_toArray, List.set_cons_zero, List.set_cons_succ, i64_w, i32_w]
                        rfl
                      refine pure_ (i := 3) (N := some 36) (v := ?_) (a' := ?_) #[false, true, false, true, false, false, false, false, false, false, false, false, false, false, false, false, false] rfl rfl (any_of HT_.out (by kernel_rfl)) (fun _ _ _ h => h) (Or.inl ⟨by rfl, ?_⟩) ?_ ?_
                      rotate_left
                      · intro w'
                        go_simp
                        with_reducible rfl
                      rotate_left
                      · simp only [Act.put, List.setIfInBounds_toArray, List.set_cons_zero, List.set_cons_succ, i64_w, i32_w]
                        rfl
                      refine pure_ (i := 4) (N := some 37) (v := ?_) (a' := ?_) #[false, true, false, true, true, false, false, false, false, false, false, false, false, false, false, false, false] rfl rfl (any_of HT_.out (by kernel_rfl)) (fun _ _ _ h => h) (Or.inl ⟨by rfl, ?_⟩) ?_ ?_
                      rotate_left
                      · intro w'
                        go_simp
                        with_reducible rfl
                      rotate_left
                      · simp only [Act.put, List.setIfInBounds_toArray, List.set_cons_zero, List.set_cons_succ, i64_w, i32_w]
                        rfl
                      refine pure_ (i := 6) (N := some 39) (v := ?_) (a' := ?_) #[false, true, false, true, true, false, true, false, false, false, false, false, false, false, false, false, false] rfl rfl (any_of HT_.out (by kernel_rfl)) (fun _ _ _ h => h) (Or.inl ⟨by rfl, ?_⟩) ?_ ?_
                      rotate_left
                      · intro w'
                        go_simp
                        with_reducible rfl
                      rotate_left
                      · simp only [Act.put, List.setIfInBounds_toArray, List.set_cons_zero, List.set_cons_succ, i64_w, i32_w]
                        rfl
                      refine take_ (i := 5) (N := some 38) (v := ?_) (a' := ?_) #[false, true, false, true, true, true, true, false, false, false, false, false, false, false, false, false, false] rfl rfl (take_ofW HT_.out HW_.out (by kernel_rfl)) (fun _ _ _ h => h) (Or.inl ⟨by rfl, ?_⟩) hHeld ?_ ?_
                      rotate_left
                      · rintro w' ⟨s0, s1, s2⟩
                        go_simp
                        with_reducible rfl
                      rotate_left
                      · simp only [Act.put, List.setIfInBounds_toArray, List.set_cons_zero, List.set_cons_succ, i64_w, i32_w]
                        rfl
                      refine take_ (i := 7) (N := some 40) (v := ?_) (a' := ?_) #[false, true, false, true, true, true, true, true, false, false, false, false, false, false, false, false, false] rfl rfl (take_ofW HT_.out HW_.out (by kernel_rfl)) (fun _ _ _ h => h) (Or.inl ⟨by rfl, ?_⟩) hHeld ?_ ?_
                      rotate_left
                      · rintro w' ⟨s0, s1, s2⟩
                        go_simp
                        with_reducible rfl
                      rotate_left
                      · simp only [Act.put, List.setIfInBounds_toArray, List.set_cons_zero, List.set_cons_succ, i64_w, i32_w]
                        rfl
                      refine pure_ (i := 8) (N := some 41) (v := ?_) (a' := ?_) #[false, true, false, true, true, true, true, true, true, false, false, false, false, false, false, false, false] rfl rfl (any_of HT_.out (by kernel_rfl)) (fun _ _ _ h => h) (Or.inl ⟨by rfl, ?_⟩) ?_ ?_
                      rotate_left
                      · intro w'
                        go_simp
                        with_reducible rfl
                      rotate_left
                      · simp only [Act.put, List.setIfInBounds_toArray, List.set_cons_zero, List.set_cons_succ, i64_w, i32_w]
                        rfl
                      refine join_ (σ := Value × Value × Value) 7 #[true, true, true, true, true, true, true, true, true, true, false, false, false, false, false, false, false] (fun s_ => [(33, s_.1), (35, s_.2.1), (42, s_.2.2)]) (fun s_ w' => (w'.cell? ⟨gb196, 0, none⟩ = some (.int .i64 ((rd_T90 l1 x17_1).f0)) ∧ w'.cell? ⟨gb196, 1, none⟩ = some (.int .i64 ((rd_T90 l1 x17_1).f1)) ∧ w'.cell? ⟨gb196, 2, none⟩ = some (.int .i64 ((rd_T90 l1 x17_1).f2))) ∧ (Kd.R k90 90 w' w.heap.size (fun k_ => some k_ ≠ (s_.2.2 : Value).ownBlock ∧ some k_ ≠ (.slice Ao23 x8_1.length co23 : Value).ownBlock ∧ k_ ≠ gb196) s_.2.1 y202) ∧ (Kd.R k90 90 w' w.heap.size (fun k_ => some k_ ≠ (s_.2.1 : Value).ownBlock ∧ some k_ ≠ (.slice Ao23 x8_1.length co23 : Value).ownBlock ∧ k_ ≠ gb196) s_.2.2 y205) ∧ (Kd.R k90 90 w' w.heap.size (fun k_ => some k_ ≠ (s_.2.1 : Value).ownBlock ∧ some k_ ≠ (s_.2.2 : Value).ownBlock ∧ k_ ≠ gb196) (.slice Ao23 x8_1.length co23) x8_1) ∧ (w'.heap[gb194]? = some (.cells #[.slice A0_0 l0_0.length c0_0, .int .i64 a0_1] 28 (0, 0))) ∧ (w'.heap[gb196]? = some (.cells #[.int .i64 ((rd_T90 l1 x17_1).f0), .int .i64 ((rd_T90 l1 x17_1).f1), .int .i64 ((rd_T90 l1 x17_1).f2)] 90 (0, 0))) ∧ (Below w.heap.size w w')) ?_ ?_
                      rotate_left
                      · intro hCont
                        refine two_ (i := 0) (j := 9) (Ni := some 33) (Nj := some 42) #[true, true, false, true, true, true, true, true, true, false, false, false, false, false, false, false, false] #[false, true, false, true, true, true, true, true, true, true, false, false, false, false, false, false, false] rfl rfl rfl rfl (two_of HT_.out (by kernel_rfl)) (by decide) (by decide) (fun K hK => ?_) (fun K hK => ?_)
                        · skip
                          refine Kd.R_lit_step k90 _ 90 ?hg (N := 33) ?hd (xs := ([] : List (S90))) (inner := []) (ok := fun _ => True) (okp := fun _ => True) ?hr ?hp (fun _ hk => hk) trivial (Below.refl _ _) (Nat.le_refl _) (by simp) ?_; (case hd => rfl); (case hg => rfl); (case hr => first | (go_simp; done) | (go_simp; rfl)); (case hp => exact (Reps.none _ _))
                          intro v200 w25 ho26 hb hg_ hnew_
                          clear hg_ hnew_
                          (first | rw [← Ny199.out] at ho26 | (simp only [Int.reduceToNat] at ho26; rw [← Ny199.out] at ho26))
                          have n0_ := Aside0.mk (Kd.R_elder' (kq HO_8) (Kd.R_base ho26) hb)
                          have n1_ := Aside0.mk (Kd.R_lower (Kd.R_newB (Kd.R_new' ho26 (Kd.R_lt (kq HO_8))) (g := gb196) (o := .cells #[.int .i64 ((rd_T90 l1 x17_1).f0), .int .i64 ((rd_T90 l1 x17_1).f1), .int .i64 ((rd_T90 l1 x17_1).f2)] 90 (0, 0)) (bq BK196)) (below_size (eq2 HB GE194 GE196)))
                          have n2_ := Aside0.mk (blk_below (g := gb194) (o := .cells #[.slice A0_0 l0_0.length c0_0, .int .i64 a0_1] 28 (0, 0)) (bq BK194) hb)
                          have n3_ := Aside0.mk (blk_below (g := gb196) (o := .cells #[.int .i64 ((rd_T90 l1 x17_1).f0), .int .i64 ((rd_T90 l1 x17_1).f1), .int .i64 ((rd_T90 l1 x17_1).f2)] 90 (0, 0)) (bq BK196) hb)
                          have n4_ := Aside0.mk (below_step (eq2 HB GE194 GE196) hb)
                          clear HO_8
                          clear BK194
                          clear BK196
                          clear HB
                          have HO_8 := n0_
                          have HO201 := n1_
                          have BK194 := n2_
                          have BK196 := n3_
                          have HB := n4_
                          clear n0_ n1_ n2_ n3_ n4_
                          clear hb ho26
                          refine hK.out _ _ ⟨(blk_cell BK196.out 0).trans rfl, (blk_cell BK196.out 1).trans rfl, (blk_cell BK196.out 2).trans rfl⟩ (fun hHeld => ?_)
                          clear hK K
                          refine norm_ (a' := ?_) ?_ ?_
                          rotate_left
                          · show Act.put _ (some 33) _ = _
                            simp only [Act.put, List.setIfInBounds_toArray, List.set_cons_zero, List.set_cons_succ, i64_w, i32_w]
                            rfl
                          refine two_ (i := 2) (j := 9) (Ni := some 35) (Nj := some 42) #[true, true, true, true, true, true, true, true, true, false, false, false, false, false, false, false, false] #[true, true, false, true, true, true, true, true, true, true, false, false, false, false, false, false, false] rfl rfl rfl rfl (two_of HT_.out (by kernel_rfl)) (by decide) (by decide) (fun K hK => ?_) (fun K hK => ?_)
                          · skip
                            refine Kd.R_append_rows_step k90 (w0 := w) w.heap.size (by rfl) (.tmp 33) (.tmp 34) 35 90 (.agg #[(.int .i64 0), (.int .i64 0), (.int .i64 0)]) 24 rfl Try.underlying35 info90 rfl (by decide) (by omega) v200 y199 x8_1 _ _ _ (fun k_ => some k_ ≠ (.slice Ao23 x8_1.length co23 : Value).ownBlock ∧ k_ ≠ gb196) (fun _ => False) rfl rfl ?aO ?aR (fun _ _ h => h) (fun _ h => h.elim) ?aF ?aB ?aS ?aL ?_
                            (case aR => repeat (first | exact (Kd.R_reads' HO_8.out).2.2 | (with_reducible refine Kd.C_alloc ?_ _) | (with_reducible refine Kd.C_drewN ?_ _) | (with_reducible refine Kd.C_drew ?_)))
                            (case aB => exact (eq2 HB GE194 GE196))
                            (case aF => exact (fun k_ hk => ⟨Kd.fresh' (Kd.R_lt (kq HO_8)) k_ hk, Kd.freshB (g := gb196) (o := .cells #[.int .i64 ((rd_T90 l1 x17_1).f0), .int .i64 ((rd_T90 l1 x17_1).f1), .int .i64 ((rd_T90 l1 x17_1).f2)] 90 (0, 0)) (bq BK196) k_ hk⟩))
                            (case aO => exact (by (with_reducible repeat (first | apply Kd.R_alloc | apply Kd.R_drewN | apply Kd.R_drew)); exact Kd.R_mono HO201.out (fun _ hk => ⟨hk.1.2, hk.2⟩)))
                            (case aS => exact (below_size (eq2 HB GE194 GE196)))
                            (case aL => have := LMc19.out; omega)
                            intro v203 w27 ho hb hg hat
                            rw [← Ny202.out] at ho
                            have n0_ := Aside0.mk (Kd.R_after (ok := (fun k_ => k_ ≠ gb196)) (kq HO_8) hg hat)
                            have n1_ := Aside0.mk (blk_grown (g := gb194) (o := .cells #[.slice A0_0 l0_0.length c0_0, .int .i64 a0_1] 28 (0, 0)) (bq BK194) hg (Kd.R_ne HO201.out BK194.out (by decide)))
                            have n2_ := Aside0.mk (blk_grown (g := gb196) (o := .cells #[.int .i64 ((rd_T90 l1 x17_1).f0), .int .i64 ((rd_T90 l1 x17_1).f1), .int .i64 ((rd_T90 l1 x17_1).f2)] 90 (0, 0)) (bq BK196) hg (Kd.R_away HO201.out (fun _ hk => hk.2)))
                            have n3_ := Aside0.mk (hb)
                            have n4_ := Aside0.mk (ho)
                            clear HO_8
                            clear BK194
                            clear BK196
                            clear HB
                            clear HO201
                            have HO_8 := n0_
                            have BK194 := n1_
                            have BK196 := n2_
                            have HB := n3_
                            have HO204 := n4_
                            clear n0_ n1_ n2_ n3_ n4_
                            clear ho hb hg hat
                            refine hK.out _ _ ⟨(blk_cell BK196.out 0).trans rfl, (blk_cell BK196.out 1).trans rfl, (blk_cell BK196.out 2).trans rfl⟩ (fun hHeld => ?_)
                            clear hK K
                            refine norm_ (a' := ?_) ?_ ?_
                            rotate_left
                            · show Act.put _ (some 35) _ = _
                              simp only [Act.put, List.setIfInBounds_toArray, List.set_cons_zero, List.set_cons_succ, i64_w, i32_w]
                              rfl
                            refine one_ (i := 9) (N := some 42) #[true, true, true, true, true, true, true, true, true, true, false, false, false, false, false, false, false] rfl rfl (one_of HT_.out (by kernel_rfl)) (by decide) (fun K hK => ?_)
                            refine Kd.R_lit_step k90 _ 90 ?hg (N := 42) ?hd (xs := ([(⟨x12_8, ((rd_T90 l1 x17_1).f1), ((rd_T90 l1 x17_1).f2)⟩ : S90)] : List (S90))) (inner := [.int .i64 x12_8, .int .i64 ((rd_T90 l1 x17_1).f1), .int .i64 ((rd_T90 l1 x17_1).f2)]) (ok := fun _ => True) (okp := fun _ => True) ?hr ?hp (fun _ hk => hk) trivial (Below.refl _ _) (Nat.le_refl _) (by simp) ?_; (case hd => rfl); (case hg => rfl); (case hr => first | (go_simp; done) | (go_simp; rfl)); (case hp => exact (Reps.c3 (show Kd.M k90 _ _ _ (⟨x12_8, ((rd_T90 l1 x17_1).f1), ((rd_T90 l1 x17_1).f2)⟩ : S90) [.int .i64 x12_8, .int .i64 ((rd_T90 l1 x17_1).f1), .int .i64 ((rd_T90 l1 x17_1).f2)] from (k90_mkM _ _ _ (⟨x12_8, ((rd_T90 l1 x17_1).f1), ((rd_T90 l1 x17_1).f2)⟩ : S90) )) (Reps.none _ _)))
                            intro v206 w28 ho29 hb hg_ hnew_
                            clear hg_ hnew_
                            (first | rw [← Ny205.out] at ho29 | (simp only [Int.reduceToNat] at ho29; rw [← Ny205.out] at ho29))
                            have n0_ := Aside0.mk (Kd.R_elder' (kq HO_8) (Kd.R_base ho29) hb)
                            have n1_ := Aside0.mk (Kd.R_elder' (kq HO204) (Kd.R_base ho29) hb)
                            have n2_ := Aside0.mk (Kd.R_lower (Kd.R_newB (Kd.R_new' (Kd.R_new' ho29 (Kd.R_lt (kq HO_8))) (Kd.R_lt (kq HO204))) (g := gb196) (o := .cells #[.int .i64 ((rd_T90 l1 x17_1).f0), .int .i64 ((rd_T90 l1 x17_1).f1), .int .i64 ((rd_T90 l1 x17_1).f2)] 90 (0, 0)) (bq BK196)) (below_size (eq2 HB GE194 GE196)))
                            have n3_ := Aside0.mk (blk_below (g := gb194) (o := .cells #[.slice A0_0 l0_0.length c0_0, .int .i64 a0_1] 28 (0, 0)) (bq BK194) hb)
                            have n4_ := Aside0.mk (blk_below (g := gb196) (o := .cells #[.int .i64 ((rd_T90 l1 x17_1).f0), .int .i64 ((rd_T90 l1 x17_1).f1), .int .i64 ((rd_T90 l1 x17_1).f2)] 90 (0, 0)) (bq BK196) hb)
                            have n5_ := Aside0.mk (below_step (eq2 HB GE194 GE196) hb)
                            clear HO_8
                            clear HO204
                            clear BK194
                            clear BK196
                            clear HB
                            have HO_8 := n0_
                            have HO204 := n1_
                            have HO207 := n2_
                            have BK194 := n3_
                            have BK196 := n4_
                            have HB := n5_
                            clear n0_ n1_ n2_ n3_ n4_ n5_
                            clear hb ho29
                            refine hK.out _ _ ⟨(blk_cell BK196.out 0).trans rfl, (blk_cell BK196.out 1).trans rfl, (blk_cell BK196.out 2).trans rfl⟩ (fun hHeld => ?_)
                            clear hK K
                            refine norm_ (a' := ?_) ?_ ?_
                            rotate_left
                            · show Act.put _ (some 42) _ = _
                              simp only [Act.put, List.setIfInBounds_toArray, List.set_cons_zero, List.set_cons_succ, i64_w, i32_w]
                              rfl
                            exact norm_ (by simp only [putAll, Act.put, List.setIfInBounds_toArray, List.set_cons_zero, List.set_cons_succ]) (hCont (v200, v203, v206) _ ⟨hHeld, (by (with_reducible repeat (first | apply Kd.R_alloc | apply Kd.R_drewN | apply Kd.R_drew)); exact Kd.R_mono HO204.out (fun _ hk => ⟨hk.2, ⟨hk.1.1, hk.1.2⟩⟩)), (by (with_reducible repeat (first | apply Kd.R_alloc | apply Kd.R_drewN | apply Kd.R_drew)); exact Kd.R_mono HO207.out (fun _ hk => ⟨hk.1.2, ⟨hk.1.1.2, hk.2⟩⟩)), (by (with_reducible repeat (first | apply Kd.R_alloc | apply Kd.R_drewN | apply Kd.R_drew)); exact Kd.R_mono HO_8.out (fun _ hk => ⟨hk.1.2, ⟨hk.2, hk.1.1⟩⟩)), (bq BK194), (bq BK196), (eq2 HB GE194 GE196)⟩)
                          · skip
                            refine Kd.R_lit_step k90 _ 90 ?hg (N := 42) ?hd (xs := ([(⟨x12_8, ((rd_T90 l1 x17_1).f1), ((rd_T90 l1 x17_1).f2)⟩ : S90)] : List (S90))) (inner := [.int .i64 x12_8, .int .i64 ((rd_T90 l1 x17_1).f1), .int .i64 ((rd_T90 l1 x17_1).f2)]) (ok := fun _ => True) (okp := fun _ => True) ?hr ?hp (fun _ hk => hk) trivial (Below.refl _ _) (Nat.le_refl _) (by simp) ?_; (case hd => rfl); (case hg => rfl); (case hr => first | (go_simp; done) | (go_simp; rfl)); (case hp => exact (Reps.c3 (show Kd.M k90 _ _ _ (⟨x12_8, ((rd_T90 l1 x17_1).f1), ((rd_T90 l1 x17_1).f2)⟩ : S90) [.int .i64 x12_8, .int .i64 ((rd_T90 l1 x17_1).f1), .int .i64 ((rd_T90 l1 x17_1).f2)] from (k90_mkM _ _ _ (⟨x12_8, ((rd_T90 l1 x17_1).f1), ((rd_T90 l1 x17_1).f2)⟩ : S90) )) (Reps.none _ _)))
                            intro v206 w27 ho28 hb hg_ hnew_
                            clear hg_ hnew_
                            (first | rw [← Ny205.out] at ho28 | (simp only [Int.reduceToNat] at ho28; rw [← Ny205.out] at ho28))
                            have n0_ := Aside0.mk (Kd.R_elder' (kq HO_8) (Kd.R_base ho28) hb)
                            have n1_ := Aside0.mk (Kd.R_elder' (kq HO201) (Kd.R_base ho28) hb)
                            have n2_ := Aside0.mk (Kd.R_lower (Kd.R_newB (Kd.R_new' (Kd.R_new' ho28 (Kd.R_lt (kq HO_8))) (Kd.R_lt (kq HO201))) (g := gb196) (o := .cells #[.int .i64 ((rd_T90 l1 x17_1).f0), .int .i64 ((rd_T90 l1 x17_1).f1), .int .i64 ((rd_T90 l1 x17_1).f2)] 90 (0, 0)) (bq BK196)) (below_size (eq2 HB GE194 GE196)))
                            have n3_ := Aside0.mk (blk_below (g := gb194) (o := .cells #[.slice A0_0 l0_0.length c0_0, .int .i64 a0_1] 28 (0, 0)) (bq BK194) hb)
                            have n4_ := Aside0.mk (blk_below (g := gb196) (o := .cells #[.int .i64 ((rd_T90 l1 x17_1).f0), .int .i64 ((rd_T90 l1 x17_1).f1), .int .i64 ((rd_T90 l1 x17_1).f2)] 90 (0, 0)) (bq BK196) hb)
                            have n5_ := Aside0.mk (below_step (eq2 HB GE194 GE196) hb)
                            clear HO_8
                            clear HO201
                            clear BK194
                            clear BK196
                            clear HB
                            have HO_8 := n0_
                            have HO201 := n1_
                            have HO207 := n2_
                            have BK194 := n3_
                            have BK196 := n4_
                            have HB := n5_
                            clear n0_ n1_ n2_ n3_ n4_ n5_
                            clear hb ho28
                            refine hK.out _ _ ⟨(blk_cell BK196.out 0).trans rfl, (blk_cell BK196.out 1).trans rfl, (blk_cell BK196.out 2).trans rfl⟩ (fun hHeld => ?_)
                            clear hK K
                            refine norm_ (a' := ?_) ?_ ?_
                            rotate_left
                            · show Act.put _ (some 42) _ = _
                              simp only [Act.put, List.setIfInBounds_toArray, List.set_cons_zero, List.set_cons_succ, i64_w, i32_w]
                              rfl
                            refine one_ (i := 2) (N := some 35) #[true, true, true, true, true, true, true, true, true, true, false, false, false, false, false, false, false] rfl rfl (one_of HT_.out (by kernel_rfl)) (by decide) (fun K hK => ?_)
                            refine Kd.R_append_rows_step k90 (w0 := w) w.heap.size (by rfl) (.tmp 33) (.tmp 34) 35 90 (.agg #[(.int .i64 0), (.int .i64 0), (.int .i64 0)]) 24 rfl Try.underlying35 info90 rfl (by decide) (by omega) v200 y199 x8_1 _ _ _ (fun k_ => some k_ ≠ (.slice Ao23 x8_1.length co23 : Value).ownBlock ∧ some k_ ≠ (v206 : Value).ownBlock ∧ k_ ≠ gb196) (fun _ => False) rfl rfl ?aO ?aR (fun _ _ h => h) (fun _ h => h.elim) ?aF ?aB ?aS ?aL ?_
                            (case aR => repeat (first | exact (Kd.R_reads' HO_8.out).2.2 | (with_reducible refine Kd.C_alloc ?_ _) | (with_reducible refine Kd.C_drewN ?_ _) | (with_reducible refine Kd.C_drew ?_)))
                            (case aB => exact (eq2 HB GE194 GE196))
                            (case aF => exact (fun k_ hk => ⟨Kd.fresh' (Kd.R_lt (kq HO_8)) k_ hk, Kd.fresh' (Kd.R_lt (kq HO207)) k_ hk, Kd.freshB (g := gb196) (o := .cells #[.int .i64 ((rd_T90 l1 x17_1).f0), .int .i64 ((rd_T90 l1 x17_1).f1), .int .i64 ((rd_T90 l1 x17_1).f2)] 90 (0, 0)) (bq BK196) k_ hk⟩))
                            (case aO => exact (by (with_reducible repeat (first | apply Kd.R_alloc | apply Kd.R_drewN | apply Kd.R_drew)); exact Kd.R_mono HO201.out (fun _ hk => ⟨hk.1.1.2, ⟨hk.2, hk.1.2⟩⟩)))
                            (case aS => exact (below_size (eq2 HB GE194 GE196)))
                            (case aL => have := LMc19.out; omega)
                            intro v203 w29 ho hb hg hat
                            rw [← Ny202.out] at ho
                            have n0_ := Aside0.mk (Kd.R_after (ok := (fun k_ => some k_ ≠ (v206 : Value).ownBlock ∧ k_ ≠ gb196)) (by (with_reducible repeat (first | apply Kd.R_alloc | apply Kd.R_drewN | apply Kd.R_drew)); exact Kd.R_mono HO_8.out (fun _ hk => ⟨⟨hk.2, hk.1.1⟩, hk.1.2⟩)) hg hat)
                            have n1_ := Aside0.mk (blk_grown (g := gb194) (o := .cells #[.slice A0_0 l0_0.length c0_0, .int .i64 a0_1] 28 (0, 0)) (bq BK194) hg (Kd.R_ne HO201.out BK194.out (by decide)))
                            have n2_ := Aside0.mk (blk_grown (g := gb196) (o := .cells #[.int .i64 ((rd_T90 l1 x17_1).f0), .int .i64 ((rd_T90 l1 x17_1).f1), .int .i64 ((rd_T90 l1 x17_1).f2)] 90 (0, 0)) (bq BK196) hg (Kd.R_away HO201.out (fun _ hk => hk.1.2)))
                            have n3_ := Aside0.mk (Kd.R_after (ok := (fun k_ => some k_ ≠ (.slice Ao23 x8_1.length co23 : Value).ownBlock ∧ k_ ≠ gb196)) (by (with_reducible repeat (first | apply Kd.R_alloc | apply Kd.R_drewN | apply Kd.R_drew)); exact Kd.R_mono HO207.out (fun _ hk => ⟨⟨hk.1.1.2, hk.2⟩, hk.1.2⟩)) hg hat)
                            have n4_ := Aside0.mk (hb)
                            have n5_ := Aside0.mk (ho)
                            clear HO_8
                            clear BK194
                            clear BK196
                            clear HO207
                            clear HB
                            clear HO201
                            have HO_8 := n0_
                            have BK194 := n1_
                            have BK196 := n2_
                            have HO207 := n3_
                            have HB := n4_
                            have HO204 := n5_
                            clear n0_ n1_ n2_ n3_ n4_ n5_
                            clear ho hb hg hat
                            refine hK.out _ _ ⟨(blk_cell BK196.out 0).trans rfl, (blk_cell BK196.out 1).trans rfl, (blk_cell BK196.out 2).trans rfl⟩ (fun hHeld => ?_)
                            clear hK K
                            refine norm_ (a' := ?_) ?_ ?_
                            rotate_left
                            · show Act.put _ (some 35) _ = _
                              simp only [Act.put, List.setIfInBounds_toArray, List.set_cons_zero, List.set_cons_succ, i64_w, i32_w]
                              rfl
                            exact norm_ (by simp only [putAll, Act.put, List.setIfInBounds_toArray, List.set_cons_zero, List.set_cons_succ]) (hCont (v200, v203, v206) _ ⟨hHeld, (by (with_reducible repeat (first | apply Kd.R_alloc | apply Kd.R_drewN | apply Kd.R_drew)); exact Kd.R_mono HO204.out (fun _ hk => ⟨hk.2.1, ⟨hk.1, hk.2.2⟩⟩)), (by (with_reducible repeat (first | apply Kd.R_alloc | apply Kd.R_drewN | apply Kd.R_drew)); exact Kd.R_mono HO207.out (fun _ hk => ⟨hk.2, ⟨hk.1.1, hk.1.2⟩⟩)), (by (with_reducible repeat (first | apply Kd.R_alloc | apply Kd.R_drewN | apply Kd.R_drew)); exact Kd.R_mono HO_8.out (fun _ hk => ⟨hk.2, ⟨hk.1.1, hk.1.2⟩⟩)), (bq BK194), (bq BK196), (eq2 HB GE194 GE196)⟩)
                        · skip
                          refine Kd.R_lit_step k90 _ 90 ?hg (N := 42) ?hd (xs := ([(⟨x12_8, ((rd_T90 l1 x17_1).f1), ((rd_T90 l1 x17_1).f2)⟩ : S90)] : List (S90))) (inner := [.int .i64 x12_8, .int .i64 ((rd_T90 l1 x17_1).f1), .int .i64 ((rd_T90 l1 x17_1).f2)]) (ok := fun _ => True) (okp := fun _ => True) ?hr ?hp (fun _ hk => hk) trivial (Below.refl _ _) (Nat.le_refl _) (by simp) ?_; (case hd => rfl); (case hg => rfl); (case hr => first | (go_simp; done) | (go_simp; rfl)); (case hp => exact (Reps.c3 (show Kd.M k90 _ _ _ (⟨x12_8, ((rd_T90 l1 x17_1).f1), ((rd_T90 l1 x17_1).f2)⟩ : S90) [.int .i64 x12_8, .int .i64 ((rd_T90 l1 x17_1).f1), .int .i64 ((rd_T90 l1 x17_1).f2)] from (k90_mkM _ _ _ (⟨x12_8, ((rd_T90 l1 x17_1).f1), ((rd_T90 l1 x17_1).f2)⟩ : S90) )) (Reps.none _ _)))
                          intro v206 w25 ho26 hb hg_ hnew_
                          clear hg_ hnew_
                          (first | rw [← Ny205.out] at ho26 | (simp only [Int.reduceToNat] at ho26; rw [← Ny205.out] at ho26))
                          have n0_ := Aside0.mk (Kd.R_elder' (kq HO_8) (Kd.R_base ho26) hb)
                          have n1_ := Aside0.mk (Kd.R_lower (Kd.R_newB (Kd.R_new' ho26 (Kd.R_lt (kq HO_8))) (g := gb196) (o := .cells #[.int .i64 ((rd_T90 l1 x17_1).f0), .int .i64 ((rd_T90 l1 x17_1).f1), .int .i64 ((rd_T90 l1 x17_1).f2)] 90 (0, 0)) (bq BK196)) (below_size (eq2 HB GE194 GE196)))
                          have n2_ := Aside0.mk (blk_below (g := gb194) (o := .cells #[.slice A0_0 l0_0.length c0_0, .int .i64 a0_1] 28 (0, 0)) (bq BK194) hb)
                          have n3_ := Aside0.mk (blk_below (g := gb196) (o := .cells #[.int .i64 ((rd_T90 l1 x17_1).f0), .int .i64 ((rd_T90 l1 x17_1).f1), .int .i64 ((rd_T90 l1 x17_1).f2)] 90 (0, 0)) (bq BK196) hb)
                          have n4_ := Aside0.mk (below_step (eq2 HB GE194 GE196) hb)
                          clear HO_8
                          clear BK194
                          clear BK196
                          clear HB
                          have HO_8 := n0_
                          have HO207 := n1_
                          have BK194 := n2_
                          have BK196 := n3_
                          have HB := n4_
                          clear n0_ n1_ n2_ n3_ n4_
                          clear hb ho26
                          refine hK.out _ _ ⟨(blk_cell BK196.out 0).trans rfl, (blk_cell BK196.out 1).trans rfl, (blk_cell BK196.out 2).trans rfl⟩ (fun hHeld => ?_)
                          clear hK K
                          refine norm_ (a' := ?_) ?_ ?_
                          rotate_left
                          · show Act.put _ (some 42) _ = _
                            simp only [Act.put, List.setIfInBounds_toArray, List.set_cons_zero, List.set_cons_succ, i64_w, i32_w]
                            rfl
                          refine one_ (i := 0) (N := some 33) #[true, true, false, true, true, true, true, true, true, true, false, false, false, false, false, false, false] rfl rfl (one_of HT_.out (by kernel_rfl)) (by decide) (fun K hK => ?_)
                          refine Kd.R_lit_step k90 _ 90 ?hg (N := 33) ?hd (xs := ([] : List (S90))) (inner := []) (ok := fun _ => True) (okp := fun _ => True) ?hr ?hp (fun _ hk => hk) trivial (Below.refl _ _) (Nat.le_refl _) (by simp) ?_; (case hd => rfl); (case hg => rfl); (case hr => first | (go_simp; done) | (go_simp; rfl)); (case hp => exact (Reps.none _ _))
                          intro v200 w27 ho28 hb hg_ hnew_
                          clear hg_ hnew_
                          (first | rw [← Ny199.out] at ho28 | (simp only [Int.reduceToNat] at ho28; rw [← Ny199.out] at ho28))
                          have n0_ := Aside0.mk (Kd.R_elder' (kq HO_8) (Kd.R_base ho28) hb)
                          have n1_ := Aside0.mk (Kd.R_elder' (kq HO207) (Kd.R_base ho28) hb)
                          have n2_ := Aside0.mk (Kd.R_lower (Kd.R_newB (Kd.R_new' (Kd.R_new' ho28 (Kd.R_lt (kq HO_8))) (Kd.R_lt (kq HO207))) (g := gb196) (o := .cells #[.int .i64 ((rd_T90 l1 x17_1).f0), .int .i64 ((rd_T90 l1 x17_1).f1), .int .i64 ((rd_T90 l1 x17_1).f2)] 90 (0, 0)) (bq BK196)) (below_size (eq2 HB GE194 GE196)))
                          have n3_ := Aside0.mk (blk_below (g := gb194) (o := .cells #[.slice A0_0 l0_0.length c0_0, .int .i64 a0_1] 28 (0, 0)) (bq BK194) hb)
                          have n4_ := Aside0.mk (blk_below (g := gb196) (o := .cells #[.int .i64 ((rd_T90 l1 x17_1).f0), .int .i64 ((rd_T90 l1 x17_1).f1), .int .i64 ((rd_T90 l1 x17_1).f2)] 90 (0, 0)) (bq BK196) hb)
                          have n5_ := Aside0.mk (below_step (eq2 HB GE194 GE196) hb)
                          clear HO_8
                          clear HO207
                          clear BK194
                          clear BK196
                          clear HB
                          have HO_8 := n0_
                          have HO207 := n1_
                          have HO201 := n2_
                          have BK194 := n3_
                          have BK196 := n4_
                          have HB := n5_
                          clear n0_ n1_ n2_ n3_ n4_ n5_
                          clear hb ho28
                          refine hK.out _ _ ⟨(blk_cell BK196.out 0).trans rfl, (blk_cell BK196.out 1).trans rfl, (blk_cell BK196.out 2).trans rfl⟩ (fun hHeld => ?_)
                          clear hK K
                          refine norm_ (a' := ?_) ?_ ?_
                          rotate_left
                          · show Act.put _ (some 33) _ = _
                            simp only [Act.put, List.setIfInBounds_toArray, List.set_cons_zero, List.set_cons_succ, i64_w, i32_w]
                            rfl
                          refine one_ (i := 2) (N := some 35) #[true, true, true, true, true, true, true, true, true, true, false, false, false, false, false, false, false] rfl rfl (one_of HT_.out (by kernel_rfl)) (by decide) (fun K hK => ?_)
                          refine Kd.R_append_rows_step k90 (w0 := w) w.heap.size (by rfl) (.tmp 33) (.tmp 34) 35 90 (.agg #[(.int .i64 0), (.int .i64 0), (.int .i64 0)]) 24 rfl Try.underlying35 info90 rfl (by decide) (by omega) v200 y199 x8_1 _ _ _ (fun k_ => some k_ ≠ (.slice Ao23 x8_1.length co23 : Value).ownBlock ∧ some k_ ≠ (v206 : Value).ownBlock ∧ k_ ≠ gb196) (fun _ => False) rfl rfl ?aO ?aR (fun _ _ h => h) (fun _ h => h.elim) ?aF ?aB ?aS ?aL ?_
                          (case aR => repeat (first | exact (Kd.R_reads' HO_8.out).2.2 | (with_reducible refine Kd.C_alloc ?_ _) | (with_reducible refine Kd.C_drewN ?_ _) | (with_reducible refine Kd.C_drew ?_)))
                          (case aB => exact (eq2 HB GE194 GE196))
                          (case aF => exact (fun k_ hk => ⟨Kd.fresh' (Kd.R_lt (kq HO_8)) k_ hk, Kd.fresh' (Kd.R_lt (kq HO207)) k_ hk, Kd.freshB (g := gb196) (o := .cells #[.int .i64 ((rd_T90 l1 x17_1).f0), .int .i64 ((rd_T90 l1 x17_1).f1), .int .i64 ((rd_T90 l1 x17_1).f2)] 90 (0, 0)) (bq BK196) k_ hk⟩))
                          (case aO => exact (by (with_reducible repeat (first | apply Kd.R_alloc | apply Kd.R_drewN | apply Kd.R_drew)); exact Kd.R_mono HO201.out (fun _ hk => ⟨hk.1.1.2, ⟨hk.1.2, hk.2⟩⟩)))
                          (case aS => exact (below_size (eq2 HB GE194 GE196)))
                          (case aL => have := LMc19.out; omega)
                          intro v203 w29 ho hb hg hat
                          rw [← Ny202.out] at ho
                          have n0_ := Aside0.mk (Kd.R_after (ok := (fun k_ => some k_ ≠ (v206 : Value).ownBlock ∧ k_ ≠ gb196)) (by (with_reducible repeat (first | apply Kd.R_alloc | apply Kd.R_drewN | apply Kd.R_drew)); exact Kd.R_mono HO_8.out (fun _ hk => ⟨⟨hk.1.2, hk.1.1⟩, hk.2⟩)) hg hat)
                          have n1_ := Aside0.mk (blk_grown (g := gb194) (o := .cells #[.slice A0_0 l0_0.length c0_0, .int .i64 a0_1] 28 (0, 0)) (bq BK194) hg (Kd.R_ne HO201.out BK194.out (by decide)))
                          have n2_ := Aside0.mk (blk_grown (g := gb196) (o := .cells #[.int .i64 ((rd_T90 l1 x17_1).f0), .int .i64 ((rd_T90 l1 x17_1).f1), .int .i64 ((rd_T90 l1 x17_1).f2)] 90 (0, 0)) (bq BK196) hg (Kd.R_away HO201.out (fun _ hk => hk.2)))
                          have n3_ := Aside0.mk (Kd.R_after (ok := (fun k_ => some k_ ≠ (.slice Ao23 x8_1.length co23 : Value).ownBlock ∧ k_ ≠ gb196)) (by (with_reducible repeat (first | apply Kd.R_alloc | apply Kd.R_drewN | apply Kd.R_drew)); exact Kd.R_mono HO207.out (fun _ hk => ⟨⟨hk.1.1.2, hk.1.2⟩, hk.2⟩)) hg hat)
                          have n4_ := Aside0.mk (hb)
                          have n5_ := Aside0.mk (ho)
                          clear HO_8
                          clear BK194
                          clear BK196
                          clear HO207
                          clear HB
                          clear HO201
                          have HO_8 := n0_
                          have BK194 := n1_
                          have BK196 := n2_
                          have HO207 := n3_
                          have HB := n4_
                          have HO204 := n5_
                          clear n0_ n1_ n2_ n3_ n4_ n5_
                          clear ho hb hg hat
                          refine hK.out _ _ ⟨(blk_cell BK196.out 0).trans rfl, (blk_cell BK196.out 1).trans rfl, (blk_cell BK196.out 2).trans rfl⟩ (fun hHeld => ?_)
                          clear hK K
                          refine norm_ (a' := ?_) ?_ ?_
                          rotate_left
                          · show Act.put _ (some 35) _ = _
                            simp only [Act.put, List.setIfInBounds_toArray, List.set_cons_zero, List.set_cons_succ, i64_w, i32_w]
                            rfl
                          exact norm_ (by simp only [putAll, Act.put, List.setIfInBounds_toArray, List.set_cons_zero, List.set_cons_succ]) (hCont (v200, v203, v206) _ ⟨hHeld, (by (with_reducible repeat (first | apply Kd.R_alloc | apply Kd.R_drewN | apply Kd.R_drew)); exact Kd.R_mono HO204.out (fun _ hk => ⟨hk.2.1, ⟨hk.1, hk.2.2⟩⟩)), (by (with_reducible repeat (first | apply Kd.R_alloc | apply Kd.R_drewN | apply Kd.R_drew)); exact Kd.R_mono HO207.out (fun _ hk => ⟨hk.2, ⟨hk.1.1, hk.1.2⟩⟩)), (by (with_reducible repeat (first | apply Kd.R_alloc | apply Kd.R_drewN | apply Kd.R_drew)); exact Kd.R_mono HO_8.out (fun _ hk => ⟨hk.2, ⟨hk.1.1, hk.1.2⟩⟩)), (bq BK194), (bq BK196), (eq2 HB GE194 GE196)⟩)
                      rintro ⟨v200, v203, v206⟩ w30 ⟨hS_, h0_, h1_, h2_, h3_, h4_, h5_⟩
                      have n0_ : Aside0 (Kd.R k90 90 w30 w.heap.size (fun k_ => some k_ ≠ (v206 : Value).ownBlock ∧ some k_ ≠ (.slice Ao23 x8_1.length co23 : Value).ownBlock ∧ k_ ≠ gb196) v203 y202) := ⟨h0_⟩
                      have n1_ : Aside0 (Kd.R k90 90 w30 w.heap.size (fun k_ => some k_ ≠ (v203 : Value).ownBlock ∧ some k_ ≠ (.slice Ao23 x8_1.length co23 : Value).ownBlock ∧ k_ ≠ gb196) v206 y205) := ⟨h1_⟩
                      have n2_ : Aside0 (Kd.R k90 90 w30 w.heap.size (fun k_ => some k_ ≠ (v203 : Value).ownBlock ∧ some k_ ≠ (v206 : Value).ownBlock ∧ k_ ≠ gb196) (.slice Ao23 x8_1.length co23) x8_1) := ⟨h2_⟩
                      have n3_ : Aside0 (w30.heap[gb194]? = some (.cells #[.slice A0_0 l0_0.length c0_0, .int .i64 a0_1] 28 (0, 0))) := ⟨h3_⟩
                      have n4_ : Aside0 (w30.heap[gb196]? = some (.cells #[.int .i64 ((rd_T90 l1 x17_1).f0), .int .i64 ((rd_T90 l1 x17_1).f1), .int .i64 ((rd_T90 l1 x17_1).f2)] 90 (0, 0))) := ⟨h4_⟩
                      have n5_ : Aside0 (Below w.heap.size w w30) := ⟨h5_⟩
                      clear HO_8
                      clear BK194
                      clear BK196
                      clear HB
                      clear h0_ h1_ h2_ h3_ h4_ h5_
                      have HO204 := n0_
                      have HO207 := n1_
                      have HO_8 := n2_
                      have BK194 := n3_
                      have BK196 := n4_
                      have HB := n5_
                      clear n0_ n1_ n2_ n3_ n4_ n5_
                      have hHeld : w30.cell? ⟨gb196, 0, none⟩ = some (.int .i64 ((rd_T90 l1 x17_1).f0)) ∧ w30.cell? ⟨gb196, 1, none⟩ = some (.int .i64 ((rd_T90 l1 x17_1).f1)) ∧ w30.cell? ⟨gb196, 2, none⟩ = some (.int .i64 ((rd_T90 l1 x17_1).f2)) := hS_
                      obtain ⟨Ao32, co32, eo32⟩ := Kd.R_slice HO207.out
                      (first | subst eo32 | (injection eo32 with f1_ f2_ f3_; have f4_ := f1_.symm; have f5_ := f3_.symm; clear f1_ f2_ f3_; subst f4_; subst f5_))
                      refine norm_ (a' := ?_) ?_ ?_
                      rotate_left
                      · simp only [putAll, Act.put, List.setIfInBounds_toArray, List.set_cons_zero, List.set_cons_succ]
                        rfl
                      refine one_ (i := 10) (N := some 43) #[true, true, true, true, true, true, true, true, true, true, true, false, false, false, false, false, false] rfl rfl (one_of HT_.out (by kernel_rfl)) (by decide) (fun K hK => ?_)
                      refine Kd.R_append_rows_step k90 (w0 := w) w.heap.size (by rfl) (.tmp 35) (.tmp 42) 35 90 (.agg #[(.int .i64 0), (.int .i64 0), (.int .i64 0)]) 24 rfl Try.underlying35 info90 rfl (by decide) (by omega) v203 y202 y205 _ _ _ (fun k_ => some k_ ≠ (.slice Ao23 x8_1.length co23 : Value).ownBlock ∧ some k_ ≠ (.slice Ao32 y205.length co32 : Value).ownBlock ∧ k_ ≠ gb196) (fun _ => False) rfl rfl ?aO ?aR (fun _ _ h => h) (fun _ h => h.elim) ?aF ?aB ?aS ?aL ?_
                      (case aR => repeat (first | exact (Kd.R_reads' HO207.out).2.2 | (with_reducible refine Kd.C_alloc ?_ _) | (with_reducible refine Kd.C_drewN ?_ _) | (with_reducible refine Kd.C_drew ?_)))
                      (case aB => exact (eq2 HB GE194 GE196))
                      (case aF => exact (fun k_ hk => ⟨Kd.fresh' (Kd.R_lt (kq HO_8)) k_ hk, Kd.fresh' (Kd.R_lt (kq HO207)) k_ hk, Kd.freshB (g := gb196) (o := .cells #[.int .i64 ((rd_T90 l1 x17_1).f0), .int .i64 ((rd_T90 l1 x17_1).f1), .int .i64 ((rd_T90 l1 x17_1).f2)] 90 (0, 0)) (bq BK196) k_ hk⟩))
                      (case aO => exact (by (with_reducible repeat (first | apply Kd.R_alloc | apply Kd.R_drewN | apply Kd.R_drew)); exact Kd.R_mono HO204.out (fun _ hk => ⟨hk.2.1, ⟨hk.1, hk.2.2⟩⟩)))
                      (case aS => exact (below_size (eq2 HB GE194 GE196)))
                      (case aL => have := LMc20.out; omega)
                      intro v209 w31 ho hb hg hat
                      rw [← Ny208.out] at ho
                      have n0_ := Aside0.mk (Kd.R_after (ok := (fun k_ => some k_ ≠ (.slice Ao32 y205.length co32 : Value).ownBlock ∧ k_ ≠ gb196)) (by (with_reducible repeat (first | apply Kd.R_alloc | apply Kd.R_drewN | apply Kd.R_drew)); exact Kd.R_mono HO_8.out (fun _ hk => ⟨⟨hk.2.1, hk.2.2⟩, hk.1⟩)) hg hat)
                      have n1_ := Aside0.mk (blk_grown (g := gb194) (o := .cells #[.slice A0_0 l0_0.length c0_0, .int .i64 a0_1] 28 (0, 0)) (bq BK194) hg (Kd.R_ne HO204.out BK194.out (by decide)))
                      have n2_ := Aside0.mk (blk_grown (g := gb196) (o := .cells #[.int .i64 ((rd_T90 l1 x17_1).f0), .int .i64 ((rd_T90 l1 x17_1).f1), .int .i64 ((rd_T90 l1 x17_1).f2)] 90 (0, 0)) (bq BK196) hg (Kd.R_away HO204.out (fun _ hk => hk.2.2)))
                      have n3_ := Aside0.mk (Kd.R_after (ok := (fun k_ => some k_ ≠ (.slice Ao23 x8_1.length co23 : Value).ownBlock ∧ k_ ≠ gb196)) (by (with_reducible repeat (first | apply Kd.R_alloc | apply Kd.R_drewN | apply Kd.R_drew)); exact Kd.R_mono HO207.out (fun _ hk => ⟨⟨hk.2.1, hk.2.2⟩, hk.1⟩)) hg hat)
                      have n4_ := Aside0.mk (hb)
                      have n5_ := Aside0.mk (ho)
                      clear HO_8
                      clear BK194
                      clear BK196
                      clear HO207
                      clear HB
                      clear HO204
                      have HO_8 := n0_
                      have BK194 := n1_
                      have BK196 := n2_
                      have HO207 := n3_
                      have HB := n4_
                      have HO210 := n5_
                      clear n0_ n1_ n2_ n3_ n4_ n5_
                      clear ho hb hg hat
                      obtain ⟨Ao33, co33, eo33⟩ := Kd.R_slice HO210.out
                      (first | subst eo33 | (injection eo33 with f1_ f2_ f3_; have f4_ := f1_.symm; have f5_ := f3_.symm; clear f1_ f2_ f3_; subst f4_; subst f5_))
                      refine hK.out _ _ ⟨(blk_cell BK196.out 0).trans rfl, (blk_cell BK196.out 1).trans rfl, (blk_cell BK196.out 2).trans rfl⟩ (fun hHeld => ?_)
                      clear hK K
                      refine norm_ (a' := ?_) ?_ ?_
                      rotate_left
                      · show Act.put _ (some 43) _ = _
                        simp only [Act.put, List.setIfInBounds_toArray, List.set_cons_zero, List.set_cons_succ, i64_w, i32_w]
                        rfl
                      refine one_ (i := 11) (N := some 44) #[true, true, true, true, true, true, true, true, true, true, true, true, false, false, false, false, false] rfl rfl (one_of HT_.out (by kernel_rfl)) (by decide) (fun K hK => ?_)
                      refine goes_ Try.func139 (by kernel_rfl) rfl #[.slice Ao33 y208.length co33] (by rfl) rfl rfl (by (try simp only [List.map_toArray, List.map_cons, List.map_nil]); first | done | rfl | (simp only [List.length_drop, List.length_take]; rfl)) ?_
                      with_reducible refine (spec_ntSorted.calls kj8 _ _ y208 t211 true _ ?side1 ?side2 A21.out).mono ?_
                      (case side1 => repeat (first | exact (Kd.R_reads' HO210.out).2.2 | (with_reducible refine Kd.C_alloc ?_ _) | (with_reducible refine Kd.C_drewN ?_ _) | (with_reducible refine Kd.C_drew ?_)))
                      (case side2 => exact (Kd.R_reads' HO210.out).2.1)
                      rintro e w34 ⟨v213, rfl, ho0, hb⟩
                      refine ⟨_, rfl, ?_⟩
                      have n0_ := Aside0.mk (Kd.R_elder' (kq HO_8) (Kd.R_base ho0) hb)
                      have n1_ := Aside0.mk (Kd.R_elder' (kq HO207) (Kd.R_base ho0) hb)
                      have n2_ := Aside0.mk (Kd.R_elder' (kq HO210) (Kd.R_base ho0) hb)
                      have n3_ := Aside0.mk (Kd.R_lower (Kd.R_newB (Kd.R_new' (Kd.R_new' (Kd.R_new' ho0 (Kd.R_lt (kq HO_8))) (Kd.R_lt (kq HO207))) (Kd.R_lt (kq HO210))) (g := gb196) (o := .cells #[.int .i64 ((rd_T90 l1 x17_1).f0), .int .i64 ((rd_T90 l1 x17_1).f1), .int .i64 ((rd_T90 l1 x17_1).f2)] 90 (0, 0)) (bq BK196)) (below_size (eq2 HB GE194 GE196)))
                      have n4_ := Aside0.mk (blk_below (g := gb194) (o := .cells #[.slice A0_0 l0_0.length c0_0, .int .i64 a0_1] 28 (0, 0)) (bq BK194) hb)
                      have n5_ := Aside0.mk (blk_below (g := gb196) (o := .cells #[.int .i64 ((rd_T90 l1 x17_1).f0), .int .i64 ((rd_T90 l1 x17_1).f1), .int .i64 ((rd_T90 l1 x17_1).f2)] 90 (0, 0)) (bq BK196) hb)
                      have n6_ := Aside0.mk (below_step (eq2 HB GE194 GE196) hb)
                      clear HO_8
                      clear HO207
                      clear HO210
                      clear BK194
                      clear BK196
                      clear HB
                      have HO_8 := n0_
                      have HO207 := n1_
                      have HO210 := n2_
                      have HO214 := n3_
                      have BK194 := n4_
                      have BK196 := n5_
                      have HB := n6_
                      clear n0_ n1_ n2_ n3_ n4_ n5_ n6_
                      (try clear hb)
                      (try clear hb2)
                      (try clear hk)
                      (try clear hi)
                      (try clear ho0)
                      refine hK.out _ _ ⟨(blk_cell BK196.out 0).trans rfl, (blk_cell BK196.out 1).trans rfl, (blk_cell BK196.out 2).trans rfl⟩ (fun hHeld => ?_)
                      clear hK K
                      refine norm_ (a' := ?_) ?_ ?_
                      rotate_left
                      · show Act.put _ (some 44) _ = _
                        simp only [Act.put, List.setIfInBounds_toArray, List.set_cons_zero, List.set_cons_succ, i64_w, i32_w]
                        rfl
                      refine pure_ (i := 12) (N := some 32) (v := ?_) (a' := ?_) #[true, true, true, true, true, true, true, true, true, true, true, true, true, false, false, false, false] rfl rfl (any_of HT_.out (by kernel_rfl)) (fun _ _ _ h => h) (Or.inl ⟨by rfl, ?_⟩) ?_ ?_
                      rotate_left
                      · intro w'
                        go_simp
                        with_reducible rfl
                      rotate_left
                      · simp only [Act.put, List.setIfInBounds_toArray, List.set_cons_zero, List.set_cons_succ, i64_w, i32_w]
                        rfl
                      refine pure_ (i := 13) (N := some 45) (v := ?_) (a' := ?_) #[true, true, true, true, true, true, true, true, true, true, true, true, true, true, false, false, false] rfl rfl (any_of HT_.out (by kernel_rfl)) (fun _ _ _ h => h) (Or.inl ⟨by rfl, ?_⟩) ?_ ?_
                      rotate_left
                      · intro w'
                        go_simp
                        with_reducible rfl
                      rotate_left
                      · simp only [Act.put, List.setIfInBounds_toArray, List.set_cons_zero, List.set_cons_succ, i64_w, i32_w]
                        rfl
                      refine pure_ (i := 14) (N := some 46) (v := ?_) (a' := ?_) #[true, true, true, true, true, true, true, true, true, true, true, true, true, true, true, false, false] rfl rfl (any_of HT_.out (by kernel_rfl)) (fun _ _ _ h => h) (Or.inl ⟨by rfl, ?_⟩) ?_ ?_
                      rotate_left
                      · intro w'
                        go_simp
                        with_reducible rfl
                      rotate_left
                      · simp only [Act.put, List.setIfInBounds_toArray, List.set_cons_zero, List.set_cons_succ, i64_w, i32_w]
                        rfl
                      refine pure_ (i := 15) (N := some 13) (v := ?_) (a' := ?_) #[true, true, true, true, true, true, true, true, true, true, true, true, true, true, true, true, false] rfl rfl (any_of HT_.out (by kernel_rfl)) (fun _ _ _ h => h) (Or.inl ⟨by rfl, ?_⟩) ?_ ?_
                      rotate_left
                      · intro w'
                        go_simp
                        with_reducible rfl
                      rotate_left
                      · simp only [Act.put, List.setIfInBounds_toArray, List.set_cons_zero, List.set_cons_succ, i64_w, i32_w]
                        rfl
                      refine pure_ (i := 16) (N := some 14) (v := ?_) (a' := ?_) #[true, true, true, true, true, true, true, true, true, true, true, true, true, true, true, true, true] rfl rfl (any_of HT_.out (by kernel_rfl)) (fun _ _ _ h => h) (Or.inl ⟨by rfl, ?_⟩) ?_ ?_
                      rotate_left
                      · intro w'
                        go_simp
                        with_reducible rfl
                      rotate_left
                      · simp only [Act.put, List.setIfInBounds_toArray, List.set_cons_zero, List.set_cons_succ, i64_w, i32_w]
                        rfl
                      refine done_ (done_of HT_.out (by kernel_rfl)) ?_
                      try go_wp2
                      go_roundg kj8
                      case measure => have := HK1.out; have := HJ8.out; omega
                      case rel => exact ⟨(t211), (x9_1), (wrap64 (x17_1 + 1)), (by first | rfl | (simp; done) | (simp [*]; done)), (by first | rfl | (simp; done) | (simp [*]; done)), H', ⟨by have := HK1.out; have := HJ8.out; omega⟩, ⟨by (with_reducible repeat (first | apply Kd.R_alloc | apply Kd.R_drewN | apply Kd.R_drew)); exact Kd.R_mono HO214.out (fun _ hk => trivial)⟩, ⟨bq BK194⟩, ⟨eq2 HB GE194 GE196⟩⟩
                    · replace c22 := Bool.eq_false_iff.mpr c22
                      subst c22
                      have H1 : (spec_trFold.l0 kj8 a2 x8_1 (wrap64 (x9_1 + 1)) l1 (l1.length : Int) (wrap64 (x17_1 + 1)) l0_0 a0_1) = some (r1, r2) := by rw [if_neg (show ¬ (false = true) by decide)] at H; exact H
                      clear H
                      have H := H1
                      clear H1
                      have H' := Aside0.mk H
                      clear H
                      obtain ⟨Ao35, co35, eo35⟩ := Kd.R_slice HO_8.out
                      subst eo35
                      try go_wp2
                      have n0_ := Aside0.mk (Kd.R_drew HO_8.out)
                      have n1_ := Aside0.mk (blk_drew BK194.out)
                      have n2_ := Aside0.mk (blk_drew BK196.out)
                      have n3_ := Aside0.mk (below_drew1 HB.out)
                      clear HO_8
                      clear BK194
                      clear BK196
                      clear HB
                      have HO_8 := n0_
                      have BK194 := n1_
                      have BK196 := n2_
                      have HB := n3_
                      clear n0_ n1_ n2_ n3_
                      refine start_ (n := 17) (S := fun w' => w'.cell? ⟨gb196, 0, none⟩ = some (.int .i64 ((rd_T90 l1 x17_1).f0)) ∧ w'.cell? ⟨gb196, 1, none⟩ = some (.int .i64 ((rd_T90 l1 x17_1).f1)) ∧ w'.cell? ⟨gb196, 2, none⟩ = some (.int .i64 ((rd_T90 l1 x17_1).f2))) (ds := []) #[false, false, false, false, false, false, false, false, false, false, false, false, false, false, false, false, false] (by kernel_rfl) rfl rfl ⟨(blk_cell BK196.out 0).trans rfl, (blk_cell BK196.out 1).trans rfl, (blk_cell BK196.out 2).trans rfl⟩ (fun hHeld => ?_); refine with_tabW spec_trFold.tab9 spec_trFold.bits9 (fun HT_ HW_ => ?_)
                      generalize wc.drew = w36 at HO_8 BK194 BK196 HB hHeld ⊢
                      refine pure_ (i := 1) (N := some 34) (v := ?_) (a' := ?_) #[false, true, false, false, false, false, false, false, false, false, false, false, false, false, false, false, false] rfl rfl (any_of HT_.out (by kernel_rfl)) (fun _ _ _ h => h) (Or.inl ⟨by rfl, ?_⟩) ?_ ?_
                      rotate_left
                      · intro w'
                        go_simp
                        with_reducible rfl
                      rotate_left
                      · simp only [Act.put, List.setIfInBounds_toArray, List.set_cons_zero, List.set_cons_succ, i64_w, i32_w]
                        rfl
                      refine pure_ (i := 3) (N := some 36) (v := ?_) (a' := ?_) #[false, true, false, true, false, false, false, false, false, false, false, false, false, false, false, false, false] rfl rfl (any_of HT_.out (by kernel_rfl)) (fun _ _ _ h => h) (Or.inl ⟨by rfl, ?_⟩) ?_ ?_
                      rotate_left
                      · intro w'
                        go_simp
                        with_reducible rfl
                      rotate_left
                      · simp only [Act.put, List.setIfInBounds_toArray, List.set_cons_zero, List.set_cons_succ, i64_w, i32_w]
                        rfl
                      refine pure_ (i := 4) (N := some 37) (v := ?_) (a' := ?_) #[false, true, false, true, true, false, false, false, false, false, false, false, false, false, false, false, false] rfl rfl (any_of HT_.out (by kernel_rfl)) (fun _ _ _ h => h) (Or.inl ⟨by rfl, ?_⟩) ?_ ?_
                      rotate_left
                      · intro w'
                        go_simp
                        with_reducible rfl
                      rotate_left
                      · simp only [Act.put, List.setIfInBounds_toArray, List.set_cons_zero, List.set_cons_succ, i64_w, i32_w]
                        rfl
                      refine pure_ (i := 6) (N := some 39) (v := ?_) (a' := ?_) #[false, true, false, true, true, false, true, false, false, false, false, false, false, false, false, false, false] rfl rfl (any_of HT_.out (by kernel_rfl)) (fun _ _ _ h => h) (Or.inl ⟨by rfl, ?_⟩) ?_ ?_
                      rotate_left
                      · intro w'
                        go_simp
                        with_reducible rfl
                      rotate_left
                      · simp only [Act.put, List.setIfInBounds_toArray, List.set_cons_zero, List.set_cons_succ, i64_w, i32_w]
                        rfl
                      refine take_ (i := 5) (N := some 38) (v := ?_) (a' := ?_) #[false, true, false, true, true, true, true, false, false, false, false, false, false, false, false, false, false] rfl rfl (take_ofW HT_.out HW_.out (by kernel_rfl)) (fun _ _ _ h => h) (Or.inl ⟨by rfl, ?_⟩) hHeld ?_ ?_
                      rotate_left
                      · rintro w' ⟨s0, s1, s2⟩
                        go_simp
                        with_reducible rfl
                      rotate_left
                      · simp only [Act.put, List.setIfInBounds_toArray, List.set_cons_zero, List.set_cons_succ, i64_w, i32_w]
                        rfl
                      refine take_ (i := 7) (N := some 40) (v := ?_) (a' := ?_) #[false, true, false, true, true, true, true, true, false, false, false, false, false, false, false, false, false] rfl rfl (take_ofW HT_.out HW_.out (by kernel_rfl)) (fun _ _ _ h => h) (Or.inl ⟨by rfl, ?_⟩) hHeld ?_ ?_
                      rotate_left
                      · rintro w' ⟨s0, s1, s2⟩
                        go_simp
                        with_reducible rfl
                      rotate_left
                      · simp only [Act.put, List.setIfInBounds_toArray, List.set_cons_zero, List.set_cons_succ, i64_w, i32_w]
                        rfl
                      refine pure_ (i := 8) (N := some 41) (v := ?_) (a' := ?_) #[false, true, false, true, true, true, true, true, true, false, false, false, false, false, false, false, false] rfl rfl (any_of HT_.out (by kernel_rfl)) (fun _ _ _ h => h) (Or.inl ⟨by rfl, ?_⟩) ?_ ?_
                      rotate_left
                      · intro w'
                        go_simp
                        with_reducible rfl
                      rotate_left
                      · simp only [Act.put, List.setIfInBounds_toArray, List.set_cons_zero, List.set_cons_succ, i64_w, i32_w]
                        rfl
                      refine join_ (σ := Value × Value × Value) 7 #[true, true, true, true, true, true, true, true, true, true, false, false, false, false, false, false, false] (fun s_ => [(33, s_.1), (35, s_.2.1), (42, s_.2.2)]) (fun s_ w' => (w'.cell? ⟨gb196, 0, none⟩ = some (.int .i64 ((rd_T90 l1 x17_1).f0)) ∧ w'.cell? ⟨gb196, 1, none⟩ = some (.int .i64 ((rd_T90 l1 x17_1).f1)) ∧ w'.cell? ⟨gb196, 2, none⟩ = some (.int .i64 ((rd_T90 l1 x17_1).f2))) ∧ (Kd.R k90 90 w' w.heap.size (fun k_ => some k_ ≠ (s_.2.2 : Value).ownBlock ∧ some k_ ≠ (.slice Ao35 x8_1.length co35 : Value).ownBlock ∧ k_ ≠ gb196) s_.2.1 y202) ∧ (Kd.R k90 90 w' w.heap.size (fun k_ => some k_ ≠ (s_.2.1 : Value).ownBlock ∧ some k_ ≠ (.slice Ao35 x8_1.length co35 : Value).ownBlock ∧ k_ ≠ gb196) s_.2.2 y205) ∧ (Kd.R k90 90 w' w.heap.size (fun k_ => some k_ ≠ (s_.2.1 : Value).ownBlock ∧ some k_ ≠ (s_.2.2 : Value).ownBlock ∧ k_ ≠ gb196) (.slice Ao35 x8_1.length co35) x8_1) ∧ (w'.heap[gb194]? = some (.cells #[.slice A0_0 l0_0.length c0_0, .int .i64 a0_1] 28 (0, 0))) ∧ (w'.heap[gb196]? = some (.cells #[.int .i64 ((rd_T90 l1 x17_1).f0), .int .i64 ((rd_T90 l1 x17_1).f1), .int .i64 ((rd_T90 l1 x17_1).f2)] 90 (0, 0))) ∧ (Below w.heap.size w w')) ?_ ?_
                      rotate_left
                      · intro hCont
                        refine two_ (i := 0) (j := 9) (Ni := some 33) (Nj := some 42) #[true, true, false, true, true, true, true, true, true, false, false, false, false, false, false, false, false] #[false, true, false, true, true, true, true, true, true, true, false, false, false, false, false, false, false] rfl rfl rfl rfl (two_of HT_.out (by kernel_rfl)) (by decide) (by decide) (fun K hK => ?_) (fun K hK => ?_)
                        · skip
                          refine Kd.R_lit_step k90 _ 90 ?hg (N := 33) ?hd (xs := ([] : List (S90))) (inner := []) (ok := fun _ => True) (okp := fun _ => True) ?hr ?hp (fun _ hk => hk) trivial (Below.refl _ _) (Nat.le_refl _) (by simp) ?_; (case hd => rfl); (case hg => rfl); (case hr => first | (go_simp; done) | (go_simp; rfl)); (case hp => exact (Reps.none _ _))
                          intro v200 w37 ho38 hb hg_ hnew_
                          clear hg_ hnew_
                          (first | rw [← Ny199.out] at ho38 | (simp only [Int.reduceToNat] at ho38; rw [← Ny199.out] at ho38))
                          have n0_ := Aside0.mk (Kd.R_elder' (kq HO_8) (Kd.R_base ho38) hb)
                          have n1_ := Aside0.mk (Kd.R_lower (Kd.R_newB (Kd.R_new' ho38 (Kd.R_lt (kq HO_8))) (g := gb196) (o := .cells #[.int .i64 ((rd_T90 l1 x17_1).f0), .int .i64 ((rd_T90 l1 x17_1).f1), .int .i64 ((rd_T90 l1 x17_1).f2)] 90 (0, 0)) (bq BK196)) (below_size (eq2 HB GE194 GE196)))
                          have n2_ := Aside0.mk (blk_below (g := gb194) (o := .cells #[.slice A0_0 l0_0.length c0_0, .int .i64 a0_1] 28 (0, 0)) (bq BK194) hb)
                          have n3_ := Aside0.mk (blk_below (g := gb196) (o := .cells #[.int .i64 ((rd_T90 l1 x17_1).f0), .int .i64 ((rd_T90 l1 x17_1).f1), .int .i64 ((rd_T90 l1 x17_1).f2)] 90 (0, 0)) (bq BK196) hb)
                          have n4_ := Aside0.mk (below_step (eq2 HB GE194 GE196) hb)
                          clear HO_8
                          clear BK194
                          clear BK196
                          clear HB
                          have HO_8 := n0_
                          have HO201 := n1_
                          have BK194 := n2_
                          have BK196 := n3_
                          have HB := n4_
                          clear n0_ n1_ n2_ n3_ n4_
                          clear hb ho38
                          refine hK.out _ _ ⟨(blk_cell BK196.out 0).trans rfl, (blk_cell BK196.out 1).trans rfl, (blk_cell BK196.out 2).trans rfl⟩ (fun hHeld => ?_)
                          clear hK K
                          refine norm_ (a' := ?_) ?_ ?_
                          rotate_left
                          · show Act.put _ (some 33) _ = _
                            simp only [Act.put, List.setIfInBounds_toArray, List.set_cons_zero, List.set_cons_succ, i64_w, i32_w]
                            rfl
                          refine two_ (i := 2) (j := 9) (Ni := some 35) (Nj := some 42) #[true, true, true, true, true, true, true, true, true, false, false, false, false, false, false, false, false] #[true, true, false, true, true, true, true, true, true, true, false, false, false, false, false, false, false] rfl rfl rfl rfl (two_of HT_.out (by kernel_rfl)) (by decide) (by decide) (fun K hK => ?_) (fun K hK => ?_)
                          · skip
                            refine Kd.R_append_rows_step k90 (w0 := w) w.heap.size (by rfl) (.tmp 33) (.tmp 34) 35 90 (.agg #[(.int .i64 0), (.int .i64 0), (.int .i64 0)]) 24 rfl Try.underlying35 info90 rfl (by decide) (by omega) v200 y199 x8_1 _ _ _ (fun k_ => some k_ ≠ (.slice Ao35 x8_1.length co35 : Value).ownBlock ∧ k_ ≠ gb196) (fun _ => False) rfl rfl ?aO ?aR (fun _ _ h => h) (fun _ h => h.elim) ?aF ?aB ?aS ?aL ?_
                            (case aR => repeat (first | exact (Kd.R_reads' HO_8.out).2.2 | (with_reducible refine Kd.C_alloc ?_ _) | (with_reducible refine Kd.C_drewN ?_ _) | (with_reducible refine Kd.C_drew ?_)))
                            (case aB => exact (eq2 HB GE194 GE196))
                            (case aF => exact (fun k_ hk => ⟨Kd.fresh' (Kd.R_lt (kq HO_8)) k_ hk, Kd.freshB (g := gb196) (o := .cells #[.int .i64 ((rd_T90 l1 x17_1).f0), .int .i64 ((rd_T90 l1 x17_1).f1), .int .i64 ((rd_T90 l1 x17_1).f2)] 90 (0, 0)) (bq BK196) k_ hk⟩))
                            (case aO => exact (by (with_reducible repeat (first | apply Kd.R_alloc | apply Kd.R_drewN | apply Kd.R_drew)); exact Kd.R_mono HO201.out (fun _ hk => ⟨hk.1.2, hk.2⟩)))
                            (case aS => exact (below_size (eq2 HB GE194 GE196)))
                            (case aL => have := LMc19.out; omega)
                            intro v203 w39 ho hb hg hat
                            rw [← Ny202.out] at ho
                            have n0_ := Aside0.mk (Kd.R_after (ok := (fun k_ => k_ ≠ gb196)) (kq HO_8) hg hat)
                            have n1_ := Aside0.mk (blk_grown (g := gb194) (o := .cells #[.slice A0_0 l0_0.length c0_0, .int .i64 a0_1] 28 (0, 0)) (bq BK194) hg (Kd.R_ne HO201.out BK194.out (by decide)))
                            have n2_ := Aside0.mk (blk_grown (g := gb196) (o := .cells #[.int .i64 ((rd_T90 l1 x17_1).f0), .int .i64 ((rd_T90 l1 x17_1).f1), .int .i64 ((rd_T90 l1 x17_1).f2)] 90 (0, 0)) (bq BK196) hg (Kd.R_away HO201.out (fun _ hk => hk.2)))
                            have n3_ := Aside0.mk (hb)
                            have n4_ := Aside0.mk (ho)
                            clear HO_8
                            clear BK194
                            clear BK196
                            clear HB
                            clear HO201
                            have HO_8 := n0_
                            have BK194 := n1_
                            have BK196 := n2_
                            have HB := n3_
                            have HO204 := n4_
                            clear n0_ n1_ n2_ n3_ n4_
                            clear ho hb hg hat
                            refine hK.out _ _ ⟨(blk_cell BK196.out 0).trans rfl, (blk_cell BK196.out 1).trans rfl, (blk_cell BK196.out 2).trans rfl⟩ (fun hHeld => ?_)
                            clear hK K
                            refine norm_ (a' := ?_) ?_ ?_
                            rotate_left
                            · show Act.put _ (some 35) _ = _
                              simp only [Act.put, List.setIfInBounds_toArray, List.set_cons_zero, List.set_cons_succ, i64_w, i32_w]
                              rfl
                            refine one_ (i := 9) (N := some 42) #[true, true, true, true, true, true, true, true, true, true, false, false, false, false, false, false, false] rfl rfl (one_of HT_.out (by kernel_rfl)) (by decide) (fun K hK => ?_)
                            refine Kd.R_lit_step k90 _ 90 ?hg (N := 42) ?hd (xs := ([(⟨x12_8, ((rd_T90 l1 x17_1).f1), ((rd_T90 l1 x17_1).f2)⟩ : S90)] : List (S90))) (inner := [.int .i64 x12_8, .int .i64 ((rd_T90 l1 x17_1).f1), .int .i64 ((rd_T90 l1 x17_1).f2)]) (ok := fun _ => True) (okp := fun _ => True) ?hr ?hp (fun _ hk => hk) trivial (Below.refl _ _) (Nat.le_refl _) (by simp) ?_; (case hd => rfl); (case hg => rfl); (case hr => first | (go_simp; done) | (go_simp; rfl)); (case hp => exact (Reps.c3 (show Kd.M k90 _ _ _ (⟨x12_8, ((rd_T90 l1 x17_1).f1), ((rd_T90 l1 x17_1).f2)⟩ : S90) [.int .i64 x12_8, .int .i64 ((rd_T90 l1 x17_1).f1), .int .i64 ((rd_T90 l1 x17_1).f2)] from (k90_mkM _ _ _ (⟨x12_8, ((rd_T90 l1 x17_1).f1), ((rd_T90 l1 x17_1).f2)⟩ : S90) )) (Reps.none _ _)))
                            intro v206 w40 ho41 hb hg_ hnew_
                            clear hg_ hnew_
                            (first | rw [← Ny205.out] at ho41 | (simp only [Int.reduceToNat] at ho41; rw [← Ny205.out] at ho41))
                            have n0_ := Aside0.mk (Kd.R_elder' (kq HO_8) (Kd.R_base ho41) hb)
                            have n1_ := Aside0.mk (Kd.R_elder' (kq HO204) (Kd.R_base ho41) hb)
                            have n2_ := Aside0.mk (Kd.R_lower (Kd.R_newB (Kd.R_new' (Kd.R_new' ho41 (Kd.R_lt (kq HO_8))) (Kd.R_lt (kq HO204))) (g := gb196) (o := .cells #[.int .i64 ((rd_T90 l1 x17_1).f0), .int .i64 ((rd_T90 l1 x17_1).f1), .int .i64 ((rd_T90 l1 x17_1).f2)] 90 (0, 0)) (bq BK196)) (below_size (eq2 HB GE194 GE196)))
                            have n3_ := Aside0.mk (blk_below (g := gb194) (o := .cells #[.slice A0_0 l0_0.length c0_0, .int .i64 a0_1] 28 (0, 0)) (bq BK194) hb)
                            have n4_ := Aside0.mk (blk_below (g := gb196) (o := .cells #[.int .i64 ((rd_T90 l1 x17_1).f0), .int .i64 ((rd_T90 l1 x17_1).f1), .int .i64 ((rd_T90 l1 x17_1).f2)] 90 (0, 0)) (bq BK196) hb)
                            have n5_ := Aside0.mk (below_step (eq2 HB GE194 GE196) hb)
                            clear HO_8
                            clear HO204
                            clear BK194
                            clear BK196
                            clear HB
                            have HO_8 := n0_
                            have HO204 := n1_
                            have HO207 := n2_
                            have BK194 := n3_
                            have BK196 := n4_
                            have HB := n5_
                            clear n0_ n1_ n2_ n3_ n4_ n5_
                            clear hb ho41
                            refine hK.out _ _ ⟨(blk_cell BK196.out 0).trans rfl, (blk_cell BK196.out 1).trans rfl, (blk_cell BK196.out 2).trans rfl⟩ (fun hHeld => ?_)
                            clear hK K
                            refine norm_ (a' := ?_) ?_ ?_
                            rotate_left
                            · show Act.put _ (some 42) _ = _
                              simp only [Act.put, List.setIfInBounds_toArray, List.set_cons_zero, List.set_cons_succ, i64_w, i32_w]
                              rfl
                            exact norm_ (by simp only [putAll, Act.put, List.setIfInBounds_toArray, List.set_cons_zero, List.set_cons_succ]) (hCont (v200, v203, v206) _ ⟨hHeld, (by (with_reducible repeat (first | apply Kd.R_alloc | apply Kd.R_drewN | apply Kd.R_drew)); exact Kd.R_mono HO204.out (fun _ hk => ⟨hk.2, ⟨hk.1.1, hk.1.2⟩⟩)), (by (with_reducible repeat (first | apply Kd.R_alloc | apply Kd.R_drewN | apply Kd.R_drew)); exact Kd.R_mono HO207.out (fun _ hk => ⟨hk.1.2, ⟨hk.1.1.2, hk.2⟩⟩)), (by (with_reducible repeat (first | apply Kd.R_alloc | apply Kd.R_drewN | apply Kd.R_drew)); exact Kd.R_mono HO_8.out (fun _ hk => ⟨hk.1.2, ⟨hk.2, hk.1.1⟩⟩)), (bq BK194), (bq BK196), (eq2 HB GE194 GE196)⟩)
                          · skip
                            refine Kd.R_lit_step k90 _ 90 ?hg (N := 42) ?hd (xs := ([(⟨x12_8, ((rd_T90 l1 x17_1).f1), ((rd_T90 l1 x17_1).f2)⟩ : S90)] : List (S90))) (inner := [.int .i64 x12_8, .int .i64 ((rd_T90 l1 x17_1).f1), .int .i64 ((rd_T90 l1 x17_1).f2)]) (ok := fun _ => True) (okp := fun _ => True) ?hr ?hp (fun _ hk => hk) trivial (Below.refl _ _) (Nat.le_refl _) (by simp) ?_; (case hd => rfl); (case hg => rfl); (case hr => first | (go_simp; done) | (go_simp; rfl)); (case hp => exact (Reps.c3 (show Kd.M k90 _ _ _ (⟨x12_8, ((rd_T90 l1 x17_1).f1), ((rd_T90 l1 x17_1).f2)⟩ : S90) [.int .i64 x12_8, .int .i64 ((rd_T90 l1 x17_1).f1), .int .i64 ((rd_T90 l1 x17_1).f2)] from (k90_mkM _ _ _ (⟨x12_8, ((rd_T90 l1 x17_1).f1), ((rd_T90 l1 x17_1).f2)⟩ : S90) )) (Reps.none _ _)))
                            intro v206 w39 ho40 hb hg_ hnew_
                            clear hg_ hnew_
                            (first | rw [← Ny205.out] at ho40 | (simp only [Int.reduceToNat] at ho40; rw [← Ny205.out] at ho40))
                            have n0_ := Aside0.mk (Kd.R_elder' (kq HO_8) (Kd.R_base ho40) hb)
                            have n1_ := Aside0.mk (Kd.R_elder' (kq HO201) (Kd.R_base ho40) hb)
                            have n2_ := Aside0.mk (Kd.R_lower (Kd.R_newB (Kd.R_new' (Kd.R_new' ho40 (Kd.R_lt (kq HO_8))) (Kd.R_lt (kq HO201))) (g := gb196) (o := .cells #[.int .i64 ((rd_T90 l1 x17_1).f0), .int .i64 ((rd_T90 l1 x17_1).f1), .int .i64 ((rd_T90 l1 x17_1).f2)] 90 (0, 0)) (bq BK196)) (below_size (eq2 HB GE194 GE196)))
                            have n3_ := Aside0.mk (blk_below (g := gb194) (o := .cells #[.slice A0_0 l0_0.length c0_0, .int .i64 a0_1] 28 (0, 0)) (bq BK194) hb)
                            have n4_ := Aside0.mk (blk_below (g := gb196) (o := .cells #[.int .i64 ((rd_T90 l1 x17_1).f0), .int .i64 ((rd_T90 l1 x17_1).f1), .int .i64 ((rd_T90 l1 x17_1).f2)] 90 (0, 0)) (bq BK196) hb)
                            have n5_ := Aside0.mk (below_step (eq2 HB GE194 GE196) hb)
                            clear HO_8
                            clear HO201
                            clear BK194
                            clear BK196
                            clear HB
                            have HO_8 := n0_
                            have HO201 := n1_
                            have HO207 := n2_
                            have BK194 := n3_
                            have BK196 := n4_
                            have HB := n5_
                            clear n0_ n1_ n2_ n3_ n4_ n5_
                            clear hb ho40
                            refine hK.out _ _ ⟨(blk_cell BK196.out 0).trans rfl, (blk_cell BK196.out 1).trans rfl, (blk_cell BK196.out 2).trans rfl⟩ (fun hHeld => ?_)
                            clear hK K
                            refine norm_ (a' := ?_) ?_ ?_
                            rotate_left
                            · show Act.put _ (some 42) _ = _
                              simp only [Act.put, List.setIfInBounds_toArray, List.set_cons_zero, List.set_cons_succ, i64_w, i32_w]
                              rfl
                            refine one_ (i := 2) (N := some 35) #[true, true, true, true, true, true, true, true, true, true, false, false, false, false, false, false, false] rfl rfl (one_of HT_.out (by kernel_rfl)) (by decide) (fun K hK => ?_)
                            refine Kd.R_append_rows_step k90 (w0 := w) w.heap.size (by rfl) (.tmp 33) (.tmp 34) 35 90 (.agg #[(.int .i64 0), (.int .i64 0), (.int .i64 0)]) 24 rfl Try.underlying35 info90 rfl (by decide) (by omega) v200 y199 x8_1 _ _ _ (fun k_ => some k_ ≠ (.slice Ao35 x8_1.length co35 : Value).ownBlock ∧ some k_ ≠ (v206 : Value).ownBlock ∧ k_ ≠ gb196) (fun _ => False) rfl rfl ?aO ?aR (fun _ _ h => h) (fun _ h => h.elim) ?aF ?aB ?aS ?aL ?_
                            (case aR => repeat (first | exact (Kd.R_reads' HO_8.out).2.2 | (with_reducible refine Kd.C_alloc ?_ _) | (with_reducible refine Kd.C_drewN ?_ _) | (with_reducible refine Kd.C_drew ?_)))
                            (case aB => exact (eq2 HB GE194 GE196))
                            (case aF => exact (fun k_ hk => ⟨Kd.fresh' (Kd.R_lt (kq HO_8)) k_ hk, Kd.fresh' (Kd.R_lt (kq HO207)) k_ hk, Kd.freshB (g := gb196) (o := .cells #[.int .i64 ((rd_T90 l1 x17_1).f0), .int .i64 ((rd_T90 l1 x17_1).f1), .int .i64 ((rd_T90 l1 x17_1).f2)] 90 (0, 0)) (bq BK196) k_ hk⟩))
                            (case aO => exact (by (with_reducible repeat (first | apply Kd.R_alloc | apply Kd.R_drewN | apply Kd.R_drew)); exact Kd.R_mono HO201.out (fun _ hk => ⟨hk.1.1.2, ⟨hk.2, hk.1.2⟩⟩)))
                            (case aS => exact (below_size (eq2 HB GE194 GE196)))
                            (case aL => have := LMc19.out; omega)
                            intro v203 w41 ho hb hg hat
                            rw [← Ny202.out] at ho
                            have n0_ := Aside0.mk (Kd.R_after (ok := (fun k_ => some k_ ≠ (v206 : Value).ownBlock ∧ k_ ≠ gb196)) (by (with_reducible repeat (first | apply Kd.R_alloc | apply Kd.R_drewN | apply Kd.R_drew)); exact Kd.R_mono HO_8.out (fun _ hk => ⟨⟨hk.2, hk.1.1⟩, hk.1.2⟩)) hg hat)
                            have n1_ := Aside0.mk (blk_grown (g := gb194) (o := .cells #[.slice A0_0 l0_0.length c0_0, .int .i64 a0_1] 28 (0, 0)) (bq BK194) hg (Kd.R_ne HO201.out BK194.out (by decide)))
                            have n2_ := Aside0.mk (blk_grown (g := gb196) (o := .cells #[.int .i64 ((rd_T90 l1 x17_1).f0), .int .i64 ((rd_T90 l1 x17_1).f1), .int .i64 ((rd_T90 l1 x17_1).f2)] 90 (0, 0)) (bq BK196) hg (Kd.R_away HO201.out (fun _ hk => hk.1.2)))
                            have n3_ := Aside0.mk (Kd.R_after (ok := (fun k_ => some k_ ≠ (.slice Ao35 x8_1.length co35 : Value).ownBlock ∧ k_ ≠ gb196)) (by (with_reducible repeat (first | apply Kd.R_alloc | apply Kd.R_drewN | apply Kd.R_drew)); exact Kd.R_mono HO207.out (fun _ hk => ⟨⟨hk.1.1.2, hk.2⟩, hk.1.2⟩)) hg hat)
                            have n4_ := Aside0.mk (hb)
                            have n5_ := Aside0.mk (ho)
                            clear HO_8
                            clear BK194
                            clear BK196
                            clear HO207
                            clear HB
                            clear HO201
                            have HO_8 := n0_
                            have BK194 := n1_
                            have BK196 := n2_
                            have HO207 := n3_
                            have HB := n4_
                            have HO204 := n5_
                            clear n0_ n1_ n2_ n3_ n4_ n5_
                            clear ho hb hg hat
                            refine hK.out _ _ ⟨(blk_cell BK196.out 0).trans rfl, (blk_cell BK196.out 1).trans rfl, (blk_cell BK196.out 2).trans rfl⟩ (fun hHeld => ?_)
                            clear hK K
                            refine norm_ (a' := ?_) ?_ ?_
                            rotate_left
                            · show Act.put _ (some 35) _ = _
                              simp only [Act.put, List.setIfInBounds_toArray, List.set_cons_zero, List.set_cons_succ, i64_w, i32_w]
                              rfl
                            exact norm_ (by simp only [putAll, Act.put, List.setIfInBounds_toArray, List.set_cons_zero, List.set_cons_succ]) (hCont (v200, v203, v206) _ ⟨hHeld, (by (with_reducible repeat (first | apply Kd.R_alloc | apply Kd.R_drewN | apply Kd.R_drew)); exact Kd.R_mono HO204.out (fun _ hk => ⟨hk.2.1, ⟨hk.1, hk.2.2⟩⟩)), (by (with_reducible repeat (first | apply Kd.R_alloc | apply Kd.R_drewN | apply Kd.R_drew)); exact Kd.R_mono HO207.out (fun _ hk => ⟨hk.2, ⟨hk.1.1, hk.1.2⟩⟩)), (by (with_reducible repeat (first | apply Kd.R_alloc | apply Kd.R_drewN | apply Kd.R_drew)); exact Kd.R_mono HO_8.out (fun _ hk => ⟨hk.2, ⟨hk.1.1, hk.1.2⟩⟩)), (bq BK194), (bq BK196), (eq2 HB GE194 GE196)⟩)
                        · skip
                          refine Kd.R_lit_step k90 _ 90 ?hg (N := 42) ?hd (xs := ([(⟨x12_8, ((rd_T90 l1 x17_1).f1), ((rd_T90 l1 x17_1).f2)⟩ : S90)] : List (S90))) (inner := [.int .i64 x12_8, .int .i64 ((rd_T90 l1 x17_1).f1), .int .i64 ((rd_T90 l1 x17_1).f2)]) (ok := fun _ => True) (okp := fun _ => True) ?hr ?hp (fun _ hk => hk) trivial (Below.refl _ _) (Nat.le_refl _) (by simp) ?_; (case hd => rfl); (case hg => rfl); (case hr => first | (go_simp; done) | (go_simp; rfl)); (case hp => exact (Reps.c3 (show Kd.M k90 _ _ _ (⟨x12_8, ((rd_T90 l1 x17_1).f1), ((rd_T90 l1 x17_1).f2)⟩ : S90) [.int .i64 x12_8, .int .i64 ((rd_T90 l1 x17_1).f1), .int .i64 ((rd_T90 l1 x17_1).f2)] from (k90_mkM _ _ _ (⟨x12_8, ((rd_T90 l1 x17_1).f1), ((rd_T90 l1 x17_1).f2)⟩ : S90) )) (Reps.none _ _)))
                          intro v206 w37 ho38 hb hg_ hnew_
                          clear hg_ hnew_
                          (first | rw [← Ny205.out] at ho38 | (simp only [Int.reduceToNat] at ho38; rw [← Ny205.out] at ho38))
                          have n0_ := Aside0.mk (Kd.R_elder' (kq HO_8) (Kd.R_base ho38) hb)
                          have n1_ := Aside0.mk (Kd.R_lower (Kd.R_newB (Kd.R_new' ho38 (Kd.R_lt (kq HO_8))) (g := gb196) (o := .cells #[.int .i64 ((rd_T90 l1 x17_1).f0), .int .i64 ((rd_T90 l1 x17_1).f1), .int .i64 ((rd_T90 l1 x17_1).f2)] 90 (0, 0)) (bq BK196)) (below_size (eq2 HB GE194 GE196)))
                          have n2_ := Aside0.mk (blk_below (g := gb194) (o := .cells #[.slice A0_0 l0_0.length c0_0, .int .i64 a0_1] 28 (0, 0)) (bq BK194) hb)
                          have n3_ := Aside0.mk (blk_below (g := gb196) (o := .cells #[.int .i64 ((rd_T90 l1 x17_1).f0), .int .i64 ((rd_T90 l1 x17_1).f1), .int .i64 ((rd_T90 l1 x17_1).f2)] 90 (0, 0)) (bq BK196) hb)
                          have n4_ := Aside0.mk (below_step (eq2 HB GE194 GE196) hb)
                          clear HO_8
                          clear BK194
                          clear BK196
                          clear HB
                          have HO_8 := n0_
                          have HO207 := n1_
                          have BK194 := n2_
                          have BK196 := n3_
                          have HB := n4_
                          clear n0_ n1_ n2_ n3_ n4_
                          clear hb ho38
                          refine hK.out _ _ ⟨(blk_cell BK196.out 0).trans rfl, (blk_cell BK196.out 1).trans rfl, (blk_cell BK196.out 2).trans rfl⟩ (fun hHeld => ?_)
                          clear hK K
                          refine norm_ (a' := ?_) ?_ ?_
                          rotate_left
                          · show Act.put _ (some 42) _ = _
                            simp only [Act.put, List.setIfInBounds_toArray, List.set_cons_zero, List.set_cons_succ, i64_w, i32_w]
                            rfl
                          refine one_ (i := 0) (N := some 33) #[true, true, false, true, true, true, true, true, true, true, false, false, false, false, false, false, false] rfl rfl (one_of HT_.out (by kernel_rfl)) (by decide) (fun K hK => ?_)
                          refine Kd.R_lit_step k90 _ 90 ?hg (N := 33) ?hd (xs := ([] : List (S90))) (inner := []) (ok := fun _ => True) (okp := fun _ => True) ?hr ?hp (fun _ hk => hk) trivial (Below.refl _ _) (Nat.le_refl _) (by simp) ?_; (case hd => rfl); (case hg => rfl); (case hr => first | (go_simp; done) | (go_simp; rfl)); (case hp => exact (Reps.none _ _))
                          intro v200 w39 ho40 hb hg_ hnew_
                          clear hg_ hnew_
                          (first | rw [← Ny199.out] at ho40 | (simp only [Int.reduceToNat] at ho40; rw [← Ny199.out] at ho40))
                          have n0_ := Aside0.mk (Kd.R_elder' (kq HO_8) (Kd.R_base ho40) hb)
                          have n1_ := Aside0.mk (Kd.R_elder' (kq HO207) (Kd.R_base ho40) hb)
                          have n2_ := Aside0.mk (Kd.R_lower (Kd.R_newB (Kd.R_new' (Kd.R_new' ho40 (Kd.R_lt (kq HO_8))) (Kd.R_lt (kq HO207))) (g := gb196) (o := .cells #[.int .i64 ((rd_T90 l1 x17_1).f0), .int .i64 ((rd_T90 l1 x17_1).f1), .int .i64 ((rd_T90 l1 x17_1).f2)] 90 (0, 0)) (bq BK196)) (below_size (eq2 HB GE194 GE196)))
                          have n3_ := Aside0.mk (blk_below (g := gb194) (o := .cells #[.slice A0_0 l0_0.length c0_0, .int .i64 a0_1] 28 (0, 0)) (bq BK194) hb)
                          have n4_ := Aside0.mk (blk_below (g := gb196) (o := .cells #[.int .i64 ((rd_T90 l1 x17_1).f0), .int .i64 ((rd_T90 l1 x17_1).f1), .int .i64 ((rd_T90 l1 x17_1).f2)] 90 (0, 0)) (bq BK196) hb)
                          have n5_ := Aside0.mk (below_step (eq2 HB GE194 GE196) hb)
                          clear HO_8
                          clear HO207
                          clear BK194
                          clear BK196
                          clear HB
                          have HO_8 := n0_
                          have HO207 := n1_
                          have HO201 := n2_
                          have BK194 := n3_
                          have BK196 := n4_
                          have HB := n5_
                          clear n0_ n1_ n2_ n3_ n4_ n5_
                          clear hb ho40
                          refine hK.out _ _ ⟨(blk_cell BK196.out 0).trans rfl, (blk_cell BK196.out 1).trans rfl, (blk_cell BK196.out 2).trans rfl⟩ (fun hHeld => ?_)
                          clear hK K
                          refine norm_ (a' := ?_) ?_ ?_
                          rotate_left
                          · show Act.put _ (some 33) _ = _
                            simp only [Act.put, List.setIfInBounds_toArray, List.set_cons_zero, List.set_cons_succ, i64_w, i32_w]
                            rfl
                          refine one_ (i := 2) (N := some 35) #[true, true, true, true, true, true, true, true, true, true, false, false, false, false, false, false, false] rfl rfl (one_of HT_.out (by kernel_rfl)) (by decide) (fun K hK => ?_)
                          refine Kd.R_append_rows_step k90 (w0 := w) w.heap.size (by rfl) (.tmp 33) (.tmp 34) 35 90 (.agg #[(.int .i64 0), (.int .i64 0), (.int .i64 0)]) 24 rfl Try.underlying35 info90 rfl (by decide) (by omega) v200 y199 x8_1 _ _ _ (fun k_ => some k_ ≠ (.slice Ao35 x8_1.length co35 : Value).ownBlock ∧ some k_ ≠ (v206 : Value).ownBlock ∧ k_ ≠ gb196) (fun _ => False) rfl rfl ?aO ?aR (fun _ _ h => h) (fun _ h => h.elim) ?aF ?aB ?aS ?aL ?_
                          (case aR => repeat (first | exact (Kd.R_reads' HO_8.out).2.2 | (with_reducible refine Kd.C_alloc ?_ _) | (with_reducible refine Kd.C_drewN ?_ _) | (with_reducible refine Kd.C_drew ?_)))
                          (case aB => exact (eq2 HB GE194 GE196))
                          (case aF => exact (fun k_ hk => ⟨Kd.fresh' (Kd.R_lt (kq HO_8)) k_ hk, Kd.fresh' (Kd.R_lt (kq HO207)) k_ hk, Kd.freshB (g := gb196) (o := .cells #[.int .i64 ((rd_T90 l1 x17_1).f0), .int .i64 ((rd_T90 l1 x17_1).f1), .int .i64 ((rd_T90 l1 x17_1).f2)] 90 (0, 0)) (bq BK196) k_ hk⟩))
                          (case aO => exact (by (with_reducible repeat (first | apply Kd.R_alloc | apply Kd.R_drewN | apply Kd.R_drew)); exact Kd.R_mono HO201.out (fun _ hk => ⟨hk.1.1.2, ⟨hk.1.2, hk.2⟩⟩)))
                          (case aS => exact (below_size (eq2 HB GE194 GE196)))
                          (case aL => have := LMc19.out; omega)
                          intro v203 w41 ho hb hg hat
                          rw [← Ny202.out] at ho
                          have n0_ := Aside0.mk (Kd.R_after (ok := (fun k_ => some k_ ≠ (v206 : Value).ownBlock ∧ k_ ≠ gb196)) (by (with_reducible repeat (first | apply Kd.R_alloc | apply Kd.R_drewN | apply Kd.R_drew)); exact Kd.R_mono HO_8.out (fun _ hk => ⟨⟨hk.1.2, hk.1.1⟩, hk.2⟩)) hg hat)
                          have n1_ := Aside0.mk (blk_grown (g := gb194) (o := .cells #[.slice A0_0 l0_0.length c0_0, .int .i64 a0_1] 28 (0, 0)) (bq BK194) hg (Kd.R_ne HO201.out BK194.out (by decide)))
                          have n2_ := Aside0.mk (blk_grown (g := gb196) (o := .cells #[.int .i64 ((rd_T90 l1 x17_1).f0), .int .i64 ((rd_T90 l1 x17_1).f1), .int .i64 ((rd_T90 l1 x17_1).f2)] 90 (0, 0)) (bq BK196) hg (Kd.R_away HO201.out (fun _ hk => hk.2)))
                          have n3_ := Aside0.mk (Kd.R_after (ok := (fun k_ => some k_ ≠ (.slice Ao35 x8_1.length co35 : Value).ownBlock ∧ k_ ≠ gb196)) (by (with_reducible repeat (first | apply Kd.R_alloc | apply Kd.R_drewN | apply Kd.R_drew)); exact Kd.R_mono HO207.out (fun _ hk => ⟨⟨hk.1.1.2, hk.1.2⟩, hk.2⟩)) hg hat)
                          have n4_ := Aside0.mk (hb)
                          have n5_ := Aside0.mk (ho)
                          clear HO_8
                          clear BK194
                          clear BK196
                          clear HO207
                          clear HB
                          clear HO201
                          have HO_8 := n0_
                          have BK194 := n1_
                          have BK196 := n2_
                          have HO207 := n3_
                          have HB := n4_
                          have HO204 := n5_
                          clear n0_ n1_ n2_ n3_ n4_ n5_
                          clear ho hb hg hat
                          refine hK.out _ _ ⟨(blk_cell BK196.out 0).trans rfl, (blk_cell BK196.out 1).trans rfl, (blk_cell BK196.out 2).trans rfl⟩ (fun hHeld => ?_)
                          clear hK K
                          refine norm_ (a' := ?_) ?_ ?_
                          rotate_left
                          · show Act.put _ (some 35) _ = _
                            simp only [Act.put, List.setIfInBounds_toArray, List.set_cons_zero, List.set_cons_succ, i64_w, i32_w]
                            rfl
                          exact norm_ (by simp only [putAll, Act.put, List.setIfInBounds_toArray, List.set_cons_zero, List.set_cons_succ]) (hCont (v200, v203, v206) _ ⟨hHeld, (by (with_reducible repeat (first | apply Kd.R_alloc | apply Kd.R_drewN | apply Kd.R_drew)); exact Kd.R_mono HO204.out (fun _ hk => ⟨hk.2.1, ⟨hk.1, hk.2.2⟩⟩)), (by (with_reducible repeat (first | apply Kd.R_alloc | apply Kd.R_drewN | apply Kd.R_drew)); exact Kd.R_mono HO207.out (fun _ hk => ⟨hk.2, ⟨hk.1.1, hk.1.2⟩⟩)), (by (with_reducible repeat (first | apply Kd.R_alloc | apply Kd.R_drewN | apply Kd.R_drew)); exact Kd.R_mono HO_8.out (fun _ hk => ⟨hk.2, ⟨hk.1.1, hk.1.2⟩⟩)), (bq BK194), (bq BK196), (eq2 HB GE194 GE196)⟩)
                      rintro ⟨v200, v203, v206⟩ w42 ⟨hS_, h0_, h1_, h2_, h3_, h4_, h5_⟩
                      have n0_ : Aside0 (Kd.R k90 90 w42 w.heap.size (fun k_ => some k_ ≠ (v206 : Value).ownBlock ∧ some k_ ≠ (.slice Ao35 x8_1.length co35 : Value).ownBlock ∧ k_ ≠ gb196) v203 y202) := ⟨h0_⟩
                      have n1_ : Aside0 (Kd.R k90 90 w42 w.heap.size (fun k_ => some k_ ≠ (v203 : Value).ownBlock ∧ some k_ ≠ (.slice Ao35 x8_1.length co35 : Value).ownBlock ∧ k_ ≠ gb196) v206 y205) := ⟨h1_⟩
                      have n2_ : Aside0 (Kd.R k90 90 w42 w.heap.size (fun k_ => some k_ ≠ (v203 : Value).ownBlock ∧ some k_ ≠ (v206 : Value).ownBlock ∧ k_ ≠ gb196) (.slice Ao35 x8_1.length co35) x8_1) := ⟨h2_⟩
                      have n3_ : Aside0 (w42.heap[gb194]? = some (.cells #[.slice A0_0 l0_0.length c0_0, .int .i64 a0_1] 28 (0, 0))) := ⟨h3_⟩
                      have n4_ : Aside0 (w42.heap[gb196]? = some (.cells #[.int .i64 ((rd_T90 l1 x17_1).f0), .int .i64 ((rd_T90 l1 x17_1).f1), .int .i64 ((rd_T90 l1 x17_1).f2)] 90 (0, 0))) := ⟨h4_⟩
                      have n5_ : Aside0 (Below w.heap.size w w42) := ⟨h5_⟩
                      clear HO_8
                      clear BK194
                      clear BK196
                      clear HB
                      clear h0_ h1_ h2_ h3_ h4_ h5_
                      have HO204 := n0_
                      have HO207 := n1_
                      have HO_8 := n2_
                      have BK194 := n3_
                      have BK196 := n4_
                      have HB := n5_
                      clear n0_ n1_ n2_ n3_ n4_ n5_
                      have hHeld : w42.cell? ⟨gb196, 0, none⟩ = some (.int .i64 ((rd_T90 l1 x17_1).f0)) ∧ w42.cell? ⟨gb196, 1, none⟩ = some (.int .i64 ((rd_T90 l1 x17_1).f1)) ∧ w42.cell? ⟨gb196, 2, none⟩ = some (.int .i64 ((rd_T90 l1 x17_1).f2)) := hS_
                      obtain ⟨Ao44, co44, eo44⟩ := Kd.R_slice HO207.out
                      (first | subst eo44 | (injection eo44 with f1_ f2_ f3_; have f4_ := f1_.symm; have f5_ := f3_.symm; clear f1_ f2_ f3_; subst f4_; subst f5_))
                      refine norm_ (a' := ?_) ?_ ?_
                      rotate_left
                      · simp only [putAll, Act.put, List.setIfInBounds_toArray, List.set_cons_zero, List.set_cons_succ]
                        rfl
                      refine one_ (i := 10) (N := some 43) #[true, true, true, true, true, true, true, true, true, true, true, false, false, false, false, false, false] rfl rfl (one_of HT_.out (by kernel_rfl)) (by decide) (fun K hK => ?_)
                      refine Kd.R_append_rows_step k90 (w0 := w) w.heap.size (by rfl) (.tmp 35) (.tmp 42) 35 90 (.agg #[(.int .i64 0), (.int .i64 0), (.int .i64 0)]) 24 rfl Try.underlying35 info90 rfl (by decide) (by omega) v203 y202 y205 _ _ _ (fun k_ => some k_ ≠ (.slice Ao35 x8_1.length co35 : Value).ownBlock ∧ some k_ ≠ (.slice Ao44 y205.length co44 : Value).ownBlock ∧ k_ ≠ gb196) (fun _ => False) rfl rfl ?aO ?aR (fun _ _ h => h) (fun _ h => h.elim) ?aF ?aB ?aS ?aL ?_
                      (case aR => repeat (first | exact (Kd.R_reads' HO207.out).2.2 | (with_reducible refine Kd.C_alloc ?_ _) | (with_reducible refine Kd.C_drewN ?_ _) | (with_reducible refine Kd.C_drew ?_)))
                      (case aB => exact (eq2 HB GE194 GE196))
                      (case aF => exact (fun k_ hk => ⟨Kd.fresh' (Kd.R_lt (kq HO_8)) k_ hk, Kd.fresh' (Kd.R_lt (kq HO207)) k_ hk, Kd.freshB (g := gb196) (o := .cells #[.int .i64 ((rd_T90 l1 x17_1).f0), .int .i64 ((rd_T90 l1 x17_1).f1), .int .i64 ((rd_T90 l1 x17_1).f2)] 90 (0, 0)) (bq BK196) k_ hk⟩))
                      (case aO => exact (by (with_reducible repeat (first | apply Kd.R_alloc | apply Kd.R_drewN | apply Kd.R_drew)); exact Kd.R_mono HO204.out (fun _ hk => ⟨hk.2.1, ⟨hk.1, hk.2.2⟩⟩)))
                      (case aS => exact (below_size (eq2 HB GE194 GE196)))
                      (case aL => have := LMc20.out; omega)
                      intro v209 w43 ho hb hg hat
                      rw [← Ny208.out] at ho
                      have n0_ := Aside0.mk (Kd.R_after (ok := (fun k_ => some k_ ≠ (.slice Ao44 y205.length co44 : Value).ownBlock ∧ k_ ≠ gb196)) (by (with_reducible repeat (first | apply Kd.R_alloc | apply Kd.R_drewN | apply Kd.R_drew)); exact Kd.R_mono HO_8.out (fun _ hk => ⟨⟨hk.2.1, hk.2.2⟩, hk.1⟩)) hg hat)
                      have n1_ := Aside0.mk (blk_grown (g := gb194) (o := .cells #[.slice A0_0 l0_0.length c0_0, .int .i64 a0_1] 28 (0, 0)) (bq BK194) hg (Kd.R_ne HO204.out BK194.out (by decide)))
                      have n2_ := Aside0.mk (blk_grown (g := gb196) (o := .cells #[.int .i64 ((rd_T90 l1 x17_1).f0), .int .i64 ((rd_T90 l1 x17_1).f1), .int .i64 ((rd_T90 l1 x17_1).f2)] 90 (0, 0)) (bq BK196) hg (Kd.R_away HO204.out (fun _ hk => hk.2.2)))
                      have n3_ := Aside0.mk (Kd.R_after (ok := (fun k_ => some k_ ≠ (.slice Ao35 x8_1.length co35 : Value).ownBlock ∧ k_ ≠ gb196)) (by (with_reducible repeat (first | apply Kd.R_alloc | apply Kd.R_drewN | apply Kd.R_drew)); exact Kd.R_mono HO207.out (fun _ hk => ⟨⟨hk.2.1, hk.2.2⟩, hk.1⟩)) hg hat)
                      have n4_ := Aside0.mk (hb)
                      have n5_ := Aside0.mk (ho)
                      clear HO_8
                      clear BK194
                      clear BK196
                      clear HO207
                      clear HB
                      clear HO204
                      have HO_8 := n0_
                      have BK194 := n1_
                      have BK196 := n2_
                      have HO207 := n3_
                      have HB := n4_
                      have HO210 := n5_
                      clear n0_ n1_ n2_ n3_ n4_ n5_
                      clear ho hb hg hat
                      obtain ⟨Ao45, co45, eo45⟩ := Kd.R_slice HO210.out
                      (first | subst eo45 | (injection eo45 with f1_ f2_ f3_; have f4_ := f1_.symm; have f5_ := f3_.symm; clear f1_ f2_ f3_; subst f4_; subst f5_))
                      refine hK.out _ _ ⟨(blk_cell BK196.out 0).trans rfl, (blk_cell BK196.out 1).trans rfl, (blk_cell BK196.out 2).trans rfl⟩ (fun hHeld => ?_)
                      clear hK K
                      refine norm_ (a' := ?_) ?_ ?_
                      rotate_left
                      · show Act.put _ (some 43) _ = _
                        simp only [Act.put, List.setIfInBounds_toArray, List.set_cons_zero, List.set_cons_succ, i64_w, i32_w]
                        rfl
                      refine one_ (i := 11) (N := some 44) #[true, true, true, true, true, true, true, true, true, true, true, true, false, false, false, false, false] rfl rfl (one_of HT_.out (by kernel_rfl)) (by decide) (fun K hK => ?_)
                      refine goes_ Try.func139 (by kernel_rfl) rfl #[.slice Ao45 y208.length co45] (by rfl) rfl rfl (by (try simp only [List.map_toArray, List.map_cons, List.map_nil]); first | done | rfl | (simp only [List.length_drop, List.length_take]; rfl)) ?_
                      with_reducible refine (spec_ntSorted.calls kj8 _ _ y208 t211 false _ ?side1 ?side2 A21.out).mono ?_
                      (case side1 => repeat (first | exact (Kd.R_reads' HO210.out).2.2 | (with_reducible refine Kd.C_alloc ?_ _) | (with_reducible refine Kd.C_drewN ?_ _) | (with_reducible refine Kd.C_drew ?_)))
                      (case side2 => exact (Kd.R_reads' HO210.out).2.1)
                      rintro e w46 ⟨v213, rfl, ho0, hb⟩
                      refine ⟨_, rfl, ?_⟩
                      have n0_ := Aside0.mk (Kd.R_elder' (kq HO_8) (Kd.R_base ho0) hb)
                      have n1_ := Aside0.mk (Kd.R_elder' (kq HO207) (Kd.R_base ho0) hb)
                      have n2_ := Aside0.mk (Kd.R_elder' (kq HO210) (Kd.R_base ho0) hb)
                      have n3_ := Aside0.mk (Kd.R_lower (Kd.R_newB (Kd.R_new' (Kd.R_new' (Kd.R_new' ho0 (Kd.R_lt (kq HO_8))) (Kd.R_lt (kq HO207))) (Kd.R_lt (kq HO210))) (g := gb196) (o := .cells #[.int .i64 ((rd_T90 l1 x17_1).f0), .int .i64 ((rd_T90 l1 x17_1).f1), .int .i64 ((rd_T90 l1 x17_1).f2)] 90 (0, 0)) (bq BK196)) (below_size (eq2 HB GE194 GE196)))
                      have n4_ := Aside0.mk (blk_below (g := gb194) (o := .cells #[.slice A0_0 l0_0.length c0_0, .int .i64 a0_1] 28 (0, 0)) (bq BK194) hb)
                      have n5_ := Aside0.mk (blk_below (g := gb196) (o := .cells #[.int .i64 ((rd_T90 l1 x17_1).f0), .int .i64 ((rd_T90 l1 x17_1).f1), .int .i64 ((rd_T90 l1 x17_1).f2)] 90 (0, 0)) (bq BK196) hb)
                      have n6_ := Aside0.mk (below_step (eq2 HB GE194 GE196) hb)
                      clear HO_8
                      clear HO207
                      clear HO210
                      clear BK194
                      clear BK196
                      clear HB
                      have HO_8 := n0_
                      have HO207 := n1_
                      have HO210 := n2_
                      have HO214 := n3_
                      have BK194 := n4_
                      have BK196 := n5_
                      have HB := n6_
                      clear n0_ n1_ n2_ n3_ n4_ n5_ n6_
                      (try clear hb)
                      (try clear hb2)
                      (try clear hk)
                      (try clear hi)
                      (try clear ho0)
                      refine hK.out _ _ ⟨(blk_cell BK196.out 0).trans rfl, (blk_cell BK196.out 1).trans rfl, (blk_cell BK196.out 2).trans rfl⟩ (fun hHeld => ?_)
                      clear hK K
                      refine norm_ (a' := ?_) ?_ ?_
                      rotate_left
                      · show Act.put _ (some 44) _ = _
                        simp only [Act.put, List.setIfInBounds_toArray, List.set_cons_zero, List.set_cons_succ, i64_w, i32_w]
                        rfl
                      refine pure_ (i := 12) (N := some 32) (v := ?_) (a' := ?_) #[true, true, true, true, true, true, true, true, true, true, true, true, true, false, false, false, false] rfl rfl (any_of HT_.out (by kernel_rfl)) (fun _ _ _ h => h) (Or.inl ⟨by rfl, ?_⟩) ?_ ?_
                      rotate_left
                      · intro w'
                        go_simp
                        with_reducible rfl
                      rotate_left
                      · simp only [Act.put, List.setIfInBounds_toArray, List.set_cons_zero, List.set_cons_succ, i64_w, i32_w]
                        rfl
                      refine pure_ (i := 13) (N := some 45) (v := ?_) (a' := ?_) #[true, true, true, true, true, true, true, true, true, true, true, true, true, true, false, false, false] rfl rfl (any_of HT_.out (by kernel_rfl)) (fun _ _ _ h => h) (Or.inl ⟨by rfl, ?_⟩) ?_ ?_
                      rotate_left
                      · intro w'
                        go_simp
                        with_reducible rfl
                      rotate_left
                      · simp only [Act.put, List.setIfInBounds_toArray, List.set_cons_zero, List.set_cons_succ, i64_w, i32_w]
                        rfl
                      refine pure_ (i := 14) (N := some 46) (v := ?_) (a' := ?_) #[true, true, true, true, true, true, true, true, true, true, true, true, true, true, true, false, false] rfl rfl (any_of HT_.out (by kernel_rfl)) (fun _ _ _ h => h) (Or.inl ⟨by rfl, ?_⟩) ?_ ?_
                      rotate_left
                      · intro w'
                        go_simp
                        with_reducible rfl
                      rotate_left
                      · simp only [Act.put, List.setIfInBounds_toArray, List.set_cons_zero, List.set_cons_succ, i64_w, i32_w]
                        rfl
                      refine pure_ (i := 15) (N := some 13) (v := ?_) (a' := ?_) #[true, true, true, true, true, true, true, true, true, true, true, true, true, true, true, true, false] rfl rfl (any_of HT_.out (by kernel_rfl)) (fun _ _ _ h => h) (Or.inl ⟨by rfl, ?_⟩) ?_ ?_
                      rotate_left
                      · intro w'
                        go_simp
                        with_reducible rfl
                      rotate_left
                      · simp only [Act.put, List.setIfInBounds_toArray, List.set_cons_zero, List.set_cons_succ, i64_w, i32_w]
                        rfl
                      refine pure_ (i := 16) (N := some 14) (v := ?_) (a' := ?_) #[true, true, true, true, true, true, true, true, true, true, true, true, true, true, true, true, true] rfl rfl (any_of HT_.out (by kernel_rfl)) (fun _ _ _ h => h) (Or.inl ⟨by rfl, ?_⟩) ?_ ?_
                      rotate_left
                      · intro w'
                        go_simp
                        with_reducible rfl
                      rotate_left
                      · simp only [Act.put, List.setIfInBounds_toArray, List.set_cons_zero, List.set_cons_succ, i64_w, i32_w]
                        rfl
                      refine done_ (done_of HT_.out (by kernel_rfl)) ?_
                      try go_wp2
                      go_roundg kj8
                      case measure => have := HK1.out; have := HJ8.out; omega
                      case rel => exact ⟨(x8_1), (wrap64 (x9_1 + 1)), (wrap64 (x17_1 + 1)), (by first | rfl | (simp; done) | (simp [*]; done)), (by first | rfl | (simp; done) | (simp [*]; done)), H', ⟨by have := HK1.out; have := HJ8.out; omega⟩, ⟨by (with_reducible repeat (first | apply Kd.R_alloc | apply Kd.R_drewN | apply Kd.R_drew)); exact Kd.R_mono HO_8.out (fun _ hk => trivial)⟩, ⟨bq BK194⟩, ⟨eq2 HB GE194 GE196⟩⟩
                  · rw [if_neg c20] at H
                    exact absurd H (by simp)
                · rw [if_neg c19] at H
                  exact absurd H (by simp)
          · rw [if_neg c7] at H
            exact absurd H (by simp)
        · rw [if_neg c6] at H
          exact absurd H (by simp)
      · rw [if_neg c5] at H
        have c5b0 : decide (x17_1 < (l1.length : Int)) = false := decide_eq_false c5
        clear c5
        simp only [Option.some.injEq, Prod.mk.injEq] at H
        obtain ⟨rfl, rfl⟩ := H
        go_wp2
        go_ret2
        exact ⟨_, by first | rfl | (simp [errW_none, errW_some] <;> rfl) | (simp [*, errW_none, errW_some] <;> rfl), kq HO_8, eq1 HB GE194⟩

end Go.Proofs.Ytgooeiibhhbboaa.F
