/- Written by a program of this session over the print of the loaded functions: what each Go function computes, and that the call comes to it. -/
import Derived.Test.YtgooeiibhhbboaaFRC
import Derived.Test.YtgooeiibhhbboaaF0
import Derived.Test.YtgooeiibhhbboaaF1
import Derived.Test.YtgooeiibhhbboaaF2
import Derived.Test.YtgooeiibhhbboaaF9
import Derived.Test.YtgooeiibhhbboaaF13
namespace Go.Proofs.Ytgooeiibhhbboaa.F
open Go.RowKit Go.Proofs.YtgooeiibhhbboaaW.PrintWords Go.Proofs.YtgooeiibhhbboaaW.PrintLast Go.Proofs.YtgooeiibhhbboaaW.PrintMore
attribute [local go_sem] max2_int min2_int max_two min_two max_three min_three max_four min_four   -- for this text's walks alone
set_option linter.unusedVariables false
set_option linter.unusedSimpArgs false

/-! ### laws_FnExactFoldScore: function 11 -/
mutual
def laws_FnExactFoldScore.j0 : Nat → List (S92) → List (S90) → Int → Bool → List (S90) → List (S90) → Int → Bool → Bool → List Int → Int → List Int → Int → Option (Bool)
  | 0, _, _, _, _, _, _, _, _, _, _, _, _, _ => none
  | k + 1, x1, x6, x7, x8, x10, x11, x12, x13, x63, x260000, x260001, x279000, x279001 => if x63 = true then (some false) else ((laws_toInstrument.f k x260000 x260001).bind fun bt288 => ((laws_eqInstrument.f k x279000 x279001 bt288.1 bt288.2).bind fun t292 => (if t292 = true then ((laws_toNoteS.f k x1).bind fun t293 => ((laws_eqNoteS.f k x10 t293).bind fun t296 => (if t296 = true then ((laws_markInstrument.f k x279000 x279001 1).bind fun bt297 => ((laws_markNoteS.f k x10 bt297.1).bind fun bt299 => (if bt299.1 < 0 then (laws_FnExactFoldScore.j1 k x1 x6 x7 x8 x11 true x260000 x260001) else ((laws_eqNoteS.f k x11 x6).bind fun t301 => (if t301 = true then (if x12 = x7 then (laws_FnExactFoldScore.j1 k x1 x6 x7 x8 x11 (x13 != x8) x260000 x260001) else (laws_FnExactFoldScore.j1 k x1 x6 x7 x8 x11 true x260000 x260001)) else (laws_FnExactFoldScore.j1 k x1 x6 x7 x8 x11 true x260000 x260001)))))) else (some false)))) else (some false))))
def laws_FnExactFoldScore.j1 : Nat → List (S92) → List (S90) → Int → Bool → List (S90) → Bool → List Int → Int → Option (Bool)
  | 0, _, _, _, _, _, _, _, _ => none
  | k + 1, x1, x6, x7, x8, x11, x97, x260000, x260001 => if x97 = true then (some false) else ((laws_markNoteS.f k x11 1).bind fun bt302 => ((laws_heldNoteS.f k bt302.2 1).bind fun t304 => (if t304 < 0 then (some false) else (if t304 = bt302.1 then ((laws_toInstrument.f k x260000 x260001).bind fun bt305 => ((laws_toNoteS.f k x1).bind fun t309 => ((impl_FoldScore.f k bt305.1 bt305.2 t309).bind fun bt312 => ((laws_eqNoteS.f k bt312.1 x6).bind fun t317 => (if t317 = true then (if bt312.2.1 = x7 then (laws_FnExactFoldScore.j2 k bt302.2 bt302.1 (bt312.2.2 != x8)) else (laws_FnExactFoldScore.j2 k bt302.2 bt302.1 true)) else (laws_FnExactFoldScore.j2 k bt302.2 bt302.1 true)))))) else (some false)))))
def laws_FnExactFoldScore.j2 : Nat → List (S90) → Int → Bool → Option (Bool)
  | 0, _, _, _ => none
  | k + 1, x11, x15, x131 => if x131 = true then (some false) else ((laws_heldNoteS.f k x11 1).bind fun t318 => (if t318 < 0 then (some false) else (if t318 = x15 then (some true) else (some false))))
end
def laws_FnExactFoldScore.f (k : Nat) (l0_0 : List Int) (a0_1 : Int) (l1 : List (S92)) : Option (Bool) := (laws_szInstrument.f l0_0 a0_1 1048576).bind fun t260 => (if t260 < 0 then (some true) else ((laws_szNoteS.f l1 t260).bind fun t261 => (if t261 < 0 then (some true) else ((laws_toInstrument.f k l0_0 a0_1).bind fun bt262 => ((laws_toNoteS.f k l1).bind fun t266 => ((spec_FoldScore.f k bt262.1 bt262.2 t266).bind fun bt269 => ((laws_toInstrument.f k l0_0 a0_1).bind fun bt274 => ((laws_toNoteS.f k l1).bind fun t279 => ((impl_FoldScore.f k bt274.1 bt274.2 t279).bind fun bt282 => ((laws_eqNoteS.f k bt282.1 bt269.1).bind fun t287 => (if t287 = true then (if bt282.2.1 = bt269.2.1 then (laws_FnExactFoldScore.j0 k l1 bt269.1 bt269.2.1 bt269.2.2 t279 bt282.1 bt282.2.1 bt282.2.2 (bt282.2.2 != bt269.2.2) l0_0 a0_1 bt274.1 bt274.2) else (laws_FnExactFoldScore.j0 k l1 bt269.1 bt269.2.1 bt269.2.2 t279 bt282.1 bt282.2.1 bt282.2.2 true l0_0 a0_1 bt274.1 bt274.2)) else (laws_FnExactFoldScore.j0 k l1 bt269.1 bt269.2.1 bt269.2.2 t279 bt282.1 bt282.2.1 bt282.2.2 true l0_0 a0_1 bt274.1 bt274.2))))))))))))
theorem laws_FnExactFoldScore.mono_l : ∀ k, (∀ y0 y1 y2 y3 y4 y5 y6 y7 y8 y9 y10 y11 y12, LeO (laws_FnExactFoldScore.j0 k y0 y1 y2 y3 y4 y5 y6 y7 y8 y9 y10 y11 y12) (laws_FnExactFoldScore.j0 (k + 1) y0 y1 y2 y3 y4 y5 y6 y7 y8 y9 y10 y11 y12)) ∧ (∀ y0 y1 y2 y3 y4 y5 y6 y7, LeO (laws_FnExactFoldScore.j1 k y0 y1 y2 y3 y4 y5 y6 y7) (laws_FnExactFoldScore.j1 (k + 1) y0 y1 y2 y3 y4 y5 y6 y7)) ∧ (∀ y0 y1 y2, LeO (laws_FnExactFoldScore.j2 k y0 y1 y2) (laws_FnExactFoldScore.j2 (k + 1) y0 y1 y2))
  | 0 => ⟨fun _ _ _ _ _ _ _ _ _ _ _ _ _ r h => by simp [laws_FnExactFoldScore.j0] at h, fun _ _ _ _ _ _ _ _ r h => by simp [laws_FnExactFoldScore.j1] at h, fun _ _ _ r h => by simp [laws_FnExactFoldScore.j2] at h⟩
  | k + 1 => by
    obtain ⟨ih0, ih1, ih2⟩ := laws_FnExactFoldScore.mono_l k
    refine ⟨?_, ?_, ?_⟩
    · intro y0 y1 y2 y3 y4 y5 y6 y7 y8 y9 y10 y11 y12
      unfold laws_FnExactFoldScore.j0
      repeat' first
      | (with_reducible exact ih0 _ _ _ _ _ _ _ _ _ _ _ _ _)
      | (with_reducible exact ih1 _ _ _ _ _ _ _ _)
      | (with_reducible exact ih2 _ _ _)
      | (with_reducible exact impl_FoldScore.mono _ _ _ _)
      | (with_reducible exact laws_eqInstrument.mono _ _ _ _ _)
      | (with_reducible exact laws_eqNoteS.mono _ _ _)
      | (with_reducible exact laws_heldNoteS.mono _ _ _)
      | (with_reducible exact laws_markInstrument.mono _ _ _ _)
      | (with_reducible exact laws_markNoteS.mono _ _ _)
      | (with_reducible exact laws_toInstrument.mono _ _ _)
      | (with_reducible exact laws_toNoteS.mono _ _)
      | (with_reducible exact spec_FoldScore.mono _ _ _ _)
      | (with_reducible exact LeO.refl _)
      | (with_reducible exact LeO.none _)
      | (with_reducible refine LeO.ite ?_ ?_)
      | (with_reducible refine LeO.bind ?_ (fun _ => ?_))
      | exact ih0 _ _ _ _ _ _ _ _ _ _ _ _ _
      | exact ih1 _ _ _ _ _ _ _ _
      | exact ih2 _ _ _
      | exact impl_FoldScore.mono _ _ _ _
      | exact laws_eqInstrument.mono _ _ _ _ _
      | exact laws_eqNoteS.mono _ _ _
      | exact laws_heldNoteS.mono _ _ _
      | exact laws_markInstrument.mono _ _ _ _
      | exact laws_markNoteS.mono _ _ _
      | exact laws_toInstrument.mono _ _ _
      | exact laws_toNoteS.mono _ _
      | exact spec_FoldScore.mono _ _ _ _
      | exact LeO.none _
      | refine LeO.ite ?_ ?_
      | refine LeO.bind ?_ (fun _ => ?_)
    · intro y0 y1 y2 y3 y4 y5 y6 y7
      unfold laws_FnExactFoldScore.j1
      repeat' first
      | (with_reducible exact ih0 _ _ _ _ _ _ _ _ _ _ _ _ _)
      | (with_reducible exact ih1 _ _ _ _ _ _ _ _)
      | (with_reducible exact ih2 _ _ _)
      | (with_reducible exact impl_FoldScore.mono _ _ _ _)
      | (with_reducible exact laws_eqInstrument.mono _ _ _ _ _)
      | (with_reducible exact laws_eqNoteS.mono _ _ _)
      | (with_reducible exact laws_heldNoteS.mono _ _ _)
      | (with_reducible exact laws_markInstrument.mono _ _ _ _)
      | (with_reducible exact laws_markNoteS.mono _ _ _)
      | (with_reducible exact laws_toInstrument.mono _ _ _)
      | (with_reducible exact laws_toNoteS.mono _ _)
      | (with_reducible exact spec_FoldScore.mono _ _ _ _)
      | (with_reducible exact LeO.refl _)
      | (with_reducible exact LeO.none _)
      | (with_reducible refine LeO.ite ?_ ?_)
      | (with_reducible refine LeO.bind ?_ (fun _ => ?_))
      | exact ih0 _ _ _ _ _ _ _ _ _ _ _ _ _
      | exact ih1 _ _ _ _ _ _ _ _
      | exact ih2 _ _ _
      | exact impl_FoldScore.mono _ _ _ _
      | exact laws_eqInstrument.mono _ _ _ _ _
      | exact laws_eqNoteS.mono _ _ _
      | exact laws_heldNoteS.mono _ _ _
      | exact laws_markInstrument.mono _ _ _ _
      | exact laws_markNoteS.mono _ _ _
      | exact laws_toInstrument.mono _ _ _
      | exact laws_toNoteS.mono _ _
      | exact spec_FoldScore.mono _ _ _ _
      | exact LeO.none _
      | refine LeO.ite ?_ ?_
      | refine LeO.bind ?_ (fun _ => ?_)
    · intro y0 y1 y2
      unfold laws_FnExactFoldScore.j2
      repeat' first
      | (with_reducible exact ih0 _ _ _ _ _ _ _ _ _ _ _ _ _)
      | (with_reducible exact ih1 _ _ _ _ _ _ _ _)
      | (with_reducible exact ih2 _ _ _)
      | (with_reducible exact impl_FoldScore.mono _ _ _ _)
      | (with_reducible exact laws_eqInstrument.mono _ _ _ _ _)
      | (with_reducible exact laws_eqNoteS.mono _ _ _)
      | (with_reducible exact laws_heldNoteS.mono _ _ _)
      | (with_reducible exact laws_markInstrument.mono _ _ _ _)
      | (with_reducible exact laws_markNoteS.mono _ _ _)
      | (with_reducible exact laws_toInstrument.mono _ _ _)
      | (with_reducible exact laws_toNoteS.mono _ _)
      | (with_reducible exact spec_FoldScore.mono _ _ _ _)
      | (with_reducible exact LeO.refl _)
      | (with_reducible exact LeO.none _)
      | (with_reducible refine LeO.ite ?_ ?_)
      | (with_reducible refine LeO.bind ?_ (fun _ => ?_))
      | exact ih0 _ _ _ _ _ _ _ _ _ _ _ _ _
      | exact ih1 _ _ _ _ _ _ _ _
      | exact ih2 _ _ _
      | exact impl_FoldScore.mono _ _ _ _
      | exact laws_eqInstrument.mono _ _ _ _ _
      | exact laws_eqNoteS.mono _ _ _
      | exact laws_heldNoteS.mono _ _ _
      | exact laws_markInstrument.mono _ _ _ _
      | exact laws_markNoteS.mono _ _ _
      | exact laws_toInstrument.mono _ _ _
      | exact laws_toNoteS.mono _ _
      | exact spec_FoldScore.mono _ _ _ _
      | exact LeO.none _
      | refine LeO.ite ?_ ?_
      | refine LeO.bind ?_ (fun _ => ?_)
theorem laws_FnExactFoldScore.mono : ∀ a0 a1 a2 k, LeO (laws_FnExactFoldScore.f k a0 a1 a2) (laws_FnExactFoldScore.f (k + 1) a0 a1 a2) := by
  intro a0 a1 a2 k
  obtain ⟨ih0, ih1, ih2⟩ := laws_FnExactFoldScore.mono_l k
  unfold laws_FnExactFoldScore.f
  repeat' first
      | (with_reducible exact ih0 _ _ _ _ _ _ _ _ _ _ _ _ _)
      | (with_reducible exact ih1 _ _ _ _ _ _ _ _)
      | (with_reducible exact ih2 _ _ _)
      | (with_reducible exact impl_FoldScore.mono _ _ _ _)
      | (with_reducible exact laws_eqInstrument.mono _ _ _ _ _)
      | (with_reducible exact laws_eqNoteS.mono _ _ _)
      | (with_reducible exact laws_heldNoteS.mono _ _ _)
      | (with_reducible exact laws_markInstrument.mono _ _ _ _)
      | (with_reducible exact laws_markNoteS.mono _ _ _)
      | (with_reducible exact laws_toInstrument.mono _ _ _)
      | (with_reducible exact laws_toNoteS.mono _ _)
      | (with_reducible exact spec_FoldScore.mono _ _ _ _)
      | (with_reducible exact LeO.refl _)
      | (with_reducible exact LeO.none _)
      | (with_reducible refine LeO.ite ?_ ?_)
      | (with_reducible refine LeO.bind ?_ (fun _ => ?_))
      | exact ih0 _ _ _ _ _ _ _ _ _ _ _ _ _
      | exact ih1 _ _ _ _ _ _ _ _
      | exact ih2 _ _ _
      | exact impl_FoldScore.mono _ _ _ _
      | exact laws_eqInstrument.mono _ _ _ _ _
      | exact laws_eqNoteS.mono _ _ _
      | exact laws_heldNoteS.mono _ _ _
      | exact laws_markInstrument.mono _ _ _ _
      | exact laws_markNoteS.mono _ _ _
      | exact laws_toInstrument.mono _ _ _
      | exact laws_toNoteS.mono _ _
      | exact spec_FoldScore.mono _ _ _ _
      | exact LeO.none _
      | refine LeO.ite ?_ ?_
      | refine LeO.bind ?_ (fun _ => ?_)
set_option maxHeartbeats 8000000 in
set_option maxRecDepth 100000 in
theorem laws_FnExactFoldScore.calls (k : Nat) (A0_0 : Option Addr) (c0_0 : Nat) (l0_0 : List Int) (a0_1 : Int) (A1 : Option Addr) (c1 : Nat) (l1 : List (S92)) (r : Bool) (w : World) (hr0_0 : Kd.C (Kd.int .i64) w A0_0 l0_0.length l0_0) (hc0_0 : l0_0.length ≤ c0_0) (hr1 : Kd.C k92 w A1 l1.length l1) (hc1 : l1.length ≤ c1) (h : laws_FnExactFoldScore.f k l0_0 a0_1 l1 = some r) :
    Calls Try.prog 11 #[.agg #[.slice A0_0 l0_0.length c0_0, .int .i64 a0_1], .slice A1 l1.length c1] w fun e w' => e = .returned (.bool r) ∧ Below w.heap.size w w' := by
  have hu24 := Try.underlying24
  have hu28 := Try.underlying28
  have HR0_0 := Aside0.mk hr0_0
  have HC0_0 := Aside0.mk hc0_0
  clear hr0_0 hc0_0
  have HR1 := Aside0.mk hr1
  have HC1 := Aside0.mk hc1
  clear hr1 hc1
  have HB := Aside0.mk (Below.refl w.heap.size w)
  have H : ((laws_szInstrument.f l0_0 a0_1 1048576).bind fun t260 => (if t260 < 0 then (some true) else ((laws_szNoteS.f l1 t260).bind fun t261 => (if t261 < 0 then (some true) else ((laws_toInstrument.f k l0_0 a0_1).bind fun bt262 => ((laws_toNoteS.f k l1).bind fun t266 => ((spec_FoldScore.f k bt262.1 bt262.2 t266).bind fun bt269 => ((laws_toInstrument.f k l0_0 a0_1).bind fun bt274 => ((laws_toNoteS.f k l1).bind fun t279 => ((impl_FoldScore.f k bt274.1 bt274.2 t279).bind fun bt282 => ((laws_eqNoteS.f k bt282.1 bt269.1).bind fun t287 => (if t287 = true then (if bt282.2.1 = bt269.2.1 then (laws_FnExactFoldScore.j0 k l1 bt269.1 bt269.2.1 bt269.2.2 t279 bt282.1 bt282.2.1 bt282.2.2 (bt282.2.2 != bt269.2.2) l0_0 a0_1 bt274.1 bt274.2) else (laws_FnExactFoldScore.j0 k l1 bt269.1 bt269.2.1 bt269.2.2 t279 bt282.1 bt282.2.1 bt282.2.2 true l0_0 a0_1 bt274.1 bt274.2)) else (laws_FnExactFoldScore.j0 k l1 bt269.1 bt269.2.1 bt269.2.2 t279 bt282.1 bt282.2.1 bt282.2.2 true l0_0 a0_1 bt274.1 bt274.2))))))))))))) = some r := h
  clear h
  replace H := Option.bind_eq_some_iff.mp H
  obtain ⟨t260, A30, H⟩ := H
  replace H : (if t260 < 0 then (some true) else ((laws_szNoteS.f l1 t260).bind fun t261 => (if t261 < 0 then (some true) else ((laws_toInstrument.f k l0_0 a0_1).bind fun bt262 => ((laws_toNoteS.f k l1).bind fun t266 => ((spec_FoldScore.f k bt262.1 bt262.2 t266).bind fun bt269 => ((laws_toInstrument.f k l0_0 a0_1).bind fun bt274 => ((laws_toNoteS.f k l1).bind fun t279 => ((impl_FoldScore.f k bt274.1 bt274.2 t279).bind fun bt282 => ((laws_eqNoteS.f k bt282.1 bt269.1).bind fun t287 => (if t287 = true then (if bt282.2.1 = bt269.2.1 then (laws_FnExactFoldScore.j0 k l1 bt269.1 bt269.2.1 bt269.2.2 t279 bt282.1 bt282.2.1 bt282.2.2 (bt282.2.2 != bt269.2.2) l0_0 a0_1 bt274.1 bt274.2) else (laws_FnExactFoldScore.j0 k l1 bt269.1 bt269.2.1 bt269.2.2 t279 bt282.1 bt282.2.1 bt282.2.2 true l0_0 a0_1 bt274.1 bt274.2)) else (laws_FnExactFoldScore.j0 k l1 bt269.1 bt269.2.1 bt269.2.2 t279 bt282.1 bt282.2.1 bt282.2.2 true l0_0 a0_1 bt274.1 bt274.2)))))))))))) = some r := H
  have A3 := Aside0.mk A30
  clear A30
  by_cases c4 : t260 < 0
  · rw [if_pos c4] at H
    have c4b0 : decide (t260 < 0) = true := decide_eq_true c4
    clear c4
    obtain rfl := Option.some.inj H
    go_enter Try.func11, Try.ntmps11
    go_wp2_with (first | ((with_reducible refine gate_dst (N := 2) rfl ?_); refine box_event ?hg (N := 2) ?hd (cs := #[.slice A0_0 l0_0.length c0_0, .int .i64 a0_1]) (t := 24) ?hr ?_; (case hd => rfl); (case hg => rfl); (case hr => first | (go_simp; done) | (go_simp; rfl)); intro gb259 hg w5 hbox hb; have n0_ := Aside0.mk (below_step (eq0 HB) hb); have n1_ := Aside0.mk (hbox); have n2_ := Aside0.mk ((by rw [hg]; exact (below_size (eq0 HB)) : w.heap.size ≤ gb259)); have n3_ := Aside0.mk ((by rw [hg]; exact (below_size (eq0 HB)) : w.heap.size ≤ gb259)); clear HB; have HB := n0_; have BK259 := n1_; have GW259 := n2_; have GE259 := n3_; clear n0_ n1_ n2_ n3_; clear hb hbox hg; have hcz6_0 : w5.cell? ⟨gb259, 0, none⟩ = some (.slice A0_0 l0_0.length c0_0) := (blk_cell BK259.out 0).trans rfl; have hcz6_1 : w5.cell? ⟨gb259, 1, none⟩ = some (.int .i64 a0_1) := (blk_cell BK259.out 1).trans rfl; have hfz6_0 := blk_frozen BK259.out 0; have hfz6_1 := blk_frozen BK259.out 1) | ((with_reducible refine gate_callee (f := 14) rfl ?_); refine goesL_ (some 22) rfl rfl Try.func14 (by kernel_rfl) rfl #[.agg #[.slice A0_0 l0_0.length c0_0, .int .i64 a0_1], .int .i64 1048576] rfl (by (try simp only [List.map_toArray, List.map_cons, List.map_nil]); first | done | rfl | (simp only [List.length_drop, List.length_take]; rfl)) ?_; (with_reducible refine (laws_szInstrument.calls _ _ l0_0 a0_1 1048576 t260 _ ?side1 ?side2 A3.out).mono ?_); (case side1 => repeat (first | exact (Kd.C_below HR0_0.out HB.out) | (with_reducible refine Kd.C_alloc ?_ _) | (with_reducible refine Kd.C_drewN ?_ _) | (with_reducible refine Kd.C_drew ?_))); (case side2 => exact HC0_0.out); rintro e w7 ⟨rfl, hb⟩; refine ⟨_, rfl, ?_⟩; have n0_ := Aside0.mk (blk_below (g := gb259) (o := .cells #[.slice A0_0 l0_0.length c0_0, .int .i64 a0_1] 24 (0, 0)) (bq BK259) hb); have n1_ := Aside0.mk (below_step (eq1 HB GE259) hb); clear BK259; clear HB; have BK259 := n0_; have HB := n1_; clear n0_ n1_; (try clear hb); (try clear hb2); (try clear hk); (try clear hi)))
    go_ret
    exact ⟨by first | rfl | (simp [errW_none, errW_some] <;> rfl) | (simp [*, errW_none, errW_some] <;> rfl), eq1 HB GE259⟩
  · rw [if_neg c4] at H
    have c4b0 : decide (t260 < 0) = false := decide_eq_false c4
    clear c4
    replace H := Option.bind_eq_some_iff.mp H
    obtain ⟨t261, A80, H⟩ := H
    replace H : (if t261 < 0 then (some true) else ((laws_toInstrument.f k l0_0 a0_1).bind fun bt262 => ((laws_toNoteS.f k l1).bind fun t266 => ((spec_FoldScore.f k bt262.1 bt262.2 t266).bind fun bt269 => ((laws_toInstrument.f k l0_0 a0_1).bind fun bt274 => ((laws_toNoteS.f k l1).bind fun t279 => ((impl_FoldScore.f k bt274.1 bt274.2 t279).bind fun bt282 => ((laws_eqNoteS.f k bt282.1 bt269.1).bind fun t287 => (if t287 = true then (if bt282.2.1 = bt269.2.1 then (laws_FnExactFoldScore.j0 k l1 bt269.1 bt269.2.1 bt269.2.2 t279 bt282.1 bt282.2.1 bt282.2.2 (bt282.2.2 != bt269.2.2) l0_0 a0_1 bt274.1 bt274.2) else (laws_FnExactFoldScore.j0 k l1 bt269.1 bt269.2.1 bt269.2.2 t279 bt282.1 bt282.2.1 bt282.2.2 true l0_0 a0_1 bt274.1 bt274.2)) else (laws_FnExactFoldScore.j0 k l1 bt269.1 bt269.2.1 bt269.2.2 t279 bt282.1 bt282.2.1 bt282.2.2 true l0_0 a0_1 bt274.1 bt274.2)))))))))) = some r := H
    have A8 := Aside0.mk A80
    clear A80
    by_cases c9 : t261 < 0
    · rw [if_pos c9] at H
      have c9b0 : decide (t261 < 0) = true := decide_eq_true c9
      clear c9
      obtain rfl := Option.some.inj H
      go_enter Try.func11, Try.ntmps11
      go_wp2_with (first | ((with_reducible refine gate_dst (N := 2) rfl ?_); refine box_event ?hg (N := 2) ?hd (cs := #[.slice A0_0 l0_0.length c0_0, .int .i64 a0_1]) (t := 24) ?hr ?_; (case hd => rfl); (case hg => rfl); (case hr => first | (go_simp; done) | (go_simp; rfl)); intro gb259 hg w10 hbox hb; have n0_ := Aside0.mk (below_step (eq0 HB) hb); have n1_ := Aside0.mk (hbox); have n2_ := Aside0.mk ((by rw [hg]; exact (below_size (eq0 HB)) : w.heap.size ≤ gb259)); have n3_ := Aside0.mk ((by rw [hg]; exact (below_size (eq0 HB)) : w.heap.size ≤ gb259)); clear HB; have HB := n0_; have BK259 := n1_; have GW259 := n2_; have GE259 := n3_; clear n0_ n1_ n2_ n3_; clear hb hbox hg; have hcz11_0 : w10.cell? ⟨gb259, 0, none⟩ = some (.slice A0_0 l0_0.length c0_0) := (blk_cell BK259.out 0).trans rfl; have hcz11_1 : w10.cell? ⟨gb259, 1, none⟩ = some (.int .i64 a0_1) := (blk_cell BK259.out 1).trans rfl; have hfz11_0 := blk_frozen BK259.out 0; have hfz11_1 := blk_frozen BK259.out 1) | ((with_reducible refine gate_callee (f := 14) rfl ?_); refine goesL_ (some 22) rfl rfl Try.func14 (by kernel_rfl) rfl #[.agg #[.slice A0_0 l0_0.length c0_0, .int .i64 a0_1], .int .i64 1048576] rfl (by (try simp only [List.map_toArray, List.map_cons, List.map_nil]); first | done | rfl | (simp only [List.length_drop, List.length_take]; rfl)) ?_; (with_reducible refine (laws_szInstrument.calls _ _ l0_0 a0_1 1048576 t260 _ ?side1 ?side2 A3.out).mono ?_); (case side1 => repeat (first | exact (Kd.C_below HR0_0.out HB.out) | (with_reducible refine Kd.C_alloc ?_ _) | (with_reducible refine Kd.C_drewN ?_ _) | (with_reducible refine Kd.C_drew ?_))); (case side2 => exact HC0_0.out); rintro e w12 ⟨rfl, hb⟩; refine ⟨_, rfl, ?_⟩; have n0_ := Aside0.mk (blk_below (g := gb259) (o := .cells #[.slice A0_0 l0_0.length c0_0, .int .i64 a0_1] 24 (0, 0)) (bq BK259) hb); have n1_ := Aside0.mk (below_step (eq1 HB GE259) hb); clear BK259; clear HB; have BK259 := n0_; have HB := n1_; clear n0_ n1_; (try clear hb); (try clear hb2); (try clear hk); (try clear hi)) | ((with_reducible refine gate_callee (f := 21) rfl ?_); refine goesL_ (some 27) rfl rfl Try.func21 (by kernel_rfl) rfl #[.slice A1 l1.length c1, .int .i64 t260] rfl (by (try simp only [List.map_toArray, List.map_cons, List.map_nil]); first | done | rfl | (simp only [List.length_drop, List.length_take]; rfl)) ?_; (with_reducible refine (laws_szNoteS.calls _ _ l1 t260 t261 _ ?side1 ?side2 A8.out).mono ?_); (case side1 => repeat (first | exact (Kd.C_below HR1.out HB.out) | (with_reducible refine Kd.C_alloc ?_ _) | (with_reducible refine Kd.C_drewN ?_ _) | (with_reducible refine Kd.C_drew ?_))); (case side2 => exact HC1.out); rintro e w' ⟨rfl, ⟨nd, rfl⟩⟩; refine ⟨_, rfl, ?_⟩))
      go_ret
      exact ⟨by first | rfl | (simp [errW_none, errW_some] <;> rfl) | (simp [*, errW_none, errW_some] <;> rfl), eq1 HB GE259⟩
    · rw [if_neg c9] at H
      have c9b0 : decide (t261 < 0) = false := decide_eq_false c9
      clear c9
      replace H := Option.bind_eq_some_iff.mp H
      obtain ⟨⟨t262, t265⟩, A130, H⟩ := H
      replace H : ((laws_toNoteS.f k l1).bind fun t266 => ((spec_FoldScore.f k t262 t265 t266).bind fun bt269 => ((laws_toInstrument.f k l0_0 a0_1).bind fun bt274 => ((laws_toNoteS.f k l1).bind fun t279 => ((impl_FoldScore.f k bt274.1 bt274.2 t279).bind fun bt282 => ((laws_eqNoteS.f k bt282.1 bt269.1).bind fun t287 => (if t287 = true then (if bt282.2.1 = bt269.2.1 then (laws_FnExactFoldScore.j0 k l1 bt269.1 bt269.2.1 bt269.2.2 t279 bt282.1 bt282.2.1 bt282.2.2 (bt282.2.2 != bt269.2.2) l0_0 a0_1 bt274.1 bt274.2) else (laws_FnExactFoldScore.j0 k l1 bt269.1 bt269.2.1 bt269.2.2 t279 bt282.1 bt282.2.1 bt282.2.2 true l0_0 a0_1 bt274.1 bt274.2)) else (laws_FnExactFoldScore.j0 k l1 bt269.1 bt269.2.1 bt269.2.2 t279 bt282.1 bt282.2.1 bt282.2.2 true l0_0 a0_1 bt274.1 bt274.2)))))))) = some r := H
      have A13 := Aside0.mk A130
      clear A130
      replace H := Option.bind_eq_some_iff.mp H
      obtain ⟨t266, A140, H⟩ := H
      replace H : ((spec_FoldScore.f k t262 t265 t266).bind fun bt269 => ((laws_toInstrument.f k l0_0 a0_1).bind fun bt274 => ((laws_toNoteS.f k l1).bind fun t279 => ((impl_FoldScore.f k bt274.1 bt274.2 t279).bind fun bt282 => ((laws_eqNoteS.f k bt282.1 bt269.1).bind fun t287 => (if t287 = true then (if bt282.2.1 = bt269.2.1 then (laws_FnExactFoldScore.j0 k l1 bt269.1 bt269.2.1 bt269.2.2 t279 bt282.1 bt282.2.1 bt282.2.2 (bt282.2.2 != bt269.2.2) l0_0 a0_1 bt274.1 bt274.2) else (laws_FnExactFoldScore.j0 k l1 bt269.1 bt269.2.1 bt269.2.2 t279 bt282.1 bt282.2.1 bt282.2.2 true l0_0 a0_1 bt274.1 bt274.2)) else (laws_FnExactFoldScore.j0 k l1 bt269.1 bt269.2.1 bt269.2.2 t279 bt282.1 bt282.2.1 bt282.2.2 true l0_0 a0_1 bt274.1 bt274.2))))))) = some r := H
      have A14 := Aside0.mk A140
      clear A140
      replace H := Option.bind_eq_some_iff.mp H
      obtain ⟨⟨t269, t272, t273⟩, A150, H⟩ := H
      replace H : ((laws_toInstrument.f k l0_0 a0_1).bind fun bt274 => ((laws_toNoteS.f k l1).bind fun t279 => ((impl_FoldScore.f k bt274.1 bt274.2 t279).bind fun bt282 => ((laws_eqNoteS.f k bt282.1 t269).bind fun t287 => (if t287 = true then (if bt282.2.1 = t272 then (laws_FnExactFoldScore.j0 k l1 t269 t272 t273 t279 bt282.1 bt282.2.1 bt282.2.2 (bt282.2.2 != t273) l0_0 a0_1 bt274.1 bt274.2) else (laws_FnExactFoldScore.j0 k l1 t269 t272 t273 t279 bt282.1 bt282.2.1 bt282.2.2 true l0_0 a0_1 bt274.1 bt274.2)) else (laws_FnExactFoldScore.j0 k l1 t269 t272 t273 t279 bt282.1 bt282.2.1 bt282.2.2 true l0_0 a0_1 bt274.1 bt274.2)))))) = some r := H
      have A15 := Aside0.mk A150
      clear A150
      replace H := Option.bind_eq_some_iff.mp H
      obtain ⟨⟨t274, t277⟩, A160, H⟩ := H
      replace H : ((laws_toNoteS.f k l1).bind fun t279 => ((impl_FoldScore.f k t274 t277 t279).bind fun bt282 => ((laws_eqNoteS.f k bt282.1 t269).bind fun t287 => (if t287 = true then (if bt282.2.1 = t272 then (laws_FnExactFoldScore.j0 k l1 t269 t272 t273 t279 bt282.1 bt282.2.1 bt282.2.2 (bt282.2.2 != t273) l0_0 a0_1 t274 t277) else (laws_FnExactFoldScore.j0 k l1 t269 t272 t273 t279 bt282.1 bt282.2.1 bt282.2.2 true l0_0 a0_1 t274 t277)) else (laws_FnExactFoldScore.j0 k l1 t269 t272 t273 t279 bt282.1 bt282.2.1 bt282.2.2 true l0_0 a0_1 t274 t277))))) = some r := H
      have A16 := Aside0.mk A160
      clear A160
      replace H := Option.bind_eq_some_iff.mp H
      obtain ⟨t279, A170, H⟩ := H
      replace H : ((impl_FoldScore.f k t274 t277 t279).bind fun bt282 => ((laws_eqNoteS.f k bt282.1 t269).bind fun t287 => (if t287 = true then (if bt282.2.1 = t272 then (laws_FnExactFoldScore.j0 k l1 t269 t272 t273 t279 bt282.1 bt282.2.1 bt282.2.2 (bt282.2.2 != t273) l0_0 a0_1 t274 t277) else (laws_FnExactFoldScore.j0 k l1 t269 t272 t273 t279 bt282.1 bt282.2.1 bt282.2.2 true l0_0 a0_1 t274 t277)) else (laws_FnExactFoldScore.j0 k l1 t269 t272 t273 t279 bt282.1 bt282.2.1 bt282.2.2 true l0_0 a0_1 t274 t277)))) = some r := H
      have A17 := Aside0.mk A170
      clear A170
      replace H := Option.bind_eq_some_iff.mp H
      obtain ⟨⟨t282, t285, t286⟩, A180, H⟩ := H
      replace H : ((laws_eqNoteS.f k t282 t269).bind fun t287 => (if t287 = true then (if t285 = t272 then (laws_FnExactFoldScore.j0 k l1 t269 t272 t273 t279 t282 t285 t286 (t286 != t273) l0_0 a0_1 t274 t277) else (laws_FnExactFoldScore.j0 k l1 t269 t272 t273 t279 t282 t285 t286 true l0_0 a0_1 t274 t277)) else (laws_FnExactFoldScore.j0 k l1 t269 t272 t273 t279 t282 t285 t286 true l0_0 a0_1 t274 t277))) = some r := H
      have A18 := Aside0.mk A180
      clear A180
      have HC19 := Aside0.mk H
      clear H
      go_enter Try.func11, Try.ntmps11
      go_upto_region 12 with (first | ((with_reducible refine gate_dst (N := 2) rfl ?_); refine box_event ?hg (N := 2) ?hd (cs := #[.slice A0_0 l0_0.length c0_0, .int .i64 a0_1]) (t := 24) ?hr ?_; (case hd => rfl); (case hg => rfl); (case hr => first | (go_simp; done) | (go_simp; rfl)); intro gb259 hg w20 hbox hb; have n0_ := Aside0.mk (below_step (eq0 HB) hb); have n1_ := Aside0.mk (hbox); have n2_ := Aside0.mk ((by rw [hg]; exact (below_size (eq0 HB)) : w.heap.size ≤ gb259)); have n3_ := Aside0.mk ((by rw [hg]; exact (below_size (eq0 HB)) : w.heap.size ≤ gb259)); clear HB; have HB := n0_; have BK259 := n1_; have GW259 := n2_; have GE259 := n3_; clear n0_ n1_ n2_ n3_; clear hb hbox hg; have hcz21_0 : w20.cell? ⟨gb259, 0, none⟩ = some (.slice A0_0 l0_0.length c0_0) := (blk_cell BK259.out 0).trans rfl; have hcz21_1 : w20.cell? ⟨gb259, 1, none⟩ = some (.int .i64 a0_1) := (blk_cell BK259.out 1).trans rfl; have hfz21_0 := blk_frozen BK259.out 0; have hfz21_1 := blk_frozen BK259.out 1) | ((with_reducible refine gate_callee (f := 14) rfl ?_); refine goesL_ (some 22) rfl rfl Try.func14 (by kernel_rfl) rfl #[.agg #[.slice A0_0 l0_0.length c0_0, .int .i64 a0_1], .int .i64 1048576] rfl (by (try simp only [List.map_toArray, List.map_cons, List.map_nil]); first | done | rfl | (simp only [List.length_drop, List.length_take]; rfl)) ?_; (with_reducible refine (laws_szInstrument.calls _ _ l0_0 a0_1 1048576 t260 _ ?side1 ?side2 A3.out).mono ?_); (case side1 => repeat (first | exact (Kd.C_below HR0_0.out HB.out) | (with_reducible refine Kd.C_alloc ?_ _) | (with_reducible refine Kd.C_drewN ?_ _) | (with_reducible refine Kd.C_drew ?_))); (case side2 => exact HC0_0.out); rintro e w22 ⟨rfl, hb⟩; refine ⟨_, rfl, ?_⟩; have n0_ := Aside0.mk (blk_below (g := gb259) (o := .cells #[.slice A0_0 l0_0.length c0_0, .int .i64 a0_1] 24 (0, 0)) (bq BK259) hb); have n1_ := Aside0.mk (below_step (eq1 HB GE259) hb); clear BK259; clear HB; have BK259 := n0_; have HB := n1_; clear n0_ n1_; (try clear hb); (try clear hb2); (try clear hk); (try clear hi)) | ((with_reducible refine gate_callee (f := 21) rfl ?_); refine goesL_ (some 27) rfl rfl Try.func21 (by kernel_rfl) rfl #[.slice A1 l1.length c1, .int .i64 t260] rfl (by (try simp only [List.map_toArray, List.map_cons, List.map_nil]); first | done | rfl | (simp only [List.length_drop, List.length_take]; rfl)) ?_; (with_reducible refine (laws_szNoteS.calls _ _ l1 t260 t261 _ ?side1 ?side2 A8.out).mono ?_); (case side1 => repeat (first | exact (Kd.C_below HR1.out HB.out) | (with_reducible refine Kd.C_alloc ?_ _) | (with_reducible refine Kd.C_drewN ?_ _) | (with_reducible refine Kd.C_drew ?_))); (case side2 => exact HC1.out); rintro e w' ⟨rfl, ⟨nd, rfl⟩⟩; refine ⟨_, rfl, ?_⟩; (try (rw [drewN_self w22]; generalize hq_ : World.drewN w22 _ = w22; have n0_ : Aside0 (w22.heap[gb259]? = some (.cells #[.slice A0_0 l0_0.length c0_0, .int .i64 a0_1] 24 (0, 0))) := ⟨by rw [← hq_]; exact (bq BK259)⟩; have n1_ : Aside0 (Below w.heap.size w w22) := ⟨by rw [← hq_]; exact (eq1 HB GE259)⟩; clear BK259 HB hq_; have BK259 := n0_; have HB := n1_; clear n0_ n1_)); have hcz23_0 : w22.cell? ⟨gb259, 0, none⟩ = some (.slice A0_0 l0_0.length c0_0) := (blk_cell BK259.out 0).trans rfl; have hcz23_1 : w22.cell? ⟨gb259, 1, none⟩ = some (.int .i64 a0_1) := (blk_cell BK259.out 1).trans rfl; have hfz23_0 := blk_frozen BK259.out 0; have hfz23_1 := blk_frozen BK259.out 1) | ((with_reducible refine gate_callee (f := 16) rfl ?_); refine goesL_ (some 32) rfl rfl Try.func16 (by kernel_rfl) rfl #[.agg #[.slice A0_0 l0_0.length c0_0, .int .i64 a0_1]] rfl (by (try simp only [List.map_toArray, List.map_cons, List.map_nil]); first | done | rfl | (simp only [List.length_drop, List.length_take]; rfl)) ?_; (with_reducible refine (laws_toInstrument.calls k _ _ l0_0 a0_1 t262 t265 _ ?side1 ?side2 A13.out).mono ?_); (case side1 => repeat (first | exact (Kd.C_below HR0_0.out HB.out) | (with_reducible refine Kd.C_alloc ?_ _) | (with_reducible refine Kd.C_drewN ?_ _) | (with_reducible refine Kd.C_drew ?_))); (case side2 => exact HC0_0.out); rintro e w24 ⟨v263, rfl, ho0, hb⟩; refine ⟨_, rfl, ?_⟩; have n0_ := Aside0.mk (Kd.R_lower ho0 (below_size (eq1 HB GE259))); have n1_ := Aside0.mk (blk_below (g := gb259) (o := .cells #[.slice A0_0 l0_0.length c0_0, .int .i64 a0_1] 24 (0, 0)) (bq BK259) hb); have n2_ := Aside0.mk (below_step (eq1 HB GE259) hb); clear BK259; clear HB; have HO264 := n0_; have BK259 := n1_; have HB := n2_; clear n0_ n1_ n2_; (try clear hb); (try clear hb2); (try clear hk); (try clear hi); (try clear ho0)) | ((with_reducible refine gate_callee (f := 23) rfl ?_); refine goesL_ (some 34) rfl rfl Try.func23 (by kernel_rfl) rfl #[.slice A1 l1.length c1] rfl (by (try simp only [List.map_toArray, List.map_cons, List.map_nil]); first | done | rfl | (simp only [List.length_drop, List.length_take]; rfl)) ?_; (with_reducible refine (laws_toNoteS.calls k _ _ l1 t266 _ ?side1 ?side2 A14.out).mono ?_); (case side1 => repeat (first | exact (Kd.C_below HR1.out HB.out) | (with_reducible refine Kd.C_alloc ?_ _) | (with_reducible refine Kd.C_drewN ?_ _) | (with_reducible refine Kd.C_drew ?_))); (case side2 => exact HC1.out); rintro e w25 ⟨v267, rfl, ho0, hb⟩; refine ⟨_, rfl, ?_⟩; have n0_ := Aside0.mk (Kd.R_below (kq HO264) hb); have n1_ := Aside0.mk (Kd.R_lower ho0 (below_size (eq1 HB GE259))); have n2_ := Aside0.mk (blk_below (g := gb259) (o := .cells #[.slice A0_0 l0_0.length c0_0, .int .i64 a0_1] 24 (0, 0)) (bq BK259) hb); have n3_ := Aside0.mk (below_step (eq1 HB GE259) hb); clear HO264; clear BK259; clear HB; have HO264 := n0_; have HO268 := n1_; have BK259 := n2_; have HB := n3_; clear n0_ n1_ n2_ n3_; (try clear hb); (try clear hb2); (try clear hk); (try clear hi); (try clear ho0); obtain ⟨Ao26, co26, eo26⟩ := Kd.R_slice HO264.out; subst eo26; obtain ⟨Ao27, co27, eo27⟩ := Kd.R_slice HO268.out; subst eo27) | ((with_reducible refine gate_callee (f := 41) rfl ?_); refine goesL_ (some 35) rfl rfl Try.func41 (by kernel_rfl) rfl #[.agg #[.slice Ao26 t262.length co26, .int .i64 t265], .slice Ao27 t266.length co27] rfl (by (try simp only [List.map_toArray, List.map_cons, List.map_nil]); first | done | rfl | (simp only [List.length_drop, List.length_take]; rfl)) ?_; (with_reducible refine (spec_FoldScore.calls k _ _ t262 t265 _ _ t266 t269 t272 t273 _ ?side1 ?side2 ?side3 ?side4 A15.out).mono ?_); (case side1 => repeat (first | exact (Kd.R_reads' HO264.out).2.2 | (with_reducible refine Kd.C_alloc ?_ _) | (with_reducible refine Kd.C_drewN ?_ _) | (with_reducible refine Kd.C_drew ?_))); (case side2 => exact (Kd.R_reads' HO264.out).2.1); (case side3 => repeat (first | exact (Kd.R_reads' HO268.out).2.2 | (with_reducible refine Kd.C_alloc ?_ _) | (with_reducible refine Kd.C_drewN ?_ _) | (with_reducible refine Kd.C_drew ?_))); (case side4 => exact (Kd.R_reads' HO268.out).2.1); rintro e w28 ⟨v270, rfl, ho0, hb⟩; refine ⟨_, rfl, ?_⟩; have n0_ := Aside0.mk (Kd.R_below (kq HO264) hb); have n1_ := Aside0.mk (Kd.R_elder' (kq HO268) (Kd.R_base ho0) hb); have n2_ := Aside0.mk (Kd.R_lower (Kd.R_new' ho0 (Kd.R_lt (kq HO268))) (below_size (eq1 HB GE259))); have n3_ := Aside0.mk (blk_below (g := gb259) (o := .cells #[.slice A0_0 l0_0.length c0_0, .int .i64 a0_1] 24 (0, 0)) (bq BK259) hb); have n4_ := Aside0.mk (below_step (eq1 HB GE259) hb); clear HO264; clear HO268; clear BK259; clear HB; have HO264 := n0_; have HO268 := n1_; have HO271 := n2_; have BK259 := n3_; have HB := n4_; clear n0_ n1_ n2_ n3_ n4_; (try clear hb); (try clear hb2); (try clear hk); (try clear hi); (try clear ho0); have hcz29_0 : w28.cell? ⟨gb259, 0, none⟩ = some (.slice A0_0 l0_0.length c0_0) := (blk_cell BK259.out 0).trans rfl; have hcz29_1 : w28.cell? ⟨gb259, 1, none⟩ = some (.int .i64 a0_1) := (blk_cell BK259.out 1).trans rfl; have hfz29_0 := blk_frozen BK259.out 0; have hfz29_1 := blk_frozen BK259.out 1) | ((with_reducible refine gate_callee (f := 16) rfl ?_); refine goesL_ (some 40) rfl rfl Try.func16 (by kernel_rfl) rfl #[.agg #[.slice A0_0 l0_0.length c0_0, .int .i64 a0_1]] rfl (by (try simp only [List.map_toArray, List.map_cons, List.map_nil]); first | done | rfl | (simp only [List.length_drop, List.length_take]; rfl)) ?_; (with_reducible refine (laws_toInstrument.calls k _ _ l0_0 a0_1 t274 t277 _ ?side1 ?side2 A16.out).mono ?_); (case side1 => repeat (first | exact (Kd.C_below HR0_0.out HB.out) | (with_reducible refine Kd.C_alloc ?_ _) | (with_reducible refine Kd.C_drewN ?_ _) | (with_reducible refine Kd.C_drew ?_))); (case side2 => exact HC0_0.out); rintro e w30 ⟨v275, rfl, ho0, hb⟩; refine ⟨_, rfl, ?_⟩; have n0_ := Aside0.mk (Kd.R_elder' (kq HO264) (Kd.R_base ho0) hb); have n1_ := Aside0.mk (Kd.R_below (kq HO268) hb); have n2_ := Aside0.mk (Kd.R_below (kq HO271) hb); have n3_ := Aside0.mk (Kd.R_lower (Kd.R_new' ho0 (Kd.R_lt (kq HO264))) (below_size (eq1 HB GE259))); have n4_ := Aside0.mk (blk_below (g := gb259) (o := .cells #[.slice A0_0 l0_0.length c0_0, .int .i64 a0_1] 24 (0, 0)) (bq BK259) hb); have n5_ := Aside0.mk (below_step (eq1 HB GE259) hb); clear HO264; clear HO268; clear HO271; clear BK259; clear HB; have HO264 := n0_; have HO268 := n1_; have HO271 := n2_; have HO276 := n3_; have BK259 := n4_; have HB := n5_; clear n0_ n1_ n2_ n3_ n4_ n5_; (try clear hb); (try clear hb2); (try clear hk); (try clear hi); (try clear ho0)) | ((with_reducible refine gate_dst (N := 9) rfl ?_); refine box_event ?hg (N := 9) ?hd (cs := #[.slice none 0 0, .int .i64 0]) (t := 28) ?hr ?_; (case hd => rfl); (case hg => rfl); (case hr => first | (go_simp; done) | (go_simp; rfl)); intro gb278 hg w31 hbox hb; have n0_ := Aside0.mk (Kd.R_below (kq HO264) hb); have n1_ := Aside0.mk (Kd.R_below (kq HO268) hb); have n2_ := Aside0.mk (Kd.R_below (kq HO271) hb); have n3_ := Aside0.mk (Kd.R_below (kq HO276) hb); have n4_ := Aside0.mk (blk_below (g := gb259) (o := .cells #[.slice A0_0 l0_0.length c0_0, .int .i64 a0_1] 24 (0, 0)) (bq BK259) hb); have n5_ := Aside0.mk (below_step (eq1 HB GE259) hb); have n6_ := Aside0.mk (hbox); have n7_ := Aside0.mk ((by rw [hg]; exact (below_size (eq1 HB GE259)) : w.heap.size ≤ gb278)); have n8_ := Aside0.mk ((by rw [hg]; exact (below_size (eq1 HB GE259)) : w.heap.size ≤ gb278)); have n9_ := Aside0.mk ((by rw [hg]; exact Nat.ne_of_lt (blk_lt (g := gb259) (o := .cells #[.slice A0_0 l0_0.length c0_0, .int .i64 a0_1] 24 (0, 0)) (bq BK259)) : gb259 ≠ gb278)); have n10_ := Aside0.mk ((by rw [hg]; exact Nat.ne_of_gt (blk_lt (g := gb259) (o := .cells #[.slice A0_0 l0_0.length c0_0, .int .i64 a0_1] 24 (0, 0)) (bq BK259)) : gb278 ≠ gb259)); clear HO264; clear HO268; clear HO271; clear HO276; clear BK259; clear HB; have HO264 := n0_; have HO268 := n1_; have HO271 := n2_; have HO276 := n3_; have BK259 := n4_; have HB := n5_; have BK278 := n6_; have GW278 := n7_; have GE278 := n8_; have NB259_278 := n9_; have NB278_259 := n10_; clear n0_ n1_ n2_ n3_ n4_ n5_ n6_ n7_ n8_ n9_ n10_; clear hb hbox hg; obtain ⟨Ao32, co32, eo32⟩ := Kd.R_slice HO276.out; subst eo32; have hnb33 := NB278_259.out; have hnc33 := NB259_278.out; have hcz34_0 : w31.cell? ⟨gb278, 0, none⟩ = some (.slice none 0 0) := (blk_cell BK278.out 0).trans rfl; have hcz34_1 : w31.cell? ⟨gb278, 1, none⟩ = some (.int .i64 0) := (blk_cell BK278.out 1).trans rfl; have hfz34_0 := blk_frozen BK278.out 0; have hfz34_1 := blk_frozen BK278.out 1) | ((with_reducible refine gate_callee (f := 23) rfl ?_); refine goesL_ (some 42) rfl rfl Try.func23 (by kernel_rfl) rfl #[.slice A1 l1.length c1] rfl (by (try simp only [List.map_toArray, List.map_cons, List.map_nil]); first | done | rfl | (simp only [List.length_drop, List.length_take]; rfl)) ?_; (with_reducible refine (laws_toNoteS.calls k _ _ l1 t279 _ ?side1 ?side2 A17.out).mono ?_); (case side1 => exact Kd.C_below HR1.out (eq2 HB GE259 GE278)); (case side2 => exact HC1.out); rintro e w35 ⟨v280, rfl, ho0, hb⟩; refine ⟨_, rfl, ?_⟩; have n0_ := Aside0.mk (Kd.R_below (by (with_reducible repeat (first | apply Kd.R_alloc | apply Kd.R_drewN | apply Kd.R_drew)); exact (Kd.R_mono (Kd.R_far (p := ⟨gb278, 1, none⟩) (Kd.R_far (p := ⟨gb278, 0, none⟩) (Kd.R_types HO264.out BK278.out (by decide)) (fun _ hk => hk.2) (.slice Ao32 t274.length co32)) (fun _ hk => hk.2) (.int .i64 t277)) (fun _ h_ => h_.1))) hb); have n1_ := Aside0.mk (Kd.R_elder' (by (with_reducible repeat (first | apply Kd.R_alloc | apply Kd.R_drewN | apply Kd.R_drew)); exact (Kd.R_mono (Kd.R_far (p := ⟨gb278, 1, none⟩) (Kd.R_far (p := ⟨gb278, 0, none⟩) (Kd.R_types HO268.out BK278.out (by decide)) (fun _ hk => hk.2) (.slice Ao32 t274.length co32)) (fun _ hk => hk.2) (.int .i64 t277)) (fun _ h_ => h_.1))) (Kd.R_base ho0) hb); have n2_ := Aside0.mk (Kd.R_elder' (by (with_reducible repeat (first | apply Kd.R_alloc | apply Kd.R_drewN | apply Kd.R_drew)); exact (Kd.R_mono (Kd.R_far (p := ⟨gb278, 1, none⟩) (Kd.R_far (p := ⟨gb278, 0, none⟩) (Kd.R_types HO271.out BK278.out (by decide)) (fun _ hk => hk.2) (.slice Ao32 t274.length co32)) (fun _ hk => hk.2) (.int .i64 t277)) (fun _ h_ => h_.1))) (Kd.R_base ho0) hb); have n3_ := Aside0.mk (Kd.R_below (by (with_reducible repeat (first | apply Kd.R_alloc | apply Kd.R_drewN | apply Kd.R_drew)); exact (Kd.R_mono (Kd.R_far (p := ⟨gb278, 1, none⟩) (Kd.R_far (p := ⟨gb278, 0, none⟩) (Kd.R_types HO276.out BK278.out (by decide)) (fun _ hk => hk.2) (.slice Ao32 t274.length co32)) (fun _ hk => hk.2) (.int .i64 t277)) (fun _ h_ => h_.1))) hb); have n4_ := Aside0.mk (Kd.R_lower (Kd.R_new' (Kd.R_new' ho0 (Kd.R_lt (by (with_reducible repeat (first | apply Kd.R_alloc | apply Kd.R_drewN | apply Kd.R_drew)); exact (Kd.R_mono (Kd.R_far (p := ⟨gb278, 1, none⟩) (Kd.R_far (p := ⟨gb278, 0, none⟩) (Kd.R_types HO268.out BK278.out (by decide)) (fun _ hk => hk.2) (.slice Ao32 t274.length co32)) (fun _ hk => hk.2) (.int .i64 t277)) (fun _ h_ => h_.1))))) (Kd.R_lt (by (with_reducible repeat (first | apply Kd.R_alloc | apply Kd.R_drewN | apply Kd.R_drew)); exact (Kd.R_mono (Kd.R_far (p := ⟨gb278, 1, none⟩) (Kd.R_far (p := ⟨gb278, 0, none⟩) (Kd.R_types HO271.out BK278.out (by decide)) (fun _ hk => hk.2) (.slice Ao32 t274.length co32)) (fun _ hk => hk.2) (.int .i64 t277)) (fun _ h_ => h_.1))))) (below_size (eq2 HB GE259 GE278))); have n5_ := Aside0.mk (blk_below (g := gb259) (o := .cells #[.slice A0_0 l0_0.length c0_0, .int .i64 a0_1] 24 (0, 0)) (by (with_reducible repeat (first | refine blk_drewN ?_ _ | refine blk_drew ?_ | refine blk_alloc ?_ _)); refine blk_far ?_ NB259_278.out _; (with_reducible repeat (first | refine blk_drewN ?_ _ | refine blk_drew ?_ | refine blk_alloc ?_ _)); refine blk_far ?_ NB259_278.out _; (with_reducible repeat (first | refine blk_drewN ?_ _ | refine blk_drew ?_ | refine blk_alloc ?_ _)); exact BK259.out) hb); have n6_ := Aside0.mk (blk_below (g := gb278) (o := .cells #[.slice Ao32 t274.length co32, .int .i64 t277] 28 (0, 0)) (by (with_reducible repeat (first | refine blk_drewN ?_ _ | refine blk_drew ?_ | refine blk_alloc ?_ _)); refine blk_put (cs := #[.slice Ao32 t274.length co32, .int .i64 0]) ?_ 1 _ rfl; (with_reducible repeat (first | refine blk_drewN ?_ _ | refine blk_drew ?_ | refine blk_alloc ?_ _)); refine blk_put (cs := #[.slice none 0 0, .int .i64 0]) ?_ 0 _ rfl; (with_reducible repeat (first | refine blk_drewN ?_ _ | refine blk_drew ?_ | refine blk_alloc ?_ _)); exact BK278.out) hb); have n7_ := Aside0.mk (below_step (eq2 HB GE259 GE278) hb); clear HO264; clear HO268; clear HO271; clear HO276; clear BK259; clear BK278; clear HB; have HO264 := n0_; have HO268 := n1_; have HO271 := n2_; have HO276 := n3_; have HO281 := n4_; have BK259 := n5_; have BK278 := n6_; have HB := n7_; clear n0_ n1_ n2_ n3_ n4_ n5_ n6_ n7_; (try clear hb); (try clear hb2); (try clear hk); (try clear hi); (try clear ho0); have hcz36_0 : w35.cell? ⟨gb278, 0, none⟩ = some (.slice Ao32 t274.length co32) := (blk_cell BK278.out 0).trans rfl; have hcz36_1 : w35.cell? ⟨gb278, 1, none⟩ = some (.int .i64 t277) := (blk_cell BK278.out 1).trans rfl; have hfz36_0 := blk_frozen BK278.out 0; have hfz36_1 := blk_frozen BK278.out 1; obtain ⟨Ao37, co37, eo37⟩ := Kd.R_slice HO281.out; subst eo37) | ((with_reducible refine gate_callee (f := 42) rfl ?_); refine goesL_ (some 46) rfl rfl Try.func42 (by kernel_rfl) rfl #[.agg #[.slice Ao32 t274.length co32, .int .i64 t277], .slice Ao37 t279.length co37] rfl (by (try simp only [List.map_toArray, List.map_cons, List.map_nil]); first | done | rfl | (simp only [List.length_drop, List.length_take]; rfl)) ?_; (with_reducible refine (impl_FoldScore.calls k _ _ t274 t277 _ _ t279 t282 t285 t286 _ ?side1 ?side2 ?side3 ?side4 A18.out).mono ?_); (case side1 => repeat (first | exact (Kd.R_reads' HO276.out).2.2 | (with_reducible refine Kd.C_alloc ?_ _) | (with_reducible refine Kd.C_drewN ?_ _) | (with_reducible refine Kd.C_drew ?_))); (case side2 => exact (Kd.R_reads' HO276.out).2.1); (case side3 => repeat (first | exact (Kd.R_reads' HO281.out).2.2 | (with_reducible refine Kd.C_alloc ?_ _) | (with_reducible refine Kd.C_drewN ?_ _) | (with_reducible refine Kd.C_drew ?_))); (case side4 => exact (Kd.R_reads' HO281.out).2.1); rintro e w38 ⟨v283, rfl, ho0, hb⟩; refine ⟨_, rfl, ?_⟩; have n0_ := Aside0.mk (Kd.R_below (kq HO264) hb); have n1_ := Aside0.mk (Kd.R_elder' (kq HO268) (Kd.R_base ho0) hb); have n2_ := Aside0.mk (Kd.R_elder' (kq HO271) (Kd.R_base ho0) hb); have n3_ := Aside0.mk (Kd.R_below (kq HO276) hb); have n4_ := Aside0.mk (Kd.R_elder' (kq HO281) (Kd.R_base ho0) hb); have n5_ := Aside0.mk (Kd.R_lower (Kd.R_new' (Kd.R_new' (Kd.R_new' ho0 (Kd.R_lt (kq HO268))) (Kd.R_lt (kq HO271))) (Kd.R_lt (kq HO281))) (below_size (eq2 HB GE259 GE278))); have n6_ := Aside0.mk (blk_below (g := gb259) (o := .cells #[.slice A0_0 l0_0.length c0_0, .int .i64 a0_1] 24 (0, 0)) (bq BK259) hb); have n7_ := Aside0.mk (blk_below (g := gb278) (o := .cells #[.slice Ao32 t274.length co32, .int .i64 t277] 28 (0, 0)) (bq BK278) hb); have n8_ := Aside0.mk (below_step (eq2 HB GE259 GE278) hb); clear HO264; clear HO268; clear HO271; clear HO276; clear HO281; clear BK259; clear BK278; clear HB; have HO264 := n0_; have HO268 := n1_; have HO271 := n2_; have HO276 := n3_; have HO281 := n4_; have HO284 := n5_; have BK259 := n6_; have BK278 := n7_; have HB := n8_; clear n0_ n1_ n2_ n3_ n4_ n5_ n6_ n7_ n8_; (try clear hb); (try clear hb2); (try clear hk); (try clear hi); (try clear ho0)))
      (try simp only [Act.put, List.setIfInBounds_toArray, List.set_cons_zero, List.set_cons_succ])
      go_cut [63] (fun v63 wc => ∃ (kq : Nat) (x63_18 : Bool), v63 = .bool x63_18 ∧ Aside0 (laws_FnExactFoldScore.j0 kq l1 t269 t272 t273 t279 t282 t285 t286 x63_18 l0_0 a0_1 t274 t277 = some r) ∧ Aside0 (kq ≤ k) ∧ Aside0 (Kd.R k90 90 wc w.heap.size (fun k_ => some k_ ≠ ((.slice Ao37 t279.length co37) : Value).ownBlock ∧ some k_ ≠ (v283 : Value).ownBlock) v270 t269) ∧ Aside0 (Kd.R k90 90 wc w.heap.size (fun k_ => some k_ ≠ (v270 : Value).ownBlock ∧ some k_ ≠ (v283 : Value).ownBlock) (.slice Ao37 t279.length co37) t279) ∧ Aside0 (Kd.R k90 90 wc w.heap.size (fun k_ => some k_ ≠ (v270 : Value).ownBlock ∧ some k_ ≠ ((.slice Ao37 t279.length co37) : Value).ownBlock) v283 t282) ∧ Aside0 (Kd.R (Kd.int .i64) 3 wc w.heap.size (fun _ => True) (.slice Ao32 t274.length co32) t274) ∧ Aside0 (wc.heap[gb259]? = some (.cells #[(.slice A0_0 l0_0.length c0_0), .int .i64 a0_1] 24 (0, 0))) ∧ Aside0 (wc.heap[gb278]? = some (.cells #[(.slice Ao32 t274.length co32), .int .i64 t277] 28 (0, 0))) ∧ Aside0 (Below w.heap.size w wc))
      case first =>
        have H := HC19.out
        clear HC19
        replace H := Option.bind_eq_some_iff.mp H
        obtain ⟨t287, A390, H⟩ := H
        replace H : (if t287 = true then (if t285 = t272 then (laws_FnExactFoldScore.j0 k l1 t269 t272 t273 t279 t282 t285 t286 (t286 != t273) l0_0 a0_1 t274 t277) else (laws_FnExactFoldScore.j0 k l1 t269 t272 t273 t279 t282 t285 t286 true l0_0 a0_1 t274 t277)) else (laws_FnExactFoldScore.j0 k l1 t269 t272 t273 t279 t282 t285 t286 true l0_0 a0_1 t274 t277)) = some r := H
        have A39 := Aside0.mk A390
        clear A390
        by_cases c40 : t287 = true
        · subst c40
          have H1 : (if t285 = t272 then (laws_FnExactFoldScore.j0 k l1 t269 t272 t273 t279 t282 t285 t286 (t286 != t273) l0_0 a0_1 t274 t277) else (laws_FnExactFoldScore.j0 k l1 t269 t272 t273 t279 t282 t285 t286 true l0_0 a0_1 t274 t277)) = some r := by rw [if_pos rfl] at H; exact H
          clear H
          have H := H1
          clear H1
          by_cases c41 : t285 = t272
          · rw [if_pos c41] at H
            have c41b0 : (t285 == t272) = true := beq_iff_eq.mpr c41
            have c41b1 : (t285 != t272) = false := bne_eq_false_iff_eq.mpr c41
            clear c41
            (first | rw [c41b0] | (simp only [i64_w, i32_w]; rw [c41b0]) | skip)
            have H' := Aside0.mk H
            clear H
            obtain ⟨Ao42, co42, eo42⟩ := Kd.R_slice HO284.out
            subst eo42
            obtain ⟨Ao43, co43, eo43⟩ := Kd.R_slice HO271.out
            subst eo43
            go_wp2_with (first | ((with_reducible refine gate_callee (f := 25) rfl ?_); refine goesL_ (some 52) rfl rfl Try.func25 (by kernel_rfl) rfl #[.slice Ao42 t282.length co42, .slice Ao43 t269.length co43] rfl (by (try simp only [List.map_toArray, List.map_cons, List.map_nil]); first | done | rfl | (simp only [List.length_drop, List.length_take]; rfl)) ?_; (with_reducible refine (laws_eqNoteS.calls k _ _ t282 _ _ t269 true _ ?side1 ?side2 ?side3 ?side4 A39.out).mono ?_); (case side1 => repeat (first | exact (Kd.R_reads' HO284.out).2.2 | (with_reducible refine Kd.C_alloc ?_ _) | (with_reducible refine Kd.C_drewN ?_ _) | (with_reducible refine Kd.C_drew ?_))); (case side2 => exact (Kd.R_reads' HO284.out).2.1); (case side3 => repeat (first | exact (Kd.R_reads' HO271.out).2.2 | (with_reducible refine Kd.C_alloc ?_ _) | (with_reducible refine Kd.C_drewN ?_ _) | (with_reducible refine Kd.C_drew ?_))); (case side4 => exact (Kd.R_reads' HO271.out).2.1); rintro e w44 ⟨rfl, hb⟩; refine ⟨_, rfl, ?_⟩; have n0_ := Aside0.mk (Kd.R_below (kq HO264) hb); have n1_ := Aside0.mk (Kd.R_below (kq HO268) hb); have n2_ := Aside0.mk (Kd.R_below (kq HO271) hb); have n3_ := Aside0.mk (Kd.R_below (kq HO276) hb); have n4_ := Aside0.mk (Kd.R_below (kq HO281) hb); have n5_ := Aside0.mk (Kd.R_below (kq HO284) hb); have n6_ := Aside0.mk (blk_below (g := gb259) (o := .cells #[.slice A0_0 l0_0.length c0_0, .int .i64 a0_1] 24 (0, 0)) (bq BK259) hb); have n7_ := Aside0.mk (blk_below (g := gb278) (o := .cells #[.slice Ao32 t274.length co32, .int .i64 t277] 28 (0, 0)) (bq BK278) hb); have n8_ := Aside0.mk (below_step (eq2 HB GE259 GE278) hb); clear HO264; clear HO268; clear HO271; clear HO276; clear HO281; clear HO284; clear BK259; clear BK278; clear HB; have HO264 := n0_; have HO268 := n1_; have HO271 := n2_; have HO276 := n3_; have HO281 := n4_; have HO284 := n5_; have BK259 := n6_; have BK278 := n7_; have HB := n8_; clear n0_ n1_ n2_ n3_ n4_ n5_ n6_ n7_ n8_; (try clear hb); (try clear hb2); (try clear hk); (try clear hi)))
            go_meet
            case rel => exact ⟨_, ((t286 != t273)), (by first | rfl | (simp; done) | (simp [*]; done)), H', ⟨by first | omega | exact Nat.le_refl _⟩, ⟨by (with_reducible repeat (first | apply Kd.R_alloc | apply Kd.R_drewN | apply Kd.R_drew)); exact Kd.R_mono HO271.out (fun _ hk => ⟨hk.1.2, hk.2⟩)⟩, ⟨by (with_reducible repeat (first | apply Kd.R_alloc | apply Kd.R_drewN | apply Kd.R_drew)); exact Kd.R_mono HO281.out (fun _ hk => ⟨hk.1.2, hk.2⟩)⟩, ⟨by (with_reducible repeat (first | apply Kd.R_alloc | apply Kd.R_drewN | apply Kd.R_drew)); exact Kd.R_mono HO284.out (fun _ hk => ⟨hk.1.2, hk.2⟩)⟩, ⟨by (with_reducible repeat (first | apply Kd.R_alloc | apply Kd.R_drewN | apply Kd.R_drew)); exact Kd.R_mono HO276.out (fun _ hk => trivial)⟩, ⟨bq BK259⟩, ⟨bq BK278⟩, ⟨eq2 HB GE259 GE278⟩⟩
          · rw [if_neg c41] at H
            have c41b0 : (t285 == t272) = false := beq_eq_false_iff_ne.mpr c41
            have c41b1 : (t285 != t272) = true := bne_iff_ne.mpr c41
            (first | rw [c41b0] | (simp only [i64_w, i32_w]; rw [c41b0]) | skip)
            have H' := Aside0.mk H
            clear H
            obtain ⟨Ao45, co45, eo45⟩ := Kd.R_slice HO284.out
            subst eo45
            obtain ⟨Ao46, co46, eo46⟩ := Kd.R_slice HO271.out
            subst eo46
            go_wp2_with (first | ((with_reducible refine gate_callee (f := 25) rfl ?_); refine goesL_ (some 52) rfl rfl Try.func25 (by kernel_rfl) rfl #[.slice Ao45 t282.length co45, .slice Ao46 t269.length co46] rfl (by (try simp only [List.map_toArray, List.map_cons, List.map_nil]); first | done | rfl | (simp only [List.length_drop, List.length_take]; rfl)) ?_; (with_reducible refine (laws_eqNoteS.calls k _ _ t282 _ _ t269 true _ ?side1 ?side2 ?side3 ?side4 A39.out).mono ?_); (case side1 => repeat (first | exact (Kd.R_reads' HO284.out).2.2 | (with_reducible refine Kd.C_alloc ?_ _) | (with_reducible refine Kd.C_drewN ?_ _) | (with_reducible refine Kd.C_drew ?_))); (case side2 => exact (Kd.R_reads' HO284.out).2.1); (case side3 => repeat (first | exact (Kd.R_reads' HO271.out).2.2 | (with_reducible refine Kd.C_alloc ?_ _) | (with_reducible refine Kd.C_drewN ?_ _) | (with_reducible refine Kd.C_drew ?_))); (case side4 => exact (Kd.R_reads' HO271.out).2.1); rintro e w47 ⟨rfl, hb⟩; refine ⟨_, rfl, ?_⟩; have n0_ := Aside0.mk (Kd.R_below (kq HO264) hb); have n1_ := Aside0.mk (Kd.R_below (kq HO268) hb); have n2_ := Aside0.mk (Kd.R_below (kq HO271) hb); have n3_ := Aside0.mk (Kd.R_below (kq HO276) hb); have n4_ := Aside0.mk (Kd.R_below (kq HO281) hb); have n5_ := Aside0.mk (Kd.R_below (kq HO284) hb); have n6_ := Aside0.mk (blk_below (g := gb259) (o := .cells #[.slice A0_0 l0_0.length c0_0, .int .i64 a0_1] 24 (0, 0)) (bq BK259) hb); have n7_ := Aside0.mk (blk_below (g := gb278) (o := .cells #[.slice Ao32 t274.length co32, .int .i64 t277] 28 (0, 0)) (bq BK278) hb); have n8_ := Aside0.mk (below_step (eq2 HB GE259 GE278) hb); clear HO264; clear HO268; clear HO271; clear HO276; clear HO281; clear HO284; clear BK259; clear BK278; clear HB; have HO264 := n0_; have HO268 := n1_; have HO271 := n2_; have HO276 := n3_; have HO281 := n4_; have HO284 := n5_; have BK259 := n6_; have BK278 := n7_; have HB := n8_; clear n0_ n1_ n2_ n3_ n4_ n5_ n6_ n7_ n8_; (try clear hb); (try clear hb2); (try clear hk); (try clear hi)))
            go_meet
            case rel => exact ⟨_, (true), (by first | rfl | (simp; done) | (simp [*]; done)), H', ⟨by first | omega | exact Nat.le_refl _⟩, ⟨by (with_reducible repeat (first | apply Kd.R_alloc | apply Kd.R_drewN | apply Kd.R_drew)); exact Kd.R_mono HO271.out (fun _ hk => ⟨hk.1.2, hk.2⟩)⟩, ⟨by (with_reducible repeat (first | apply Kd.R_alloc | apply Kd.R_drewN | apply Kd.R_drew)); exact Kd.R_mono HO281.out (fun _ hk => ⟨hk.1.2, hk.2⟩)⟩, ⟨by (with_reducible repeat (first | apply Kd.R_alloc | apply Kd.R_drewN | apply Kd.R_drew)); exact Kd.R_mono HO284.out (fun _ hk => ⟨hk.1.2, hk.2⟩)⟩, ⟨by (with_reducible repeat (first | apply Kd.R_alloc | apply Kd.R_drewN | apply Kd.R_drew)); exact Kd.R_mono HO276.out (fun _ hk => trivial)⟩, ⟨bq BK259⟩, ⟨bq BK278⟩, ⟨eq2 HB GE259 GE278⟩⟩
        · replace c40 := Bool.eq_false_iff.mpr c40
          subst c40
          have H1 : (laws_FnExactFoldScore.j0 k l1 t269 t272 t273 t279 t282 t285 t286 true l0_0 a0_1 t274 t277) = some r := by rw [if_neg (show ¬ (false = true) by decide)] at H; exact H
          clear H
          have H := H1
          clear H1
          have H' := Aside0.mk H
          clear H
          obtain ⟨Ao48, co48, eo48⟩ := Kd.R_slice HO284.out
          subst eo48
          obtain ⟨Ao49, co49, eo49⟩ := Kd.R_slice HO271.out
          subst eo49
          go_wp2_with (first | ((with_reducible refine gate_callee (f := 25) rfl ?_); refine goesL_ (some 52) rfl rfl Try.func25 (by kernel_rfl) rfl #[.slice Ao48 t282.length co48, .slice Ao49 t269.length co49] rfl (by (try simp only [List.map_toArray, List.map_cons, List.map_nil]); first | done | rfl | (simp only [List.length_drop, List.length_take]; rfl)) ?_; (with_reducible refine (laws_eqNoteS.calls k _ _ t282 _ _ t269 false _ ?side1 ?side2 ?side3 ?side4 A39.out).mono ?_); (case side1 => repeat (first | exact (Kd.R_reads' HO284.out).2.2 | (with_reducible refine Kd.C_alloc ?_ _) | (with_reducible refine Kd.C_drewN ?_ _) | (with_reducible refine Kd.C_drew ?_))); (case side2 => exact (Kd.R_reads' HO284.out).2.1); (case side3 => repeat (first | exact (Kd.R_reads' HO271.out).2.2 | (with_reducible refine Kd.C_alloc ?_ _) | (with_reducible refine Kd.C_drewN ?_ _) | (with_reducible refine Kd.C_drew ?_))); (case side4 => exact (Kd.R_reads' HO271.out).2.1); rintro e w50 ⟨rfl, hb⟩; refine ⟨_, rfl, ?_⟩; have n0_ := Aside0.mk (Kd.R_below (kq HO264) hb); have n1_ := Aside0.mk (Kd.R_below (kq HO268) hb); have n2_ := Aside0.mk (Kd.R_below (kq HO271) hb); have n3_ := Aside0.mk (Kd.R_below (kq HO276) hb); have n4_ := Aside0.mk (Kd.R_below (kq HO281) hb); have n5_ := Aside0.mk (Kd.R_below (kq HO284) hb); have n6_ := Aside0.mk (blk_below (g := gb259) (o := .cells #[.slice A0_0 l0_0.length c0_0, .int .i64 a0_1] 24 (0, 0)) (bq BK259) hb); have n7_ := Aside0.mk (blk_below (g := gb278) (o := .cells #[.slice Ao32 t274.length co32, .int .i64 t277] 28 (0, 0)) (bq BK278) hb); have n8_ := Aside0.mk (below_step (eq2 HB GE259 GE278) hb); clear HO264; clear HO268; clear HO271; clear HO276; clear HO281; clear HO284; clear BK259; clear BK278; clear HB; have HO264 := n0_; have HO268 := n1_; have HO271 := n2_; have HO276 := n3_; have HO281 := n4_; have HO284 := n5_; have BK259 := n6_; have BK278 := n7_; have HB := n8_; clear n0_ n1_ n2_ n3_ n4_ n5_ n6_ n7_ n8_; (try clear hb); (try clear hb2); (try clear hk); (try clear hi)))
          go_meet
          case rel => exact ⟨_, (true), (by first | rfl | (simp; done) | (simp [*]; done)), H', ⟨by first | omega | exact Nat.le_refl _⟩, ⟨by (with_reducible repeat (first | apply Kd.R_alloc | apply Kd.R_drewN | apply Kd.R_drew)); exact Kd.R_mono HO271.out (fun _ hk => ⟨hk.1.2, hk.2⟩)⟩, ⟨by (with_reducible repeat (first | apply Kd.R_alloc | apply Kd.R_drewN | apply Kd.R_drew)); exact Kd.R_mono HO281.out (fun _ hk => ⟨hk.1.2, hk.2⟩)⟩, ⟨by (with_reducible repeat (first | apply Kd.R_alloc | apply Kd.R_drewN | apply Kd.R_drew)); exact Kd.R_mono HO284.out (fun _ hk => ⟨hk.1.2, hk.2⟩)⟩, ⟨by (with_reducible repeat (first | apply Kd.R_alloc | apply Kd.R_drewN | apply Kd.R_drew)); exact Kd.R_mono HO276.out (fun _ hk => trivial)⟩, ⟨bq BK259⟩, ⟨bq BK278⟩, ⟨eq2 HB GE259 GE278⟩⟩
      case rest =>
        clear HC19
        try clear c1
        try clear c2
        try clear p2
        try clear c3
        try clear c4
        try clear c4b0
        try clear c9
        try clear c9b0
        try clear c11
        try clear c14
        try clear c16
        try clear c21
        try clear c23
        try clear c25
        try clear c33
        try clear c40
        try clear c41
        try clear c41b0
        try clear c41b1
        try clear c42
        try clear hcz11_0
        try clear hcz11_1
        try clear hcz21_0
        try clear hcz21_1
        try clear hcz23_0
        try clear hcz23_1
        try clear hcz29_0
        try clear hcz29_1
        try clear hcz34_0
        try clear hcz34_1
        try clear hcz36_0
        try clear hcz36_1
        try clear hcz6_0
        try clear hcz6_1
        try clear hfz11_0
        try clear hfz11_1
        try clear hfz21_0
        try clear hfz21_1
        try clear hfz23_0
        try clear hfz23_1
        try clear hfz29_0
        try clear hfz29_1
        try clear hfz34_0
        try clear hfz34_1
        try clear hfz36_0
        try clear hfz36_1
        try clear hfz6_0
        try clear hfz6_1
        obtain ⟨kq, x63_18, rfl, HA, HJ18, HO_6, HO_10, HO_11, HO_279000, BK259, BK278, HB⟩ := hcut
        cases kq with
        | zero => exact absurd HA.out (by simp [laws_FnExactFoldScore.j0])
        | succ kj18 =>
          have H := HA.out
          clear HA
          simp only [laws_FnExactFoldScore.j0] at H
          by_cases c51 : x63_18 = true
          · subst c51
            have H1 : (some false) = some r := by rw [if_pos rfl] at H; exact H
            clear H
            have H := H1
            clear H1
            obtain rfl := Option.some.inj H
            go_wp2
            go_ret
            exact ⟨by first | rfl | (simp [errW_none, errW_some] <;> rfl) | (simp [*, errW_none, errW_some] <;> rfl), eq2 HB GE259 GE278⟩
          · replace c51 := Bool.eq_false_iff.mpr c51
            subst c51
            have H1 : ((laws_toInstrument.f kj18 l0_0 a0_1).bind fun bt288 => ((laws_eqInstrument.f kj18 t274 t277 bt288.1 bt288.2).bind fun t292 => (if t292 = true then ((laws_toNoteS.f kj18 l1).bind fun t293 => ((laws_eqNoteS.f kj18 t279 t293).bind fun t296 => (if t296 = true then ((laws_markInstrument.f kj18 t274 t277 1).bind fun bt297 => ((laws_markNoteS.f kj18 t279 bt297.1).bind fun bt299 => (if bt299.1 < 0 then (laws_FnExactFoldScore.j1 kj18 l1 t269 t272 t273 t282 true l0_0 a0_1) else ((laws_eqNoteS.f kj18 t282 t269).bind fun t301 => (if t301 = true then (if t285 = t272 then (laws_FnExactFoldScore.j1 kj18 l1 t269 t272 t273 t282 (t286 != t273) l0_0 a0_1) else (laws_FnExactFoldScore.j1 kj18 l1 t269 t272 t273 t282 true l0_0 a0_1)) else (laws_FnExactFoldScore.j1 kj18 l1 t269 t272 t273 t282 true l0_0 a0_1)))))) else (some false)))) else (some false)))) = some r := by rw [if_neg (show ¬ (false = true) by decide)] at H; exact H
            clear H
            have H := H1
            clear H1
            replace H := Option.bind_eq_some_iff.mp H
            obtain ⟨⟨t288, t291⟩, A520, H⟩ := H
            replace H : ((laws_eqInstrument.f kj18 t274 t277 t288 t291).bind fun t292 => (if t292 = true then ((laws_toNoteS.f kj18 l1).bind fun t293 => ((laws_eqNoteS.f kj18 t279 t293).bind fun t296 => (if t296 = true then ((laws_markInstrument.f kj18 t274 t277 1).bind fun bt297 => ((laws_markNoteS.f kj18 t279 bt297.1).bind fun bt299 => (if bt299.1 < 0 then (laws_FnExactFoldScore.j1 kj18 l1 t269 t272 t273 t282 true l0_0 a0_1) else ((laws_eqNoteS.f kj18 t282 t269).bind fun t301 => (if t301 = true then (if t285 = t272 then (laws_FnExactFoldScore.j1 kj18 l1 t269 t272 t273 t282 (t286 != t273) l0_0 a0_1) else (laws_FnExactFoldScore.j1 kj18 l1 t269 t272 t273 t282 true l0_0 a0_1)) else (laws_FnExactFoldScore.j1 kj18 l1 t269 t272 t273 t282 true l0_0 a0_1)))))) else (some false)))) else (some false))) = some r := H
            have A52 := Aside0.mk A520
            clear A520
            replace H := Option.bind_eq_some_iff.mp H
            obtain ⟨t292, A530, H⟩ := H
            replace H : (if t292 = true then ((laws_toNoteS.f kj18 l1).bind fun t293 => ((laws_eqNoteS.f kj18 t279 t293).bind fun t296 => (if t296 = true then ((laws_markInstrument.f kj18 t274 t277 1).bind fun bt297 => ((laws_markNoteS.f kj18 t279 bt297.1).bind fun bt299 => (if bt299.1 < 0 then (laws_FnExactFoldScore.j1 kj18 l1 t269 t272 t273 t282 true l0_0 a0_1) else ((laws_eqNoteS.f kj18 t282 t269).bind fun t301 => (if t301 = true then (if t285 = t272 then (laws_FnExactFoldScore.j1 kj18 l1 t269 t272 t273 t282 (t286 != t273) l0_0 a0_1) else (laws_FnExactFoldScore.j1 kj18 l1 t269 t272 t273 t282 true l0_0 a0_1)) else (laws_FnExactFoldScore.j1 kj18 l1 t269 t272 t273 t282 true l0_0 a0_1)))))) else (some false)))) else (some false)) = some r := H
            have A53 := Aside0.mk A530
            clear A530
            by_cases c54 : t292 = true
            · subst c54
              have H1 : ((laws_toNoteS.f kj18 l1).bind fun t293 => ((laws_eqNoteS.f kj18 t279 t293).bind fun t296 => (if t296 = true then ((laws_markInstrument.f kj18 t274 t277 1).bind fun bt297 => ((laws_markNoteS.f kj18 t279 bt297.1).bind fun bt299 => (if bt299.1 < 0 then (laws_FnExactFoldScore.j1 kj18 l1 t269 t272 t273 t282 true l0_0 a0_1) else ((laws_eqNoteS.f kj18 t282 t269).bind fun t301 => (if t301 = true then (if t285 = t272 then (laws_FnExactFoldScore.j1 kj18 l1 t269 t272 t273 t282 (t286 != t273) l0_0 a0_1) else (laws_FnExactFoldScore.j1 kj18 l1 t269 t272 t273 t282 true l0_0 a0_1)) else (laws_FnExactFoldScore.j1 kj18 l1 t269 t272 t273 t282 true l0_0 a0_1)))))) else (some false)))) = some r := by rw [if_pos rfl] at H; exact H
              clear H
              have H := H1
              clear H1
              replace H := Option.bind_eq_some_iff.mp H
              obtain ⟨t293, A550, H⟩ := H
              replace H : ((laws_eqNoteS.f kj18 t279 t293).bind fun t296 => (if t296 = true then ((laws_markInstrument.f kj18 t274 t277 1).bind fun bt297 => ((laws_markNoteS.f kj18 t279 bt297.1).bind fun bt299 => (if bt299.1 < 0 then (laws_FnExactFoldScore.j1 kj18 l1 t269 t272 t273 t282 true l0_0 a0_1) else ((laws_eqNoteS.f kj18 t282 t269).bind fun t301 => (if t301 = true then (if t285 = t272 then (laws_FnExactFoldScore.j1 kj18 l1 t269 t272 t273 t282 (t286 != t273) l0_0 a0_1) else (laws_FnExactFoldScore.j1 kj18 l1 t269 t272 t273 t282 true l0_0 a0_1)) else (laws_FnExactFoldScore.j1 kj18 l1 t269 t272 t273 t282 true l0_0 a0_1)))))) else (some false))) = some r := H
              have A55 := Aside0.mk A550
              clear A550
              replace H := Option.bind_eq_some_iff.mp H
              obtain ⟨t296, A560, H⟩ := H
              replace H : (if t296 = true then ((laws_markInstrument.f kj18 t274 t277 1).bind fun bt297 => ((laws_markNoteS.f kj18 t279 bt297.1).bind fun bt299 => (if bt299.1 < 0 then (laws_FnExactFoldScore.j1 kj18 l1 t269 t272 t273 t282 true l0_0 a0_1) else ((laws_eqNoteS.f kj18 t282 t269).bind fun t301 => (if t301 = true then (if t285 = t272 then (laws_FnExactFoldScore.j1 kj18 l1 t269 t272 t273 t282 (t286 != t273) l0_0 a0_1) else (laws_FnExactFoldScore.j1 kj18 l1 t269 t272 t273 t282 true l0_0 a0_1)) else (laws_FnExactFoldScore.j1 kj18 l1 t269 t272 t273 t282 true l0_0 a0_1)))))) else (some false)) = some r := H
              have A56 := Aside0.mk A560
              clear A560
              by_cases c57 : t296 = true
              · subst c57
                have H1 : ((laws_markInstrument.f kj18 t274 t277 1).bind fun bt297 => ((laws_markNoteS.f kj18 t279 bt297.1).bind fun bt299 => (if bt299.1 < 0 then (laws_FnExactFoldScore.j1 kj18 l1 t269 t272 t273 t282 true l0_0 a0_1) else ((laws_eqNoteS.f kj18 t282 t269).bind fun t301 => (if t301 = true then (if t285 = t272 then (laws_FnExactFoldScore.j1 kj18 l1 t269 t272 t273 t282 (t286 != t273) l0_0 a0_1) else (laws_FnExactFoldScore.j1 kj18 l1 t269 t272 t273 t282 true l0_0 a0_1)) else (laws_FnExactFoldScore.j1 kj18 l1 t269 t272 t273 t282 true l0_0 a0_1)))))) = some r := by rw [if_pos rfl] at H; exact H
                clear H
                have H := H1
                clear H1
                replace H := Option.bind_eq_some_iff.mp H
                obtain ⟨⟨t297, t298⟩, A580, H⟩ := H
                replace H : ((laws_markNoteS.f kj18 t279 t297).bind fun bt299 => (if bt299.1 < 0 then (laws_FnExactFoldScore.j1 kj18 l1 t269 t272 t273 t282 true l0_0 a0_1) else ((laws_eqNoteS.f kj18 t282 t269).bind fun t301 => (if t301 = true then (if t285 = t272 then (laws_FnExactFoldScore.j1 kj18 l1 t269 t272 t273 t282 (t286 != t273) l0_0 a0_1) else (laws_FnExactFoldScore.j1 kj18 l1 t269 t272 t273 t282 true l0_0 a0_1)) else (laws_FnExactFoldScore.j1 kj18 l1 t269 t272 t273 t282 true l0_0 a0_1))))) = some r := H
                have A58 := Aside0.mk A580
                clear A580
                replace H := Option.bind_eq_some_iff.mp H
                obtain ⟨⟨t299, t300⟩, A590, H⟩ := H
                replace H : (if t299 < 0 then (laws_FnExactFoldScore.j1 kj18 l1 t269 t272 t273 t282 true l0_0 a0_1) else ((laws_eqNoteS.f kj18 t282 t269).bind fun t301 => (if t301 = true then (if t285 = t272 then (laws_FnExactFoldScore.j1 kj18 l1 t269 t272 t273 t282 (t286 != t273) l0_0 a0_1) else (laws_FnExactFoldScore.j1 kj18 l1 t269 t272 t273 t282 true l0_0 a0_1)) else (laws_FnExactFoldScore.j1 kj18 l1 t269 t272 t273 t282 true l0_0 a0_1)))) = some r := H
                have A59 := Aside0.mk A590
                clear A590
                have HC60 := Aside0.mk H
                clear H
                try go_wp2
                have n0_ := Aside0.mk (Kd.R_drew HO_6.out)
                have n1_ := Aside0.mk (Kd.R_drew HO_10.out)
                have n2_ := Aside0.mk (Kd.R_drew HO_11.out)
                have n3_ := Aside0.mk (Kd.R_drew HO_279000.out)
                have n4_ := Aside0.mk (blk_drew BK259.out)
                have n5_ := Aside0.mk (blk_drew BK278.out)
                have n6_ := Aside0.mk (below_drew1 HB.out)
                clear HO_6
                clear HO_10
                clear HO_11
                clear HO_279000
                clear BK259
                clear BK278
                clear HB
                have HO_6 := n0_
                have HO_10 := n1_
                have HO_11 := n2_
                have HO_279000 := n3_
                have BK259 := n4_
                have BK278 := n5_
                have HB := n6_
                clear n0_ n1_ n2_ n3_ n4_ n5_ n6_
                refine start_ (n := 5) (S := fun w' => w'.cell? ⟨gb278, 0, none⟩ = some (.slice Ao32 t274.length co32) ∧ w'.cell? ⟨gb278, 1, none⟩ = some (.int .i64 t277) ∧ w'.cell? ⟨gb259, 0, none⟩ = some (.slice A0_0 l0_0.length c0_0) ∧ w'.cell? ⟨gb259, 1, none⟩ = some (.int .i64 a0_1)) (ds := []) #[false, false, false, false, false] (by kernel_rfl) rfl rfl ⟨(blk_cell BK278.out 0).trans rfl, (blk_cell BK278.out 1).trans rfl, (blk_cell BK259.out 0).trans rfl, (blk_cell BK259.out 1).trans rfl⟩ (fun hHeld => ?_)
                generalize wc.drew = w61 at HO_6 HO_10 HO_11 HO_279000 BK259 BK278 HB hHeld ⊢
                refine take_ (i := 0) (N := some 64) (v := ?_) (a' := ?_) #[true, false, false, false, false] rfl rfl (by kernel_rfl) (fun _ _ _ h => h) (Or.inl ⟨by rfl, ?_⟩) hHeld ?_ ?_
                rotate_left
                · rintro w' ⟨s0, s1, s2, s3⟩
                  go_simp
                  with_reducible rfl
                rotate_left
                · simp only [Act.put, List.setIfInBounds_toArray, List.set_cons_zero, List.set_cons_succ, i64_w, i32_w]
                  rfl
                refine take_ (i := 1) (N := some 65) (v := ?_) (a' := ?_) #[true, true, false, false, false] rfl rfl (by kernel_rfl) (fun _ _ _ h => h) (Or.inl ⟨by rfl, ?_⟩) hHeld ?_ ?_
                rotate_left
                · rintro w' ⟨s0, s1, s2, s3⟩
                  go_simp
                  with_reducible rfl
                rotate_left
                · simp only [Act.put, List.setIfInBounds_toArray, List.set_cons_zero, List.set_cons_succ, i64_w, i32_w]
                  rfl
                refine one_ (i := 2) (N := some 66) #[true, true, true, false, false] rfl rfl (by kernel_rfl) (by decide) (fun K hK => ?_)
                refine goes_ Try.func16 (by kernel_rfl) rfl #[.agg #[.slice A0_0 l0_0.length c0_0, .int .i64 a0_1]] (by rfl) rfl rfl (by (try simp only [List.map_toArray, List.map_cons, List.map_nil]); first | done | rfl | (simp only [List.length_drop, List.length_take]; rfl)) ?_
                with_reducible refine (laws_toInstrument.calls kj18 _ _ l0_0 a0_1 t288 t291 _ ?side1 ?side2 A52.out).mono ?_
                (case side1 => repeat (first | exact (Kd.C_below HR0_0.out HB.out) | (with_reducible refine Kd.C_alloc ?_ _) | (with_reducible refine Kd.C_drewN ?_ _) | (with_reducible refine Kd.C_drew ?_)))
                (case side2 => exact HC0_0.out)
                rintro e w62 ⟨v289, rfl, ho0, hb⟩
                refine ⟨_, rfl, ?_⟩
                have n0_ := Aside0.mk (Kd.R_below (kq HO_6) hb)
                have n1_ := Aside0.mk (Kd.R_below (kq HO_10) hb)
                have n2_ := Aside0.mk (Kd.R_below (kq HO_11) hb)
                have n3_ := Aside0.mk (Kd.R_elder' (kq HO_279000) (Kd.R_base ho0) hb)
                have n4_ := Aside0.mk (Kd.R_lower (Kd.R_new' ho0 (Kd.R_lt (kq HO_279000))) (below_size (eq2 HB GE259 GE278)))
                have n5_ := Aside0.mk (blk_below (g := gb259) (o := .cells #[.slice A0_0 l0_0.length c0_0, .int .i64 a0_1] 24 (0, 0)) (bq BK259) hb)
                have n6_ := Aside0.mk (blk_below (g := gb278) (o := .cells #[.slice Ao32 t274.length co32, .int .i64 t277] 28 (0, 0)) (bq BK278) hb)
                have n7_ := Aside0.mk (below_step (eq2 HB GE259 GE278) hb)
                clear HO_6
                clear HO_10
                clear HO_11
                clear HO_279000
                clear BK259
                clear BK278
                clear HB
                have HO_6 := n0_
                have HO_10 := n1_
                have HO_11 := n2_
                have HO_279000 := n3_
                have HO290 := n4_
                have BK259 := n5_
                have BK278 := n6_
                have HB := n7_
                clear n0_ n1_ n2_ n3_ n4_ n5_ n6_ n7_
                (try clear hb)
                (try clear hb2)
                (try clear hk)
                (try clear hi)
                (try clear ho0)
                obtain ⟨Ao63, co63, eo63⟩ := Kd.R_slice HO290.out
                (first | subst eo63 | (injection eo63 with f1_ f2_ f3_; have f4_ := f1_.symm; have f5_ := f3_.symm; clear f1_ f2_ f3_; subst f4_; subst f5_))
                refine hK.out _ _ ⟨(blk_cell BK278.out 0).trans rfl, (blk_cell BK278.out 1).trans rfl, (blk_cell BK259.out 0).trans rfl, (blk_cell BK259.out 1).trans rfl⟩ (fun hHeld => ?_)
                clear hK K
                refine norm_ (a' := ?_) ?_ ?_
                rotate_left
                · show Act.put _ (some 66) _ = _
                  simp only [Act.put, List.setIfInBounds_toArray, List.set_cons_zero, List.set_cons_succ, i64_w, i32_w]
                  rfl
                refine one_ (i := 3) (N := some 67) #[true, true, true, true, false] rfl rfl (by kernel_rfl) (by decide) (fun K hK => ?_)
                refine goes_ Try.func18 (by kernel_rfl) rfl #[.agg #[.slice Ao32 t274.length co32, .int .i64 t277], .agg #[.slice Ao63 t288.length co63, .int .i64 t291]] (by rfl) rfl rfl (by (try simp only [List.map_toArray, List.map_cons, List.map_nil]); first | done | rfl | (simp only [List.length_drop, List.length_take]; rfl)) ?_
                with_reducible refine (laws_eqInstrument.calls kj18 _ _ t274 t277 _ _ t288 t291 true _ ?side1 ?side2 ?side3 ?side4 A53.out).mono ?_
                (case side1 => repeat (first | exact (Kd.R_reads' HO_279000.out).2.2 | (with_reducible refine Kd.C_alloc ?_ _) | (with_reducible refine Kd.C_drewN ?_ _) | (with_reducible refine Kd.C_drew ?_)))
                (case side2 => exact (Kd.R_reads' HO_279000.out).2.1)
                (case side3 => repeat (first | exact (Kd.R_reads' HO290.out).2.2 | (with_reducible refine Kd.C_alloc ?_ _) | (with_reducible refine Kd.C_drewN ?_ _) | (with_reducible refine Kd.C_drew ?_)))
                (case side4 => exact (Kd.R_reads' HO290.out).2.1)
                rintro e w64 ⟨rfl, hb⟩
                refine ⟨_, rfl, ?_⟩
                have n0_ := Aside0.mk (Kd.R_below (kq HO_6) hb)
                have n1_ := Aside0.mk (Kd.R_below (kq HO_10) hb)
                have n2_ := Aside0.mk (Kd.R_below (kq HO_11) hb)
                have n3_ := Aside0.mk (Kd.R_below (kq HO_279000) hb)
                have n4_ := Aside0.mk (Kd.R_below (kq HO290) hb)
                have n5_ := Aside0.mk (blk_below (g := gb259) (o := .cells #[.slice A0_0 l0_0.length c0_0, .int .i64 a0_1] 24 (0, 0)) (bq BK259) hb)
                have n6_ := Aside0.mk (blk_below (g := gb278) (o := .cells #[.slice Ao32 t274.length co32, .int .i64 t277] 28 (0, 0)) (bq BK278) hb)
                have n7_ := Aside0.mk (below_step (eq2 HB GE259 GE278) hb)
                clear HO_6
                clear HO_10
                clear HO_11
                clear HO_279000
                clear HO290
                clear BK259
                clear BK278
                clear HB
                have HO_6 := n0_
                have HO_10 := n1_
                have HO_11 := n2_
                have HO_279000 := n3_
                have HO290 := n4_
                have BK259 := n5_
                have BK278 := n6_
                have HB := n7_
                clear n0_ n1_ n2_ n3_ n4_ n5_ n6_ n7_
                (try clear hb)
                (try clear hb2)
                (try clear hk)
                (try clear hi)
                refine hK.out _ _ ⟨(blk_cell BK278.out 0).trans rfl, (blk_cell BK278.out 1).trans rfl, (blk_cell BK259.out 0).trans rfl, (blk_cell BK259.out 1).trans rfl⟩ (fun hHeld => ?_)
                clear hK K
                refine norm_ (a' := ?_) ?_ ?_
                rotate_left
                · show Act.put _ (some 67) _ = _
                  simp only [Act.put, List.setIfInBounds_toArray, List.set_cons_zero, List.set_cons_succ, i64_w, i32_w]
                  rfl
                refine pure_ (i := 4) (N := some 68) (v := ?_) (a' := ?_) #[true, true, true, true, true] rfl rfl (by kernel_rfl) (fun _ _ _ h => h) (Or.inl ⟨by rfl, ?_⟩) ?_ ?_
                rotate_left
                · intro w'
                  go_simp
                  with_reducible rfl
                rotate_left
                · simp only [Act.put, List.setIfInBounds_toArray, List.set_cons_zero, List.set_cons_succ, i64_w, i32_w]
                  rfl
                refine done_ (by kernel_rfl) ?_
                go_upto_region 21 with (first | ((with_reducible refine gate_callee (f := 23) rfl ?_); refine goesL_ (some 71) rfl rfl Try.func23 (by kernel_rfl) rfl #[.slice A1 l1.length c1] rfl (by (try simp only [List.map_toArray, List.map_cons, List.map_nil]); first | done | rfl | (simp only [List.length_drop, List.length_take]; rfl)) ?_; (with_reducible refine (laws_toNoteS.calls kj18 _ _ l1 t293 _ ?side1 ?side2 A55.out).mono ?_); (case side1 => repeat (first | exact (Kd.C_below HR1.out HB.out) | (with_reducible refine Kd.C_alloc ?_ _) | (with_reducible refine Kd.C_drewN ?_ _) | (with_reducible refine Kd.C_drew ?_))); (case side2 => exact HC1.out); rintro e w65 ⟨v294, rfl, ho0, hb⟩; refine ⟨_, rfl, ?_⟩; have n0_ := Aside0.mk (Kd.R_elder' (kq HO_6) (Kd.R_base ho0) hb); have n1_ := Aside0.mk (Kd.R_elder' (kq HO_10) (Kd.R_base ho0) hb); have n2_ := Aside0.mk (Kd.R_elder' (kq HO_11) (Kd.R_base ho0) hb); have n3_ := Aside0.mk (Kd.R_below (kq HO_279000) hb); have n4_ := Aside0.mk (Kd.R_below (kq HO290) hb); have n5_ := Aside0.mk (Kd.R_lower (Kd.R_new' (Kd.R_new' (Kd.R_new' ho0 (Kd.R_lt (kq HO_6))) (Kd.R_lt (kq HO_10))) (Kd.R_lt (kq HO_11))) (below_size (eq2 HB GE259 GE278))); have n6_ := Aside0.mk (blk_below (g := gb259) (o := .cells #[.slice A0_0 l0_0.length c0_0, .int .i64 a0_1] 24 (0, 0)) (bq BK259) hb); have n7_ := Aside0.mk (blk_below (g := gb278) (o := .cells #[.slice Ao32 t274.length co32, .int .i64 t277] 28 (0, 0)) (bq BK278) hb); have n8_ := Aside0.mk (below_step (eq2 HB GE259 GE278) hb); clear HO_6; clear HO_10; clear HO_11; clear HO_279000; clear HO290; clear BK259; clear BK278; clear HB; have HO_6 := n0_; have HO_10 := n1_; have HO_11 := n2_; have HO_279000 := n3_; have HO290 := n4_; have HO295 := n5_; have BK259 := n6_; have BK278 := n7_; have HB := n8_; clear n0_ n1_ n2_ n3_ n4_ n5_ n6_ n7_ n8_; (try clear hb); (try clear hb2); (try clear hk); (try clear hi); (try clear ho0); obtain ⟨Ao66, co66, eo66⟩ := Kd.R_slice HO295.out; subst eo66) | ((with_reducible refine gate_callee (f := 25) rfl ?_); refine goesL_ (some 72) rfl rfl Try.func25 (by kernel_rfl) rfl #[.slice Ao37 t279.length co37, .slice Ao66 t293.length co66] rfl (by (try simp only [List.map_toArray, List.map_cons, List.map_nil]); first | done | rfl | (simp only [List.length_drop, List.length_take]; rfl)) ?_; (with_reducible refine (laws_eqNoteS.calls kj18 _ _ t279 _ _ t293 true _ ?side1 ?side2 ?side3 ?side4 A56.out).mono ?_); (case side1 => repeat (first | exact (Kd.R_reads' HO_10.out).2.2 | (with_reducible refine Kd.C_alloc ?_ _) | (with_reducible refine Kd.C_drewN ?_ _) | (with_reducible refine Kd.C_drew ?_))); (case side2 => exact (Kd.R_reads' HO_10.out).2.1); (case side3 => repeat (first | exact (Kd.R_reads' HO295.out).2.2 | (with_reducible refine Kd.C_alloc ?_ _) | (with_reducible refine Kd.C_drewN ?_ _) | (with_reducible refine Kd.C_drew ?_))); (case side4 => exact (Kd.R_reads' HO295.out).2.1); rintro e w67 ⟨rfl, hb⟩; refine ⟨_, rfl, ?_⟩; have n0_ := Aside0.mk (Kd.R_below (kq HO_6) hb); have n1_ := Aside0.mk (Kd.R_below (kq HO_10) hb); have n2_ := Aside0.mk (Kd.R_below (kq HO_11) hb); have n3_ := Aside0.mk (Kd.R_below (kq HO_279000) hb); have n4_ := Aside0.mk (Kd.R_below (kq HO290) hb); have n5_ := Aside0.mk (Kd.R_below (kq HO295) hb); have n6_ := Aside0.mk (blk_below (g := gb259) (o := .cells #[.slice A0_0 l0_0.length c0_0, .int .i64 a0_1] 24 (0, 0)) (bq BK259) hb); have n7_ := Aside0.mk (blk_below (g := gb278) (o := .cells #[.slice Ao32 t274.length co32, .int .i64 t277] 28 (0, 0)) (bq BK278) hb); have n8_ := Aside0.mk (below_step (eq2 HB GE259 GE278) hb); clear HO_6; clear HO_10; clear HO_11; clear HO_279000; clear HO290; clear HO295; clear BK259; clear BK278; clear HB; have HO_6 := n0_; have HO_10 := n1_; have HO_11 := n2_; have HO_279000 := n3_; have HO290 := n4_; have HO295 := n5_; have BK259 := n6_; have BK278 := n7_; have HB := n8_; clear n0_ n1_ n2_ n3_ n4_ n5_ n6_ n7_ n8_; (try clear hb); (try clear hb2); (try clear hk); (try clear hi); have hnb68 := NB278_259.out; have hnc68 := NB259_278.out; have hcz69_0 : w67.cell? ⟨gb278, 0, none⟩ = some (.slice Ao32 t274.length co32) := (blk_cell BK278.out 0).trans rfl; have hcz69_1 : w67.cell? ⟨gb278, 1, none⟩ = some (.int .i64 t277) := (blk_cell BK278.out 1).trans rfl; have hfz69_0 := blk_frozen BK278.out 0; have hfz69_1 := blk_frozen BK278.out 1) | ((with_reducible refine gate_callee (f := 31) rfl ?_); refine goesL_ (some 76) rfl rfl Try.func31 (by kernel_rfl) rfl #[.agg #[.slice Ao32 t274.length co32, .int .i64 t277], .int .i64 1] rfl (by (try simp only [List.map_toArray, List.map_cons, List.map_nil]); first | done | rfl | (simp only [List.length_drop, List.length_take]; rfl)) ?_; (with_reducible refine (laws_markInstrument.calls kj18 (fun k_ => some k_ = (.slice Ao32 t274.length co32 : Value).ownBlock) (.slice Ao32 t274.length co32) t274 t277 1 t297 t298 w _ ?side1 ?side2 A58.out).mono ?_); (case side1 => repeat (first | (with_reducible first | exact HB.out | apply below_alloc | apply pw_below_drewN | apply below_drew1 | refine below_set ?_ GE259.out | refine below_set ?_ GE278.out) | exact HB.out)); (case side2 => exact Kd.R_tight rfl HO_279000.out); rintro e w70 ⟨rfl, hy0, hb, hkp⟩; refine ⟨_, rfl, ?_⟩; have n0_ := Aside0.mk (Kd.R_mono (ok' := fun k_ => some k_ ≠ (.slice Ao37 t279.length co37 : Value).ownBlock ∧ some k_ ≠ (v283 : Value).ownBlock ∧ some k_ ≠ (.slice Ao66 t293.length co66 : Value).ownBlock) (Kd.R_keptB ((Kd.R_apart' HO_6.out (Kd.R_typed HO_279000.out) (by decide))) hkp (fun k_ hk_ hs_ => (hk_.2) hs_)) (fun k_ hk_ => ⟨hk_.1.1.1.1, hk_.1.1.1.2, hk_.1.1.2⟩)); have n1_ := Aside0.mk (Kd.R_mono (ok' := fun k_ => some k_ ≠ (v270 : Value).ownBlock ∧ some k_ ≠ (v283 : Value).ownBlock ∧ some k_ ≠ (.slice Ao66 t293.length co66 : Value).ownBlock) (Kd.R_keptB ((Kd.R_apart' HO_10.out (Kd.R_typed HO_279000.out) (by decide))) hkp (fun k_ hk_ hs_ => (hk_.2) hs_)) (fun k_ hk_ => ⟨hk_.1.1.1.1, hk_.1.1.1.2, hk_.1.1.2⟩)); have n2_ := Aside0.mk (Kd.R_mono (ok' := fun k_ => some k_ ≠ (v270 : Value).ownBlock ∧ some k_ ≠ (.slice Ao37 t279.length co37 : Value).ownBlock ∧ some k_ ≠ (.slice Ao66 t293.length co66 : Value).ownBlock) (Kd.R_keptB ((Kd.R_apart' HO_11.out (Kd.R_typed HO_279000.out) (by decide))) hkp (fun k_ hk_ hs_ => (hk_.2) hs_)) (fun k_ hk_ => ⟨hk_.1.1.1.1, hk_.1.1.1.2, hk_.1.1.2⟩)); have n3_ := Aside0.mk (Kd.R_reok rfl hy0 (fun k_ e_ => HO_279000.out.1 k_ e_)); have n4_ := Aside0.mk (blk_kept (bq BK259) hkp (fun hs_ => (fun e_ => (Kd.R_ne HO_279000.out BK259.out (by decide)) e_) hs_)); have n5_ := Aside0.mk (blk_kept (bq BK278) hkp (fun hs_ => (fun e_ => (Kd.R_ne HO_279000.out BK278.out (by decide)) e_) hs_)); have n6_ := Aside0.mk (Kd.R_mono (ok' := fun k_ => some k_ ≠ (.slice Ao32 t274.length co32 : Value).ownBlock) (Kd.R_keptB (HO290.out) hkp (fun k_ hk_ hs_ => (hk_.2) hs_)) (fun k_ hk_ => hk_.1.2)); have n7_ := Aside0.mk (Kd.R_mono (ok' := fun k_ => some k_ ≠ (v270 : Value).ownBlock ∧ some k_ ≠ (.slice Ao37 t279.length co37 : Value).ownBlock ∧ some k_ ≠ (v283 : Value).ownBlock) (Kd.R_keptB ((Kd.R_apart' HO295.out (Kd.R_typed HO_279000.out) (by decide))) hkp (fun k_ hk_ hs_ => (hk_.2) hs_)) (fun k_ hk_ => ⟨hk_.1.1.1.1.2, hk_.1.1.1.2, hk_.1.1.2⟩)); have n8_ := Aside0.mk (hb); clear HO_6; clear HO_10; clear HO_11; clear HO_279000; clear BK259; clear BK278; clear HO290; clear HO295; clear HB; have HO_6 := n0_; have HO_10 := n1_; have HO_11 := n2_; have HO_279000 := n3_; have BK259 := n4_; have BK278 := n5_; have HO290 := n6_; have HO295 := n7_; have HB := n8_; clear n0_ n1_ n2_ n3_ n4_ n5_ n6_ n7_ n8_; (try clear hb); (try clear hkp); (try clear hy0)) | ((with_reducible refine gate_callee (f := 32) rfl ?_); refine goesL_ (some 79) rfl rfl Try.func32 (by kernel_rfl) rfl #[.slice Ao37 t279.length co37, .int .i64 t297] rfl (by (try simp only [List.map_toArray, List.map_cons, List.map_nil]); first | done | rfl | (simp only [List.length_drop, List.length_take]; rfl)) ?_; (with_reducible refine (laws_markNoteS.calls kj18 (fun k_ => some k_ = (.slice Ao37 t279.length co37 : Value).ownBlock) (.slice Ao37 t279.length co37) t279 t297 t299 t300 w _ ?side1 ?side2 A59.out).mono ?_); (case side1 => repeat (first | (with_reducible first | exact HB.out | apply below_alloc | apply pw_below_drewN | apply below_drew1 | refine below_set ?_ GE259.out | refine below_set ?_ GE278.out) | exact HB.out)); (case side2 => exact Kd.R_tight rfl HO_10.out); rintro e w71 ⟨rfl, hy0, hb, hkp⟩; refine ⟨_, rfl, ?_⟩; have n0_ := Aside0.mk (Kd.R_mono (ok' := fun k_ => some k_ ≠ (.slice Ao37 t279.length co37 : Value).ownBlock ∧ some k_ ≠ (v283 : Value).ownBlock ∧ some k_ ≠ (.slice Ao66 t293.length co66 : Value).ownBlock) (Kd.R_keptB (HO_6.out) hkp (fun k_ hk_ hs_ => (hk_.1) hs_)) (fun k_ hk_ => ⟨hk_.1.1, hk_.1.2.1, hk_.1.2.2⟩)); have n1_ := Aside0.mk (Kd.R_reok rfl hy0 (fun k_ e_ => HO_10.out.1 k_ e_)); have n2_ := Aside0.mk (Kd.R_mono (ok' := fun k_ => some k_ ≠ (v270 : Value).ownBlock ∧ some k_ ≠ (.slice Ao37 t279.length co37 : Value).ownBlock ∧ some k_ ≠ (.slice Ao66 t293.length co66 : Value).ownBlock) (Kd.R_keptB (HO_11.out) hkp (fun k_ hk_ hs_ => (hk_.2.1) hs_)) (fun k_ hk_ => ⟨hk_.1.1, hk_.1.2.1, hk_.1.2.2⟩)); have n3_ := Aside0.mk (Kd.R_mono (ok' := fun k_ => some k_ ≠ (.slice Ao63 t288.length co63 : Value).ownBlock) (Kd.R_keptB ((Kd.R_apart' HO_279000.out (Kd.R_typed HO_10.out) (by decide))) hkp (fun k_ hk_ hs_ => (hk_.2) hs_)) (fun k_ hk_ => hk_.1.1.2)); have n4_ := Aside0.mk (blk_kept (bq BK259) hkp (fun hs_ => (fun e_ => (Kd.R_ne HO_10.out BK259.out (by decide)) e_) hs_)); have n5_ := Aside0.mk (blk_kept (bq BK278) hkp (fun hs_ => (fun e_ => (Kd.R_ne HO_10.out BK278.out (by decide)) e_) hs_)); have n6_ := Aside0.mk (Kd.R_mono (ok' := fun k_ => some k_ ≠ (.slice Ao32 t274.length co32 : Value).ownBlock) (Kd.R_keptB ((Kd.R_apart' HO290.out (Kd.R_typed HO_10.out) (by decide))) hkp (fun k_ hk_ hs_ => (hk_.2) hs_)) (fun k_ hk_ => hk_.1.1)); have n7_ := Aside0.mk (Kd.R_mono (ok' := fun k_ => some k_ ≠ (v270 : Value).ownBlock ∧ some k_ ≠ (.slice Ao37 t279.length co37 : Value).ownBlock ∧ some k_ ≠ (v283 : Value).ownBlock) (Kd.R_keptB (HO295.out) hkp (fun k_ hk_ hs_ => (hk_.2.1) hs_)) (fun k_ hk_ => ⟨hk_.1.1, hk_.1.2.1, hk_.1.2.2⟩)); have n8_ := Aside0.mk (hb); clear HO_6; clear HO_10; clear HO_11; clear HO_279000; clear BK259; clear BK278; clear HO290; clear HO295; clear HB; have HO_6 := n0_; have HO_10 := n1_; have HO_11 := n2_; have HO_279000 := n3_; have BK259 := n4_; have BK278 := n5_; have HO290 := n6_; have HO295 := n7_; have HB := n8_; clear n0_ n1_ n2_ n3_ n4_ n5_ n6_ n7_ n8_; (try clear hb); (try clear hkp); (try clear hy0)))
                (try simp only [Act.put, List.setIfInBounds_toArray, List.set_cons_zero, List.set_cons_succ])
                go_cut [97] (fun v97 wc => ∃ (kq : Nat) (x97_59 : Bool), v97 = .bool x97_59 ∧ Aside0 (laws_FnExactFoldScore.j1 kq l1 t269 t272 t273 t282 x97_59 l0_0 a0_1 = some r) ∧ Aside0 (kq ≤ kj18) ∧ Aside0 (Kd.R k90 90 wc w.heap.size (fun k_ => some k_ ≠ (v283 : Value).ownBlock) v270 t269) ∧ Aside0 (Kd.R k90 90 wc w.heap.size (fun k_ => some k_ ≠ (v270 : Value).ownBlock) v283 t282) ∧ Aside0 (Kd.R (Kd.int .i64) 3 wc w.heap.size (fun _ => True) (.slice Ao32 t274.length co32) t298) ∧ Aside0 (wc.heap[gb259]? = some (.cells #[(.slice A0_0 l0_0.length c0_0), .int .i64 a0_1] 24 (0, 0))) ∧ Aside0 (wc.heap[gb278]? = some (.cells #[(.slice Ao32 t274.length co32), .int .i64 t277] 28 (0, 0))) ∧ Aside0 (Below w.heap.size w wc))
                case first =>
                  have H := HC60.out
                  clear HC60
                  by_cases c72 : t299 < 0
                  · rw [if_pos c72] at H
                    have c72b0 : decide (t299 < 0) = true := decide_eq_true c72
                    clear c72
                    (first | rw [c72b0] | (simp only [i64_w, i32_w]; rw [c72b0]) | skip)
                    have H' := Aside0.mk H
                    clear H
                    go_wp2
                    go_meet
                    case rel => exact ⟨_, (true), (by first | rfl | (simp; done) | (simp [*]; done)), H', ⟨by have := HJ18.out; first | omega | exact Nat.le_refl _⟩, ⟨by (with_reducible repeat (first | apply Kd.R_alloc | apply Kd.R_drewN | apply Kd.R_drew)); exact Kd.R_mono HO_6.out (fun _ hk => hk.2.1)⟩, ⟨by (with_reducible repeat (first | apply Kd.R_alloc | apply Kd.R_drewN | apply Kd.R_drew)); exact Kd.R_mono HO_11.out (fun _ hk => hk.1)⟩, ⟨by (with_reducible repeat (first | apply Kd.R_alloc | apply Kd.R_drewN | apply Kd.R_drew)); exact Kd.R_mono HO_279000.out (fun _ hk => trivial)⟩, ⟨bq BK259⟩, ⟨bq BK278⟩, ⟨eq2 HB GE259 GE278⟩⟩
                  · rw [if_neg c72] at H
                    have c72b0 : decide (t299 < 0) = false := decide_eq_false c72
                    clear c72
                    (first | rw [c72b0] | (simp only [i64_w, i32_w]; rw [c72b0]) | skip)
                    replace H := Option.bind_eq_some_iff.mp H
                    obtain ⟨t301, A730, H⟩ := H
                    replace H : (if t301 = true then (if t285 = t272 then (laws_FnExactFoldScore.j1 kj18 l1 t269 t272 t273 t282 (t286 != t273) l0_0 a0_1) else (laws_FnExactFoldScore.j1 kj18 l1 t269 t272 t273 t282 true l0_0 a0_1)) else (laws_FnExactFoldScore.j1 kj18 l1 t269 t272 t273 t282 true l0_0 a0_1)) = some r := H
                    have A73 := Aside0.mk A730
                    clear A730
                    by_cases c74 : t301 = true
                    · subst c74
                      have H1 : (if t285 = t272 then (laws_FnExactFoldScore.j1 kj18 l1 t269 t272 t273 t282 (t286 != t273) l0_0 a0_1) else (laws_FnExactFoldScore.j1 kj18 l1 t269 t272 t273 t282 true l0_0 a0_1)) = some r := by rw [if_pos rfl] at H; exact H
                      clear H
                      have H := H1
                      clear H1
                      by_cases c75 : t285 = t272
                      · rw [if_pos c75] at H
                        have c75b0 : (t285 == t272) = true := beq_iff_eq.mpr c75
                        have c75b1 : (t285 != t272) = false := bne_eq_false_iff_eq.mpr c75
                        clear c75
                        have H' := Aside0.mk H
                        clear H
                        obtain ⟨Ao76, co76, eo76⟩ := Kd.R_slice HO_11.out
                        subst eo76
                        obtain ⟨Ao77, co77, eo77⟩ := Kd.R_slice HO_6.out
                        subst eo77
                        go_wp2_with (first | (go_at_call 25; (with_reducible refine (laws_eqNoteS.calls kj18 _ _ t282 _ _ t269 true _ ?side1 ?side2 ?side3 ?side4 A73.out).mono ?_); (case side1 => repeat (first | exact (Kd.R_reads' HO_11.out).2.2 | (with_reducible refine Kd.C_alloc ?_ _) | (with_reducible refine Kd.C_drewN ?_ _) | (with_reducible refine Kd.C_drew ?_))); (case side2 => exact (Kd.R_reads' HO_11.out).2.1); (case side3 => repeat (first | exact (Kd.R_reads' HO_6.out).2.2 | (with_reducible refine Kd.C_alloc ?_ _) | (with_reducible refine Kd.C_drewN ?_ _) | (with_reducible refine Kd.C_drew ?_))); (case side4 => exact (Kd.R_reads' HO_6.out).2.1); rintro e w78 ⟨rfl, hb⟩; have n0_ := Aside0.mk (Kd.R_below (kq HO_6) hb); have n1_ := Aside0.mk (Kd.R_below (kq HO_10) hb); have n2_ := Aside0.mk (Kd.R_below (kq HO_11) hb); have n3_ := Aside0.mk (Kd.R_below (kq HO_279000) hb); have n4_ := Aside0.mk (Kd.R_below (kq HO290) hb); have n5_ := Aside0.mk (Kd.R_below (kq HO295) hb); have n6_ := Aside0.mk (blk_below (g := gb259) (o := .cells #[.slice A0_0 l0_0.length c0_0, .int .i64 a0_1] 24 (0, 0)) (bq BK259) hb); have n7_ := Aside0.mk (blk_below (g := gb278) (o := .cells #[.slice Ao32 t274.length co32, .int .i64 t277] 28 (0, 0)) (bq BK278) hb); have n8_ := Aside0.mk (below_step (eq2 HB GE259 GE278) hb); clear HO_6; clear HO_10; clear HO_11; clear HO_279000; clear HO290; clear HO295; clear BK259; clear BK278; clear HB; have HO_6 := n0_; have HO_10 := n1_; have HO_11 := n2_; have HO_279000 := n3_; have HO290 := n4_; have HO295 := n5_; have BK259 := n6_; have BK278 := n7_; have HB := n8_; clear n0_ n1_ n2_ n3_ n4_ n5_ n6_ n7_ n8_; (try clear hb); (try clear hb2); (try clear hk); (try clear hi)))
                        go_meet
                        case rel => exact ⟨_, ((t286 != t273)), (by first | rfl | (simp; done) | (simp [*]; done)), H', ⟨by have := HJ18.out; first | omega | exact Nat.le_refl _⟩, ⟨by (with_reducible repeat (first | apply Kd.R_alloc | apply Kd.R_drewN | apply Kd.R_drew)); exact Kd.R_mono HO_6.out (fun _ hk => hk.2.1)⟩, ⟨by (with_reducible repeat (first | apply Kd.R_alloc | apply Kd.R_drewN | apply Kd.R_drew)); exact Kd.R_mono HO_11.out (fun _ hk => hk.1)⟩, ⟨by (with_reducible repeat (first | apply Kd.R_alloc | apply Kd.R_drewN | apply Kd.R_drew)); exact Kd.R_mono HO_279000.out (fun _ hk => trivial)⟩, ⟨bq BK259⟩, ⟨bq BK278⟩, ⟨eq2 HB GE259 GE278⟩⟩
                      · rw [if_neg c75] at H
                        have c75b0 : (t285 == t272) = false := beq_eq_false_iff_ne.mpr c75
                        have c75b1 : (t285 != t272) = true := bne_iff_ne.mpr c75
                        have H' := Aside0.mk H
                        clear H
                        obtain ⟨Ao79, co79, eo79⟩ := Kd.R_slice HO_11.out
                        subst eo79
                        obtain ⟨Ao80, co80, eo80⟩ := Kd.R_slice HO_6.out
                        subst eo80
                        go_wp2_with (first | (go_at_call 25; (with_reducible refine (laws_eqNoteS.calls kj18 _ _ t282 _ _ t269 true _ ?side1 ?side2 ?side3 ?side4 A73.out).mono ?_); (case side1 => repeat (first | exact (Kd.R_reads' HO_11.out).2.2 | (with_reducible refine Kd.C_alloc ?_ _) | (with_reducible refine Kd.C_drewN ?_ _) | (with_reducible refine Kd.C_drew ?_))); (case side2 => exact (Kd.R_reads' HO_11.out).2.1); (case side3 => repeat (first | exact (Kd.R_reads' HO_6.out).2.2 | (with_reducible refine Kd.C_alloc ?_ _) | (with_reducible refine Kd.C_drewN ?_ _) | (with_reducible refine Kd.C_drew ?_))); (case side4 => exact (Kd.R_reads' HO_6.out).2.1); rintro e w81 ⟨rfl, hb⟩; have n0_ := Aside0.mk (Kd.R_below (kq HO_6) hb); have n1_ := Aside0.mk (Kd.R_below (kq HO_10) hb); have n2_ := Aside0.mk (Kd.R_below (kq HO_11) hb); have n3_ := Aside0.mk (Kd.R_below (kq HO_279000) hb); have n4_ := Aside0.mk (Kd.R_below (kq HO290) hb); have n5_ := Aside0.mk (Kd.R_below (kq HO295) hb); have n6_ := Aside0.mk (blk_below (g := gb259) (o := .cells #[.slice A0_0 l0_0.length c0_0, .int .i64 a0_1] 24 (0, 0)) (bq BK259) hb); have n7_ := Aside0.mk (blk_below (g := gb278) (o := .cells #[.slice Ao32 t274.length co32, .int .i64 t277] 28 (0, 0)) (bq BK278) hb); have n8_ := Aside0.mk (below_step (eq2 HB GE259 GE278) hb); clear HO_6; clear HO_10; clear HO_11; clear HO_279000; clear HO290; clear HO295; clear BK259; clear BK278; clear HB; have HO_6 := n0_; have HO_10 := n1_; have HO_11 := n2_; have HO_279000 := n3_; have HO290 := n4_; have HO295 := n5_; have BK259 := n6_; have BK278 := n7_; have HB := n8_; clear n0_ n1_ n2_ n3_ n4_ n5_ n6_ n7_ n8_; (try clear hb); (try clear hb2); (try clear hk); (try clear hi)))
                        go_meet
                        case rel => exact ⟨_, (true), (by first | rfl | (simp; done) | (simp [*]; done)), H', ⟨by have := HJ18.out; first | omega | exact Nat.le_refl _⟩, ⟨by (with_reducible repeat (first | apply Kd.R_alloc | apply Kd.R_drewN | apply Kd.R_drew)); exact Kd.R_mono HO_6.out (fun _ hk => hk.2.1)⟩, ⟨by (with_reducible repeat (first | apply Kd.R_alloc | apply Kd.R_drewN | apply Kd.R_drew)); exact Kd.R_mono HO_11.out (fun _ hk => hk.1)⟩, ⟨by (with_reducible repeat (first | apply Kd.R_alloc | apply Kd.R_drewN | apply Kd.R_drew)); exact Kd.R_mono HO_279000.out (fun _ hk => trivial)⟩, ⟨bq BK259⟩, ⟨bq BK278⟩, ⟨eq2 HB GE259 GE278⟩⟩
                    · replace c74 := Bool.eq_false_iff.mpr c74
                      subst c74
                      have H1 : (laws_FnExactFoldScore.j1 kj18 l1 t269 t272 t273 t282 true l0_0 a0_1) = some r := by rw [if_neg (show ¬ (false = true) by decide)] at H; exact H
                      clear H
                      have H := H1
                      clear H1
                      have H' := Aside0.mk H
                      clear H
                      obtain ⟨Ao82, co82, eo82⟩ := Kd.R_slice HO_11.out
                      subst eo82
                      obtain ⟨Ao83, co83, eo83⟩ := Kd.R_slice HO_6.out
                      subst eo83
                      go_wp2_with (first | (go_at_call 25; (with_reducible refine (laws_eqNoteS.calls kj18 _ _ t282 _ _ t269 false _ ?side1 ?side2 ?side3 ?side4 A73.out).mono ?_); (case side1 => repeat (first | exact (Kd.R_reads' HO_11.out).2.2 | (with_reducible refine Kd.C_alloc ?_ _) | (with_reducible refine Kd.C_drewN ?_ _) | (with_reducible refine Kd.C_drew ?_))); (case side2 => exact (Kd.R_reads' HO_11.out).2.1); (case side3 => repeat (first | exact (Kd.R_reads' HO_6.out).2.2 | (with_reducible refine Kd.C_alloc ?_ _) | (with_reducible refine Kd.C_drewN ?_ _) | (with_reducible refine Kd.C_drew ?_))); (case side4 => exact (Kd.R_reads' HO_6.out).2.1); rintro e w84 ⟨rfl, hb⟩; have n0_ := Aside0.mk (Kd.R_below (kq HO_6) hb); have n1_ := Aside0.mk (Kd.R_below (kq HO_10) hb); have n2_ := Aside0.mk (Kd.R_below (kq HO_11) hb); have n3_ := Aside0.mk (Kd.R_below (kq HO_279000) hb); have n4_ := Aside0.mk (Kd.R_below (kq HO290) hb); have n5_ := Aside0.mk (Kd.R_below (kq HO295) hb); have n6_ := Aside0.mk (blk_below (g := gb259) (o := .cells #[.slice A0_0 l0_0.length c0_0, .int .i64 a0_1] 24 (0, 0)) (bq BK259) hb); have n7_ := Aside0.mk (blk_below (g := gb278) (o := .cells #[.slice Ao32 t274.length co32, .int .i64 t277] 28 (0, 0)) (bq BK278) hb); have n8_ := Aside0.mk (below_step (eq2 HB GE259 GE278) hb); clear HO_6; clear HO_10; clear HO_11; clear HO_279000; clear HO290; clear HO295; clear BK259; clear BK278; clear HB; have HO_6 := n0_; have HO_10 := n1_; have HO_11 := n2_; have HO_279000 := n3_; have HO290 := n4_; have HO295 := n5_; have BK259 := n6_; have BK278 := n7_; have HB := n8_; clear n0_ n1_ n2_ n3_ n4_ n5_ n6_ n7_ n8_; (try clear hb); (try clear hb2); (try clear hk); (try clear hi)))
                      go_meet
                      case rel => exact ⟨_, (true), (by first | rfl | (simp; done) | (simp [*]; done)), H', ⟨by have := HJ18.out; first | omega | exact Nat.le_refl _⟩, ⟨by (with_reducible repeat (first | apply Kd.R_alloc | apply Kd.R_drewN | apply Kd.R_drew)); exact Kd.R_mono HO_6.out (fun _ hk => hk.2.1)⟩, ⟨by (with_reducible repeat (first | apply Kd.R_alloc | apply Kd.R_drewN | apply Kd.R_drew)); exact Kd.R_mono HO_11.out (fun _ hk => hk.1)⟩, ⟨by (with_reducible repeat (first | apply Kd.R_alloc | apply Kd.R_drewN | apply Kd.R_drew)); exact Kd.R_mono HO_279000.out (fun _ hk => trivial)⟩, ⟨bq BK259⟩, ⟨bq BK278⟩, ⟨eq2 HB GE259 GE278⟩⟩
                case rest =>
                  clear HC60
                  try clear c1
                  try clear c2
                  try clear p2
                  try clear c3
                  try clear c4
                  try clear c4b0
                  try clear c5
                  try clear c6
                  try clear c7
                  try clear c9
                  try clear c9b0
                  try clear c11
                  try clear c14
                  try clear c16
                  try clear c18
                  try clear c21
                  try clear c23
                  try clear c25
                  try clear c31
                  try clear c32
                  try clear c33
                  try clear c40
                  try clear c41
                  try clear c41b0
                  try clear c41b1
                  try clear c42
                  try clear c51
                  try clear c54
                  try clear c57
                  try clear c68
                  try clear c72
                  try clear c72b0
                  try clear c74
                  try clear c75
                  try clear c75b0
                  try clear c75b1
                  try clear hcz11_0
                  try clear hcz11_1
                  try clear hcz21_0
                  try clear hcz21_1
                  try clear hcz23_0
                  try clear hcz23_1
                  try clear hcz29_0
                  try clear hcz29_1
                  try clear hcz34_0
                  try clear hcz34_1
                  try clear hcz36_0
                  try clear hcz36_1
                  try clear hcz69_0
                  try clear hcz69_1
                  try clear hcz6_0
                  try clear hcz6_1
                  try clear hfz11_0
                  try clear hfz11_1
                  try clear hfz21_0
                  try clear hfz21_1
                  try clear hfz23_0
                  try clear hfz23_1
                  try clear hfz29_0
                  try clear hfz29_1
                  try clear hfz34_0
                  try clear hfz34_1
                  try clear hfz36_0
                  try clear hfz36_1
                  try clear hfz69_0
                  try clear hfz69_1
                  try clear hfz6_0
                  try clear hfz6_1
                  try clear p2
                  obtain ⟨kq, x97_59, rfl, HA, HJ59, HO_6, HO_11, HO_279000, BK259, BK278, HB⟩ := hcut
                  have hl279000_59 := (Kd.R_reads' HO_279000.out).1
                  rw [hl279000_59] at HO_279000
                  (try simp only [hl279000_59])
                  (try simp only [hl279000_59] at BK259)
                  (try simp only [hl279000_59] at BK278)
                  (try simp only [hl279000_59] at HO_6)
                  (try simp only [hl279000_59] at HO_11)
                  cases kq with
                  | zero => exact absurd HA.out (by simp [laws_FnExactFoldScore.j1])
                  | succ kj59 =>
                    have H := HA.out
                    clear HA
                    simp only [laws_FnExactFoldScore.j1] at H
                    by_cases c85 : x97_59 = true
                    · subst c85
                      have H1 : (some false) = some r := by rw [if_pos rfl] at H; exact H
                      clear H
                      have H := H1
                      clear H1
                      obtain rfl := Option.some.inj H
                      go_wp2
                      go_ret
                      exact ⟨by first | rfl | (simp [errW_none, errW_some] <;> rfl) | (simp [*, errW_none, errW_some] <;> rfl), eq2 HB GE259 GE278⟩
                    · replace c85 := Bool.eq_false_iff.mpr c85
                      subst c85
                      have H1 : ((laws_markNoteS.f kj59 t282 1).bind fun bt302 => ((laws_heldNoteS.f kj59 bt302.2 1).bind fun t304 => (if t304 < 0 then (some false) else (if t304 = bt302.1 then ((laws_toInstrument.f kj59 l0_0 a0_1).bind fun bt305 => ((laws_toNoteS.f kj59 l1).bind fun t309 => ((impl_FoldScore.f kj59 bt305.1 bt305.2 t309).bind fun bt312 => ((laws_eqNoteS.f kj59 bt312.1 t269).bind fun t317 => (if t317 = true then (if bt312.2.1 = t272 then (laws_FnExactFoldScore.j2 kj59 bt302.2 bt302.1 (bt312.2.2 != t273)) else (laws_FnExactFoldScore.j2 kj59 bt302.2 bt302.1 true)) else (laws_FnExactFoldScore.j2 kj59 bt302.2 bt302.1 true)))))) else (some false))))) = some r := by rw [if_neg (show ¬ (false = true) by decide)] at H; exact H
                      clear H
                      have H := H1
                      clear H1
                      replace H := Option.bind_eq_some_iff.mp H
                      obtain ⟨⟨t302, t303⟩, A860, H⟩ := H
                      replace H : ((laws_heldNoteS.f kj59 t303 1).bind fun t304 => (if t304 < 0 then (some false) else (if t304 = t302 then ((laws_toInstrument.f kj59 l0_0 a0_1).bind fun bt305 => ((laws_toNoteS.f kj59 l1).bind fun t309 => ((impl_FoldScore.f kj59 bt305.1 bt305.2 t309).bind fun bt312 => ((laws_eqNoteS.f kj59 bt312.1 t269).bind fun t317 => (if t317 = true then (if bt312.2.1 = t272 then (laws_FnExactFoldScore.j2 kj59 t303 t302 (bt312.2.2 != t273)) else (laws_FnExactFoldScore.j2 kj59 t303 t302 true)) else (laws_FnExactFoldScore.j2 kj59 t303 t302 true)))))) else (some false)))) = some r := H
                      have A86 := Aside0.mk A860
                      clear A860
                      replace H := Option.bind_eq_some_iff.mp H
                      obtain ⟨t304, A870, H⟩ := H
                      replace H : (if t304 < 0 then (some false) else (if t304 = t302 then ((laws_toInstrument.f kj59 l0_0 a0_1).bind fun bt305 => ((laws_toNoteS.f kj59 l1).bind fun t309 => ((impl_FoldScore.f kj59 bt305.1 bt305.2 t309).bind fun bt312 => ((laws_eqNoteS.f kj59 bt312.1 t269).bind fun t317 => (if t317 = true then (if bt312.2.1 = t272 then (laws_FnExactFoldScore.j2 kj59 t303 t302 (bt312.2.2 != t273)) else (laws_FnExactFoldScore.j2 kj59 t303 t302 true)) else (laws_FnExactFoldScore.j2 kj59 t303 t302 true)))))) else (some false))) = some r := H
                      have A87 := Aside0.mk A870
                      clear A870
                      by_cases c88 : t304 < 0
                      · rw [if_pos c88] at H
                        have c88b0 : decide (t304 < 0) = true := decide_eq_true c88
                        clear c88
                        obtain rfl := Option.some.inj H
                        obtain ⟨Ao89, co89, eo89⟩ := Kd.R_slice HO_11.out
                        subst eo89
                        go_wp2_with (first | ((with_reducible refine gate_callee (f := 32) rfl ?_); refine goesL_ (some 100) rfl rfl Try.func32 (by kernel_rfl) rfl #[.slice Ao89 t282.length co89, .int .i64 1] rfl (by (try simp only [List.map_toArray, List.map_cons, List.map_nil]); first | done | rfl | (simp only [List.length_drop, List.length_take]; rfl)) ?_; (with_reducible refine (laws_markNoteS.calls kj59 (fun k_ => some k_ = (.slice Ao89 t282.length co89 : Value).ownBlock) (.slice Ao89 t282.length co89) t282 1 t302 t303 w _ ?side1 ?side2 A86.out).mono ?_); (case side1 => repeat (first | (with_reducible first | exact HB.out | apply below_alloc | apply pw_below_drewN | apply below_drew1 | refine below_set ?_ GE259.out | refine below_set ?_ GE278.out) | exact HB.out)); (case side2 => exact Kd.R_tight rfl HO_11.out); rintro e w90 ⟨rfl, hy0, hb, hkp⟩; refine ⟨_, rfl, ?_⟩; have n0_ := Aside0.mk (Kd.R_mono (ok' := fun k_ => some k_ ≠ (.slice Ao89 t282.length co89 : Value).ownBlock) (Kd.R_keptB (HO_6.out) hkp (fun k_ hk_ hs_ => (hk_) hs_)) (fun k_ hk_ => hk_.1)); have n1_ := Aside0.mk (Kd.R_reok rfl hy0 (fun k_ e_ => HO_11.out.1 k_ e_)); have n2_ := Aside0.mk (Kd.R_mono (ok' := fun k_ => True) (Kd.R_keptB ((Kd.R_apart' HO_279000.out (Kd.R_typed HO_11.out) (by decide))) hkp (fun k_ hk_ hs_ => (hk_.2) hs_)) (fun k_ hk_ => trivial)); have n3_ := Aside0.mk (blk_kept (bq BK259) hkp (fun hs_ => (fun e_ => (Kd.R_ne HO_11.out BK259.out (by decide)) e_) hs_)); have n4_ := Aside0.mk (blk_kept (bq BK278) hkp (fun hs_ => (fun e_ => (Kd.R_ne HO_11.out BK278.out (by decide)) e_) hs_)); have n5_ := Aside0.mk (hb); clear HO_6; clear HO_11; clear HO_279000; clear BK259; clear BK278; clear HB; have HO_6 := n0_; have HO_11 := n1_; have HO_279000 := n2_; have BK259 := n3_; have BK278 := n4_; have HB := n5_; clear n0_ n1_ n2_ n3_ n4_ n5_; (try clear hb); (try clear hkp); (try clear hy0)) | ((with_reducible refine gate_callee (f := 43) rfl ?_); refine goesL_ (some 103) rfl rfl Try.func43 (by kernel_rfl) rfl #[.slice Ao89 t303.length co89, .int .i64 1] rfl (by (try simp only [List.map_toArray, List.map_cons, List.map_nil]); first | done | (rw [show t303.length = t282.length from (Kd.R_reads' HO_11.out).1.symm] <;> rfl) | rfl | (simp only [List.length_drop, List.length_take]; rfl)) ?_; (with_reducible refine (laws_heldNoteS.calls kj59 _ _ t303 1 t304 _ ?side1 ?side2 A87.out).mono ?_); (case side1 => repeat (first | exact (Kd.R_reads' HO_11.out).2.2 | (with_reducible refine Kd.C_alloc ?_ _) | (with_reducible refine Kd.C_drewN ?_ _) | (with_reducible refine Kd.C_drew ?_))); (case side2 => rw [show t303.length = t282.length from (Kd.R_reads' HO_11.out).1.symm]; exact (Kd.R_reads' HO_11.out).2.1); rintro e w' ⟨rfl, ⟨nd, rfl⟩⟩; refine ⟨_, rfl, ?_⟩))
                        go_ret
                        exact ⟨by first | rfl | (simp [errW_none, errW_some] <;> rfl) | (simp [*, errW_none, errW_some] <;> rfl), eq2 HB GE259 GE278⟩
                      · rw [if_neg c88] at H
                        have c88b0 : decide (t304 < 0) = false := decide_eq_false c88
                        clear c88
                        by_cases c91 : t304 = t302
                        · rw [if_pos c91] at H
                          have c91b0 : (t304 == t302) = true := beq_iff_eq.mpr c91
                          have c91b1 : (t304 != t302) = false := bne_eq_false_iff_eq.mpr c91
                          clear c91
                          replace H := Option.bind_eq_some_iff.mp H
                          obtain ⟨⟨t305, t308⟩, A920, H⟩ := H
                          replace H : ((laws_toNoteS.f kj59 l1).bind fun t309 => ((impl_FoldScore.f kj59 t305 t308 t309).bind fun bt312 => ((laws_eqNoteS.f kj59 bt312.1 t269).bind fun t317 => (if t317 = true then (if bt312.2.1 = t272 then (laws_FnExactFoldScore.j2 kj59 t303 t302 (bt312.2.2 != t273)) else (laws_FnExactFoldScore.j2 kj59 t303 t302 true)) else (laws_FnExactFoldScore.j2 kj59 t303 t302 true))))) = some r := H
                          have A92 := Aside0.mk A920
                          clear A920
                          replace H := Option.bind_eq_some_iff.mp H
                          obtain ⟨t309, A930, H⟩ := H
                          replace H : ((impl_FoldScore.f kj59 t305 t308 t309).bind fun bt312 => ((laws_eqNoteS.f kj59 bt312.1 t269).bind fun t317 => (if t317 = true then (if bt312.2.1 = t272 then (laws_FnExactFoldScore.j2 kj59 t303 t302 (bt312.2.2 != t273)) else (laws_FnExactFoldScore.j2 kj59 t303 t302 true)) else (laws_FnExactFoldScore.j2 kj59 t303 t302 true)))) = some r := H
                          have A93 := Aside0.mk A930
                          clear A930
                          replace H := Option.bind_eq_some_iff.mp H
                          obtain ⟨⟨t312, t315, t316⟩, A940, H⟩ := H
                          replace H : ((laws_eqNoteS.f kj59 t312 t269).bind fun t317 => (if t317 = true then (if t315 = t272 then (laws_FnExactFoldScore.j2 kj59 t303 t302 (t316 != t273)) else (laws_FnExactFoldScore.j2 kj59 t303 t302 true)) else (laws_FnExactFoldScore.j2 kj59 t303 t302 true))) = some r := H
                          have A94 := Aside0.mk A940
                          clear A940
                          have HC95 := Aside0.mk H
                          clear H
                          obtain ⟨Ao96, co96, eo96⟩ := Kd.R_slice HO_11.out
                          subst eo96
                          go_upto_region 32 with (first | ((with_reducible refine gate_callee (f := 32) rfl ?_); refine goesL_ (some 100) rfl rfl Try.func32 (by kernel_rfl) rfl #[.slice Ao96 t282.length co96, .int .i64 1] rfl (by (try simp only [List.map_toArray, List.map_cons, List.map_nil]); first | done | rfl | (simp only [List.length_drop, List.length_take]; rfl)) ?_; (with_reducible refine (laws_markNoteS.calls kj59 (fun k_ => some k_ = (.slice Ao96 t282.length co96 : Value).ownBlock) (.slice Ao96 t282.length co96) t282 1 t302 t303 w _ ?side1 ?side2 A86.out).mono ?_); (case side1 => repeat (first | (with_reducible first | exact HB.out | apply below_alloc | apply pw_below_drewN | apply below_drew1 | refine below_set ?_ GE259.out | refine below_set ?_ GE278.out) | exact HB.out)); (case side2 => exact Kd.R_tight rfl HO_11.out); rintro e w97 ⟨rfl, hy0, hb, hkp⟩; refine ⟨_, rfl, ?_⟩; have n0_ := Aside0.mk (Kd.R_mono (ok' := fun k_ => some k_ ≠ (.slice Ao96 t282.length co96 : Value).ownBlock) (Kd.R_keptB (HO_6.out) hkp (fun k_ hk_ hs_ => (hk_) hs_)) (fun k_ hk_ => hk_.1)); have n1_ := Aside0.mk (Kd.R_reok rfl hy0 (fun k_ e_ => HO_11.out.1 k_ e_)); have n2_ := Aside0.mk (Kd.R_mono (ok' := fun k_ => True) (Kd.R_keptB ((Kd.R_apart' HO_279000.out (Kd.R_typed HO_11.out) (by decide))) hkp (fun k_ hk_ hs_ => (hk_.2) hs_)) (fun k_ hk_ => trivial)); have n3_ := Aside0.mk (blk_kept (bq BK259) hkp (fun hs_ => (fun e_ => (Kd.R_ne HO_11.out BK259.out (by decide)) e_) hs_)); have n4_ := Aside0.mk (blk_kept (bq BK278) hkp (fun hs_ => (fun e_ => (Kd.R_ne HO_11.out BK278.out (by decide)) e_) hs_)); have n5_ := Aside0.mk (hb); clear HO_6; clear HO_11; clear HO_279000; clear BK259; clear BK278; clear HB; have HO_6 := n0_; have HO_11 := n1_; have HO_279000 := n2_; have BK259 := n3_; have BK278 := n4_; have HB := n5_; clear n0_ n1_ n2_ n3_ n4_ n5_; (try clear hb); (try clear hkp); (try clear hy0)) | ((with_reducible refine gate_callee (f := 43) rfl ?_); refine goesL_ (some 103) rfl rfl Try.func43 (by kernel_rfl) rfl #[.slice Ao96 t303.length co96, .int .i64 1] rfl (by (try simp only [List.map_toArray, List.map_cons, List.map_nil]); first | done | (rw [show t303.length = t282.length from (Kd.R_reads' HO_11.out).1.symm] <;> rfl) | rfl | (simp only [List.length_drop, List.length_take]; rfl)) ?_; (with_reducible refine (laws_heldNoteS.calls kj59 _ _ t303 1 t304 _ ?side1 ?side2 A87.out).mono ?_); (case side1 => repeat (first | exact (Kd.R_reads' HO_11.out).2.2 | (with_reducible refine Kd.C_alloc ?_ _) | (with_reducible refine Kd.C_drewN ?_ _) | (with_reducible refine Kd.C_drew ?_))); (case side2 => rw [show t303.length = t282.length from (Kd.R_reads' HO_11.out).1.symm]; exact (Kd.R_reads' HO_11.out).2.1); rintro e w' ⟨rfl, ⟨nd, rfl⟩⟩; refine ⟨_, rfl, ?_⟩; have hnb98 := NB259_278.out; have hnc98 := NB278_259.out; have hcz99_0 : w97.cell? ⟨gb259, 0, none⟩ = some (.slice A0_0 l0_0.length c0_0) := (blk_cell BK259.out 0).trans rfl; have hcz99_1 : w97.cell? ⟨gb259, 1, none⟩ = some (.int .i64 a0_1) := (blk_cell BK259.out 1).trans rfl; have hfz99_0 := blk_frozen BK259.out 0; have hfz99_1 := blk_frozen BK259.out 1) | ((with_reducible refine gate_callee (f := 16) rfl ?_); refine goesL_ (some 111) rfl rfl Try.func16 (by kernel_rfl) rfl #[.agg #[.slice A0_0 l0_0.length c0_0, .int .i64 a0_1]] rfl (by (try simp only [List.map_toArray, List.map_cons, List.map_nil]); first | done | rfl | (simp only [List.length_drop, List.length_take]; rfl)) ?_; (with_reducible refine (laws_toInstrument.calls kj59 _ _ l0_0 a0_1 t305 t308 _ ?side1 ?side2 A92.out).mono ?_); (case side1 => repeat (first | exact (Kd.C_below HR0_0.out (eq2 HB GE259 GE278)) | (with_reducible refine Kd.C_alloc ?_ _) | (with_reducible refine Kd.C_drewN ?_ _) | (with_reducible refine Kd.C_drew ?_))); (case side2 => exact HC0_0.out); rintro e w100 ⟨v306, rfl, ho0, hb⟩; refine ⟨_, rfl, ?_⟩; have n0_ := Aside0.mk (Kd.R_below (kq HO_6) hb); have n1_ := Aside0.mk (Kd.R_below (kq HO_11) hb); have n2_ := Aside0.mk (Kd.R_elder' (kq HO_279000) (Kd.R_base ho0) hb); have n3_ := Aside0.mk (Kd.R_lower (Kd.R_new' ho0 (Kd.R_lt (kq HO_279000))) (below_size (eq2 HB GE259 GE278))); have n4_ := Aside0.mk (blk_below (g := gb259) (o := .cells #[.slice A0_0 l0_0.length c0_0, .int .i64 a0_1] 24 (0, 0)) (bq BK259) hb); have n5_ := Aside0.mk (blk_below (g := gb278) (o := .cells #[.slice Ao32 t298.length co32, .int .i64 t277] 28 (0, 0)) (bq BK278) hb); have n6_ := Aside0.mk (below_step (eq2 HB GE259 GE278) hb); clear HO_6; clear HO_11; clear HO_279000; clear BK259; clear BK278; clear HB; have HO_6 := n0_; have HO_11 := n1_; have HO_279000 := n2_; have HO307 := n3_; have BK259 := n4_; have BK278 := n5_; have HB := n6_; clear n0_ n1_ n2_ n3_ n4_ n5_ n6_; (try clear hb); (try clear hb2); (try clear hk); (try clear hi); (try clear ho0)) | ((with_reducible refine gate_callee (f := 23) rfl ?_); refine goesL_ (some 113) rfl rfl Try.func23 (by kernel_rfl) rfl #[.slice A1 l1.length c1] rfl (by (try simp only [List.map_toArray, List.map_cons, List.map_nil]); first | done | rfl | (simp only [List.length_drop, List.length_take]; rfl)) ?_; (with_reducible refine (laws_toNoteS.calls kj59 _ _ l1 t309 _ ?side1 ?side2 A93.out).mono ?_); (case side1 => repeat (first | exact (Kd.C_below HR1.out HB.out) | (with_reducible refine Kd.C_alloc ?_ _) | (with_reducible refine Kd.C_drewN ?_ _) | (with_reducible refine Kd.C_drew ?_))); (case side2 => exact HC1.out); rintro e w101 ⟨v310, rfl, ho0, hb⟩; refine ⟨_, rfl, ?_⟩; have n0_ := Aside0.mk (Kd.R_elder' (kq HO_6) (Kd.R_base ho0) hb); have n1_ := Aside0.mk (Kd.R_elder' (kq HO_11) (Kd.R_base ho0) hb); have n2_ := Aside0.mk (Kd.R_below (kq HO_279000) hb); have n3_ := Aside0.mk (Kd.R_below (kq HO307) hb); have n4_ := Aside0.mk (Kd.R_lower (Kd.R_new' (Kd.R_new' ho0 (Kd.R_lt (kq HO_6))) (Kd.R_lt (kq HO_11))) (below_size (eq2 HB GE259 GE278))); have n5_ := Aside0.mk (blk_below (g := gb259) (o := .cells #[.slice A0_0 l0_0.length c0_0, .int .i64 a0_1] 24 (0, 0)) (bq BK259) hb); have n6_ := Aside0.mk (blk_below (g := gb278) (o := .cells #[.slice Ao32 t298.length co32, .int .i64 t277] 28 (0, 0)) (bq BK278) hb); have n7_ := Aside0.mk (below_step (eq2 HB GE259 GE278) hb); clear HO_6; clear HO_11; clear HO_279000; clear HO307; clear BK259; clear BK278; clear HB; have HO_6 := n0_; have HO_11 := n1_; have HO_279000 := n2_; have HO307 := n3_; have HO311 := n4_; have BK259 := n5_; have BK278 := n6_; have HB := n7_; clear n0_ n1_ n2_ n3_ n4_ n5_ n6_ n7_; (try clear hb); (try clear hb2); (try clear hk); (try clear hi); (try clear ho0); obtain ⟨Ao102, co102, eo102⟩ := Kd.R_slice HO307.out; subst eo102; obtain ⟨Ao103, co103, eo103⟩ := Kd.R_slice HO311.out; subst eo103) | ((with_reducible refine gate_callee (f := 42) rfl ?_); refine goesL_ (some 114) rfl rfl Try.func42 (by kernel_rfl) rfl #[.agg #[.slice Ao102 t305.length co102, .int .i64 t308], .slice Ao103 t309.length co103] rfl (by (try simp only [List.map_toArray, List.map_cons, List.map_nil]); first | done | rfl | (simp only [List.length_drop, List.length_take]; rfl)) ?_; (with_reducible refine (impl_FoldScore.calls kj59 _ _ t305 t308 _ _ t309 t312 t315 t316 _ ?side1 ?side2 ?side3 ?side4 A94.out).mono ?_); (case side1 => repeat (first | exact (Kd.R_reads' HO307.out).2.2 | (with_reducible refine Kd.C_alloc ?_ _) | (with_reducible refine Kd.C_drewN ?_ _) | (with_reducible refine Kd.C_drew ?_))); (case side2 => exact (Kd.R_reads' HO307.out).2.1); (case side3 => repeat (first | exact (Kd.R_reads' HO311.out).2.2 | (with_reducible refine Kd.C_alloc ?_ _) | (with_reducible refine Kd.C_drewN ?_ _) | (with_reducible refine Kd.C_drew ?_))); (case side4 => exact (Kd.R_reads' HO311.out).2.1); rintro e w104 ⟨v313, rfl, ho0, hb⟩; refine ⟨_, rfl, ?_⟩; have n0_ := Aside0.mk (Kd.R_elder' (kq HO_6) (Kd.R_base ho0) hb); have n1_ := Aside0.mk (Kd.R_elder' (kq HO_11) (Kd.R_base ho0) hb); have n2_ := Aside0.mk (Kd.R_below (kq HO_279000) hb); have n3_ := Aside0.mk (Kd.R_below (kq HO307) hb); have n4_ := Aside0.mk (Kd.R_elder' (kq HO311) (Kd.R_base ho0) hb); have n5_ := Aside0.mk (Kd.R_lower (Kd.R_new' (Kd.R_new' (Kd.R_new' ho0 (Kd.R_lt (kq HO_6))) (Kd.R_lt (kq HO_11))) (Kd.R_lt (kq HO311))) (below_size (eq2 HB GE259 GE278))); have n6_ := Aside0.mk (blk_below (g := gb259) (o := .cells #[.slice A0_0 l0_0.length c0_0, .int .i64 a0_1] 24 (0, 0)) (bq BK259) hb); have n7_ := Aside0.mk (blk_below (g := gb278) (o := .cells #[.slice Ao32 t298.length co32, .int .i64 t277] 28 (0, 0)) (bq BK278) hb); have n8_ := Aside0.mk (below_step (eq2 HB GE259 GE278) hb); clear HO_6; clear HO_11; clear HO_279000; clear HO307; clear HO311; clear BK259; clear BK278; clear HB; have HO_6 := n0_; have HO_11 := n1_; have HO_279000 := n2_; have HO307 := n3_; have HO311 := n4_; have HO314 := n5_; have BK259 := n6_; have BK278 := n7_; have HB := n8_; clear n0_ n1_ n2_ n3_ n4_ n5_ n6_ n7_ n8_; (try clear hb); (try clear hb2); (try clear hk); (try clear hi); (try clear ho0)))
                          (try simp only [Act.put, List.setIfInBounds_toArray, List.set_cons_zero, List.set_cons_succ])
                          go_cut [131] (fun v131 wc => ∃ (kq : Nat) (x131_94 : Bool), v131 = .bool x131_94 ∧ Aside0 (laws_FnExactFoldScore.j2 kq t303 t302 x131_94 = some r) ∧ Aside0 (kq ≤ kj59) ∧ Aside0 (Kd.R k90 90 wc w.heap.size (fun _ => True) (.slice Ao96 t282.length co96) t303) ∧ Aside0 (Kd.R (Kd.int .i64) 3 wc w.heap.size (fun _ => True) (.slice Ao32 t298.length co32) t298) ∧ Aside0 (wc.heap[gb259]? = some (.cells #[(.slice A0_0 l0_0.length c0_0), .int .i64 a0_1] 24 (0, 0))) ∧ Aside0 (wc.heap[gb278]? = some (.cells #[(.slice Ao32 t298.length co32), .int .i64 t277] 28 (0, 0))) ∧ Aside0 (Below w.heap.size w wc))
                          case first =>
                            have H := HC95.out
                            clear HC95
                            replace H := Option.bind_eq_some_iff.mp H
                            obtain ⟨t317, A1050, H⟩ := H
                            replace H : (if t317 = true then (if t315 = t272 then (laws_FnExactFoldScore.j2 kj59 t303 t302 (t316 != t273)) else (laws_FnExactFoldScore.j2 kj59 t303 t302 true)) else (laws_FnExactFoldScore.j2 kj59 t303 t302 true)) = some r := H
                            have A105 := Aside0.mk A1050
                            clear A1050
                            by_cases c106 : t317 = true
                            · subst c106
                              have H1 : (if t315 = t272 then (laws_FnExactFoldScore.j2 kj59 t303 t302 (t316 != t273)) else (laws_FnExactFoldScore.j2 kj59 t303 t302 true)) = some r := by rw [if_pos rfl] at H; exact H
                              clear H
                              have H := H1
                              clear H1
                              by_cases c107 : t315 = t272
                              · rw [if_pos c107] at H
                                have c107b0 : (t315 == t272) = true := beq_iff_eq.mpr c107
                                have c107b1 : (t315 != t272) = false := bne_eq_false_iff_eq.mpr c107
                                clear c107
                                (first | rw [c107b0] | (simp only [i64_w, i32_w]; rw [c107b0]) | skip)
                                have H' := Aside0.mk H
                                clear H
                                obtain ⟨Ao108, co108, eo108⟩ := Kd.R_slice HO314.out
                                subst eo108
                                obtain ⟨Ao109, co109, eo109⟩ := Kd.R_slice HO_6.out
                                subst eo109
                                go_wp2_with (first | ((with_reducible refine gate_callee (f := 25) rfl ?_); refine goesL_ (some 120) rfl rfl Try.func25 (by kernel_rfl) rfl #[.slice Ao108 t312.length co108, .slice Ao109 t269.length co109] rfl (by (try simp only [List.map_toArray, List.map_cons, List.map_nil]); first | done | rfl | (simp only [List.length_drop, List.length_take]; rfl)) ?_; (with_reducible refine (laws_eqNoteS.calls kj59 _ _ t312 _ _ t269 true _ ?side1 ?side2 ?side3 ?side4 A105.out).mono ?_); (case side1 => repeat (first | exact (Kd.R_reads' HO314.out).2.2 | (with_reducible refine Kd.C_alloc ?_ _) | (with_reducible refine Kd.C_drewN ?_ _) | (with_reducible refine Kd.C_drew ?_))); (case side2 => exact (Kd.R_reads' HO314.out).2.1); (case side3 => repeat (first | exact (Kd.R_reads' HO_6.out).2.2 | (with_reducible refine Kd.C_alloc ?_ _) | (with_reducible refine Kd.C_drewN ?_ _) | (with_reducible refine Kd.C_drew ?_))); (case side4 => exact (Kd.R_reads' HO_6.out).2.1); rintro e w110 ⟨rfl, hb⟩; refine ⟨_, rfl, ?_⟩; have n0_ := Aside0.mk (Kd.R_below (kq HO_6) hb); have n1_ := Aside0.mk (Kd.R_below (kq HO_11) hb); have n2_ := Aside0.mk (Kd.R_below (kq HO_279000) hb); have n3_ := Aside0.mk (Kd.R_below (kq HO307) hb); have n4_ := Aside0.mk (Kd.R_below (kq HO311) hb); have n5_ := Aside0.mk (Kd.R_below (kq HO314) hb); have n6_ := Aside0.mk (blk_below (g := gb259) (o := .cells #[.slice A0_0 l0_0.length c0_0, .int .i64 a0_1] 24 (0, 0)) (bq BK259) hb); have n7_ := Aside0.mk (blk_below (g := gb278) (o := .cells #[.slice Ao32 t298.length co32, .int .i64 t277] 28 (0, 0)) (bq BK278) hb); have n8_ := Aside0.mk (below_step (eq2 HB GE259 GE278) hb); clear HO_6; clear HO_11; clear HO_279000; clear HO307; clear HO311; clear HO314; clear BK259; clear BK278; clear HB; have HO_6 := n0_; have HO_11 := n1_; have HO_279000 := n2_; have HO307 := n3_; have HO311 := n4_; have HO314 := n5_; have BK259 := n6_; have BK278 := n7_; have HB := n8_; clear n0_ n1_ n2_ n3_ n4_ n5_ n6_ n7_ n8_; (try clear hb); (try clear hb2); (try clear hk); (try clear hi)))
                                go_meet
                                case rel => exact ⟨_, ((t316 != t273)), (by first | rfl | (simp; done) | (simp [*]; done)), H', ⟨by have := HJ18.out; have := HJ59.out; first | omega | exact Nat.le_refl _⟩, ⟨by (try simp only [hl279000_59]); (with_reducible repeat (first | apply Kd.R_alloc | apply Kd.R_drewN | apply Kd.R_drew)); exact Kd.R_mono HO_11.out (fun _ hk => trivial)⟩, ⟨by (try simp only [hl279000_59]); (with_reducible repeat (first | apply Kd.R_alloc | apply Kd.R_drewN | apply Kd.R_drew)); exact Kd.R_mono HO_279000.out (fun _ hk => trivial)⟩, ⟨by (try simp only [hl279000_59]); (with_reducible repeat (first | refine blk_drewN ?_ _ | refine blk_drew ?_ | refine blk_alloc ?_ _)); exact BK259.out⟩, ⟨by (try simp only [hl279000_59]); (with_reducible repeat (first | refine blk_drewN ?_ _ | refine blk_drew ?_ | refine blk_alloc ?_ _)); exact BK278.out⟩, ⟨eq2 HB GE259 GE278⟩⟩
                              · rw [if_neg c107] at H
                                have c107b0 : (t315 == t272) = false := beq_eq_false_iff_ne.mpr c107
                                have c107b1 : (t315 != t272) = true := bne_iff_ne.mpr c107
                                (first | rw [c107b0] | (simp only [i64_w, i32_w]; rw [c107b0]) | skip)
                                have H' := Aside0.mk H
                                clear H
                                obtain ⟨Ao111, co111, eo111⟩ := Kd.R_slice HO314.out
                                subst eo111
                                obtain ⟨Ao112, co112, eo112⟩ := Kd.R_slice HO_6.out
                                subst eo112
                                go_wp2_with (first | ((with_reducible refine gate_callee (f := 25) rfl ?_); refine goesL_ (some 120) rfl rfl Try.func25 (by kernel_rfl) rfl #[.slice Ao111 t312.length co111, .slice Ao112 t269.length co112] rfl (by (try simp only [List.map_toArray, List.map_cons, List.map_nil]); first | done | rfl | (simp only [List.length_drop, List.length_take]; rfl)) ?_; (with_reducible refine (laws_eqNoteS.calls kj59 _ _ t312 _ _ t269 true _ ?side1 ?side2 ?side3 ?side4 A105.out).mono ?_); (case side1 => repeat (first | exact (Kd.R_reads' HO314.out).2.2 | (with_reducible refine Kd.C_alloc ?_ _) | (with_reducible refine Kd.C_drewN ?_ _) | (with_reducible refine Kd.C_drew ?_))); (case side2 => exact (Kd.R_reads' HO314.out).2.1); (case side3 => repeat (first | exact (Kd.R_reads' HO_6.out).2.2 | (with_reducible refine Kd.C_alloc ?_ _) | (with_reducible refine Kd.C_drewN ?_ _) | (with_reducible refine Kd.C_drew ?_))); (case side4 => exact (Kd.R_reads' HO_6.out).2.1); rintro e w113 ⟨rfl, hb⟩; refine ⟨_, rfl, ?_⟩; have n0_ := Aside0.mk (Kd.R_below (kq HO_6) hb); have n1_ := Aside0.mk (Kd.R_below (kq HO_11) hb); have n2_ := Aside0.mk (Kd.R_below (kq HO_279000) hb); have n3_ := Aside0.mk (Kd.R_below (kq HO307) hb); have n4_ := Aside0.mk (Kd.R_below (kq HO311) hb); have n5_ := Aside0.mk (Kd.R_below (kq HO314) hb); have n6_ := Aside0.mk (blk_below (g := gb259) (o := .cells #[.slice A0_0 l0_0.length c0_0, .int .i64 a0_1] 24 (0, 0)) (bq BK259) hb); have n7_ := Aside0.mk (blk_below (g := gb278) (o := .cells #[.slice Ao32 t298.length co32, .int .i64 t277] 28 (0, 0)) (bq BK278) hb); have n8_ := Aside0.mk (below_step (eq2 HB GE259 GE278) hb); clear HO_6; clear HO_11; clear HO_279000; clear HO307; clear HO311; clear HO314; clear BK259; clear BK278; clear HB; have HO_6 := n0_; have HO_11 := n1_; have HO_279000 := n2_; have HO307 := n3_; have HO311 := n4_; have HO314 := n5_; have BK259 := n6_; have BK278 := n7_; have HB := n8_; clear n0_ n1_ n2_ n3_ n4_ n5_ n6_ n7_ n8_; (try clear hb); (try clear hb2); (try clear hk); (try clear hi)))
                                go_meet
                                case rel => exact ⟨_, (true), (by first | rfl | (simp; done) | (simp [*]; done)), H', ⟨by have := HJ18.out; have := HJ59.out; first | omega | exact Nat.le_refl _⟩, ⟨by (try simp only [hl279000_59]); (with_reducible repeat (first | apply Kd.R_alloc | apply Kd.R_drewN | apply Kd.R_drew)); exact Kd.R_mono HO_11.out (fun _ hk => trivial)⟩, ⟨by (try simp only [hl279000_59]); (with_reducible repeat (first | apply Kd.R_alloc | apply Kd.R_drewN | apply Kd.R_drew)); exact Kd.R_mono HO_279000.out (fun _ hk => trivial)⟩, ⟨by (try simp only [hl279000_59]); (with_reducible repeat (first | refine blk_drewN ?_ _ | refine blk_drew ?_ | refine blk_alloc ?_ _)); exact BK259.out⟩, ⟨by (try simp only [hl279000_59]); (with_reducible repeat (first | refine blk_drewN ?_ _ | refine blk_drew ?_ | refine blk_alloc ?_ _)); exact BK278.out⟩, ⟨eq2 HB GE259 GE278⟩⟩
                            · replace c106 := Bool.eq_false_iff.mpr c106
                              subst c106
                              have H1 : (laws_FnExactFoldScore.j2 kj59 t303 t302 true) = some r := by rw [if_neg (show ¬ (false = true) by decide)] at H; exact H
                              clear H
                              have H := H1
                              clear H1
                              have H' := Aside0.mk H
                              clear H
                              obtain ⟨Ao114, co114, eo114⟩ := Kd.R_slice HO314.out
                              subst eo114
                              obtain ⟨Ao115, co115, eo115⟩ := Kd.R_slice HO_6.out
                              subst eo115
                              go_wp2_with (first | ((with_reducible refine gate_callee (f := 25) rfl ?_); refine goesL_ (some 120) rfl rfl Try.func25 (by kernel_rfl) rfl #[.slice Ao114 t312.length co114, .slice Ao115 t269.length co115] rfl (by (try simp only [List.map_toArray, List.map_cons, List.map_nil]); first | done | rfl | (simp only [List.length_drop, List.length_take]; rfl)) ?_; (with_reducible refine (laws_eqNoteS.calls kj59 _ _ t312 _ _ t269 false _ ?side1 ?side2 ?side3 ?side4 A105.out).mono ?_); (case side1 => repeat (first | exact (Kd.R_reads' HO314.out).2.2 | (with_reducible refine Kd.C_alloc ?_ _) | (with_reducible refine Kd.C_drewN ?_ _) | (with_reducible refine Kd.C_drew ?_))); (case side2 => exact (Kd.R_reads' HO314.out).2.1); (case side3 => repeat (first | exact (Kd.R_reads' HO_6.out).2.2 | (with_reducible refine Kd.C_alloc ?_ _) | (with_reducible refine Kd.C_drewN ?_ _) | (with_reducible refine Kd.C_drew ?_))); (case side4 => exact (Kd.R_reads' HO_6.out).2.1); rintro e w116 ⟨rfl, hb⟩; refine ⟨_, rfl, ?_⟩; have n0_ := Aside0.mk (Kd.R_below (kq HO_6) hb); have n1_ := Aside0.mk (Kd.R_below (kq HO_11) hb); have n2_ := Aside0.mk (Kd.R_below (kq HO_279000) hb); have n3_ := Aside0.mk (Kd.R_below (kq HO307) hb); have n4_ := Aside0.mk (Kd.R_below (kq HO311) hb); have n5_ := Aside0.mk (Kd.R_below (kq HO314) hb); have n6_ := Aside0.mk (blk_below (g := gb259) (o := .cells #[.slice A0_0 l0_0.length c0_0, .int .i64 a0_1] 24 (0, 0)) (bq BK259) hb); have n7_ := Aside0.mk (blk_below (g := gb278) (o := .cells #[.slice Ao32 t298.length co32, .int .i64 t277] 28 (0, 0)) (bq BK278) hb); have n8_ := Aside0.mk (below_step (eq2 HB GE259 GE278) hb); clear HO_6; clear HO_11; clear HO_279000; clear HO307; clear HO311; clear HO314; clear BK259; clear BK278; clear HB; have HO_6 := n0_; have HO_11 := n1_; have HO_279000 := n2_; have HO307 := n3_; have HO311 := n4_; have HO314 := n5_; have BK259 := n6_; have BK278 := n7_; have HB := n8_; clear n0_ n1_ n2_ n3_ n4_ n5_ n6_ n7_ n8_; (try clear hb); (try clear hb2); (try clear hk); (try clear hi)))
                              go_meet
                              case rel => exact ⟨_, (true), (by first | rfl | (simp; done) | (simp [*]; done)), H', ⟨by have := HJ18.out; have := HJ59.out; first | omega | exact Nat.le_refl _⟩, ⟨by (try simp only [hl279000_59]); (with_reducible repeat (first | apply Kd.R_alloc | apply Kd.R_drewN | apply Kd.R_drew)); exact Kd.R_mono HO_11.out (fun _ hk => trivial)⟩, ⟨by (try simp only [hl279000_59]); (with_reducible repeat (first | apply Kd.R_alloc | apply Kd.R_drewN | apply Kd.R_drew)); exact Kd.R_mono HO_279000.out (fun _ hk => trivial)⟩, ⟨by (try simp only [hl279000_59]); (with_reducible repeat (first | refine blk_drewN ?_ _ | refine blk_drew ?_ | refine blk_alloc ?_ _)); exact BK259.out⟩, ⟨by (try simp only [hl279000_59]); (with_reducible repeat (first | refine blk_drewN ?_ _ | refine blk_drew ?_ | refine blk_alloc ?_ _)); exact BK278.out⟩, ⟨eq2 HB GE259 GE278⟩⟩
                          case rest =>
                            clear HC95
                            try clear c1
                            try clear c2
                            try clear p2
                            try clear c3
                            try clear c4
                            try clear c4b0
                            try clear c5
                            try clear c6
                            try clear c7
                            try clear c8
                            try clear c9
                            try clear c9b0
                            try clear c10
                            try clear c11
                            try clear c14
                            try clear c16
                            try clear c18
                            try clear c21
                            try clear c23
                            try clear c25
                            try clear c31
                            try clear c32
                            try clear c33
                            try clear c40
                            try clear c41
                            try clear c41b0
                            try clear c41b1
                            try clear c42
                            try clear c43
                            try clear c51
                            try clear c54
                            try clear c57
                            try clear c68
                            try clear c72
                            try clear c72b0
                            try clear c74
                            try clear c75
                            try clear c75b0
                            try clear c75b1
                            try clear c85
                            try clear c88
                            try clear c88b0
                            try clear c91
                            try clear c91b0
                            try clear c91b1
                            try clear c98
                            try clear c106
                            try clear c107
                            try clear c107b0
                            try clear c107b1
                            try clear hcz11_0
                            try clear hcz11_1
                            try clear hcz21_0
                            try clear hcz21_1
                            try clear hcz23_0
                            try clear hcz23_1
                            try clear hcz29_0
                            try clear hcz29_1
                            try clear hcz34_0
                            try clear hcz34_1
                            try clear hcz36_0
                            try clear hcz36_1
                            try clear hcz69_0
                            try clear hcz69_1
                            try clear hcz6_0
                            try clear hcz6_1
                            try clear hcz99_0
                            try clear hcz99_1
                            try clear hfz11_0
                            try clear hfz11_1
                            try clear hfz21_0
                            try clear hfz21_1
                            try clear hfz23_0
                            try clear hfz23_1
                            try clear hfz29_0
                            try clear hfz29_1
                            try clear hfz34_0
                            try clear hfz34_1
                            try clear hfz36_0
                            try clear hfz36_1
                            try clear hfz69_0
                            try clear hfz69_1
                            try clear hfz6_0
                            try clear hfz6_1
                            try clear hfz99_0
                            try clear hfz99_1
                            try clear p2
                            obtain ⟨kq, x131_94, rfl, HA, HJ94, HO_11, HO_279000, BK259, BK278, HB⟩ := hcut
                            have hl11_94 := (Kd.R_reads' HO_11.out).1
                            rw [hl11_94] at HO_11
                            (try simp only [hl11_94])
                            (try simp only [hl11_94] at BK259)
                            (try simp only [hl11_94] at BK278)
                            (try simp only [hl11_94] at HO_279000)
                            cases kq with
                            | zero => exact absurd HA.out (by simp [laws_FnExactFoldScore.j2])
                            | succ kj94 =>
                              have H := HA.out
                              clear HA
                              simp only [laws_FnExactFoldScore.j2] at H
                              by_cases c117 : x131_94 = true
                              · subst c117
                                have H1 : (some false) = some r := by rw [if_pos rfl] at H; exact H
                                clear H
                                have H := H1
                                clear H1
                                obtain rfl := Option.some.inj H
                                go_wp2
                                go_ret
                                exact ⟨by first | rfl | (simp [errW_none, errW_some] <;> rfl) | (simp [*, errW_none, errW_some] <;> rfl), eq2 HB GE259 GE278⟩
                              · replace c117 := Bool.eq_false_iff.mpr c117
                                subst c117
                                have H1 : ((laws_heldNoteS.f kj94 t303 1).bind fun t318 => (if t318 < 0 then (some false) else (if t318 = t302 then (some true) else (some false)))) = some r := by rw [if_neg (show ¬ (false = true) by decide)] at H; exact H
                                clear H
                                have H := H1
                                clear H1
                                replace H := Option.bind_eq_some_iff.mp H
                                obtain ⟨t318, A1180, H⟩ := H
                                replace H : (if t318 < 0 then (some false) else (if t318 = t302 then (some true) else (some false))) = some r := H
                                have A118 := Aside0.mk A1180
                                clear A1180
                                by_cases c119 : t318 < 0
                                · rw [if_pos c119] at H
                                  have c119b0 : decide (t318 < 0) = true := decide_eq_true c119
                                  clear c119
                                  obtain rfl := Option.some.inj H
                                  go_wp2_with (first | ((with_reducible refine gate_callee (f := 43) rfl ?_); refine goesL_ (some 134) rfl rfl Try.func43 (by kernel_rfl) rfl #[.slice Ao96 t303.length co96, .int .i64 1] rfl (by (try simp only [List.map_toArray, List.map_cons, List.map_nil]); first | done | rfl | (simp only [List.length_drop, List.length_take]; rfl)) ?_; (with_reducible refine (laws_heldNoteS.calls kj94 _ _ t303 1 t318 _ ?side1 ?side2 A118.out).mono ?_); (case side1 => repeat (first | exact (Kd.R_reads' HO_11.out).2.2 | (with_reducible refine Kd.C_alloc ?_ _) | (with_reducible refine Kd.C_drewN ?_ _) | (with_reducible refine Kd.C_drew ?_))); (case side2 => exact (Kd.R_reads' HO_11.out).2.1); rintro e w' ⟨rfl, ⟨nd, rfl⟩⟩; refine ⟨_, rfl, ?_⟩))
                                  go_ret
                                  exact ⟨by first | rfl | (simp [errW_none, errW_some] <;> rfl) | (simp [*, errW_none, errW_some] <;> rfl), eq2 HB GE259 GE278⟩
                                · rw [if_neg c119] at H
                                  have c119b0 : decide (t318 < 0) = false := decide_eq_false c119
                                  clear c119
                                  by_cases c120 : t318 = t302
                                  · rw [if_pos c120] at H
                                    have c120b0 : (t318 == t302) = true := beq_iff_eq.mpr c120
                                    have c120b1 : (t318 != t302) = false := bne_eq_false_iff_eq.mpr c120
                                    clear c120
                                    obtain rfl := Option.some.inj H
                                    go_wp2_with (first | ((with_reducible refine gate_callee (f := 43) rfl ?_); refine goesL_ (some 134) rfl rfl Try.func43 (by kernel_rfl) rfl #[.slice Ao96 t303.length co96, .int .i64 1] rfl (by (try simp only [List.map_toArray, List.map_cons, List.map_nil]); first | done | rfl | (simp only [List.length_drop, List.length_take]; rfl)) ?_; (with_reducible refine (laws_heldNoteS.calls kj94 _ _ t303 1 t318 _ ?side1 ?side2 A118.out).mono ?_); (case side1 => repeat (first | exact (Kd.R_reads' HO_11.out).2.2 | (with_reducible refine Kd.C_alloc ?_ _) | (with_reducible refine Kd.C_drewN ?_ _) | (with_reducible refine Kd.C_drew ?_))); (case side2 => exact (Kd.R_reads' HO_11.out).2.1); rintro e w' ⟨rfl, ⟨nd, rfl⟩⟩; refine ⟨_, rfl, ?_⟩))
                                    go_ret
                                    exact ⟨by first | rfl | (simp [errW_none, errW_some] <;> rfl) | (simp [*, errW_none, errW_some] <;> rfl), eq2 HB GE259 GE278⟩
                                  · rw [if_neg c120] at H
                                    have c120b0 : (t318 == t302) = false := beq_eq_false_iff_ne.mpr c120
                                    have c120b1 : (t318 != t302) = true := bne_iff_ne.mpr c120
                                    obtain rfl := Option.some.inj H
                                    go_wp2_with (first | ((with_reducible refine gate_callee (f := 43) rfl ?_); refine goesL_ (some 134) rfl rfl Try.func43 (by kernel_rfl) rfl #[.slice Ao96 t303.length co96, .int .i64 1] rfl (by (try simp only [List.map_toArray, List.map_cons, List.map_nil]); first | done | rfl | (simp only [List.length_drop, List.length_take]; rfl)) ?_; (with_reducible refine (laws_heldNoteS.calls kj94 _ _ t303 1 t318 _ ?side1 ?side2 A118.out).mono ?_); (case side1 => repeat (first | exact (Kd.R_reads' HO_11.out).2.2 | (with_reducible refine Kd.C_alloc ?_ _) | (with_reducible refine Kd.C_drewN ?_ _) | (with_reducible refine Kd.C_drew ?_))); (case side2 => exact (Kd.R_reads' HO_11.out).2.1); rintro e w' ⟨rfl, ⟨nd, rfl⟩⟩; refine ⟨_, rfl, ?_⟩))
                                    go_ret
                                    exact ⟨by first | rfl | (simp [errW_none, errW_some] <;> rfl) | (simp [*, errW_none, errW_some] <;> rfl), eq2 HB GE259 GE278⟩
                        · rw [if_neg c91] at H
                          have c91b0 : (t304 == t302) = false := beq_eq_false_iff_ne.mpr c91
                          have c91b1 : (t304 != t302) = true := bne_iff_ne.mpr c91
                          obtain rfl := Option.some.inj H
                          obtain ⟨Ao121, co121, eo121⟩ := Kd.R_slice HO_11.out
                          subst eo121
                          go_wp2_with (first | ((with_reducible refine gate_callee (f := 32) rfl ?_); refine goesL_ (some 100) rfl rfl Try.func32 (by kernel_rfl) rfl #[.slice Ao121 t282.length co121, .int .i64 1] rfl (by (try simp only [List.map_toArray, List.map_cons, List.map_nil]); first | done | rfl | (simp only [List.length_drop, List.length_take]; rfl)) ?_; (with_reducible refine (laws_markNoteS.calls kj59 (fun k_ => some k_ = (.slice Ao121 t282.length co121 : Value).ownBlock) (.slice Ao121 t282.length co121) t282 1 t302 t303 w _ ?side1 ?side2 A86.out).mono ?_); (case side1 => repeat (first | (with_reducible first | exact HB.out | apply below_alloc | apply pw_below_drewN | apply below_drew1 | refine below_set ?_ GE259.out | refine below_set ?_ GE278.out) | exact HB.out)); (case side2 => exact Kd.R_tight rfl HO_11.out); rintro e w122 ⟨rfl, hy0, hb, hkp⟩; refine ⟨_, rfl, ?_⟩; have n0_ := Aside0.mk (Kd.R_mono (ok' := fun k_ => some k_ ≠ (.slice Ao121 t282.length co121 : Value).ownBlock) (Kd.R_keptB (HO_6.out) hkp (fun k_ hk_ hs_ => (hk_) hs_)) (fun k_ hk_ => hk_.1)); have n1_ := Aside0.mk (Kd.R_reok rfl hy0 (fun k_ e_ => HO_11.out.1 k_ e_)); have n2_ := Aside0.mk (Kd.R_mono (ok' := fun k_ => True) (Kd.R_keptB ((Kd.R_apart' HO_279000.out (Kd.R_typed HO_11.out) (by decide))) hkp (fun k_ hk_ hs_ => (hk_.2) hs_)) (fun k_ hk_ => trivial)); have n3_ := Aside0.mk (blk_kept (bq BK259) hkp (fun hs_ => (fun e_ => (Kd.R_ne HO_11.out BK259.out (by decide)) e_) hs_)); have n4_ := Aside0.mk (blk_kept (bq BK278) hkp (fun hs_ => (fun e_ => (Kd.R_ne HO_11.out BK278.out (by decide)) e_) hs_)); have n5_ := Aside0.mk (hb); clear HO_6; clear HO_11; clear HO_279000; clear BK259; clear BK278; clear HB; have HO_6 := n0_; have HO_11 := n1_; have HO_279000 := n2_; have BK259 := n3_; have BK278 := n4_; have HB := n5_; clear n0_ n1_ n2_ n3_ n4_ n5_; (try clear hb); (try clear hkp); (try clear hy0)) | ((with_reducible refine gate_callee (f := 43) rfl ?_); refine goesL_ (some 103) rfl rfl Try.func43 (by kernel_rfl) rfl #[.slice Ao121 t303.length co121, .int .i64 1] rfl (by (try simp only [List.map_toArray, List.map_cons, List.map_nil]); first | done | (rw [show t303.length = t282.length from (Kd.R_reads' HO_11.out).1.symm] <;> rfl) | rfl | (simp only [List.length_drop, List.length_take]; rfl)) ?_; (with_reducible refine (laws_heldNoteS.calls kj59 _ _ t303 1 t304 _ ?side1 ?side2 A87.out).mono ?_); (case side1 => repeat (first | exact (Kd.R_reads' HO_11.out).2.2 | (with_reducible refine Kd.C_alloc ?_ _) | (with_reducible refine Kd.C_drewN ?_ _) | (with_reducible refine Kd.C_drew ?_))); (case side2 => rw [show t303.length = t282.length from (Kd.R_reads' HO_11.out).1.symm]; exact (Kd.R_reads' HO_11.out).2.1); rintro e w' ⟨rfl, ⟨nd, rfl⟩⟩; refine ⟨_, rfl, ?_⟩))
                          go_ret
                          exact ⟨by first | rfl | (simp [errW_none, errW_some] <;> rfl) | (simp [*, errW_none, errW_some] <;> rfl), eq2 HB GE259 GE278⟩
              · replace c57 := Bool.eq_false_iff.mpr c57
                subst c57
                have H1 : (some false) = some r := by rw [if_neg (show ¬ (false = true) by decide)] at H; exact H
                clear H
                have H := H1
                clear H1
                obtain rfl := Option.some.inj H
                try go_wp2
                have n0_ := Aside0.mk (Kd.R_drew HO_6.out)
                have n1_ := Aside0.mk (Kd.R_drew HO_10.out)
                have n2_ := Aside0.mk (Kd.R_drew HO_11.out)
                have n3_ := Aside0.mk (Kd.R_drew HO_279000.out)
                have n4_ := Aside0.mk (blk_drew BK259.out)
                have n5_ := Aside0.mk (blk_drew BK278.out)
                have n6_ := Aside0.mk (below_drew1 HB.out)
                clear HO_6
                clear HO_10
                clear HO_11
                clear HO_279000
                clear BK259
                clear BK278
                clear HB
                have HO_6 := n0_
                have HO_10 := n1_
                have HO_11 := n2_
                have HO_279000 := n3_
                have BK259 := n4_
                have BK278 := n5_
                have HB := n6_
                clear n0_ n1_ n2_ n3_ n4_ n5_ n6_
                refine start_ (n := 5) (S := fun w' => w'.cell? ⟨gb278, 0, none⟩ = some (.slice Ao32 t274.length co32) ∧ w'.cell? ⟨gb278, 1, none⟩ = some (.int .i64 t277) ∧ w'.cell? ⟨gb259, 0, none⟩ = some (.slice A0_0 l0_0.length c0_0) ∧ w'.cell? ⟨gb259, 1, none⟩ = some (.int .i64 a0_1)) (ds := []) #[false, false, false, false, false] (by kernel_rfl) rfl rfl ⟨(blk_cell BK278.out 0).trans rfl, (blk_cell BK278.out 1).trans rfl, (blk_cell BK259.out 0).trans rfl, (blk_cell BK259.out 1).trans rfl⟩ (fun hHeld => ?_)
                generalize wc.drew = w123 at HO_6 HO_10 HO_11 HO_279000 BK259 BK278 HB hHeld ⊢
                refine take_ (i := 0) (N := some 64) (v := ?_) (a' := ?_) #[true, false, false, false, false] rfl rfl (by kernel_rfl) (fun _ _ _ h => h) (Or.inl ⟨by rfl, ?_⟩) hHeld ?_ ?_
                rotate_left
                · rintro w' ⟨s0, s1, s2, s3⟩
                  go_simp
                  with_reducible rfl
                rotate_left
                · simp only [Act.put, List.setIfInBounds_toArray, List.set_cons_zero, List.set_cons_succ, i64_w, i32_w]
                  rfl
                refine take_ (i := 1) (N := some 65) (v := ?_) (a' := ?_) #[true, true, false, false, false] rfl rfl (by kernel_rfl) (fun _ _ _ h => h) (Or.inl ⟨by rfl, ?_⟩) hHeld ?_ ?_
                rotate_left
                · rintro w' ⟨s0, s1, s2, s3⟩
                  go_simp
                  with_reducible rfl
                rotate_left
                · simp only [Act.put, List.setIfInBounds_toArray, List.set_cons_zero, List.set_cons_succ, i64_w, i32_w]
                  rfl
                refine one_ (i := 2) (N := some 66) #[true, true, true, false, false] rfl rfl (by kernel_rfl) (by decide) (fun K hK => ?_)
                refine goes_ Try.func16 (by kernel_rfl) rfl #[.agg #[.slice A0_0 l0_0.length c0_0, .int .i64 a0_1]] (by rfl) rfl rfl (by (try simp only [List.map_toArray, List.map_cons, List.map_nil]); first | done | rfl | (simp only [List.length_drop, List.length_take]; rfl)) ?_
                with_reducible refine (laws_toInstrument.calls kj18 _ _ l0_0 a0_1 t288 t291 _ ?side1 ?side2 A52.out).mono ?_
                (case side1 => repeat (first | exact (Kd.C_below HR0_0.out HB.out) | (with_reducible refine Kd.C_alloc ?_ _) | (with_reducible refine Kd.C_drewN ?_ _) | (with_reducible refine Kd.C_drew ?_)))
                (case side2 => exact HC0_0.out)
                rintro e w124 ⟨v289, rfl, ho0, hb⟩
                refine ⟨_, rfl, ?_⟩
                have n0_ := Aside0.mk (Kd.R_below (kq HO_6) hb)
                have n1_ := Aside0.mk (Kd.R_below (kq HO_10) hb)
                have n2_ := Aside0.mk (Kd.R_below (kq HO_11) hb)
                have n3_ := Aside0.mk (Kd.R_elder' (kq HO_279000) (Kd.R_base ho0) hb)
                have n4_ := Aside0.mk (Kd.R_lower (Kd.R_new' ho0 (Kd.R_lt (kq HO_279000))) (below_size (eq2 HB GE259 GE278)))
                have n5_ := Aside0.mk (blk_below (g := gb259) (o := .cells #[.slice A0_0 l0_0.length c0_0, .int .i64 a0_1] 24 (0, 0)) (bq BK259) hb)
                have n6_ := Aside0.mk (blk_below (g := gb278) (o := .cells #[.slice Ao32 t274.length co32, .int .i64 t277] 28 (0, 0)) (bq BK278) hb)
                have n7_ := Aside0.mk (below_step (eq2 HB GE259 GE278) hb)
                clear HO_6
                clear HO_10
                clear HO_11
                clear HO_279000
                clear BK259
                clear BK278
                clear HB
                have HO_6 := n0_
                have HO_10 := n1_
                have HO_11 := n2_
                have HO_279000 := n3_
                have HO290 := n4_
                have BK259 := n5_
                have BK278 := n6_
                have HB := n7_
                clear n0_ n1_ n2_ n3_ n4_ n5_ n6_ n7_
                (try clear hb)
                (try clear hb2)
                (try clear hk)
                (try clear hi)
                (try clear ho0)
                obtain ⟨Ao125, co125, eo125⟩ := Kd.R_slice HO290.out
                (first | subst eo125 | (injection eo125 with f1_ f2_ f3_; have f4_ := f1_.symm; have f5_ := f3_.symm; clear f1_ f2_ f3_; subst f4_; subst f5_))
                refine hK.out _ _ ⟨(blk_cell BK278.out 0).trans rfl, (blk_cell BK278.out 1).trans rfl, (blk_cell BK259.out 0).trans rfl, (blk_cell BK259.out 1).trans rfl⟩ (fun hHeld => ?_)
                clear hK K
                refine norm_ (a' := ?_) ?_ ?_
                rotate_left
                · show Act.put _ (some 66) _ = _
                  simp only [Act.put, List.setIfInBounds_toArray, List.set_cons_zero, List.set_cons_succ, i64_w, i32_w]
                  rfl
                refine one_ (i := 3) (N := some 67) #[true, true, true, true, false] rfl rfl (by kernel_rfl) (by decide) (fun K hK => ?_)
                refine goes_ Try.func18 (by kernel_rfl) rfl #[.agg #[.slice Ao32 t274.length co32, .int .i64 t277], .agg #[.slice Ao125 t288.length co125, .int .i64 t291]] (by rfl) rfl rfl (by (try simp only [List.map_toArray, List.map_cons, List.map_nil]); first | done | rfl | (simp only [List.length_drop, List.length_take]; rfl)) ?_
                with_reducible refine (laws_eqInstrument.calls kj18 _ _ t274 t277 _ _ t288 t291 true _ ?side1 ?side2 ?side3 ?side4 A53.out).mono ?_
                (case side1 => repeat (first | exact (Kd.R_reads' HO_279000.out).2.2 | (with_reducible refine Kd.C_alloc ?_ _) | (with_reducible refine Kd.C_drewN ?_ _) | (with_reducible refine Kd.C_drew ?_)))
                (case side2 => exact (Kd.R_reads' HO_279000.out).2.1)
                (case side3 => repeat (first | exact (Kd.R_reads' HO290.out).2.2 | (with_reducible refine Kd.C_alloc ?_ _) | (with_reducible refine Kd.C_drewN ?_ _) | (with_reducible refine Kd.C_drew ?_)))
                (case side4 => exact (Kd.R_reads' HO290.out).2.1)
                rintro e w126 ⟨rfl, hb⟩
                refine ⟨_, rfl, ?_⟩
                have n0_ := Aside0.mk (Kd.R_below (kq HO_6) hb)
                have n1_ := Aside0.mk (Kd.R_below (kq HO_10) hb)
                have n2_ := Aside0.mk (Kd.R_below (kq HO_11) hb)
                have n3_ := Aside0.mk (Kd.R_below (kq HO_279000) hb)
                have n4_ := Aside0.mk (Kd.R_below (kq HO290) hb)
                have n5_ := Aside0.mk (blk_below (g := gb259) (o := .cells #[.slice A0_0 l0_0.length c0_0, .int .i64 a0_1] 24 (0, 0)) (bq BK259) hb)
                have n6_ := Aside0.mk (blk_below (g := gb278) (o := .cells #[.slice Ao32 t274.length co32, .int .i64 t277] 28 (0, 0)) (bq BK278) hb)
                have n7_ := Aside0.mk (below_step (eq2 HB GE259 GE278) hb)
                clear HO_6
                clear HO_10
                clear HO_11
                clear HO_279000
                clear HO290
                clear BK259
                clear BK278
                clear HB
                have HO_6 := n0_
                have HO_10 := n1_
                have HO_11 := n2_
                have HO_279000 := n3_
                have HO290 := n4_
                have BK259 := n5_
                have BK278 := n6_
                have HB := n7_
                clear n0_ n1_ n2_ n3_ n4_ n5_ n6_ n7_
                (try clear hb)
                (try clear hb2)
                (try clear hk)
                (try clear hi)
                refine hK.out _ _ ⟨(blk_cell BK278.out 0).trans rfl, (blk_cell BK278.out 1).trans rfl, (blk_cell BK259.out 0).trans rfl, (blk_cell BK259.out 1).trans rfl⟩ (fun hHeld => ?_)
                clear hK K
                refine norm_ (a' := ?_) ?_ ?_
                rotate_left
                · show Act.put _ (some 67) _ = _
                  simp only [Act.put, List.setIfInBounds_toArray, List.set_cons_zero, List.set_cons_succ, i64_w, i32_w]
                  rfl
                refine pure_ (i := 4) (N := some 68) (v := ?_) (a' := ?_) #[true, true, true, true, true] rfl rfl (by kernel_rfl) (fun _ _ _ h => h) (Or.inl ⟨by rfl, ?_⟩) ?_ ?_
                rotate_left
                · intro w'
                  go_simp
                  with_reducible rfl
                rotate_left
                · simp only [Act.put, List.setIfInBounds_toArray, List.set_cons_zero, List.set_cons_succ, i64_w, i32_w]
                  rfl
                refine done_ (by kernel_rfl) ?_
                try go_wp2_with (first | ((with_reducible refine gate_callee (f := 23) rfl ?_); refine goesL_ (some 71) rfl rfl Try.func23 (by kernel_rfl) rfl #[.slice A1 l1.length c1] rfl (by (try simp only [List.map_toArray, List.map_cons, List.map_nil]); first | done | rfl | (simp only [List.length_drop, List.length_take]; rfl)) ?_; (with_reducible refine (laws_toNoteS.calls kj18 _ _ l1 t293 _ ?side1 ?side2 A55.out).mono ?_); (case side1 => repeat (first | exact (Kd.C_below HR1.out HB.out) | (with_reducible refine Kd.C_alloc ?_ _) | (with_reducible refine Kd.C_drewN ?_ _) | (with_reducible refine Kd.C_drew ?_))); (case side2 => exact HC1.out); rintro e w127 ⟨v294, rfl, ho0, hb⟩; refine ⟨_, rfl, ?_⟩; have n0_ := Aside0.mk (Kd.R_elder' (kq HO_6) (Kd.R_base ho0) hb); have n1_ := Aside0.mk (Kd.R_elder' (kq HO_10) (Kd.R_base ho0) hb); have n2_ := Aside0.mk (Kd.R_elder' (kq HO_11) (Kd.R_base ho0) hb); have n3_ := Aside0.mk (Kd.R_below (kq HO_279000) hb); have n4_ := Aside0.mk (Kd.R_below (kq HO290) hb); have n5_ := Aside0.mk (Kd.R_lower (Kd.R_new' (Kd.R_new' (Kd.R_new' ho0 (Kd.R_lt (kq HO_6))) (Kd.R_lt (kq HO_10))) (Kd.R_lt (kq HO_11))) (below_size (eq2 HB GE259 GE278))); have n6_ := Aside0.mk (blk_below (g := gb259) (o := .cells #[.slice A0_0 l0_0.length c0_0, .int .i64 a0_1] 24 (0, 0)) (bq BK259) hb); have n7_ := Aside0.mk (blk_below (g := gb278) (o := .cells #[.slice Ao32 t274.length co32, .int .i64 t277] 28 (0, 0)) (bq BK278) hb); have n8_ := Aside0.mk (below_step (eq2 HB GE259 GE278) hb); clear HO_6; clear HO_10; clear HO_11; clear HO_279000; clear HO290; clear BK259; clear BK278; clear HB; have HO_6 := n0_; have HO_10 := n1_; have HO_11 := n2_; have HO_279000 := n3_; have HO290 := n4_; have HO295 := n5_; have BK259 := n6_; have BK278 := n7_; have HB := n8_; clear n0_ n1_ n2_ n3_ n4_ n5_ n6_ n7_ n8_; (try clear hb); (try clear hb2); (try clear hk); (try clear hi); (try clear ho0); obtain ⟨Ao128, co128, eo128⟩ := Kd.R_slice HO295.out; subst eo128) | ((with_reducible refine gate_callee (f := 25) rfl ?_); refine goesL_ (some 72) rfl rfl Try.func25 (by kernel_rfl) rfl #[.slice Ao37 t279.length co37, .slice Ao128 t293.length co128] rfl (by (try simp only [List.map_toArray, List.map_cons, List.map_nil]); first | done | rfl | (simp only [List.length_drop, List.length_take]; rfl)) ?_; (with_reducible refine (laws_eqNoteS.calls kj18 _ _ t279 _ _ t293 false _ ?side1 ?side2 ?side3 ?side4 A56.out).mono ?_); (case side1 => repeat (first | exact (Kd.R_reads' HO_10.out).2.2 | (with_reducible refine Kd.C_alloc ?_ _) | (with_reducible refine Kd.C_drewN ?_ _) | (with_reducible refine Kd.C_drew ?_))); (case side2 => exact (Kd.R_reads' HO_10.out).2.1); (case side3 => repeat (first | exact (Kd.R_reads' HO295.out).2.2 | (with_reducible refine Kd.C_alloc ?_ _) | (with_reducible refine Kd.C_drewN ?_ _) | (with_reducible refine Kd.C_drew ?_))); (case side4 => exact (Kd.R_reads' HO295.out).2.1); rintro e w129 ⟨rfl, hb⟩; refine ⟨_, rfl, ?_⟩; have n0_ := Aside0.mk (Kd.R_below (kq HO_6) hb); have n1_ := Aside0.mk (Kd.R_below (kq HO_10) hb); have n2_ := Aside0.mk (Kd.R_below (kq HO_11) hb); have n3_ := Aside0.mk (Kd.R_below (kq HO_279000) hb); have n4_ := Aside0.mk (Kd.R_below (kq HO290) hb); have n5_ := Aside0.mk (Kd.R_below (kq HO295) hb); have n6_ := Aside0.mk (blk_below (g := gb259) (o := .cells #[.slice A0_0 l0_0.length c0_0, .int .i64 a0_1] 24 (0, 0)) (bq BK259) hb); have n7_ := Aside0.mk (blk_below (g := gb278) (o := .cells #[.slice Ao32 t274.length co32, .int .i64 t277] 28 (0, 0)) (bq BK278) hb); have n8_ := Aside0.mk (below_step (eq2 HB GE259 GE278) hb); clear HO_6; clear HO_10; clear HO_11; clear HO_279000; clear HO290; clear HO295; clear BK259; clear BK278; clear HB; have HO_6 := n0_; have HO_10 := n1_; have HO_11 := n2_; have HO_279000 := n3_; have HO290 := n4_; have HO295 := n5_; have BK259 := n6_; have BK278 := n7_; have HB := n8_; clear n0_ n1_ n2_ n3_ n4_ n5_ n6_ n7_ n8_; (try clear hb); (try clear hb2); (try clear hk); (try clear hi)))
                go_ret
                exact ⟨by first | rfl | (simp [errW_none, errW_some] <;> rfl) | (simp [*, errW_none, errW_some] <;> rfl), eq2 HB GE259 GE278⟩
            · replace c54 := Bool.eq_false_iff.mpr c54
              subst c54
              have H1 : (some false) = some r := by rw [if_neg (show ¬ (false = true) by decide)] at H; exact H
              clear H
              have H := H1
              clear H1
              obtain rfl := Option.some.inj H
              try go_wp2
              have n0_ := Aside0.mk (Kd.R_drew HO_6.out)
              have n1_ := Aside0.mk (Kd.R_drew HO_10.out)
              have n2_ := Aside0.mk (Kd.R_drew HO_11.out)
              have n3_ := Aside0.mk (Kd.R_drew HO_279000.out)
              have n4_ := Aside0.mk (blk_drew BK259.out)
              have n5_ := Aside0.mk (blk_drew BK278.out)
              have n6_ := Aside0.mk (below_drew1 HB.out)
              clear HO_6
              clear HO_10
              clear HO_11
              clear HO_279000
              clear BK259
              clear BK278
              clear HB
              have HO_6 := n0_
              have HO_10 := n1_
              have HO_11 := n2_
              have HO_279000 := n3_
              have BK259 := n4_
              have BK278 := n5_
              have HB := n6_
              clear n0_ n1_ n2_ n3_ n4_ n5_ n6_
              refine start_ (n := 5) (S := fun w' => w'.cell? ⟨gb278, 0, none⟩ = some (.slice Ao32 t274.length co32) ∧ w'.cell? ⟨gb278, 1, none⟩ = some (.int .i64 t277) ∧ w'.cell? ⟨gb259, 0, none⟩ = some (.slice A0_0 l0_0.length c0_0) ∧ w'.cell? ⟨gb259, 1, none⟩ = some (.int .i64 a0_1)) (ds := []) #[false, false, false, false, false] (by kernel_rfl) rfl rfl ⟨(blk_cell BK278.out 0).trans rfl, (blk_cell BK278.out 1).trans rfl, (blk_cell BK259.out 0).trans rfl, (blk_cell BK259.out 1).trans rfl⟩ (fun hHeld => ?_)
              generalize wc.drew = w130 at HO_6 HO_10 HO_11 HO_279000 BK259 BK278 HB hHeld ⊢
              refine take_ (i := 0) (N := some 64) (v := ?_) (a' := ?_) #[true, false, false, false, false] rfl rfl (by kernel_rfl) (fun _ _ _ h => h) (Or.inl ⟨by rfl, ?_⟩) hHeld ?_ ?_
              rotate_left
              · rintro w' ⟨s0, s1, s2, s3⟩
                go_simp
                with_reducible rfl
              rotate_left
              · simp only [Act.put, List.setIfInBounds_toArray, List.set_cons_zero, List.set_cons_succ, i64_w, i32_w]
                rfl
              refine take_ (i := 1) (N := some 65) (v := ?_) (a' := ?_) #[true, true, false, false, false] rfl rfl (by kernel_rfl) (fun _ _ _ h => h) (Or.inl ⟨by rfl, ?_⟩) hHeld ?_ ?_
              rotate_left
              · rintro w' ⟨s0, s1, s2, s3⟩
                go_simp
                with_reducible rfl
              rotate_left
              · simp only [Act.put, List.setIfInBounds_toArray, List.set_cons_zero, List.set_cons_succ, i64_w, i32_w]
                rfl
              refine one_ (i := 2) (N := some 66) #[true, true, true, false, false] rfl rfl (by kernel_rfl) (by decide) (fun K hK => ?_)
              refine goes_ Try.func16 (by kernel_rfl) rfl #[.agg #[.slice A0_0 l0_0.length c0_0, .int .i64 a0_1]] (by rfl) rfl rfl (by (try simp only [List.map_toArray, List.map_cons, List.map_nil]); first | done | rfl | (simp only [List.length_drop, List.length_take]; rfl)) ?_
              with_reducible refine (laws_toInstrument.calls kj18 _ _ l0_0 a0_1 t288 t291 _ ?side1 ?side2 A52.out).mono ?_
              (case side1 => repeat (first | exact (Kd.C_below HR0_0.out HB.out) | (with_reducible refine Kd.C_alloc ?_ _) | (with_reducible refine Kd.C_drewN ?_ _) | (with_reducible refine Kd.C_drew ?_)))
              (case side2 => exact HC0_0.out)
              rintro e w131 ⟨v289, rfl, ho0, hb⟩
              refine ⟨_, rfl, ?_⟩
              have n0_ := Aside0.mk (Kd.R_below (kq HO_6) hb)
              have n1_ := Aside0.mk (Kd.R_below (kq HO_10) hb)
              have n2_ := Aside0.mk (Kd.R_below (kq HO_11) hb)
              have n3_ := Aside0.mk (Kd.R_elder' (kq HO_279000) (Kd.R_base ho0) hb)
              have n4_ := Aside0.mk (Kd.R_lower (Kd.R_new' ho0 (Kd.R_lt (kq HO_279000))) (below_size (eq2 HB GE259 GE278)))
              have n5_ := Aside0.mk (blk_below (g := gb259) (o := .cells #[.slice A0_0 l0_0.length c0_0, .int .i64 a0_1] 24 (0, 0)) (bq BK259) hb)
              have n6_ := Aside0.mk (blk_below (g := gb278) (o := .cells #[.slice Ao32 t274.length co32, .int .i64 t277] 28 (0, 0)) (bq BK278) hb)
              have n7_ := Aside0.mk (below_step (eq2 HB GE259 GE278) hb)
              clear HO_6
              clear HO_10
              clear HO_11
              clear HO_279000
              clear BK259
              clear BK278
              clear HB
              have HO_6 := n0_
              have HO_10 := n1_
              have HO_11 := n2_
              have HO_279000 := n3_
              have HO290 := n4_
              have BK259 := n5_
              have BK278 := n6_
              have HB := n7_
              clear n0_ n1_ n2_ n3_ n4_ n5_ n6_ n7_
              (try clear hb)
              (try clear hb2)
              (try clear hk)
              (try clear hi)
              (try clear ho0)
              obtain ⟨Ao132, co132, eo132⟩ := Kd.R_slice HO290.out
              (first | subst eo132 | (injection eo132 with f1_ f2_ f3_; have f4_ := f1_.symm; have f5_ := f3_.symm; clear f1_ f2_ f3_; subst f4_; subst f5_))
              refine hK.out _ _ ⟨(blk_cell BK278.out 0).trans rfl, (blk_cell BK278.out 1).trans rfl, (blk_cell BK259.out 0).trans rfl, (blk_cell BK259.out 1).trans rfl⟩ (fun hHeld => ?_)
              clear hK K
              refine norm_ (a' := ?_) ?_ ?_
              rotate_left
              · show Act.put _ (some 66) _ = _
                simp only [Act.put, List.setIfInBounds_toArray, List.set_cons_zero, List.set_cons_succ, i64_w, i32_w]
                rfl
              refine one_ (i := 3) (N := some 67) #[true, true, true, true, false] rfl rfl (by kernel_rfl) (by decide) (fun K hK => ?_)
              refine goes_ Try.func18 (by kernel_rfl) rfl #[.agg #[.slice Ao32 t274.length co32, .int .i64 t277], .agg #[.slice Ao132 t288.length co132, .int .i64 t291]] (by rfl) rfl rfl (by (try simp only [List.map_toArray, List.map_cons, List.map_nil]); first | done | rfl | (simp only [List.length_drop, List.length_take]; rfl)) ?_
              with_reducible refine (laws_eqInstrument.calls kj18 _ _ t274 t277 _ _ t288 t291 false _ ?side1 ?side2 ?side3 ?side4 A53.out).mono ?_
              (case side1 => repeat (first | exact (Kd.R_reads' HO_279000.out).2.2 | (with_reducible refine Kd.C_alloc ?_ _) | (with_reducible refine Kd.C_drewN ?_ _) | (with_reducible refine Kd.C_drew ?_)))
              (case side2 => exact (Kd.R_reads' HO_279000.out).2.1)
              (case side3 => repeat (first | exact (Kd.R_reads' HO290.out).2.2 | (with_reducible refine Kd.C_alloc ?_ _) | (with_reducible refine Kd.C_drewN ?_ _) | (with_reducible refine Kd.C_drew ?_)))
              (case side4 => exact (Kd.R_reads' HO290.out).2.1)
              rintro e w133 ⟨rfl, hb⟩
              refine ⟨_, rfl, ?_⟩
              have n0_ := Aside0.mk (Kd.R_below (kq HO_6) hb)
              have n1_ := Aside0.mk (Kd.R_below (kq HO_10) hb)
              have n2_ := Aside0.mk (Kd.R_below (kq HO_11) hb)
              have n3_ := Aside0.mk (Kd.R_below (kq HO_279000) hb)
              have n4_ := Aside0.mk (Kd.R_below (kq HO290) hb)
              have n5_ := Aside0.mk (blk_below (g := gb259) (o := .cells #[.slice A0_0 l0_0.length c0_0, .int .i64 a0_1] 24 (0, 0)) (bq BK259) hb)
              have n6_ := Aside0.mk (blk_below (g := gb278) (o := .cells #[.slice Ao32 t274.length co32, .int .i64 t277] 28 (0, 0)) (bq BK278) hb)
              have n7_ := Aside0.mk (below_step (eq2 HB GE259 GE278) hb)
              clear HO_6
              clear HO_10
              clear HO_11
              clear HO_279000
              clear HO290
              clear BK259
              clear BK278
              clear HB
              have HO_6 := n0_
              have HO_10 := n1_
              have HO_11 := n2_
              have HO_279000 := n3_
              have HO290 := n4_
              have BK259 := n5_
              have BK278 := n6_
              have HB := n7_
              clear n0_ n1_ n2_ n3_ n4_ n5_ n6_ n7_
              (try clear hb)
              (try clear hb2)
              (try clear hk)
              (try clear hi)
              refine hK.out _ _ ⟨(blk_cell BK278.out 0).trans rfl, (blk_cell BK278.out 1).trans rfl, (blk_cell BK259.out 0).trans rfl, (blk_cell BK259.out 1).trans rfl⟩ (fun hHeld => ?_)
              clear hK K
              refine norm_ (a' := ?_) ?_ ?_
              rotate_left
              · show Act.put _ (some 67) _ = _
                simp only [Act.put, List.setIfInBounds_toArray, List.set_cons_zero, List.set_cons_succ, i64_w, i32_w]
                rfl
              refine pure_ (i := 4) (N := some 68) (v := ?_) (a' := ?_) #[true, true, true, true, true] rfl rfl (by kernel_rfl) (fun _ _ _ h => h) (Or.inl ⟨by rfl, ?_⟩) ?_ ?_
              rotate_left
              · intro w'
                go_simp
                with_reducible rfl
              rotate_left
              · simp only [Act.put, List.setIfInBounds_toArray, List.set_cons_zero, List.set_cons_succ, i64_w, i32_w]
                rfl
              refine done_ (by kernel_rfl) ?_
              try go_wp2
              go_ret
              exact ⟨by first | rfl | (simp [errW_none, errW_some] <;> rfl) | (simp [*, errW_none, errW_some] <;> rfl), eq2 HB GE259 GE278⟩

end Go.Proofs.Ytgooeiibhhbboaa.F
