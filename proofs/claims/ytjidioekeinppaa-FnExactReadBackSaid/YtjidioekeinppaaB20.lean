/- Written by a program of this session over the print of the loaded functions: what each Go function computes, and that the call comes to it. -/
import Derived.Test.YtjidioekeinppaaBRC
import Derived.Test.YtjidioekeinppaaB0
import Derived.Test.YtjidioekeinppaaB1
import Derived.Test.YtjidioekeinppaaB2
import Derived.Test.YtjidioekeinppaaB11
import Derived.Test.YtjidioekeinppaaB17
import Derived.Test.YtjidioekeinppaaB18
import Derived.Test.YtjidioekeinppaaB19
namespace Go.Proofs.Ytjidioekeinppaa.B
open Go.RowKit Go.Proofs.YtjidioekeinppaaW.PrintWords Go.Proofs.YtjidioekeinppaaW.PrintLast Go.Proofs.YtjidioekeinppaaW.PrintMore
attribute [local go_sem] max2_int min2_int max_two min_two max_three min_three max_four min_four   -- for this text's walks alone
set_option linter.unusedVariables false
set_option linter.unusedSimpArgs false

/-! ### laws_FnExactReadBack: function 8 -/
mutual
def laws_FnExactReadBack.j0 : Nat → List (S34) → List (S37) → Bool → List (S42) → List (S37) → Bool → Bool → List Int → Int → List Int → Int → Option (Bool)
 | 0, _, _, _, _, _, _, _, _, _, _, _ => none
 | k + 1, x1, x6, x7, x9, x10, x11, x53, x299000, x299001, x317000, x317001 => if x53 = true then (some false) else ((laws_toInstrument.f k x299000 x299001).bind fun bt325 => ((laws_eqInstrument.f k x317000 x317001 bt325.1 bt325.2).bind fun t329 => (if t329 = true then ((laws_toHoleS.f k x1).bind fun t330 => ((laws_eqHoleS.f k x9 t330).bind fun t333 => (if t333 = true then ((laws_markInstrument.f k x317000 x317001 1).bind fun bt334 => ((laws_markHoleS.f k x9 bt334.1).bind fun bt336 => (if bt336.1 < 0 then (laws_FnExactReadBack.j1 k x1 x6 x7 x10 true x299000 x299001) else ((laws_eqNoteS.f k x10 x6).bind fun t338 => (if t338 = true then (laws_FnExactReadBack.j1 k x1 x6 x7 x10 (x11 != x7) x299000 x299001) else (laws_FnExactReadBack.j1 k x1 x6 x7 x10 true x299000 x299001)))))) else (some false)))) else (some false))))
def laws_FnExactReadBack.j1 : Nat → List (S34) → List (S37) → Bool → List (S37) → Bool → List Int → Int → Option (Bool)
 | 0, _, _, _, _, _, _, _ => none
 | k + 1, x1, x6, x7, x10, x82, x299000, x299001 => if x82 = true then (some false) else ((laws_markNoteS.f k x10 1).bind fun bt339 => ((laws_heldNoteS.f k bt339.2 1).bind fun t341 => (if t341 < 0 then (some false) else (if t341 = bt339.1 then ((laws_toInstrument.f k x299000 x299001).bind fun bt342 => ((laws_toHoleS.f k x1).bind fun t346 => ((impl_ReadBack.f k bt342.1 bt342.2 t346).bind fun bt349 => ((laws_eqNoteS.f k bt349.1 x6).bind fun t353 => (if t353 = true then (laws_FnExactReadBack.j2 k bt339.2 bt339.1 (bt349.2 != x7)) else (laws_FnExactReadBack.j2 k bt339.2 bt339.1 true)))))) else (some false)))))
def laws_FnExactReadBack.j2 : Nat → List (S37) → Int → Bool → Option (Bool)
 | 0, _, _, _ => none
 | k + 1, x10, x13, x110 => if x110 = true then (some false) else ((laws_heldNoteS.f k x10 1).bind fun t354 => (if t354 < 0 then (some false) else (if t354 = x13 then (some true) else (some false))))
end
def laws_FnExactReadBack.f (k : Nat) (l0_0 : List Int) (a0_1 : Int) (l1 : List (S34)) : Option (Bool) := (laws_szInstrument.f l0_0 a0_1 1048576).bind fun t299 => (if t299 < 0 then (some true) else ((laws_szHoleS.f l1 t299).bind fun t300 => (if t300 < 0 then (some true) else ((laws_toInstrument.f k l0_0 a0_1).bind fun bt301 => ((laws_toHoleS.f k l1).bind fun t305 => ((spec_ReadBack.f k bt301.1 bt301.2 t305).bind fun bt308 => ((laws_toInstrument.f k l0_0 a0_1).bind fun bt312 => ((laws_toHoleS.f k l1).bind fun t317 => ((impl_ReadBack.f k bt312.1 bt312.2 t317).bind fun bt320 => ((laws_eqNoteS.f k bt320.1 bt308.1).bind fun t324 => (if t324 = true then (laws_FnExactReadBack.j0 k l1 bt308.1 bt308.2 t317 bt320.1 bt320.2 (bt320.2 != bt308.2) l0_0 a0_1 bt312.1 bt312.2) else (laws_FnExactReadBack.j0 k l1 bt308.1 bt308.2 t317 bt320.1 bt320.2 true l0_0 a0_1 bt312.1 bt312.2))))))))))))
theorem laws_FnExactReadBack.mono_l : ∀ k, (∀ y0 y1 y2 y3 y4 y5 y6 y7 y8 y9 y10, LeO (laws_FnExactReadBack.j0 k y0 y1 y2 y3 y4 y5 y6 y7 y8 y9 y10) (laws_FnExactReadBack.j0 (k + 1) y0 y1 y2 y3 y4 y5 y6 y7 y8 y9 y10)) ∧ (∀ y0 y1 y2 y3 y4 y5 y6, LeO (laws_FnExactReadBack.j1 k y0 y1 y2 y3 y4 y5 y6) (laws_FnExactReadBack.j1 (k + 1) y0 y1 y2 y3 y4 y5 y6)) ∧ (∀ y0 y1 y2, LeO (laws_FnExactReadBack.j2 k y0 y1 y2) (laws_FnExactReadBack.j2 (k + 1) y0 y1 y2))
 | 0 => ⟨fun _ _ _ _ _ _ _ _ _ _ _ r h => by simp [laws_FnExactReadBack.j0] at h, fun _ _ _ _ _ _ _ r h => by simp [laws_FnExactReadBack.j1] at h, fun _ _ _ r h => by simp [laws_FnExactReadBack.j2] at h⟩
 | k + 1 => by
  obtain ⟨ih0, ih1, ih2⟩ := laws_FnExactReadBack.mono_l k
  refine ⟨?_, ?_, ?_⟩
  ·intro y0 y1 y2 y3 y4 y5 y6 y7 y8 y9 y10
   unfold laws_FnExactReadBack.j0
   repeat' first
   | (with_reducible exact ih0 _ _ _ _ _ _ _ _ _ _ _)
   | (with_reducible exact ih1 _ _ _ _ _ _ _)
   | (with_reducible exact ih2 _ _ _)
   | (with_reducible exact impl_ReadBack.mono _ _ _ _)
   | (with_reducible exact laws_eqHoleS.mono _ _ _)
   | (with_reducible exact laws_eqInstrument.mono _ _ _ _ _)
   | (with_reducible exact laws_eqNoteS.mono _ _ _)
   | (with_reducible exact laws_heldNoteS.mono _ _ _)
   | (with_reducible exact laws_markHoleS.mono _ _ _)
   | (with_reducible exact laws_markInstrument.mono _ _ _ _)
   | (with_reducible exact laws_markNoteS.mono _ _ _)
   | (with_reducible exact laws_toHoleS.mono _ _)
   | (with_reducible exact laws_toInstrument.mono _ _ _)
   | (with_reducible exact spec_ReadBack.mono _ _ _ _)
   | (with_reducible exact LeO.refl _)
   | (with_reducible exact LeO.none _)
   | (with_reducible refine LeO.ite ?_ ?_)
   | (with_reducible refine LeO.bind ?_ (fun _ => ?_))
   | exact ih0 _ _ _ _ _ _ _ _ _ _ _
   | exact ih1 _ _ _ _ _ _ _
   | exact ih2 _ _ _
   | exact impl_ReadBack.mono _ _ _ _
   | exact laws_eqHoleS.mono _ _ _
   | exact laws_eqInstrument.mono _ _ _ _ _
   | exact laws_eqNoteS.mono _ _ _
   | exact laws_heldNoteS.mono _ _ _
   | exact laws_markHoleS.mono _ _ _
   | exact laws_markInstrument.mono _ _ _ _
   | exact laws_markNoteS.mono _ _ _
   | exact laws_toHoleS.mono _ _
   | exact laws_toInstrument.mono _ _ _
   | exact spec_ReadBack.mono _ _ _ _
   | exact LeO.none _
   | refine LeO.ite ?_ ?_
   | refine LeO.bind ?_ (fun _ => ?_)
  ·intro y0 y1 y2 y3 y4 y5 y6
   unfold laws_FnExactReadBack.j1
   repeat' first
   | (with_reducible exact ih0 _ _ _ _ _ _ _ _ _ _ _)
   | (with_reducible exact ih1 _ _ _ _ _ _ _)
   | (with_reducible exact ih2 _ _ _)
   | (with_reducible exact impl_ReadBack.mono _ _ _ _)
   | (with_reducible exact laws_eqHoleS.mono _ _ _)
   | (with_reducible exact laws_eqInstrument.mono _ _ _ _ _)
   | (with_reducible exact laws_eqNoteS.mono _ _ _)
   | (with_reducible exact laws_heldNoteS.mono _ _ _)
   | (with_reducible exact laws_markHoleS.mono _ _ _)
   | (with_reducible exact laws_markInstrument.mono _ _ _ _)
   | (with_reducible exact laws_markNoteS.mono _ _ _)
   | (with_reducible exact laws_toHoleS.mono _ _)
   | (with_reducible exact laws_toInstrument.mono _ _ _)
   | (with_reducible exact spec_ReadBack.mono _ _ _ _)
   | (with_reducible exact LeO.refl _)
   | (with_reducible exact LeO.none _)
   | (with_reducible refine LeO.ite ?_ ?_)
   | (with_reducible refine LeO.bind ?_ (fun _ => ?_))
   | exact ih0 _ _ _ _ _ _ _ _ _ _ _
   | exact ih1 _ _ _ _ _ _ _
   | exact ih2 _ _ _
   | exact impl_ReadBack.mono _ _ _ _
   | exact laws_eqHoleS.mono _ _ _
   | exact laws_eqInstrument.mono _ _ _ _ _
   | exact laws_eqNoteS.mono _ _ _
   | exact laws_heldNoteS.mono _ _ _
   | exact laws_markHoleS.mono _ _ _
   | exact laws_markInstrument.mono _ _ _ _
   | exact laws_markNoteS.mono _ _ _
   | exact laws_toHoleS.mono _ _
   | exact laws_toInstrument.mono _ _ _
   | exact spec_ReadBack.mono _ _ _ _
   | exact LeO.none _
   | refine LeO.ite ?_ ?_
   | refine LeO.bind ?_ (fun _ => ?_)
  ·intro y0 y1 y2
   unfold laws_FnExactReadBack.j2
   repeat' first
   | (with_reducible exact ih0 _ _ _ _ _ _ _ _ _ _ _)
   | (with_reducible exact ih1 _ _ _ _ _ _ _)
   | (with_reducible exact ih2 _ _ _)
   | (with_reducible exact impl_ReadBack.mono _ _ _ _)
   | (with_reducible exact laws_eqHoleS.mono _ _ _)
   | (with_reducible exact laws_eqInstrument.mono _ _ _ _ _)
   | (with_reducible exact laws_eqNoteS.mono _ _ _)
   | (with_reducible exact laws_heldNoteS.mono _ _ _)
   | (with_reducible exact laws_markHoleS.mono _ _ _)
   | (with_reducible exact laws_markInstrument.mono _ _ _ _)
   | (with_reducible exact laws_markNoteS.mono _ _ _)
   | (with_reducible exact laws_toHoleS.mono _ _)
   | (with_reducible exact laws_toInstrument.mono _ _ _)
   | (with_reducible exact spec_ReadBack.mono _ _ _ _)
   | (with_reducible exact LeO.refl _)
   | (with_reducible exact LeO.none _)
   | (with_reducible refine LeO.ite ?_ ?_)
   | (with_reducible refine LeO.bind ?_ (fun _ => ?_))
   | exact ih0 _ _ _ _ _ _ _ _ _ _ _
   | exact ih1 _ _ _ _ _ _ _
   | exact ih2 _ _ _
   | exact impl_ReadBack.mono _ _ _ _
   | exact laws_eqHoleS.mono _ _ _
   | exact laws_eqInstrument.mono _ _ _ _ _
   | exact laws_eqNoteS.mono _ _ _
   | exact laws_heldNoteS.mono _ _ _
   | exact laws_markHoleS.mono _ _ _
   | exact laws_markInstrument.mono _ _ _ _
   | exact laws_markNoteS.mono _ _ _
   | exact laws_toHoleS.mono _ _
   | exact laws_toInstrument.mono _ _ _
   | exact spec_ReadBack.mono _ _ _ _
   | exact LeO.none _
   | refine LeO.ite ?_ ?_
   | refine LeO.bind ?_ (fun _ => ?_)
theorem laws_FnExactReadBack.mono : ∀ a0 a1 a2 k, LeO (laws_FnExactReadBack.f k a0 a1 a2) (laws_FnExactReadBack.f (k + 1) a0 a1 a2) := by
 intro a0 a1 a2 k
 obtain ⟨ih0, ih1, ih2⟩ := laws_FnExactReadBack.mono_l k
 unfold laws_FnExactReadBack.f
 repeat' first
   | (with_reducible exact ih0 _ _ _ _ _ _ _ _ _ _ _)
   | (with_reducible exact ih1 _ _ _ _ _ _ _)
   | (with_reducible exact ih2 _ _ _)
   | (with_reducible exact impl_ReadBack.mono _ _ _ _)
   | (with_reducible exact laws_eqHoleS.mono _ _ _)
   | (with_reducible exact laws_eqInstrument.mono _ _ _ _ _)
   | (with_reducible exact laws_eqNoteS.mono _ _ _)
   | (with_reducible exact laws_heldNoteS.mono _ _ _)
   | (with_reducible exact laws_markHoleS.mono _ _ _)
   | (with_reducible exact laws_markInstrument.mono _ _ _ _)
   | (with_reducible exact laws_markNoteS.mono _ _ _)
   | (with_reducible exact laws_toHoleS.mono _ _)
   | (with_reducible exact laws_toInstrument.mono _ _ _)
   | (with_reducible exact spec_ReadBack.mono _ _ _ _)
   | (with_reducible exact LeO.refl _)
   | (with_reducible exact LeO.none _)
   | (with_reducible refine LeO.ite ?_ ?_)
   | (with_reducible refine LeO.bind ?_ (fun _ => ?_))
   | exact ih0 _ _ _ _ _ _ _ _ _ _ _
   | exact ih1 _ _ _ _ _ _ _
   | exact ih2 _ _ _
   | exact impl_ReadBack.mono _ _ _ _
   | exact laws_eqHoleS.mono _ _ _
   | exact laws_eqInstrument.mono _ _ _ _ _
   | exact laws_eqNoteS.mono _ _ _
   | exact laws_heldNoteS.mono _ _ _
   | exact laws_markHoleS.mono _ _ _
   | exact laws_markInstrument.mono _ _ _ _
   | exact laws_markNoteS.mono _ _ _
   | exact laws_toHoleS.mono _ _
   | exact laws_toInstrument.mono _ _ _
   | exact spec_ReadBack.mono _ _ _ _
   | exact LeO.none _
   | refine LeO.ite ?_ ?_
   | refine LeO.bind ?_ (fun _ => ?_)
set_option maxHeartbeats 8000000 in
set_option maxRecDepth 100000 in
theorem laws_FnExactReadBack.calls (k : Nat) (A0_0 : Option Addr) (c0_0 : Nat) (l0_0 : List Int) (a0_1 : Int) (A1 : Option Addr) (c1 : Nat) (l1 : List (S34)) (r : Bool) (w : World) (hr0_0 : Kd.C (Kd.int .i64) w A0_0 l0_0.length l0_0) (hc0_0 : l0_0.length ≤ c0_0) (hr1 : Kd.C k34 w A1 l1.length l1) (hc1 : l1.length ≤ c1) (h : laws_FnExactReadBack.f k l0_0 a0_1 l1 = some r) :
  Calls Try.prog 8 #[.agg #[.slice A0_0 l0_0.length c0_0, .int .i64 a0_1], .slice A1 l1.length c1] w fun e w' => e = .returned (.bool r) ∧ Below w.heap.size w w' := by
 have hu32 := Try.underlying32
 have hu40 := Try.underlying40
 have HR0_0 := Aside0.mk hr0_0
 have HC0_0 := Aside0.mk hc0_0
 clear hr0_0 hc0_0
 have HR1 := Aside0.mk hr1
 have HC1 := Aside0.mk hc1
 clear hr1 hc1
 have HB := Aside0.mk (Below.refl w.heap.size w)
 have H : ((laws_szInstrument.f l0_0 a0_1 1048576).bind fun t299 => (if t299 < 0 then (some true) else ((laws_szHoleS.f l1 t299).bind fun t300 => (if t300 < 0 then (some true) else ((laws_toInstrument.f k l0_0 a0_1).bind fun bt301 => ((laws_toHoleS.f k l1).bind fun t305 => ((spec_ReadBack.f k bt301.1 bt301.2 t305).bind fun bt308 => ((laws_toInstrument.f k l0_0 a0_1).bind fun bt312 => ((laws_toHoleS.f k l1).bind fun t317 => ((impl_ReadBack.f k bt312.1 bt312.2 t317).bind fun bt320 => ((laws_eqNoteS.f k bt320.1 bt308.1).bind fun t324 => (if t324 = true then (laws_FnExactReadBack.j0 k l1 bt308.1 bt308.2 t317 bt320.1 bt320.2 (bt320.2 != bt308.2) l0_0 a0_1 bt312.1 bt312.2) else (laws_FnExactReadBack.j0 k l1 bt308.1 bt308.2 t317 bt320.1 bt320.2 true l0_0 a0_1 bt312.1 bt312.2))))))))))))) = some r := h
 clear h
 replace H := Option.bind_eq_some_iff.mp H
 obtain ⟨t299, A30, H⟩ := H
 replace H : (if t299 < 0 then (some true) else ((laws_szHoleS.f l1 t299).bind fun t300 => (if t300 < 0 then (some true) else ((laws_toInstrument.f k l0_0 a0_1).bind fun bt301 => ((laws_toHoleS.f k l1).bind fun t305 => ((spec_ReadBack.f k bt301.1 bt301.2 t305).bind fun bt308 => ((laws_toInstrument.f k l0_0 a0_1).bind fun bt312 => ((laws_toHoleS.f k l1).bind fun t317 => ((impl_ReadBack.f k bt312.1 bt312.2 t317).bind fun bt320 => ((laws_eqNoteS.f k bt320.1 bt308.1).bind fun t324 => (if t324 = true then (laws_FnExactReadBack.j0 k l1 bt308.1 bt308.2 t317 bt320.1 bt320.2 (bt320.2 != bt308.2) l0_0 a0_1 bt312.1 bt312.2) else (laws_FnExactReadBack.j0 k l1 bt308.1 bt308.2 t317 bt320.1 bt320.2 true l0_0 a0_1 bt312.1 bt312.2)))))))))))) = some r := H
 have A3 := Aside0.mk A30
 clear A30
 by_cases c4 : t299 < 0
 ·rw [if_pos c4] at H
  have c4b0 : decide (t299 < 0) = true := decide_eq_true c4
  clear c4
  obtain rfl := Option.some.inj H
  go_enter Try.func8, Try.ntmps8
  go_wp2_with (first | ((with_reducible refine gate_dst (N := 2) rfl ?_); refine box_event rfl (N := 2) rfl (cs := #[.slice A0_0 l0_0.length c0_0, .int .i64 a0_1]) (t := 32) ?hr ?_; (case hr => first | (go_simp; done) | (go_simp; rfl)); intro gb298 hg w5 hbox hb; have n0_ := Aside0.mk (below_step (eq0 HB) hb); have n1_ := Aside0.mk hbox; have n2_ := Aside0.mk (szq hg (eq0 HB)); have n3_ := n2_; clear HB; have HB := n0_; have BK298 := n1_; have GW298 := n2_; have GE298 := n3_; clear n0_ n1_ n2_ n3_; clear hb hbox hg; have hcz6_0 : w5.cell? ⟨gb298, 0, none⟩ = some (.slice A0_0 l0_0.length c0_0) := (blk_cell BK298.out 0).trans rfl; have hcz6_1 : w5.cell? ⟨gb298, 1, none⟩ = some (.int .i64 a0_1) := (blk_cell BK298.out 1).trans rfl; have hfz6_0 := blk_frozen BK298.out 0; have hfz6_1 := blk_frozen BK298.out 1) | ((with_reducible refine gate_callee (f := 20) rfl ?_); refine goesL_ (some 19) rfl rfl Try.func20 (by kernel_rfl) rfl #[.agg #[.slice A0_0 l0_0.length c0_0, .int .i64 a0_1], .int .i64 1048576] rfl (by (try simp only [List.map_toArray, List.map_cons, List.map_nil]); first | done | rfl | (simp only [List.length_drop, List.length_take]; rfl)) ?_; (with_reducible refine (laws_szInstrument.calls _ _ l0_0 a0_1 1048576 t299 _ ?side1 ?side2 A3.out).mono ?_); (case side1 => exact cq (Kd.C_below HR0_0.out HB.out)); (case side2 => exact HC0_0.out); rintro e w7 ⟨rfl, hb⟩; refine ⟨_, rfl, ?_⟩; have n0_ := Aside0.mk (blk_below (bq BK298) hb); have n1_ := Aside0.mk (below_step (eq1 HB GE298) hb); clear BK298; clear HB; have BK298 := n0_; have HB := n1_; clear n0_ n1_; (try clear hb); (try clear hb2); (try clear hk); (try clear hi)))
  go_ret
  exact ⟨by first | rfl | (simp [errW_none, errW_some] <;> rfl) | (simp [*, errW_none, errW_some] <;> rfl), eq1 HB GE298⟩
 ·rw [if_neg c4] at H
  have c4b0 : decide (t299 < 0) = false := decide_eq_false c4
  clear c4
  replace H := Option.bind_eq_some_iff.mp H
  obtain ⟨t300, A80, H⟩ := H
  replace H : (if t300 < 0 then (some true) else ((laws_toInstrument.f k l0_0 a0_1).bind fun bt301 => ((laws_toHoleS.f k l1).bind fun t305 => ((spec_ReadBack.f k bt301.1 bt301.2 t305).bind fun bt308 => ((laws_toInstrument.f k l0_0 a0_1).bind fun bt312 => ((laws_toHoleS.f k l1).bind fun t317 => ((impl_ReadBack.f k bt312.1 bt312.2 t317).bind fun bt320 => ((laws_eqNoteS.f k bt320.1 bt308.1).bind fun t324 => (if t324 = true then (laws_FnExactReadBack.j0 k l1 bt308.1 bt308.2 t317 bt320.1 bt320.2 (bt320.2 != bt308.2) l0_0 a0_1 bt312.1 bt312.2) else (laws_FnExactReadBack.j0 k l1 bt308.1 bt308.2 t317 bt320.1 bt320.2 true l0_0 a0_1 bt312.1 bt312.2)))))))))) = some r := H
  have A8 := Aside0.mk A80
  clear A80
  by_cases c9 : t300 < 0
  ·rw [if_pos c9] at H
   have c9b0 : decide (t300 < 0) = true := decide_eq_true c9
   clear c9
   obtain rfl := Option.some.inj H
   go_enter Try.func8, Try.ntmps8
   go_wp2_with (first | ((with_reducible refine gate_dst (N := 2) rfl ?_); refine box_event rfl (N := 2) rfl (cs := #[.slice A0_0 l0_0.length c0_0, .int .i64 a0_1]) (t := 32) ?hr ?_; (case hr => first | (go_simp; done) | (go_simp; rfl)); intro gb298 hg w10 hbox hb; have n0_ := Aside0.mk (below_step (eq0 HB) hb); have n1_ := Aside0.mk hbox; have n2_ := Aside0.mk (szq hg (eq0 HB)); have n3_ := n2_; clear HB; have HB := n0_; have BK298 := n1_; have GW298 := n2_; have GE298 := n3_; clear n0_ n1_ n2_ n3_; clear hb hbox hg; have hcz11_0 : w10.cell? ⟨gb298, 0, none⟩ = some (.slice A0_0 l0_0.length c0_0) := (blk_cell BK298.out 0).trans rfl; have hcz11_1 : w10.cell? ⟨gb298, 1, none⟩ = some (.int .i64 a0_1) := (blk_cell BK298.out 1).trans rfl; have hfz11_0 := blk_frozen BK298.out 0; have hfz11_1 := blk_frozen BK298.out 1) | ((with_reducible refine gate_callee (f := 20) rfl ?_); refine goesL_ (some 19) rfl rfl Try.func20 (by kernel_rfl) rfl #[.agg #[.slice A0_0 l0_0.length c0_0, .int .i64 a0_1], .int .i64 1048576] rfl (by (try simp only [List.map_toArray, List.map_cons, List.map_nil]); first | done | rfl | (simp only [List.length_drop, List.length_take]; rfl)) ?_; (with_reducible refine (laws_szInstrument.calls _ _ l0_0 a0_1 1048576 t299 _ ?side1 ?side2 A3.out).mono ?_); (case side1 => exact cq (Kd.C_below HR0_0.out HB.out)); (case side2 => exact HC0_0.out); rintro e w12 ⟨rfl, hb⟩; refine ⟨_, rfl, ?_⟩; have n0_ := Aside0.mk (blk_below (bq BK298) hb); have n1_ := Aside0.mk (below_step (eq1 HB GE298) hb); clear BK298; clear HB; have BK298 := n0_; have HB := n1_; clear n0_ n1_; (try clear hb); (try clear hb2); (try clear hk); (try clear hi)) | ((with_reducible refine gate_callee (f := 13) rfl ?_); refine goesL_ (some 24) rfl rfl Try.func13 (by kernel_rfl) rfl #[.slice A1 l1.length c1, .int .i64 t299] rfl (by (try simp only [List.map_toArray, List.map_cons, List.map_nil]); first | done | rfl | (simp only [List.length_drop, List.length_take]; rfl)) ?_; (with_reducible refine (laws_szHoleS.calls _ _ l1 t299 t300 _ ?side1 ?side2 A8.out).mono ?_); (case side1 => exact cq (Kd.C_below HR1.out HB.out)); (case side2 => exact HC1.out); rintro e w' ⟨rfl, ⟨nd, rfl⟩⟩; refine ⟨_, rfl, ?_⟩))
   go_ret
   exact ⟨by first | rfl | (simp [errW_none, errW_some] <;> rfl) | (simp [*, errW_none, errW_some] <;> rfl), eq1 HB GE298⟩
  ·rw [if_neg c9] at H
   have c9b0 : decide (t300 < 0) = false := decide_eq_false c9
   clear c9
   replace H := Option.bind_eq_some_iff.mp H
   obtain ⟨⟨t301, t304⟩, A130, H⟩ := H
   replace H : ((laws_toHoleS.f k l1).bind fun t305 => ((spec_ReadBack.f k t301 t304 t305).bind fun bt308 => ((laws_toInstrument.f k l0_0 a0_1).bind fun bt312 => ((laws_toHoleS.f k l1).bind fun t317 => ((impl_ReadBack.f k bt312.1 bt312.2 t317).bind fun bt320 => ((laws_eqNoteS.f k bt320.1 bt308.1).bind fun t324 => (if t324 = true then (laws_FnExactReadBack.j0 k l1 bt308.1 bt308.2 t317 bt320.1 bt320.2 (bt320.2 != bt308.2) l0_0 a0_1 bt312.1 bt312.2) else (laws_FnExactReadBack.j0 k l1 bt308.1 bt308.2 t317 bt320.1 bt320.2 true l0_0 a0_1 bt312.1 bt312.2)))))))) = some r := H
   have A13 := Aside0.mk A130
   clear A130
   replace H := Option.bind_eq_some_iff.mp H
   obtain ⟨t305, A140, H⟩ := H
   replace H : ((spec_ReadBack.f k t301 t304 t305).bind fun bt308 => ((laws_toInstrument.f k l0_0 a0_1).bind fun bt312 => ((laws_toHoleS.f k l1).bind fun t317 => ((impl_ReadBack.f k bt312.1 bt312.2 t317).bind fun bt320 => ((laws_eqNoteS.f k bt320.1 bt308.1).bind fun t324 => (if t324 = true then (laws_FnExactReadBack.j0 k l1 bt308.1 bt308.2 t317 bt320.1 bt320.2 (bt320.2 != bt308.2) l0_0 a0_1 bt312.1 bt312.2) else (laws_FnExactReadBack.j0 k l1 bt308.1 bt308.2 t317 bt320.1 bt320.2 true l0_0 a0_1 bt312.1 bt312.2))))))) = some r := H
   have A14 := Aside0.mk A140
   clear A140
   replace H := Option.bind_eq_some_iff.mp H
   obtain ⟨⟨t308, t311⟩, A150, H⟩ := H
   replace H : ((laws_toInstrument.f k l0_0 a0_1).bind fun bt312 => ((laws_toHoleS.f k l1).bind fun t317 => ((impl_ReadBack.f k bt312.1 bt312.2 t317).bind fun bt320 => ((laws_eqNoteS.f k bt320.1 t308).bind fun t324 => (if t324 = true then (laws_FnExactReadBack.j0 k l1 t308 t311 t317 bt320.1 bt320.2 (bt320.2 != t311) l0_0 a0_1 bt312.1 bt312.2) else (laws_FnExactReadBack.j0 k l1 t308 t311 t317 bt320.1 bt320.2 true l0_0 a0_1 bt312.1 bt312.2)))))) = some r := H
   have A15 := Aside0.mk A150
   clear A150
   replace H := Option.bind_eq_some_iff.mp H
   obtain ⟨⟨t312, t315⟩, A160, H⟩ := H
   replace H : ((laws_toHoleS.f k l1).bind fun t317 => ((impl_ReadBack.f k t312 t315 t317).bind fun bt320 => ((laws_eqNoteS.f k bt320.1 t308).bind fun t324 => (if t324 = true then (laws_FnExactReadBack.j0 k l1 t308 t311 t317 bt320.1 bt320.2 (bt320.2 != t311) l0_0 a0_1 t312 t315) else (laws_FnExactReadBack.j0 k l1 t308 t311 t317 bt320.1 bt320.2 true l0_0 a0_1 t312 t315))))) = some r := H
   have A16 := Aside0.mk A160
   clear A160
   replace H := Option.bind_eq_some_iff.mp H
   obtain ⟨t317, A170, H⟩ := H
   replace H : ((impl_ReadBack.f k t312 t315 t317).bind fun bt320 => ((laws_eqNoteS.f k bt320.1 t308).bind fun t324 => (if t324 = true then (laws_FnExactReadBack.j0 k l1 t308 t311 t317 bt320.1 bt320.2 (bt320.2 != t311) l0_0 a0_1 t312 t315) else (laws_FnExactReadBack.j0 k l1 t308 t311 t317 bt320.1 bt320.2 true l0_0 a0_1 t312 t315)))) = some r := H
   have A17 := Aside0.mk A170
   clear A170
   replace H := Option.bind_eq_some_iff.mp H
   obtain ⟨⟨t320, t323⟩, A180, H⟩ := H
   replace H : ((laws_eqNoteS.f k t320 t308).bind fun t324 => (if t324 = true then (laws_FnExactReadBack.j0 k l1 t308 t311 t317 t320 t323 (t323 != t311) l0_0 a0_1 t312 t315) else (laws_FnExactReadBack.j0 k l1 t308 t311 t317 t320 t323 true l0_0 a0_1 t312 t315))) = some r := H
   have A18 := Aside0.mk A180
   clear A180
   have HC19 := Aside0.mk H
   clear H
   go_enter Try.func8, Try.ntmps8
   go_upto_region 12 with (first | ((with_reducible refine gate_dst (N := 2) rfl ?_); refine box_event rfl (N := 2) rfl (cs := #[.slice A0_0 l0_0.length c0_0, .int .i64 a0_1]) (t := 32) ?hr ?_; (case hr => first | (go_simp; done) | (go_simp; rfl)); intro gb298 hg w20 hbox hb; have n0_ := Aside0.mk (below_step (eq0 HB) hb); have n1_ := Aside0.mk hbox; have n2_ := Aside0.mk (szq hg (eq0 HB)); have n3_ := n2_; clear HB; have HB := n0_; have BK298 := n1_; have GW298 := n2_; have GE298 := n3_; clear n0_ n1_ n2_ n3_; clear hb hbox hg; have hcz21_0 : w20.cell? ⟨gb298, 0, none⟩ = some (.slice A0_0 l0_0.length c0_0) := (blk_cell BK298.out 0).trans rfl; have hcz21_1 : w20.cell? ⟨gb298, 1, none⟩ = some (.int .i64 a0_1) := (blk_cell BK298.out 1).trans rfl; have hfz21_0 := blk_frozen BK298.out 0; have hfz21_1 := blk_frozen BK298.out 1) | ((with_reducible refine gate_callee (f := 20) rfl ?_); refine goesL_ (some 19) rfl rfl Try.func20 (by kernel_rfl) rfl #[.agg #[.slice A0_0 l0_0.length c0_0, .int .i64 a0_1], .int .i64 1048576] rfl (by (try simp only [List.map_toArray, List.map_cons, List.map_nil]); first | done | rfl | (simp only [List.length_drop, List.length_take]; rfl)) ?_; (with_reducible refine (laws_szInstrument.calls _ _ l0_0 a0_1 1048576 t299 _ ?side1 ?side2 A3.out).mono ?_); (case side1 => exact cq (Kd.C_below HR0_0.out HB.out)); (case side2 => exact HC0_0.out); rintro e w22 ⟨rfl, hb⟩; refine ⟨_, rfl, ?_⟩; have n0_ := Aside0.mk (blk_below (bq BK298) hb); have n1_ := Aside0.mk (below_step (eq1 HB GE298) hb); clear BK298; clear HB; have BK298 := n0_; have HB := n1_; clear n0_ n1_; (try clear hb); (try clear hb2); (try clear hk); (try clear hi)) | ((with_reducible refine gate_callee (f := 13) rfl ?_); refine goesL_ (some 24) rfl rfl Try.func13 (by kernel_rfl) rfl #[.slice A1 l1.length c1, .int .i64 t299] rfl (by (try simp only [List.map_toArray, List.map_cons, List.map_nil]); first | done | rfl | (simp only [List.length_drop, List.length_take]; rfl)) ?_; (with_reducible refine (laws_szHoleS.calls _ _ l1 t299 t300 _ ?side1 ?side2 A8.out).mono ?_); (case side1 => exact cq (Kd.C_below HR1.out HB.out)); (case side2 => exact HC1.out); rintro e w' ⟨rfl, ⟨nd, rfl⟩⟩; refine ⟨_, rfl, ?_⟩; (try (rw [drewN_self w22]; generalize hq_ : World.drewN w22 _ = w22; have n0_ : Aside0 (w22.heap[gb298]? = some (.cells #[.slice A0_0 l0_0.length c0_0, .int .i64 a0_1] 32 (0, 0))) := ⟨by rw [← hq_]; exact (bq BK298)⟩; have n1_ : Aside0 (Below w.heap.size w w22) := ⟨by rw [← hq_]; exact (eq1 HB GE298)⟩; clear BK298 HB hq_; have BK298 := n0_; have HB := n1_; clear n0_ n1_)); have hcz23_0 : w22.cell? ⟨gb298, 0, none⟩ = some (.slice A0_0 l0_0.length c0_0) := (blk_cell BK298.out 0).trans rfl; have hcz23_1 : w22.cell? ⟨gb298, 1, none⟩ = some (.int .i64 a0_1) := (blk_cell BK298.out 1).trans rfl; have hfz23_0 := blk_frozen BK298.out 0; have hfz23_1 := blk_frozen BK298.out 1) | ((with_reducible refine gate_callee (f := 22) rfl ?_); refine goesL_ (some 29) rfl rfl Try.func22 (by kernel_rfl) rfl #[.agg #[.slice A0_0 l0_0.length c0_0, .int .i64 a0_1]] rfl (by (try simp only [List.map_toArray, List.map_cons, List.map_nil]); first | done | rfl | (simp only [List.length_drop, List.length_take]; rfl)) ?_; (with_reducible refine (laws_toInstrument.calls k _ _ l0_0 a0_1 t301 t304 _ ?side1 ?side2 A13.out).mono ?_); (case side1 => exact cq (Kd.C_below HR0_0.out HB.out)); (case side2 => exact HC0_0.out); rintro e w24 ⟨v302, rfl, ho0, hb⟩; refine ⟨_, rfl, ?_⟩; have n0_ := Aside0.mk (Kd.R_lower ho0 (below_size (eq1 HB GE298))); have n1_ := Aside0.mk (blk_below (bq BK298) hb); have n2_ := Aside0.mk (below_step (eq1 HB GE298) hb); clear BK298; clear HB; have HO303 := n0_; have BK298 := n1_; have HB := n2_; clear n0_ n1_ n2_; (try clear hb); (try clear hb2); (try clear hk); (try clear hi); (try clear ho0)) | ((with_reducible refine gate_callee (f := 15) rfl ?_); refine goesL_ (some 31) rfl rfl Try.func15 (by kernel_rfl) rfl #[.slice A1 l1.length c1] rfl (by (try simp only [List.map_toArray, List.map_cons, List.map_nil]); first | done | rfl | (simp only [List.length_drop, List.length_take]; rfl)) ?_; (with_reducible refine (laws_toHoleS.calls k _ _ l1 t305 _ ?side1 ?side2 A14.out).mono ?_); (case side1 => exact cq (Kd.C_below HR1.out HB.out)); (case side2 => exact HC1.out); rintro e w25 ⟨v306, rfl, ho0, hb⟩; refine ⟨_, rfl, ?_⟩; have n0_ := Aside0.mk (Kd.R_below (kq HO303) hb); have n1_ := Aside0.mk (Kd.R_lower ho0 (below_size (eq1 HB GE298))); have n2_ := Aside0.mk (blk_below (bq BK298) hb); have n3_ := Aside0.mk (below_step (eq1 HB GE298) hb); clear HO303; clear BK298; clear HB; have HO303 := n0_; have HO307 := n1_; have BK298 := n2_; have HB := n3_; clear n0_ n1_ n2_ n3_; (try clear hb); (try clear hb2); (try clear hk); (try clear hi); (try clear ho0); obtain ⟨Ao26, co26, eo26⟩ := Kd.R_slice HO303.out; subst eo26; obtain ⟨Ao27, co27, eo27⟩ := Kd.R_slice HO307.out; subst eo27) | ((with_reducible refine gate_callee (f := 37) rfl ?_); refine goesL_ (some 32) rfl rfl Try.func37 (by kernel_rfl) rfl #[.agg #[.slice Ao26 t301.length co26, .int .i64 t304], .slice Ao27 t305.length co27] rfl (by (try simp only [List.map_toArray, List.map_cons, List.map_nil]); first | done | rfl | (simp only [List.length_drop, List.length_take]; rfl)) ?_; (with_reducible refine (spec_ReadBack.calls k _ _ t301 t304 _ _ t305 t308 t311 _ ?side1 ?side2 ?side3 ?side4 A15.out).mono ?_); (case side1 => exact cq (Kd.R_reads' HO303.out).2.2); (case side2 => exact (Kd.R_reads' HO303.out).2.1); (case side3 => exact cq (Kd.R_reads' HO307.out).2.2); (case side4 => exact (Kd.R_reads' HO307.out).2.1); rintro e w28 ⟨v309, rfl, ho0, hb⟩; refine ⟨_, rfl, ?_⟩; have n0_ := Aside0.mk (Kd.R_below (kq HO303) hb); have n1_ := Aside0.mk (Kd.R_below (kq HO307) hb); have n2_ := Aside0.mk (Kd.R_lower ho0 (below_size (eq1 HB GE298))); have n3_ := Aside0.mk (blk_below (bq BK298) hb); have n4_ := Aside0.mk (below_step (eq1 HB GE298) hb); clear HO303; clear HO307; clear BK298; clear HB; have HO303 := n0_; have HO307 := n1_; have HO310 := n2_; have BK298 := n3_; have HB := n4_; clear n0_ n1_ n2_ n3_ n4_; (try clear hb); (try clear hb2); (try clear hk); (try clear hi); (try clear ho0); have hcz29_0 : w28.cell? ⟨gb298, 0, none⟩ = some (.slice A0_0 l0_0.length c0_0) := (blk_cell BK298.out 0).trans rfl; have hcz29_1 : w28.cell? ⟨gb298, 1, none⟩ = some (.int .i64 a0_1) := (blk_cell BK298.out 1).trans rfl; have hfz29_0 := blk_frozen BK298.out 0; have hfz29_1 := blk_frozen BK298.out 1) | ((with_reducible refine gate_callee (f := 22) rfl ?_); refine goesL_ (some 36) rfl rfl Try.func22 (by kernel_rfl) rfl #[.agg #[.slice A0_0 l0_0.length c0_0, .int .i64 a0_1]] rfl (by (try simp only [List.map_toArray, List.map_cons, List.map_nil]); first | done | rfl | (simp only [List.length_drop, List.length_take]; rfl)) ?_; (with_reducible refine (laws_toInstrument.calls k _ _ l0_0 a0_1 t312 t315 _ ?side1 ?side2 A16.out).mono ?_); (case side1 => exact cq (Kd.C_below HR0_0.out HB.out)); (case side2 => exact HC0_0.out); rintro e w30 ⟨v313, rfl, ho0, hb⟩; refine ⟨_, rfl, ?_⟩; have n0_ := Aside0.mk (Kd.R_elder' (kq HO303) (Kd.R_base ho0) hb); have n1_ := Aside0.mk (Kd.R_below (kq HO307) hb); have n2_ := Aside0.mk (Kd.R_below (kq HO310) hb); have n3_ := Aside0.mk (Kd.R_lower (Kd.R_new' ho0 (Kd.R_lt (kq HO303))) (below_size (eq1 HB GE298))); have n4_ := Aside0.mk (blk_below (bq BK298) hb); have n5_ := Aside0.mk (below_step (eq1 HB GE298) hb); clear HO303; clear HO307; clear HO310; clear BK298; clear HB; have HO303 := n0_; have HO307 := n1_; have HO310 := n2_; have HO314 := n3_; have BK298 := n4_; have HB := n5_; clear n0_ n1_ n2_ n3_ n4_ n5_; (try clear hb); (try clear hb2); (try clear hk); (try clear hi); (try clear ho0)) | ((with_reducible refine gate_dst (N := 8) rfl ?_); refine box_event rfl (N := 8) rfl (cs := #[.slice none 0 0, .int .i64 0]) (t := 40) ?hr ?_; (case hr => first | (go_simp; done) | (go_simp; rfl)); intro gb316 hg w31 hbox hb; have n0_ := Aside0.mk (Kd.R_below (kq HO303) hb); have n1_ := Aside0.mk (Kd.R_below (kq HO307) hb); have n2_ := Aside0.mk (Kd.R_below (kq HO310) hb); have n3_ := Aside0.mk (Kd.R_below (kq HO314) hb); have n4_ := Aside0.mk (blk_below (bq BK298) hb); have n5_ := Aside0.mk (below_step (eq1 HB GE298) hb); have n6_ := Aside0.mk hbox; have n7_ := Aside0.mk (szq hg (eq1 HB GE298)); have n8_ := n7_; have n9_ := Aside0.mk ((by rw [hg]; exact Nat.ne_of_lt (blk_lt (g := gb298) (o := .cells #[.slice A0_0 l0_0.length c0_0, .int .i64 a0_1] 32 (0, 0)) (bq BK298)) : gb298 ≠ gb316)); have n10_ := Aside0.mk ((by rw [hg]; exact Nat.ne_of_gt (blk_lt (g := gb298) (o := .cells #[.slice A0_0 l0_0.length c0_0, .int .i64 a0_1] 32 (0, 0)) (bq BK298)) : gb316 ≠ gb298)); clear HO303; clear HO307; clear HO310; clear HO314; clear BK298; clear HB; have HO303 := n0_; have HO307 := n1_; have HO310 := n2_; have HO314 := n3_; have BK298 := n4_; have HB := n5_; have BK316 := n6_; have GW316 := n7_; have GE316 := n8_; have NB298_316 := n9_; have NB316_298 := n10_; clear n0_ n1_ n2_ n3_ n4_ n5_ n6_ n7_ n8_ n9_ n10_; clear hb hbox hg; obtain ⟨Ao32, co32, eo32⟩ := Kd.R_slice HO314.out; subst eo32; have hnb33 := NB316_298.out; have hnc33 := NB298_316.out; have hcz34_0 : w31.cell? ⟨gb316, 0, none⟩ = some (.slice none 0 0) := (blk_cell BK316.out 0).trans rfl; have hcz34_1 : w31.cell? ⟨gb316, 1, none⟩ = some (.int .i64 0) := (blk_cell BK316.out 1).trans rfl; have hfz34_0 := blk_frozen BK316.out 0; have hfz34_1 := blk_frozen BK316.out 1) | ((with_reducible refine gate_callee (f := 15) rfl ?_); refine goesL_ (some 38) rfl rfl Try.func15 (by kernel_rfl) rfl #[.slice A1 l1.length c1] rfl (by (try simp only [List.map_toArray, List.map_cons, List.map_nil]); first | done | rfl | (simp only [List.length_drop, List.length_take]; rfl)) ?_; (with_reducible refine (laws_toHoleS.calls k _ _ l1 t317 _ ?side1 ?side2 A17.out).mono ?_); (case side1 => exact Kd.C_below HR1.out (eq2 HB GE298 GE316)); (case side2 => exact HC1.out); rintro e w35 ⟨v318, rfl, ho0, hb⟩; refine ⟨_, rfl, ?_⟩; have n0_ := Aside0.mk (Kd.R_below (by (with_reducible repeat (first | apply Kd.R_alloc | apply Kd.R_drewN | apply Kd.R_drew)); exact (Kd.R_mono (Kd.R_far (p := ⟨gb316, 1, none⟩) (Kd.R_far (p := ⟨gb316, 0, none⟩) (Kd.R_types HO303.out BK316.out (by decide)) (fun _ hk => hk.2) (.slice Ao32 t312.length co32)) (fun _ hk => hk.2) (.int .i64 t315)) (fun _ h_ => h_.1))) hb); have n1_ := Aside0.mk (Kd.R_elder' (by (with_reducible repeat (first | apply Kd.R_alloc | apply Kd.R_drewN | apply Kd.R_drew)); exact (Kd.R_mono (Kd.R_far (p := ⟨gb316, 1, none⟩) (Kd.R_far (p := ⟨gb316, 0, none⟩) (Kd.R_types HO307.out BK316.out (by decide)) (fun _ hk => hk.2) (.slice Ao32 t312.length co32)) (fun _ hk => hk.2) (.int .i64 t315)) (fun _ h_ => h_.1))) (Kd.R_base ho0) hb); have n2_ := Aside0.mk (Kd.R_below (by (with_reducible repeat (first | apply Kd.R_alloc | apply Kd.R_drewN | apply Kd.R_drew)); exact (Kd.R_mono (Kd.R_far (p := ⟨gb316, 1, none⟩) (Kd.R_far (p := ⟨gb316, 0, none⟩) (Kd.R_types HO310.out BK316.out (by decide)) (fun _ hk => hk.2) (.slice Ao32 t312.length co32)) (fun _ hk => hk.2) (.int .i64 t315)) (fun _ h_ => h_.1))) hb); have n3_ := Aside0.mk (Kd.R_below (by (with_reducible repeat (first | apply Kd.R_alloc | apply Kd.R_drewN | apply Kd.R_drew)); exact (Kd.R_mono (Kd.R_far (p := ⟨gb316, 1, none⟩) (Kd.R_far (p := ⟨gb316, 0, none⟩) (Kd.R_types HO314.out BK316.out (by decide)) (fun _ hk => hk.2) (.slice Ao32 t312.length co32)) (fun _ hk => hk.2) (.int .i64 t315)) (fun _ h_ => h_.1))) hb); have n4_ := Aside0.mk (Kd.R_lower (Kd.R_new' ho0 (Kd.R_lt (by (with_reducible repeat (first | apply Kd.R_alloc | apply Kd.R_drewN | apply Kd.R_drew)); exact (Kd.R_mono (Kd.R_far (p := ⟨gb316, 1, none⟩) (Kd.R_far (p := ⟨gb316, 0, none⟩) (Kd.R_types HO307.out BK316.out (by decide)) (fun _ hk => hk.2) (.slice Ao32 t312.length co32)) (fun _ hk => hk.2) (.int .i64 t315)) (fun _ h_ => h_.1))))) (below_size (eq2 HB GE298 GE316))); have n5_ := Aside0.mk (blk_below (g := gb298) (o := .cells #[.slice A0_0 l0_0.length c0_0, .int .i64 a0_1] 32 (0, 0)) (by (with_reducible repeat (first | refine blk_drewN ?_ _ | refine blk_drew ?_ | refine blk_alloc ?_ _)); refine blk_far ?_ NB298_316.out _; (with_reducible repeat (first | refine blk_drewN ?_ _ | refine blk_drew ?_ | refine blk_alloc ?_ _)); refine blk_far ?_ NB298_316.out _; exact bq BK298) hb); have n6_ := Aside0.mk (blk_below (g := gb316) (o := .cells #[.slice Ao32 t312.length co32, .int .i64 t315] 40 (0, 0)) (by (with_reducible repeat (first | refine blk_drewN ?_ _ | refine blk_drew ?_ | refine blk_alloc ?_ _)); refine blk_put (cs := #[.slice Ao32 t312.length co32, .int .i64 0]) ?_ 1 _ rfl; (with_reducible repeat (first | refine blk_drewN ?_ _ | refine blk_drew ?_ | refine blk_alloc ?_ _)); refine blk_put (cs := #[.slice none 0 0, .int .i64 0]) ?_ 0 _ rfl; exact bq BK316) hb); have n7_ := Aside0.mk (below_step (eq2 HB GE298 GE316) hb); clear HO303; clear HO307; clear HO310; clear HO314; clear BK298; clear BK316; clear HB; have HO303 := n0_; have HO307 := n1_; have HO310 := n2_; have HO314 := n3_; have HO319 := n4_; have BK298 := n5_; have BK316 := n6_; have HB := n7_; clear n0_ n1_ n2_ n3_ n4_ n5_ n6_ n7_; (try clear hb); (try clear hb2); (try clear hk); (try clear hi); (try clear ho0); have hcz36_0 : w35.cell? ⟨gb316, 0, none⟩ = some (.slice Ao32 t312.length co32) := (blk_cell BK316.out 0).trans rfl; have hcz36_1 : w35.cell? ⟨gb316, 1, none⟩ = some (.int .i64 t315) := (blk_cell BK316.out 1).trans rfl; have hfz36_0 := blk_frozen BK316.out 0; have hfz36_1 := blk_frozen BK316.out 1; obtain ⟨Ao37, co37, eo37⟩ := Kd.R_slice HO319.out; subst eo37) | ((with_reducible refine gate_callee (f := 38) rfl ?_); refine goesL_ (some 42) rfl rfl Try.func38 (by kernel_rfl) rfl #[.agg #[.slice Ao32 t312.length co32, .int .i64 t315], .slice Ao37 t317.length co37] rfl (by (try simp only [List.map_toArray, List.map_cons, List.map_nil]); first | done | rfl | (simp only [List.length_drop, List.length_take]; rfl)) ?_; (with_reducible refine (impl_ReadBack.calls k _ _ t312 t315 _ _ t317 t320 t323 _ ?side1 ?side2 ?side3 ?side4 A18.out).mono ?_); (case side1 => exact cq (Kd.R_reads' HO314.out).2.2); (case side2 => exact (Kd.R_reads' HO314.out).2.1); (case side3 => exact cq (Kd.R_reads' HO319.out).2.2); (case side4 => exact (Kd.R_reads' HO319.out).2.1); rintro e w38 ⟨v321, rfl, ho0, hb⟩; refine ⟨_, rfl, ?_⟩; have n0_ := Aside0.mk (Kd.R_below (kq HO303) hb); have n1_ := Aside0.mk (Kd.R_below (kq HO307) hb); have n2_ := Aside0.mk (Kd.R_elder' (kq HO310) (Kd.R_base ho0) hb); have n3_ := Aside0.mk (Kd.R_below (kq HO314) hb); have n4_ := Aside0.mk (Kd.R_below (kq HO319) hb); have n5_ := Aside0.mk (Kd.R_lower (Kd.R_new' ho0 (Kd.R_lt (kq HO310))) (below_size (eq2 HB GE298 GE316))); have n6_ := Aside0.mk (blk_below (bq BK298) hb); have n7_ := Aside0.mk (blk_below (bq BK316) hb); have n8_ := Aside0.mk (below_step (eq2 HB GE298 GE316) hb); clear HO303; clear HO307; clear HO310; clear HO314; clear HO319; clear BK298; clear BK316; clear HB; have HO303 := n0_; have HO307 := n1_; have HO310 := n2_; have HO314 := n3_; have HO319 := n4_; have HO322 := n5_; have BK298 := n6_; have BK316 := n7_; have HB := n8_; clear n0_ n1_ n2_ n3_ n4_ n5_ n6_ n7_ n8_; (try clear hb); (try clear hb2); (try clear hk); (try clear hi); (try clear ho0)))
   (try simp only [Act.put, List.setIfInBounds_toArray, List.set_cons_zero, List.set_cons_succ])
   go_cut [53] (fun v53 wc => ∃ (kq : Nat) (x53_18 : Bool), v53 = .bool x53_18 ∧ Aside0 (laws_FnExactReadBack.j0 kq l1 t308 t311 t317 t320 t323 x53_18 l0_0 a0_1 t312 t315 = some r) ∧ Aside0 (kq ≤ k) ∧ Aside0 (Kd.R k37 37 wc w.heap.size (fun k_ => some k_ ≠ (v321 : Value).ownBlock) v309 t308) ∧ Aside0 (Kd.R k42 42 wc w.heap.size (fun _ => True) (.slice Ao37 t317.length co37) t317) ∧ Aside0 (Kd.R k37 37 wc w.heap.size (fun k_ => some k_ ≠ (v309 : Value).ownBlock) v321 t320) ∧ Aside0 (Kd.R (Kd.int .i64) 3 wc w.heap.size (fun _ => True) (.slice Ao32 t312.length co32) t312) ∧ Aside0 (wc.heap[gb298]? = some (.cells #[(.slice A0_0 l0_0.length c0_0), .int .i64 a0_1] 32 (0, 0))) ∧ Aside0 (wc.heap[gb316]? = some (.cells #[(.slice Ao32 t312.length co32), .int .i64 t315] 40 (0, 0))) ∧ Aside0 (Below w.heap.size w wc))
   case first =>
    have H := HC19.out
    clear HC19
    replace H := Option.bind_eq_some_iff.mp H
    obtain ⟨t324, A390, H⟩ := H
    replace H : (if t324 = true then (laws_FnExactReadBack.j0 k l1 t308 t311 t317 t320 t323 (t323 != t311) l0_0 a0_1 t312 t315) else (laws_FnExactReadBack.j0 k l1 t308 t311 t317 t320 t323 true l0_0 a0_1 t312 t315)) = some r := H
    have A39 := Aside0.mk A390
    clear A390
    by_cases c40 : t324 = true
    ·subst c40
     have H1 : (laws_FnExactReadBack.j0 k l1 t308 t311 t317 t320 t323 (t323 != t311) l0_0 a0_1 t312 t315) = some r := by rw [if_pos rfl] at H; exact H
     clear H
     have H := H1
     clear H1
     have H' := Aside0.mk H
     clear H
     obtain ⟨Ao41, co41, eo41⟩ := Kd.R_slice HO322.out
     subst eo41
     obtain ⟨Ao42, co42, eo42⟩ := Kd.R_slice HO310.out
     subst eo42
     go_wp2_with (first | ((with_reducible refine gate_callee (f := 39) rfl ?_); refine goesL_ (some 47) rfl rfl Try.func39 (by kernel_rfl) rfl #[.slice Ao41 t320.length co41, .slice Ao42 t308.length co42] rfl (by (try simp only [List.map_toArray, List.map_cons, List.map_nil]); first | done | rfl | (simp only [List.length_drop, List.length_take]; rfl)) ?_; (with_reducible refine (laws_eqNoteS.calls k _ _ t320 _ _ t308 true _ ?side1 ?side2 ?side3 ?side4 A39.out).mono ?_); (case side1 => exact cq (Kd.R_reads' HO322.out).2.2); (case side2 => exact (Kd.R_reads' HO322.out).2.1); (case side3 => exact cq (Kd.R_reads' HO310.out).2.2); (case side4 => exact (Kd.R_reads' HO310.out).2.1); rintro e w43 ⟨rfl, hb⟩; refine ⟨_, rfl, ?_⟩; have n0_ := Aside0.mk (Kd.R_below (kq HO303) hb); have n1_ := Aside0.mk (Kd.R_below (kq HO307) hb); have n2_ := Aside0.mk (Kd.R_below (kq HO310) hb); have n3_ := Aside0.mk (Kd.R_below (kq HO314) hb); have n4_ := Aside0.mk (Kd.R_below (kq HO319) hb); have n5_ := Aside0.mk (Kd.R_below (kq HO322) hb); have n6_ := Aside0.mk (blk_below (bq BK298) hb); have n7_ := Aside0.mk (blk_below (bq BK316) hb); have n8_ := Aside0.mk (below_step (eq2 HB GE298 GE316) hb); clear HO303; clear HO307; clear HO310; clear HO314; clear HO319; clear HO322; clear BK298; clear BK316; clear HB; have HO303 := n0_; have HO307 := n1_; have HO310 := n2_; have HO314 := n3_; have HO319 := n4_; have HO322 := n5_; have BK298 := n6_; have BK316 := n7_; have HB := n8_; clear n0_ n1_ n2_ n3_ n4_ n5_ n6_ n7_ n8_; (try clear hb); (try clear hb2); (try clear hk); (try clear hi)))
     go_meet
     case rel => exact ⟨_, ((t323 != t311)), (by first | rfl | (simp; done) | (simp [*]; done)), H', ⟨by first | omega | exact Nat.le_refl _⟩, ⟨by (with_reducible repeat (first | apply Kd.R_alloc | apply Kd.R_drewN | apply Kd.R_drew)); exact Kd.R_mono HO310.out (fun _ hk => hk.2)⟩, ⟨by (with_reducible repeat (first | apply Kd.R_alloc | apply Kd.R_drewN | apply Kd.R_drew)); exact Kd.R_mono HO319.out (fun _ hk => trivial)⟩, ⟨by (with_reducible repeat (first | apply Kd.R_alloc | apply Kd.R_drewN | apply Kd.R_drew)); exact Kd.R_mono HO322.out (fun _ hk => hk.2)⟩, ⟨by (with_reducible repeat (first | apply Kd.R_alloc | apply Kd.R_drewN | apply Kd.R_drew)); exact Kd.R_mono HO314.out (fun _ hk => trivial)⟩, ⟨bq BK298⟩, ⟨bq BK316⟩, ⟨eq2 HB GE298 GE316⟩⟩
    ·replace c40 := Bool.eq_false_iff.mpr c40
     subst c40
     have H1 : (laws_FnExactReadBack.j0 k l1 t308 t311 t317 t320 t323 true l0_0 a0_1 t312 t315) = some r := by rw [if_neg (show ¬ (false = true) by decide)] at H; exact H
     clear H
     have H := H1
     clear H1
     have H' := Aside0.mk H
     clear H
     obtain ⟨Ao44, co44, eo44⟩ := Kd.R_slice HO322.out
     subst eo44
     obtain ⟨Ao45, co45, eo45⟩ := Kd.R_slice HO310.out
     subst eo45
     go_wp2_with (first | ((with_reducible refine gate_callee (f := 39) rfl ?_); refine goesL_ (some 47) rfl rfl Try.func39 (by kernel_rfl) rfl #[.slice Ao44 t320.length co44, .slice Ao45 t308.length co45] rfl (by (try simp only [List.map_toArray, List.map_cons, List.map_nil]); first | done | rfl | (simp only [List.length_drop, List.length_take]; rfl)) ?_; (with_reducible refine (laws_eqNoteS.calls k _ _ t320 _ _ t308 false _ ?side1 ?side2 ?side3 ?side4 A39.out).mono ?_); (case side1 => exact cq (Kd.R_reads' HO322.out).2.2); (case side2 => exact (Kd.R_reads' HO322.out).2.1); (case side3 => exact cq (Kd.R_reads' HO310.out).2.2); (case side4 => exact (Kd.R_reads' HO310.out).2.1); rintro e w46 ⟨rfl, hb⟩; refine ⟨_, rfl, ?_⟩; have n0_ := Aside0.mk (Kd.R_below (kq HO303) hb); have n1_ := Aside0.mk (Kd.R_below (kq HO307) hb); have n2_ := Aside0.mk (Kd.R_below (kq HO310) hb); have n3_ := Aside0.mk (Kd.R_below (kq HO314) hb); have n4_ := Aside0.mk (Kd.R_below (kq HO319) hb); have n5_ := Aside0.mk (Kd.R_below (kq HO322) hb); have n6_ := Aside0.mk (blk_below (bq BK298) hb); have n7_ := Aside0.mk (blk_below (bq BK316) hb); have n8_ := Aside0.mk (below_step (eq2 HB GE298 GE316) hb); clear HO303; clear HO307; clear HO310; clear HO314; clear HO319; clear HO322; clear BK298; clear BK316; clear HB; have HO303 := n0_; have HO307 := n1_; have HO310 := n2_; have HO314 := n3_; have HO319 := n4_; have HO322 := n5_; have BK298 := n6_; have BK316 := n7_; have HB := n8_; clear n0_ n1_ n2_ n3_ n4_ n5_ n6_ n7_ n8_; (try clear hb); (try clear hb2); (try clear hk); (try clear hi)))
     go_meet
     case rel => exact ⟨_, (true), (by first | rfl | (simp; done) | (simp [*]; done)), H', ⟨by first | omega | exact Nat.le_refl _⟩, ⟨by (with_reducible repeat (first | apply Kd.R_alloc | apply Kd.R_drewN | apply Kd.R_drew)); exact Kd.R_mono HO310.out (fun _ hk => hk.2)⟩, ⟨by (with_reducible repeat (first | apply Kd.R_alloc | apply Kd.R_drewN | apply Kd.R_drew)); exact Kd.R_mono HO319.out (fun _ hk => trivial)⟩, ⟨by (with_reducible repeat (first | apply Kd.R_alloc | apply Kd.R_drewN | apply Kd.R_drew)); exact Kd.R_mono HO322.out (fun _ hk => hk.2)⟩, ⟨by (with_reducible repeat (first | apply Kd.R_alloc | apply Kd.R_drewN | apply Kd.R_drew)); exact Kd.R_mono HO314.out (fun _ hk => trivial)⟩, ⟨bq BK298⟩, ⟨bq BK316⟩, ⟨eq2 HB GE298 GE316⟩⟩
   case rest =>
    clear HC19
    try clear c1
    try clear c2
    try clear p2
    try clear c3
    try clear c4
    try clear c4b0
    try clear c8
    try clear c9
    try clear c9b0
    try clear c13
    try clear c15
    try clear c20
    try clear c22
    try clear c33
    try clear c37
    try clear c38
    try clear c39
    try clear c40
    try clear hcz11_0
    try clear hcz11_1
    try clear hcz21_0
    try clear hcz21_1
    try clear hcz23_0
    try clear hcz23_1
    try clear hcz29_0
    try clear hcz29_1
    try clear hcz34_0
    try clear hcz34_1
    try clear hcz36_0
    try clear hcz36_1
    try clear hcz6_0
    try clear hcz6_1
    try clear hfz11_0
    try clear hfz11_1
    try clear hfz21_0
    try clear hfz21_1
    try clear hfz23_0
    try clear hfz23_1
    try clear hfz29_0
    try clear hfz29_1
    try clear hfz34_0
    try clear hfz34_1
    try clear hfz36_0
    try clear hfz36_1
    try clear hfz6_0
    try clear hfz6_1
    obtain ⟨kq, x53_18, rfl, HA, HJ18, HO_6, HO_9, HO_10, HO_317000, BK298, BK316, HB⟩ := hcut
    cases kq with
    | zero => exact absurd HA.out (by simp [laws_FnExactReadBack.j0])
    | succ kj18 =>
     have H := HA.out
     clear HA
     simp only [laws_FnExactReadBack.j0] at H
     by_cases c47 : x53_18 = true
     ·subst c47
      have H1 : (some false) = some r := by rw [if_pos rfl] at H; exact H
      clear H
      have H := H1
      clear H1
      obtain rfl := Option.some.inj H
      go_wp2
      go_ret
      exact ⟨by first | rfl | (simp [errW_none, errW_some] <;> rfl) | (simp [*, errW_none, errW_some] <;> rfl), eq2 HB GE298 GE316⟩
     ·replace c47 := Bool.eq_false_iff.mpr c47
      subst c47
      have H1 : ((laws_toInstrument.f kj18 l0_0 a0_1).bind fun bt325 => ((laws_eqInstrument.f kj18 t312 t315 bt325.1 bt325.2).bind fun t329 => (if t329 = true then ((laws_toHoleS.f kj18 l1).bind fun t330 => ((laws_eqHoleS.f kj18 t317 t330).bind fun t333 => (if t333 = true then ((laws_markInstrument.f kj18 t312 t315 1).bind fun bt334 => ((laws_markHoleS.f kj18 t317 bt334.1).bind fun bt336 => (if bt336.1 < 0 then (laws_FnExactReadBack.j1 kj18 l1 t308 t311 t320 true l0_0 a0_1) else ((laws_eqNoteS.f kj18 t320 t308).bind fun t338 => (if t338 = true then (laws_FnExactReadBack.j1 kj18 l1 t308 t311 t320 (t323 != t311) l0_0 a0_1) else (laws_FnExactReadBack.j1 kj18 l1 t308 t311 t320 true l0_0 a0_1)))))) else (some false)))) else (some false)))) = some r := by rw [if_neg (show ¬ (false = true) by decide)] at H; exact H
      clear H
      have H := H1
      clear H1
      replace H := Option.bind_eq_some_iff.mp H
      obtain ⟨⟨t325, t328⟩, A480, H⟩ := H
      replace H : ((laws_eqInstrument.f kj18 t312 t315 t325 t328).bind fun t329 => (if t329 = true then ((laws_toHoleS.f kj18 l1).bind fun t330 => ((laws_eqHoleS.f kj18 t317 t330).bind fun t333 => (if t333 = true then ((laws_markInstrument.f kj18 t312 t315 1).bind fun bt334 => ((laws_markHoleS.f kj18 t317 bt334.1).bind fun bt336 => (if bt336.1 < 0 then (laws_FnExactReadBack.j1 kj18 l1 t308 t311 t320 true l0_0 a0_1) else ((laws_eqNoteS.f kj18 t320 t308).bind fun t338 => (if t338 = true then (laws_FnExactReadBack.j1 kj18 l1 t308 t311 t320 (t323 != t311) l0_0 a0_1) else (laws_FnExactReadBack.j1 kj18 l1 t308 t311 t320 true l0_0 a0_1)))))) else (some false)))) else (some false))) = some r := H
      have A48 := Aside0.mk A480
      clear A480
      replace H := Option.bind_eq_some_iff.mp H
      obtain ⟨t329, A490, H⟩ := H
      replace H : (if t329 = true then ((laws_toHoleS.f kj18 l1).bind fun t330 => ((laws_eqHoleS.f kj18 t317 t330).bind fun t333 => (if t333 = true then ((laws_markInstrument.f kj18 t312 t315 1).bind fun bt334 => ((laws_markHoleS.f kj18 t317 bt334.1).bind fun bt336 => (if bt336.1 < 0 then (laws_FnExactReadBack.j1 kj18 l1 t308 t311 t320 true l0_0 a0_1) else ((laws_eqNoteS.f kj18 t320 t308).bind fun t338 => (if t338 = true then (laws_FnExactReadBack.j1 kj18 l1 t308 t311 t320 (t323 != t311) l0_0 a0_1) else (laws_FnExactReadBack.j1 kj18 l1 t308 t311 t320 true l0_0 a0_1)))))) else (some false)))) else (some false)) = some r := H
      have A49 := Aside0.mk A490
      clear A490
      by_cases c50 : t329 = true
      ·subst c50
       have H1 : ((laws_toHoleS.f kj18 l1).bind fun t330 => ((laws_eqHoleS.f kj18 t317 t330).bind fun t333 => (if t333 = true then ((laws_markInstrument.f kj18 t312 t315 1).bind fun bt334 => ((laws_markHoleS.f kj18 t317 bt334.1).bind fun bt336 => (if bt336.1 < 0 then (laws_FnExactReadBack.j1 kj18 l1 t308 t311 t320 true l0_0 a0_1) else ((laws_eqNoteS.f kj18 t320 t308).bind fun t338 => (if t338 = true then (laws_FnExactReadBack.j1 kj18 l1 t308 t311 t320 (t323 != t311) l0_0 a0_1) else (laws_FnExactReadBack.j1 kj18 l1 t308 t311 t320 true l0_0 a0_1)))))) else (some false)))) = some r := by rw [if_pos rfl] at H; exact H
       clear H
       have H := H1
       clear H1
       replace H := Option.bind_eq_some_iff.mp H
       obtain ⟨t330, A510, H⟩ := H
       replace H : ((laws_eqHoleS.f kj18 t317 t330).bind fun t333 => (if t333 = true then ((laws_markInstrument.f kj18 t312 t315 1).bind fun bt334 => ((laws_markHoleS.f kj18 t317 bt334.1).bind fun bt336 => (if bt336.1 < 0 then (laws_FnExactReadBack.j1 kj18 l1 t308 t311 t320 true l0_0 a0_1) else ((laws_eqNoteS.f kj18 t320 t308).bind fun t338 => (if t338 = true then (laws_FnExactReadBack.j1 kj18 l1 t308 t311 t320 (t323 != t311) l0_0 a0_1) else (laws_FnExactReadBack.j1 kj18 l1 t308 t311 t320 true l0_0 a0_1)))))) else (some false))) = some r := H
       have A51 := Aside0.mk A510
       clear A510
       replace H := Option.bind_eq_some_iff.mp H
       obtain ⟨t333, A520, H⟩ := H
       replace H : (if t333 = true then ((laws_markInstrument.f kj18 t312 t315 1).bind fun bt334 => ((laws_markHoleS.f kj18 t317 bt334.1).bind fun bt336 => (if bt336.1 < 0 then (laws_FnExactReadBack.j1 kj18 l1 t308 t311 t320 true l0_0 a0_1) else ((laws_eqNoteS.f kj18 t320 t308).bind fun t338 => (if t338 = true then (laws_FnExactReadBack.j1 kj18 l1 t308 t311 t320 (t323 != t311) l0_0 a0_1) else (laws_FnExactReadBack.j1 kj18 l1 t308 t311 t320 true l0_0 a0_1)))))) else (some false)) = some r := H
       have A52 := Aside0.mk A520
       clear A520
       by_cases c53 : t333 = true
       ·subst c53
        have H1 : ((laws_markInstrument.f kj18 t312 t315 1).bind fun bt334 => ((laws_markHoleS.f kj18 t317 bt334.1).bind fun bt336 => (if bt336.1 < 0 then (laws_FnExactReadBack.j1 kj18 l1 t308 t311 t320 true l0_0 a0_1) else ((laws_eqNoteS.f kj18 t320 t308).bind fun t338 => (if t338 = true then (laws_FnExactReadBack.j1 kj18 l1 t308 t311 t320 (t323 != t311) l0_0 a0_1) else (laws_FnExactReadBack.j1 kj18 l1 t308 t311 t320 true l0_0 a0_1)))))) = some r := by rw [if_pos rfl] at H; exact H
        clear H
        have H := H1
        clear H1
        replace H := Option.bind_eq_some_iff.mp H
        obtain ⟨⟨t334, t335⟩, A540, H⟩ := H
        replace H : ((laws_markHoleS.f kj18 t317 t334).bind fun bt336 => (if bt336.1 < 0 then (laws_FnExactReadBack.j1 kj18 l1 t308 t311 t320 true l0_0 a0_1) else ((laws_eqNoteS.f kj18 t320 t308).bind fun t338 => (if t338 = true then (laws_FnExactReadBack.j1 kj18 l1 t308 t311 t320 (t323 != t311) l0_0 a0_1) else (laws_FnExactReadBack.j1 kj18 l1 t308 t311 t320 true l0_0 a0_1))))) = some r := H
        have A54 := Aside0.mk A540
        clear A540
        replace H := Option.bind_eq_some_iff.mp H
        obtain ⟨⟨t336, t337⟩, A550, H⟩ := H
        replace H : (if t336 < 0 then (laws_FnExactReadBack.j1 kj18 l1 t308 t311 t320 true l0_0 a0_1) else ((laws_eqNoteS.f kj18 t320 t308).bind fun t338 => (if t338 = true then (laws_FnExactReadBack.j1 kj18 l1 t308 t311 t320 (t323 != t311) l0_0 a0_1) else (laws_FnExactReadBack.j1 kj18 l1 t308 t311 t320 true l0_0 a0_1)))) = some r := H
        have A55 := Aside0.mk A550
        clear A550
        have HC56 := Aside0.mk H
        clear H
        try go_wp2
        have n0_ := Aside0.mk (Kd.R_drew HO_6.out)
        have n1_ := Aside0.mk (Kd.R_drew HO_9.out)
        have n2_ := Aside0.mk (Kd.R_drew HO_10.out)
        have n3_ := Aside0.mk (Kd.R_drew HO_317000.out)
        have n4_ := Aside0.mk (blk_drew BK298.out)
        have n5_ := Aside0.mk (blk_drew BK316.out)
        have n6_ := Aside0.mk (below_drew1 HB.out)
        clear HO_6
        clear HO_9
        clear HO_10
        clear HO_317000
        clear BK298
        clear BK316
        clear HB
        have HO_6 := n0_
        have HO_9 := n1_
        have HO_10 := n2_
        have HO_317000 := n3_
        have BK298 := n4_
        have BK316 := n5_
        have HB := n6_
        clear n0_ n1_ n2_ n3_ n4_ n5_ n6_
        refine start_ (n := 5) (S := fun w' => w'.cell? ⟨gb316, 0, none⟩ = some (.slice Ao32 t312.length co32) ∧ w'.cell? ⟨gb316, 1, none⟩ = some (.int .i64 t315) ∧ w'.cell? ⟨gb298, 0, none⟩ = some (.slice A0_0 l0_0.length c0_0) ∧ w'.cell? ⟨gb298, 1, none⟩ = some (.int .i64 a0_1)) (ds := []) #[false, false, false, false, false] (by kernel_rfl) rfl rfl ⟨(blk_cell BK316.out 0).trans rfl, (blk_cell BK316.out 1).trans rfl, (blk_cell BK298.out 0).trans rfl, (blk_cell BK298.out 1).trans rfl⟩ (fun hHeld => ?_)
        generalize wc.drew = w57 at HO_6 HO_9 HO_10 HO_317000 BK298 BK316 HB hHeld ⊢
        refine take_ (i := 0) (N := some 54) (v := ?_) (a' := ?_) #[true, false, false, false, false] rfl rfl (by kernel_rfl) (fun _ _ _ h => h) (Or.inl ⟨by rfl, ?_⟩) hHeld ?_ ?_
        rotate_left
        ·rintro w' ⟨s0, s1, s2, s3⟩
         go_simp
         with_reducible rfl
        rotate_left
        ·simp only [Act.put, List.setIfInBounds_toArray, List.set_cons_zero, List.set_cons_succ, i64_w, i32_w]
         rfl
        refine take_ (i := 1) (N := some 55) (v := ?_) (a' := ?_) #[true, true, false, false, false] rfl rfl (by kernel_rfl) (fun _ _ _ h => h) (Or.inl ⟨by rfl, ?_⟩) hHeld ?_ ?_
        rotate_left
        ·rintro w' ⟨s0, s1, s2, s3⟩
         go_simp
         with_reducible rfl
        rotate_left
        ·simp only [Act.put, List.setIfInBounds_toArray, List.set_cons_zero, List.set_cons_succ, i64_w, i32_w]
         rfl
        refine one_ (i := 2) (N := some 56) #[true, true, true, false, false] rfl rfl (by kernel_rfl) (by decide) (fun K hK => ?_)
        refine goes_ Try.func22 (by kernel_rfl) rfl #[.agg #[.slice A0_0 l0_0.length c0_0, .int .i64 a0_1]] (by rfl) rfl rfl (by (try simp only [List.map_toArray, List.map_cons, List.map_nil]); first | done | rfl | (simp only [List.length_drop, List.length_take]; rfl)) ?_
        with_reducible refine (laws_toInstrument.calls kj18 _ _ l0_0 a0_1 t325 t328 _ ?side1 ?side2 A48.out).mono ?_
        (case side1 => exact cq (Kd.C_below HR0_0.out HB.out))
        (case side2 => exact HC0_0.out)
        rintro e w58 ⟨v326, rfl, ho0, hb⟩
        refine ⟨_, rfl, ?_⟩
        have n0_ := Aside0.mk (Kd.R_below (kq HO_6) hb)
        have n1_ := Aside0.mk (Kd.R_below (kq HO_9) hb)
        have n2_ := Aside0.mk (Kd.R_below (kq HO_10) hb)
        have n3_ := Aside0.mk (Kd.R_elder' (kq HO_317000) (Kd.R_base ho0) hb)
        have n4_ := Aside0.mk (Kd.R_lower (Kd.R_new' ho0 (Kd.R_lt (kq HO_317000))) (below_size (eq2 HB GE298 GE316)))
        have n5_ := Aside0.mk (blk_below (bq BK298) hb)
        have n6_ := Aside0.mk (blk_below (bq BK316) hb)
        have n7_ := Aside0.mk (below_step (eq2 HB GE298 GE316) hb)
        clear HO_6
        clear HO_9
        clear HO_10
        clear HO_317000
        clear BK298
        clear BK316
        clear HB
        have HO_6 := n0_
        have HO_9 := n1_
        have HO_10 := n2_
        have HO_317000 := n3_
        have HO327 := n4_
        have BK298 := n5_
        have BK316 := n6_
        have HB := n7_
        clear n0_ n1_ n2_ n3_ n4_ n5_ n6_ n7_
        (try clear hb)
        (try clear hb2)
        (try clear hk)
        (try clear hi)
        (try clear ho0)
        obtain ⟨Ao59, co59, eo59⟩ := Kd.R_slice HO327.out
        (first | subst eo59 | (injection eo59 with f1_ f2_ f3_; have f4_ := f1_.symm; have f5_ := f3_.symm; clear f1_ f2_ f3_; subst f4_; subst f5_))
        refine hK.out _ _ ⟨(blk_cell BK316.out 0).trans rfl, (blk_cell BK316.out 1).trans rfl, (blk_cell BK298.out 0).trans rfl, (blk_cell BK298.out 1).trans rfl⟩ (fun hHeld => ?_)
        clear hK K
        refine norm_ (a' := ?_) ?_ ?_
        rotate_left
        ·show Act.put _ (some 56) _ = _
         simp only [Act.put, List.setIfInBounds_toArray, List.set_cons_zero, List.set_cons_succ, i64_w, i32_w]
         rfl
        refine one_ (i := 3) (N := some 57) #[true, true, true, true, false] rfl rfl (by kernel_rfl) (by decide) (fun K hK => ?_)
        refine goes_ Try.func26 (by kernel_rfl) rfl #[.agg #[.slice Ao32 t312.length co32, .int .i64 t315], .agg #[.slice Ao59 t325.length co59, .int .i64 t328]] (by rfl) rfl rfl (by (try simp only [List.map_toArray, List.map_cons, List.map_nil]); first | done | rfl | (simp only [List.length_drop, List.length_take]; rfl)) ?_
        with_reducible refine (laws_eqInstrument.calls kj18 _ _ t312 t315 _ _ t325 t328 true _ ?side1 ?side2 ?side3 ?side4 A49.out).mono ?_
        (case side1 => exact cq (Kd.R_reads' HO_317000.out).2.2)
        (case side2 => exact (Kd.R_reads' HO_317000.out).2.1)
        (case side3 => exact cq (Kd.R_reads' HO327.out).2.2)
        (case side4 => exact (Kd.R_reads' HO327.out).2.1)
        rintro e w60 ⟨rfl, hb⟩
        refine ⟨_, rfl, ?_⟩
        have n0_ := Aside0.mk (Kd.R_below (kq HO_6) hb)
        have n1_ := Aside0.mk (Kd.R_below (kq HO_9) hb)
        have n2_ := Aside0.mk (Kd.R_below (kq HO_10) hb)
        have n3_ := Aside0.mk (Kd.R_below (kq HO_317000) hb)
        have n4_ := Aside0.mk (Kd.R_below (kq HO327) hb)
        have n5_ := Aside0.mk (blk_below (bq BK298) hb)
        have n6_ := Aside0.mk (blk_below (bq BK316) hb)
        have n7_ := Aside0.mk (below_step (eq2 HB GE298 GE316) hb)
        clear HO_6
        clear HO_9
        clear HO_10
        clear HO_317000
        clear HO327
        clear BK298
        clear BK316
        clear HB
        have HO_6 := n0_
        have HO_9 := n1_
        have HO_10 := n2_
        have HO_317000 := n3_
        have HO327 := n4_
        have BK298 := n5_
        have BK316 := n6_
        have HB := n7_
        clear n0_ n1_ n2_ n3_ n4_ n5_ n6_ n7_
        (try clear hb)
        (try clear hb2)
        (try clear hk)
        (try clear hi)
        refine hK.out _ _ ⟨(blk_cell BK316.out 0).trans rfl, (blk_cell BK316.out 1).trans rfl, (blk_cell BK298.out 0).trans rfl, (blk_cell BK298.out 1).trans rfl⟩ (fun hHeld => ?_)
        clear hK K
        refine norm_ (a' := ?_) ?_ ?_
        rotate_left
        ·show Act.put _ (some 57) _ = _
         simp only [Act.put, List.setIfInBounds_toArray, List.set_cons_zero, List.set_cons_succ, i64_w, i32_w]
         rfl
        refine pure_ (i := 4) (N := some 58) (v := ?_) (a' := ?_) #[true, true, true, true, true] rfl rfl (by kernel_rfl) (fun _ _ _ h => h) (Or.inl ⟨by rfl, ?_⟩) ?_ ?_
        rotate_left
        ·intro w'
         go_simp
         with_reducible rfl
        rotate_left
        ·simp only [Act.put, List.setIfInBounds_toArray, List.set_cons_zero, List.set_cons_succ, i64_w, i32_w]
         rfl
        refine done_ (by kernel_rfl) ?_
        go_upto_region 21 with (first | ((with_reducible refine gate_callee (f := 15) rfl ?_); refine goesL_ (some 61) rfl rfl Try.func15 (by kernel_rfl) rfl #[.slice A1 l1.length c1] rfl (by (try simp only [List.map_toArray, List.map_cons, List.map_nil]); first | done | rfl | (simp only [List.length_drop, List.length_take]; rfl)) ?_; (with_reducible refine (laws_toHoleS.calls kj18 _ _ l1 t330 _ ?side1 ?side2 A51.out).mono ?_); (case side1 => exact cq (Kd.C_below HR1.out HB.out)); (case side2 => exact HC1.out); rintro e w61 ⟨v331, rfl, ho0, hb⟩; refine ⟨_, rfl, ?_⟩; have n0_ := Aside0.mk (Kd.R_below (kq HO_6) hb); have n1_ := Aside0.mk (Kd.R_elder' (kq HO_9) (Kd.R_base ho0) hb); have n2_ := Aside0.mk (Kd.R_below (kq HO_10) hb); have n3_ := Aside0.mk (Kd.R_below (kq HO_317000) hb); have n4_ := Aside0.mk (Kd.R_below (kq HO327) hb); have n5_ := Aside0.mk (Kd.R_lower (Kd.R_new' ho0 (Kd.R_lt (kq HO_9))) (below_size (eq2 HB GE298 GE316))); have n6_ := Aside0.mk (blk_below (bq BK298) hb); have n7_ := Aside0.mk (blk_below (bq BK316) hb); have n8_ := Aside0.mk (below_step (eq2 HB GE298 GE316) hb); clear HO_6; clear HO_9; clear HO_10; clear HO_317000; clear HO327; clear BK298; clear BK316; clear HB; have HO_6 := n0_; have HO_9 := n1_; have HO_10 := n2_; have HO_317000 := n3_; have HO327 := n4_; have HO332 := n5_; have BK298 := n6_; have BK316 := n7_; have HB := n8_; clear n0_ n1_ n2_ n3_ n4_ n5_ n6_ n7_ n8_; (try clear hb); (try clear hb2); (try clear hk); (try clear hi); (try clear ho0); obtain ⟨Ao62, co62, eo62⟩ := Kd.R_slice HO332.out; subst eo62) | ((with_reducible refine gate_callee (f := 17) rfl ?_); refine goesL_ (some 62) rfl rfl Try.func17 (by kernel_rfl) rfl #[.slice Ao37 t317.length co37, .slice Ao62 t330.length co62] rfl (by (try simp only [List.map_toArray, List.map_cons, List.map_nil]); first | done | rfl | (simp only [List.length_drop, List.length_take]; rfl)) ?_; (with_reducible refine (laws_eqHoleS.calls kj18 _ _ t317 _ _ t330 true _ ?side1 ?side2 ?side3 ?side4 A52.out).mono ?_); (case side1 => exact cq (Kd.R_reads' HO_9.out).2.2); (case side2 => exact (Kd.R_reads' HO_9.out).2.1); (case side3 => exact cq (Kd.R_reads' HO332.out).2.2); (case side4 => exact (Kd.R_reads' HO332.out).2.1); rintro e w63 ⟨rfl, hb⟩; refine ⟨_, rfl, ?_⟩; have n0_ := Aside0.mk (Kd.R_below (kq HO_6) hb); have n1_ := Aside0.mk (Kd.R_below (kq HO_9) hb); have n2_ := Aside0.mk (Kd.R_below (kq HO_10) hb); have n3_ := Aside0.mk (Kd.R_below (kq HO_317000) hb); have n4_ := Aside0.mk (Kd.R_below (kq HO327) hb); have n5_ := Aside0.mk (Kd.R_below (kq HO332) hb); have n6_ := Aside0.mk (blk_below (bq BK298) hb); have n7_ := Aside0.mk (blk_below (bq BK316) hb); have n8_ := Aside0.mk (below_step (eq2 HB GE298 GE316) hb); clear HO_6; clear HO_9; clear HO_10; clear HO_317000; clear HO327; clear HO332; clear BK298; clear BK316; clear HB; have HO_6 := n0_; have HO_9 := n1_; have HO_10 := n2_; have HO_317000 := n3_; have HO327 := n4_; have HO332 := n5_; have BK298 := n6_; have BK316 := n7_; have HB := n8_; clear n0_ n1_ n2_ n3_ n4_ n5_ n6_ n7_ n8_; (try clear hb); (try clear hb2); (try clear hk); (try clear hi); have hnb64 := NB316_298.out; have hnc64 := NB298_316.out; have hcz65_0 : w63.cell? ⟨gb316, 0, none⟩ = some (.slice Ao32 t312.length co32) := (blk_cell BK316.out 0).trans rfl; have hcz65_1 : w63.cell? ⟨gb316, 1, none⟩ = some (.int .i64 t315) := (blk_cell BK316.out 1).trans rfl; have hfz65_0 := blk_frozen BK316.out 0; have hfz65_1 := blk_frozen BK316.out 1) | ((with_reducible refine gate_callee (f := 40) rfl ?_); refine goesL_ (some 66) rfl rfl Try.func40 (by kernel_rfl) rfl #[.agg #[.slice Ao32 t312.length co32, .int .i64 t315], .int .i64 1] rfl (by (try simp only [List.map_toArray, List.map_cons, List.map_nil]); first | done | rfl | (simp only [List.length_drop, List.length_take]; rfl)) ?_; (with_reducible refine (laws_markInstrument.calls kj18 (fun k_ => some k_ = (.slice Ao32 t312.length co32 : Value).ownBlock) (.slice Ao32 t312.length co32) t312 t315 1 t334 t335 w _ ?side1 ?side2 A54.out).mono ?_); (case side1 => repeat (first | (with_reducible first | exact HB.out | apply below_alloc | apply pw_below_drewN | apply below_drew1 | refine below_set ?_ GE298.out | refine below_set ?_ GE316.out) | exact HB.out)); (case side2 => exact Kd.R_tight rfl HO_317000.out); rintro e w66 ⟨rfl, hy0, hb, hkp⟩; refine ⟨_, rfl, ?_⟩; have n0_ := Aside0.mk (Kd.R_mono (ok' := fun k_ => some k_ ≠ (v321 : Value).ownBlock) (Kd.R_keptB ((Kd.R_apart' HO_6.out (Kd.R_typed HO_317000.out) (by decide))) hkp (fun k_ hk_ hs_ => (hk_.2) hs_)) (fun k_ hk_ => hk_.1.1)); have n1_ := Aside0.mk (Kd.R_mono (ok' := fun k_ => some k_ ≠ (.slice Ao62 t330.length co62 : Value).ownBlock) (Kd.R_keptB ((Kd.R_apart' HO_9.out (Kd.R_typed HO_317000.out) (by decide))) hkp (fun k_ hk_ hs_ => (hk_.2) hs_)) (fun k_ hk_ => hk_.1.1.2)); have n2_ := Aside0.mk (Kd.R_mono (ok' := fun k_ => some k_ ≠ (v309 : Value).ownBlock) (Kd.R_keptB ((Kd.R_apart' HO_10.out (Kd.R_typed HO_317000.out) (by decide))) hkp (fun k_ hk_ hs_ => (hk_.2) hs_)) (fun k_ hk_ => hk_.1.1)); have n3_ := Aside0.mk (Kd.R_reok rfl hy0 (fun k_ e_ => HO_317000.out.1 k_ e_)); have n4_ := Aside0.mk (blk_kept (bq BK298) hkp (fun hs_ => (fun e_ => (Kd.R_ne HO_317000.out BK298.out (by decide)) e_) hs_)); have n5_ := Aside0.mk (blk_kept (bq BK316) hkp (fun hs_ => (fun e_ => (Kd.R_ne HO_317000.out BK316.out (by decide)) e_) hs_)); have n6_ := Aside0.mk (Kd.R_mono (ok' := fun k_ => some k_ ≠ (.slice Ao32 t312.length co32 : Value).ownBlock) (Kd.R_keptB (HO327.out) hkp (fun k_ hk_ hs_ => (hk_.2) hs_)) (fun k_ hk_ => hk_.1.2)); have n7_ := Aside0.mk (Kd.R_mono (ok' := fun k_ => some k_ ≠ (.slice Ao37 t317.length co37 : Value).ownBlock) (Kd.R_keptB ((Kd.R_apart' HO332.out (Kd.R_typed HO_317000.out) (by decide))) hkp (fun k_ hk_ hs_ => (hk_.2) hs_)) (fun k_ hk_ => hk_.1.1.2)); have n8_ := Aside0.mk (hb); clear HO_6; clear HO_9; clear HO_10; clear HO_317000; clear BK298; clear BK316; clear HO327; clear HO332; clear HB; have HO_6 := n0_; have HO_9 := n1_; have HO_10 := n2_; have HO_317000 := n3_; have BK298 := n4_; have BK316 := n5_; have HO327 := n6_; have HO332 := n7_; have HB := n8_; clear n0_ n1_ n2_ n3_ n4_ n5_ n6_ n7_ n8_; (try clear hb); (try clear hkp); (try clear hy0)) | ((with_reducible refine gate_callee (f := 34) rfl ?_); refine goesL_ (some 69) rfl rfl Try.func34 (by kernel_rfl) rfl #[.slice Ao37 t317.length co37, .int .i64 t334] rfl (by (try simp only [List.map_toArray, List.map_cons, List.map_nil]); first | done | rfl | (simp only [List.length_drop, List.length_take]; rfl)) ?_; (with_reducible refine (laws_markHoleS.calls kj18 (fun k_ => some k_ = (.slice Ao37 t317.length co37 : Value).ownBlock) (.slice Ao37 t317.length co37) t317 t334 t336 t337 w _ ?side1 ?side2 A55.out).mono ?_); (case side1 => repeat (first | (with_reducible first | exact HB.out | apply below_alloc | apply pw_below_drewN | apply below_drew1 | refine below_set ?_ GE298.out | refine below_set ?_ GE316.out) | exact HB.out)); (case side2 => exact Kd.R_tight rfl HO_9.out); rintro e w67 ⟨rfl, hy0, hb, hkp⟩; refine ⟨_, rfl, ?_⟩; have n0_ := Aside0.mk (Kd.R_mono (ok' := fun k_ => some k_ ≠ (v321 : Value).ownBlock) (Kd.R_keptB ((Kd.R_apart' HO_6.out (Kd.R_typed HO_9.out) (by decide))) hkp (fun k_ hk_ hs_ => (hk_.2) hs_)) (fun k_ hk_ => hk_.1.1)); have n1_ := Aside0.mk (Kd.R_reok rfl hy0 (fun k_ e_ => HO_9.out.1 k_ e_)); have n2_ := Aside0.mk (Kd.R_mono (ok' := fun k_ => some k_ ≠ (v309 : Value).ownBlock) (Kd.R_keptB ((Kd.R_apart' HO_10.out (Kd.R_typed HO_9.out) (by decide))) hkp (fun k_ hk_ hs_ => (hk_.2) hs_)) (fun k_ hk_ => hk_.1.1)); have n3_ := Aside0.mk (Kd.R_mono (ok' := fun k_ => some k_ ≠ (.slice Ao59 t325.length co59 : Value).ownBlock) (Kd.R_keptB ((Kd.R_apart' HO_317000.out (Kd.R_typed HO_9.out) (by decide))) hkp (fun k_ hk_ hs_ => (hk_.2) hs_)) (fun k_ hk_ => hk_.1.1.2)); have n4_ := Aside0.mk (blk_kept (bq BK298) hkp (fun hs_ => (fun e_ => (Kd.R_ne HO_9.out BK298.out (by decide)) e_) hs_)); have n5_ := Aside0.mk (blk_kept (bq BK316) hkp (fun hs_ => (fun e_ => (Kd.R_ne HO_9.out BK316.out (by decide)) e_) hs_)); have n6_ := Aside0.mk (Kd.R_mono (ok' := fun k_ => some k_ ≠ (.slice Ao32 t312.length co32 : Value).ownBlock) (Kd.R_keptB ((Kd.R_apart' HO327.out (Kd.R_typed HO_9.out) (by decide))) hkp (fun k_ hk_ hs_ => (hk_.2) hs_)) (fun k_ hk_ => hk_.1.1)); have n7_ := Aside0.mk (Kd.R_mono (ok' := fun k_ => some k_ ≠ (.slice Ao37 t317.length co37 : Value).ownBlock) (Kd.R_keptB (HO332.out) hkp (fun k_ hk_ hs_ => (hk_) hs_)) (fun k_ hk_ => hk_.1)); have n8_ := Aside0.mk (hb); clear HO_6; clear HO_9; clear HO_10; clear HO_317000; clear BK298; clear BK316; clear HO327; clear HO332; clear HB; have HO_6 := n0_; have HO_9 := n1_; have HO_10 := n2_; have HO_317000 := n3_; have BK298 := n4_; have BK316 := n5_; have HO327 := n6_; have HO332 := n7_; have HB := n8_; clear n0_ n1_ n2_ n3_ n4_ n5_ n6_ n7_ n8_; (try clear hb); (try clear hkp); (try clear hy0)))
        (try simp only [Act.put, List.setIfInBounds_toArray, List.set_cons_zero, List.set_cons_succ])
        go_cut [82] (fun v82 wc => ∃ (kq : Nat) (x82_55 : Bool), v82 = .bool x82_55 ∧ Aside0 (laws_FnExactReadBack.j1 kq l1 t308 t311 t320 x82_55 l0_0 a0_1 = some r) ∧ Aside0 (kq ≤ kj18) ∧ Aside0 (Kd.R k37 37 wc w.heap.size (fun k_ => some k_ ≠ (v321 : Value).ownBlock) v309 t308) ∧ Aside0 (Kd.R k37 37 wc w.heap.size (fun k_ => some k_ ≠ (v309 : Value).ownBlock) v321 t320) ∧ Aside0 (Kd.R (Kd.int .i64) 3 wc w.heap.size (fun _ => True) (.slice Ao32 t312.length co32) t335) ∧ Aside0 (wc.heap[gb298]? = some (.cells #[(.slice A0_0 l0_0.length c0_0), .int .i64 a0_1] 32 (0, 0))) ∧ Aside0 (wc.heap[gb316]? = some (.cells #[(.slice Ao32 t312.length co32), .int .i64 t315] 40 (0, 0))) ∧ Aside0 (Below w.heap.size w wc))
        case first =>
         have H := HC56.out
         clear HC56
         by_cases c68 : t336 < 0
         ·rw [if_pos c68] at H
          have c68b0 : decide (t336 < 0) = true := decide_eq_true c68
          clear c68
          (first | rw [c68b0] | (simp only [i64_w, i32_w]; rw [c68b0]) | skip)
          have H' := Aside0.mk H
          clear H
          go_wp2
          go_meet
          case rel => exact ⟨_, (true), (by first | rfl | (simp; done) | (simp [*]; done)), H', ⟨by have := HJ18.out; first | omega | exact Nat.le_refl _⟩, ⟨kq HO_6⟩, ⟨kq HO_10⟩, ⟨by (with_reducible repeat (first | apply Kd.R_alloc | apply Kd.R_drewN | apply Kd.R_drew)); exact Kd.R_mono HO_317000.out (fun _ hk => trivial)⟩, ⟨bq BK298⟩, ⟨bq BK316⟩, ⟨eq2 HB GE298 GE316⟩⟩
         ·rw [if_neg c68] at H
          have c68b0 : decide (t336 < 0) = false := decide_eq_false c68
          clear c68
          (first | rw [c68b0] | (simp only [i64_w, i32_w]; rw [c68b0]) | skip)
          replace H := Option.bind_eq_some_iff.mp H
          obtain ⟨t338, A690, H⟩ := H
          replace H : (if t338 = true then (laws_FnExactReadBack.j1 kj18 l1 t308 t311 t320 (t323 != t311) l0_0 a0_1) else (laws_FnExactReadBack.j1 kj18 l1 t308 t311 t320 true l0_0 a0_1)) = some r := H
          have A69 := Aside0.mk A690
          clear A690
          by_cases c70 : t338 = true
          ·subst c70
           have H1 : (laws_FnExactReadBack.j1 kj18 l1 t308 t311 t320 (t323 != t311) l0_0 a0_1) = some r := by rw [if_pos rfl] at H; exact H
           clear H
           have H := H1
           clear H1
           have H' := Aside0.mk H
           clear H
           obtain ⟨Ao71, co71, eo71⟩ := Kd.R_slice HO_10.out
           subst eo71
           obtain ⟨Ao72, co72, eo72⟩ := Kd.R_slice HO_6.out
           subst eo72
           go_wp2_with (first | (go_at_call 39; (with_reducible refine (laws_eqNoteS.calls kj18 _ _ t320 _ _ t308 true _ ?side1 ?side2 ?side3 ?side4 A69.out).mono ?_); (case side1 => exact cq (Kd.R_reads' HO_10.out).2.2); (case side2 => exact (Kd.R_reads' HO_10.out).2.1); (case side3 => exact cq (Kd.R_reads' HO_6.out).2.2); (case side4 => exact (Kd.R_reads' HO_6.out).2.1); rintro e w73 ⟨rfl, hb⟩; have n0_ := Aside0.mk (Kd.R_below (kq HO_6) hb); have n1_ := Aside0.mk (Kd.R_below (kq HO_9) hb); have n2_ := Aside0.mk (Kd.R_below (kq HO_10) hb); have n3_ := Aside0.mk (Kd.R_below (kq HO_317000) hb); have n4_ := Aside0.mk (Kd.R_below (kq HO327) hb); have n5_ := Aside0.mk (Kd.R_below (kq HO332) hb); have n6_ := Aside0.mk (blk_below (bq BK298) hb); have n7_ := Aside0.mk (blk_below (bq BK316) hb); have n8_ := Aside0.mk (below_step (eq2 HB GE298 GE316) hb); clear HO_6; clear HO_9; clear HO_10; clear HO_317000; clear HO327; clear HO332; clear BK298; clear BK316; clear HB; have HO_6 := n0_; have HO_9 := n1_; have HO_10 := n2_; have HO_317000 := n3_; have HO327 := n4_; have HO332 := n5_; have BK298 := n6_; have BK316 := n7_; have HB := n8_; clear n0_ n1_ n2_ n3_ n4_ n5_ n6_ n7_ n8_; (try clear hb); (try clear hb2); (try clear hk); (try clear hi)))
           go_meet
           case rel => exact ⟨_, ((t323 != t311)), (by first | rfl | (simp; done) | (simp [*]; done)), H', ⟨by have := HJ18.out; first | omega | exact Nat.le_refl _⟩, ⟨kq HO_6⟩, ⟨kq HO_10⟩, ⟨by (with_reducible repeat (first | apply Kd.R_alloc | apply Kd.R_drewN | apply Kd.R_drew)); exact Kd.R_mono HO_317000.out (fun _ hk => trivial)⟩, ⟨bq BK298⟩, ⟨bq BK316⟩, ⟨eq2 HB GE298 GE316⟩⟩
          ·replace c70 := Bool.eq_false_iff.mpr c70
           subst c70
           have H1 : (laws_FnExactReadBack.j1 kj18 l1 t308 t311 t320 true l0_0 a0_1) = some r := by rw [if_neg (show ¬ (false = true) by decide)] at H; exact H
           clear H
           have H := H1
           clear H1
           have H' := Aside0.mk H
           clear H
           obtain ⟨Ao74, co74, eo74⟩ := Kd.R_slice HO_10.out
           subst eo74
           obtain ⟨Ao75, co75, eo75⟩ := Kd.R_slice HO_6.out
           subst eo75
           go_wp2_with (first | (go_at_call 39; (with_reducible refine (laws_eqNoteS.calls kj18 _ _ t320 _ _ t308 false _ ?side1 ?side2 ?side3 ?side4 A69.out).mono ?_); (case side1 => exact cq (Kd.R_reads' HO_10.out).2.2); (case side2 => exact (Kd.R_reads' HO_10.out).2.1); (case side3 => exact cq (Kd.R_reads' HO_6.out).2.2); (case side4 => exact (Kd.R_reads' HO_6.out).2.1); rintro e w76 ⟨rfl, hb⟩; have n0_ := Aside0.mk (Kd.R_below (kq HO_6) hb); have n1_ := Aside0.mk (Kd.R_below (kq HO_9) hb); have n2_ := Aside0.mk (Kd.R_below (kq HO_10) hb); have n3_ := Aside0.mk (Kd.R_below (kq HO_317000) hb); have n4_ := Aside0.mk (Kd.R_below (kq HO327) hb); have n5_ := Aside0.mk (Kd.R_below (kq HO332) hb); have n6_ := Aside0.mk (blk_below (bq BK298) hb); have n7_ := Aside0.mk (blk_below (bq BK316) hb); have n8_ := Aside0.mk (below_step (eq2 HB GE298 GE316) hb); clear HO_6; clear HO_9; clear HO_10; clear HO_317000; clear HO327; clear HO332; clear BK298; clear BK316; clear HB; have HO_6 := n0_; have HO_9 := n1_; have HO_10 := n2_; have HO_317000 := n3_; have HO327 := n4_; have HO332 := n5_; have BK298 := n6_; have BK316 := n7_; have HB := n8_; clear n0_ n1_ n2_ n3_ n4_ n5_ n6_ n7_ n8_; (try clear hb); (try clear hb2); (try clear hk); (try clear hi)))
           go_meet
           case rel => exact ⟨_, (true), (by first | rfl | (simp; done) | (simp [*]; done)), H', ⟨by have := HJ18.out; first | omega | exact Nat.le_refl _⟩, ⟨kq HO_6⟩, ⟨kq HO_10⟩, ⟨by (with_reducible repeat (first | apply Kd.R_alloc | apply Kd.R_drewN | apply Kd.R_drew)); exact Kd.R_mono HO_317000.out (fun _ hk => trivial)⟩, ⟨bq BK298⟩, ⟨bq BK316⟩, ⟨eq2 HB GE298 GE316⟩⟩
        case rest =>
         clear HC56
         try clear c1
         try clear c2
         try clear p2
         try clear c3
         try clear c4
         try clear c4b0
         try clear c5
         try clear c6
         try clear c7
         try clear c8
         try clear c9
         try clear c9b0
         try clear c13
         try clear c15
         try clear c17
         try clear c20
         try clear c22
         try clear c26
         try clear c33
         try clear c34
         try clear c37
         try clear c38
         try clear c39
         try clear c40
         try clear c47
         try clear c50
         try clear c53
         try clear c64
         try clear c68
         try clear c68b0
         try clear c70
         try clear hcz11_0
         try clear hcz11_1
         try clear hcz21_0
         try clear hcz21_1
         try clear hcz23_0
         try clear hcz23_1
         try clear hcz29_0
         try clear hcz29_1
         try clear hcz34_0
         try clear hcz34_1
         try clear hcz36_0
         try clear hcz36_1
         try clear hcz65_0
         try clear hcz65_1
         try clear hcz6_0
         try clear hcz6_1
         try clear hfz11_0
         try clear hfz11_1
         try clear hfz21_0
         try clear hfz21_1
         try clear hfz23_0
         try clear hfz23_1
         try clear hfz29_0
         try clear hfz29_1
         try clear hfz34_0
         try clear hfz34_1
         try clear hfz36_0
         try clear hfz36_1
         try clear hfz65_0
         try clear hfz65_1
         try clear hfz6_0
         try clear hfz6_1
         try clear p2
         obtain ⟨kq, x82_55, rfl, HA, HJ55, HO_6, HO_10, HO_317000, BK298, BK316, HB⟩ := hcut
         have hl317000_55 := (Kd.R_reads' HO_317000.out).1
         rw [hl317000_55] at HO_317000
         (try simp only [hl317000_55])
         (try simp only [hl317000_55] at BK298)
         (try simp only [hl317000_55] at BK316)
         (try simp only [hl317000_55] at HO_6)
         (try simp only [hl317000_55] at HO_10)
         cases kq with
         | zero => exact absurd HA.out (by simp [laws_FnExactReadBack.j1])
         | succ kj55 =>
          have H := HA.out
          clear HA
          simp only [laws_FnExactReadBack.j1] at H
          by_cases c77 : x82_55 = true
          ·subst c77
           have H1 : (some false) = some r := by rw [if_pos rfl] at H; exact H
           clear H
           have H := H1
           clear H1
           obtain rfl := Option.some.inj H
           go_wp2
           go_ret
           exact ⟨by first | rfl | (simp [errW_none, errW_some] <;> rfl) | (simp [*, errW_none, errW_some] <;> rfl), eq2 HB GE298 GE316⟩
          ·replace c77 := Bool.eq_false_iff.mpr c77
           subst c77
           have H1 : ((laws_markNoteS.f kj55 t320 1).bind fun bt339 => ((laws_heldNoteS.f kj55 bt339.2 1).bind fun t341 => (if t341 < 0 then (some false) else (if t341 = bt339.1 then ((laws_toInstrument.f kj55 l0_0 a0_1).bind fun bt342 => ((laws_toHoleS.f kj55 l1).bind fun t346 => ((impl_ReadBack.f kj55 bt342.1 bt342.2 t346).bind fun bt349 => ((laws_eqNoteS.f kj55 bt349.1 t308).bind fun t353 => (if t353 = true then (laws_FnExactReadBack.j2 kj55 bt339.2 bt339.1 (bt349.2 != t311)) else (laws_FnExactReadBack.j2 kj55 bt339.2 bt339.1 true)))))) else (some false))))) = some r := by rw [if_neg (show ¬ (false = true) by decide)] at H; exact H
           clear H
           have H := H1
           clear H1
           replace H := Option.bind_eq_some_iff.mp H
           obtain ⟨⟨t339, t340⟩, A780, H⟩ := H
           replace H : ((laws_heldNoteS.f kj55 t340 1).bind fun t341 => (if t341 < 0 then (some false) else (if t341 = t339 then ((laws_toInstrument.f kj55 l0_0 a0_1).bind fun bt342 => ((laws_toHoleS.f kj55 l1).bind fun t346 => ((impl_ReadBack.f kj55 bt342.1 bt342.2 t346).bind fun bt349 => ((laws_eqNoteS.f kj55 bt349.1 t308).bind fun t353 => (if t353 = true then (laws_FnExactReadBack.j2 kj55 t340 t339 (bt349.2 != t311)) else (laws_FnExactReadBack.j2 kj55 t340 t339 true)))))) else (some false)))) = some r := H
           have A78 := Aside0.mk A780
           clear A780
           replace H := Option.bind_eq_some_iff.mp H
           obtain ⟨t341, A790, H⟩ := H
           replace H : (if t341 < 0 then (some false) else (if t341 = t339 then ((laws_toInstrument.f kj55 l0_0 a0_1).bind fun bt342 => ((laws_toHoleS.f kj55 l1).bind fun t346 => ((impl_ReadBack.f kj55 bt342.1 bt342.2 t346).bind fun bt349 => ((laws_eqNoteS.f kj55 bt349.1 t308).bind fun t353 => (if t353 = true then (laws_FnExactReadBack.j2 kj55 t340 t339 (bt349.2 != t311)) else (laws_FnExactReadBack.j2 kj55 t340 t339 true)))))) else (some false))) = some r := H
           have A79 := Aside0.mk A790
           clear A790
           by_cases c80 : t341 < 0
           ·rw [if_pos c80] at H
            have c80b0 : decide (t341 < 0) = true := decide_eq_true c80
            clear c80
            obtain rfl := Option.some.inj H
            obtain ⟨Ao81, co81, eo81⟩ := Kd.R_slice HO_10.out
            subst eo81
            go_wp2_with (first | ((with_reducible refine gate_callee (f := 41) rfl ?_); refine goesL_ (some 85) rfl rfl Try.func41 (by kernel_rfl) rfl #[.slice Ao81 t320.length co81, .int .i64 1] rfl (by (try simp only [List.map_toArray, List.map_cons, List.map_nil]); first | done | rfl | (simp only [List.length_drop, List.length_take]; rfl)) ?_; (with_reducible refine (laws_markNoteS.calls kj55 (fun k_ => some k_ = (.slice Ao81 t320.length co81 : Value).ownBlock) (.slice Ao81 t320.length co81) t320 1 t339 t340 w _ ?side1 ?side2 A78.out).mono ?_); (case side1 => repeat (first | (with_reducible first | exact HB.out | apply below_alloc | apply pw_below_drewN | apply below_drew1 | refine below_set ?_ GE298.out | refine below_set ?_ GE316.out) | exact HB.out)); (case side2 => exact Kd.R_tight rfl HO_10.out); rintro e w82 ⟨rfl, hy0, hb, hkp⟩; refine ⟨_, rfl, ?_⟩; have n0_ := Aside0.mk (Kd.R_mono (ok' := fun k_ => some k_ ≠ (.slice Ao81 t320.length co81 : Value).ownBlock) (Kd.R_keptB (HO_6.out) hkp (fun k_ hk_ hs_ => (hk_) hs_)) (fun k_ hk_ => hk_.1)); have n1_ := Aside0.mk (Kd.R_reok rfl hy0 (fun k_ e_ => HO_10.out.1 k_ e_)); have n2_ := Aside0.mk (Kd.R_mono (ok' := fun k_ => True) (Kd.R_keptB ((Kd.R_apart' HO_317000.out (Kd.R_typed HO_10.out) (by decide))) hkp (fun k_ hk_ hs_ => (hk_.2) hs_)) (fun k_ hk_ => trivial)); have n3_ := Aside0.mk (blk_kept (bq BK298) hkp (fun hs_ => (fun e_ => (Kd.R_ne HO_10.out BK298.out (by decide)) e_) hs_)); have n4_ := Aside0.mk (blk_kept (bq BK316) hkp (fun hs_ => (fun e_ => (Kd.R_ne HO_10.out BK316.out (by decide)) e_) hs_)); have n5_ := Aside0.mk (hb); clear HO_6; clear HO_10; clear HO_317000; clear BK298; clear BK316; clear HB; have HO_6 := n0_; have HO_10 := n1_; have HO_317000 := n2_; have BK298 := n3_; have BK316 := n4_; have HB := n5_; clear n0_ n1_ n2_ n3_ n4_ n5_; (try clear hb); (try clear hkp); (try clear hy0)) | ((with_reducible refine gate_callee (f := 42) rfl ?_); refine goesL_ (some 88) rfl rfl Try.func42 (by kernel_rfl) rfl #[.slice Ao81 t340.length co81, .int .i64 1] rfl (by (try simp only [List.map_toArray, List.map_cons, List.map_nil]); first | done | (rw [show t340.length = t320.length from (Kd.R_reads' HO_10.out).1.symm] <;> rfl) | rfl | (simp only [List.length_drop, List.length_take]; rfl)) ?_; (with_reducible refine (laws_heldNoteS.calls kj55 _ _ t340 1 t341 _ ?side1 ?side2 A79.out).mono ?_); (case side1 => exact cq (Kd.R_reads' HO_10.out).2.2); (case side2 => rw [show t340.length = t320.length from (Kd.R_reads' HO_10.out).1.symm]; exact (Kd.R_reads' HO_10.out).2.1); rintro e w' ⟨rfl, ⟨nd, rfl⟩⟩; refine ⟨_, rfl, ?_⟩))
            go_ret
            exact ⟨by first | rfl | (simp [errW_none, errW_some] <;> rfl) | (simp [*, errW_none, errW_some] <;> rfl), eq2 HB GE298 GE316⟩
           ·rw [if_neg c80] at H
            have c80b0 : decide (t341 < 0) = false := decide_eq_false c80
            clear c80
            by_cases c83 : t341 = t339
            ·rw [if_pos c83] at H
             have c83b0 : (t341 == t339) = true := beq_iff_eq.mpr c83
             have c83b1 : (t341 != t339) = false := bne_eq_false_iff_eq.mpr c83
             clear c83
             replace H := Option.bind_eq_some_iff.mp H
             obtain ⟨⟨t342, t345⟩, A840, H⟩ := H
             replace H : ((laws_toHoleS.f kj55 l1).bind fun t346 => ((impl_ReadBack.f kj55 t342 t345 t346).bind fun bt349 => ((laws_eqNoteS.f kj55 bt349.1 t308).bind fun t353 => (if t353 = true then (laws_FnExactReadBack.j2 kj55 t340 t339 (bt349.2 != t311)) else (laws_FnExactReadBack.j2 kj55 t340 t339 true))))) = some r := H
             have A84 := Aside0.mk A840
             clear A840
             replace H := Option.bind_eq_some_iff.mp H
             obtain ⟨t346, A850, H⟩ := H
             replace H : ((impl_ReadBack.f kj55 t342 t345 t346).bind fun bt349 => ((laws_eqNoteS.f kj55 bt349.1 t308).bind fun t353 => (if t353 = true then (laws_FnExactReadBack.j2 kj55 t340 t339 (bt349.2 != t311)) else (laws_FnExactReadBack.j2 kj55 t340 t339 true)))) = some r := H
             have A85 := Aside0.mk A850
             clear A850
             replace H := Option.bind_eq_some_iff.mp H
             obtain ⟨⟨t349, t352⟩, A860, H⟩ := H
             replace H : ((laws_eqNoteS.f kj55 t349 t308).bind fun t353 => (if t353 = true then (laws_FnExactReadBack.j2 kj55 t340 t339 (t352 != t311)) else (laws_FnExactReadBack.j2 kj55 t340 t339 true))) = some r := H
             have A86 := Aside0.mk A860
             clear A860
             have HC87 := Aside0.mk H
             clear H
             obtain ⟨Ao88, co88, eo88⟩ := Kd.R_slice HO_10.out
             subst eo88
             go_upto_region 32 with (first | ((with_reducible refine gate_callee (f := 41) rfl ?_); refine goesL_ (some 85) rfl rfl Try.func41 (by kernel_rfl) rfl #[.slice Ao88 t320.length co88, .int .i64 1] rfl (by (try simp only [List.map_toArray, List.map_cons, List.map_nil]); first | done | rfl | (simp only [List.length_drop, List.length_take]; rfl)) ?_; (with_reducible refine (laws_markNoteS.calls kj55 (fun k_ => some k_ = (.slice Ao88 t320.length co88 : Value).ownBlock) (.slice Ao88 t320.length co88) t320 1 t339 t340 w _ ?side1 ?side2 A78.out).mono ?_); (case side1 => repeat (first | (with_reducible first | exact HB.out | apply below_alloc | apply pw_below_drewN | apply below_drew1 | refine below_set ?_ GE298.out | refine below_set ?_ GE316.out) | exact HB.out)); (case side2 => exact Kd.R_tight rfl HO_10.out); rintro e w89 ⟨rfl, hy0, hb, hkp⟩; refine ⟨_, rfl, ?_⟩; have n0_ := Aside0.mk (Kd.R_mono (ok' := fun k_ => some k_ ≠ (.slice Ao88 t320.length co88 : Value).ownBlock) (Kd.R_keptB (HO_6.out) hkp (fun k_ hk_ hs_ => (hk_) hs_)) (fun k_ hk_ => hk_.1)); have n1_ := Aside0.mk (Kd.R_reok rfl hy0 (fun k_ e_ => HO_10.out.1 k_ e_)); have n2_ := Aside0.mk (Kd.R_mono (ok' := fun k_ => True) (Kd.R_keptB ((Kd.R_apart' HO_317000.out (Kd.R_typed HO_10.out) (by decide))) hkp (fun k_ hk_ hs_ => (hk_.2) hs_)) (fun k_ hk_ => trivial)); have n3_ := Aside0.mk (blk_kept (bq BK298) hkp (fun hs_ => (fun e_ => (Kd.R_ne HO_10.out BK298.out (by decide)) e_) hs_)); have n4_ := Aside0.mk (blk_kept (bq BK316) hkp (fun hs_ => (fun e_ => (Kd.R_ne HO_10.out BK316.out (by decide)) e_) hs_)); have n5_ := Aside0.mk (hb); clear HO_6; clear HO_10; clear HO_317000; clear BK298; clear BK316; clear HB; have HO_6 := n0_; have HO_10 := n1_; have HO_317000 := n2_; have BK298 := n3_; have BK316 := n4_; have HB := n5_; clear n0_ n1_ n2_ n3_ n4_ n5_; (try clear hb); (try clear hkp); (try clear hy0)) | ((with_reducible refine gate_callee (f := 42) rfl ?_); refine goesL_ (some 88) rfl rfl Try.func42 (by kernel_rfl) rfl #[.slice Ao88 t340.length co88, .int .i64 1] rfl (by (try simp only [List.map_toArray, List.map_cons, List.map_nil]); first | done | (rw [show t340.length = t320.length from (Kd.R_reads' HO_10.out).1.symm] <;> rfl) | rfl | (simp only [List.length_drop, List.length_take]; rfl)) ?_; (with_reducible refine (laws_heldNoteS.calls kj55 _ _ t340 1 t341 _ ?side1 ?side2 A79.out).mono ?_); (case side1 => exact cq (Kd.R_reads' HO_10.out).2.2); (case side2 => rw [show t340.length = t320.length from (Kd.R_reads' HO_10.out).1.symm]; exact (Kd.R_reads' HO_10.out).2.1); rintro e w' ⟨rfl, ⟨nd, rfl⟩⟩; refine ⟨_, rfl, ?_⟩; have hnb90 := NB298_316.out; have hnc90 := NB316_298.out; have hcz91_0 : w89.cell? ⟨gb298, 0, none⟩ = some (.slice A0_0 l0_0.length c0_0) := (blk_cell BK298.out 0).trans rfl; have hcz91_1 : w89.cell? ⟨gb298, 1, none⟩ = some (.int .i64 a0_1) := (blk_cell BK298.out 1).trans rfl; have hfz91_0 := blk_frozen BK298.out 0; have hfz91_1 := blk_frozen BK298.out 1) | ((with_reducible refine gate_callee (f := 22) rfl ?_); refine goesL_ (some 96) rfl rfl Try.func22 (by kernel_rfl) rfl #[.agg #[.slice A0_0 l0_0.length c0_0, .int .i64 a0_1]] rfl (by (try simp only [List.map_toArray, List.map_cons, List.map_nil]); first | done | rfl | (simp only [List.length_drop, List.length_take]; rfl)) ?_; (with_reducible refine (laws_toInstrument.calls kj55 _ _ l0_0 a0_1 t342 t345 _ ?side1 ?side2 A84.out).mono ?_); (case side1 => exact (Kd.C_below HR0_0.out (eq2 HB GE298 GE316))); (case side2 => exact HC0_0.out); rintro e w92 ⟨v343, rfl, ho0, hb⟩; refine ⟨_, rfl, ?_⟩; have n0_ := Aside0.mk (Kd.R_below (kq HO_6) hb); have n1_ := Aside0.mk (Kd.R_below (kq HO_10) hb); have n2_ := Aside0.mk (Kd.R_elder' (kq HO_317000) (Kd.R_base ho0) hb); have n3_ := Aside0.mk (Kd.R_lower (Kd.R_new' ho0 (Kd.R_lt (kq HO_317000))) (below_size (eq2 HB GE298 GE316))); have n4_ := Aside0.mk (blk_below (bq BK298) hb); have n5_ := Aside0.mk (blk_below (bq BK316) hb); have n6_ := Aside0.mk (below_step (eq2 HB GE298 GE316) hb); clear HO_6; clear HO_10; clear HO_317000; clear BK298; clear BK316; clear HB; have HO_6 := n0_; have HO_10 := n1_; have HO_317000 := n2_; have HO344 := n3_; have BK298 := n4_; have BK316 := n5_; have HB := n6_; clear n0_ n1_ n2_ n3_ n4_ n5_ n6_; (try clear hb); (try clear hb2); (try clear hk); (try clear hi); (try clear ho0)) | ((with_reducible refine gate_callee (f := 15) rfl ?_); refine goesL_ (some 98) rfl rfl Try.func15 (by kernel_rfl) rfl #[.slice A1 l1.length c1] rfl (by (try simp only [List.map_toArray, List.map_cons, List.map_nil]); first | done | rfl | (simp only [List.length_drop, List.length_take]; rfl)) ?_; (with_reducible refine (laws_toHoleS.calls kj55 _ _ l1 t346 _ ?side1 ?side2 A85.out).mono ?_); (case side1 => exact cq (Kd.C_below HR1.out HB.out)); (case side2 => exact HC1.out); rintro e w93 ⟨v347, rfl, ho0, hb⟩; refine ⟨_, rfl, ?_⟩; have n0_ := Aside0.mk (Kd.R_below (kq HO_6) hb); have n1_ := Aside0.mk (Kd.R_below (kq HO_10) hb); have n2_ := Aside0.mk (Kd.R_below (kq HO_317000) hb); have n3_ := Aside0.mk (Kd.R_below (kq HO344) hb); have n4_ := Aside0.mk (Kd.R_lower ho0 (below_size (eq2 HB GE298 GE316))); have n5_ := Aside0.mk (blk_below (bq BK298) hb); have n6_ := Aside0.mk (blk_below (bq BK316) hb); have n7_ := Aside0.mk (below_step (eq2 HB GE298 GE316) hb); clear HO_6; clear HO_10; clear HO_317000; clear HO344; clear BK298; clear BK316; clear HB; have HO_6 := n0_; have HO_10 := n1_; have HO_317000 := n2_; have HO344 := n3_; have HO348 := n4_; have BK298 := n5_; have BK316 := n6_; have HB := n7_; clear n0_ n1_ n2_ n3_ n4_ n5_ n6_ n7_; (try clear hb); (try clear hb2); (try clear hk); (try clear hi); (try clear ho0); obtain ⟨Ao94, co94, eo94⟩ := Kd.R_slice HO344.out; subst eo94; obtain ⟨Ao95, co95, eo95⟩ := Kd.R_slice HO348.out; subst eo95) | ((with_reducible refine gate_callee (f := 38) rfl ?_); refine goesL_ (some 99) rfl rfl Try.func38 (by kernel_rfl) rfl #[.agg #[.slice Ao94 t342.length co94, .int .i64 t345], .slice Ao95 t346.length co95] rfl (by (try simp only [List.map_toArray, List.map_cons, List.map_nil]); first | done | rfl | (simp only [List.length_drop, List.length_take]; rfl)) ?_; (with_reducible refine (impl_ReadBack.calls kj55 _ _ t342 t345 _ _ t346 t349 t352 _ ?side1 ?side2 ?side3 ?side4 A86.out).mono ?_); (case side1 => exact cq (Kd.R_reads' HO344.out).2.2); (case side2 => exact (Kd.R_reads' HO344.out).2.1); (case side3 => exact cq (Kd.R_reads' HO348.out).2.2); (case side4 => exact (Kd.R_reads' HO348.out).2.1); rintro e w96 ⟨v350, rfl, ho0, hb⟩; refine ⟨_, rfl, ?_⟩; have n0_ := Aside0.mk (Kd.R_elder' (kq HO_6) (Kd.R_base ho0) hb); have n1_ := Aside0.mk (Kd.R_elder' (kq HO_10) (Kd.R_base ho0) hb); have n2_ := Aside0.mk (Kd.R_below (kq HO_317000) hb); have n3_ := Aside0.mk (Kd.R_below (kq HO344) hb); have n4_ := Aside0.mk (Kd.R_below (kq HO348) hb); have n5_ := Aside0.mk (Kd.R_lower (Kd.R_new' (Kd.R_new' ho0 (Kd.R_lt (kq HO_6))) (Kd.R_lt (kq HO_10))) (below_size (eq2 HB GE298 GE316))); have n6_ := Aside0.mk (blk_below (bq BK298) hb); have n7_ := Aside0.mk (blk_below (bq BK316) hb); have n8_ := Aside0.mk (below_step (eq2 HB GE298 GE316) hb); clear HO_6; clear HO_10; clear HO_317000; clear HO344; clear HO348; clear BK298; clear BK316; clear HB; have HO_6 := n0_; have HO_10 := n1_; have HO_317000 := n2_; have HO344 := n3_; have HO348 := n4_; have HO351 := n5_; have BK298 := n6_; have BK316 := n7_; have HB := n8_; clear n0_ n1_ n2_ n3_ n4_ n5_ n6_ n7_ n8_; (try clear hb); (try clear hb2); (try clear hk); (try clear hi); (try clear ho0)))
             (try simp only [Act.put, List.setIfInBounds_toArray, List.set_cons_zero, List.set_cons_succ])
             go_cut [110] (fun v110 wc => ∃ (kq : Nat) (x110_86 : Bool), v110 = .bool x110_86 ∧ Aside0 (laws_FnExactReadBack.j2 kq t340 t339 x110_86 = some r) ∧ Aside0 (kq ≤ kj55) ∧ Aside0 (Kd.R k37 37 wc w.heap.size (fun _ => True) (.slice Ao88 t320.length co88) t340) ∧ Aside0 (Kd.R (Kd.int .i64) 3 wc w.heap.size (fun _ => True) (.slice Ao32 t335.length co32) t335) ∧ Aside0 (wc.heap[gb298]? = some (.cells #[(.slice A0_0 l0_0.length c0_0), .int .i64 a0_1] 32 (0, 0))) ∧ Aside0 (wc.heap[gb316]? = some (.cells #[(.slice Ao32 t335.length co32), .int .i64 t315] 40 (0, 0))) ∧ Aside0 (Below w.heap.size w wc))
             case first =>
              have H := HC87.out
              clear HC87
              replace H := Option.bind_eq_some_iff.mp H
              obtain ⟨t353, A970, H⟩ := H
              replace H : (if t353 = true then (laws_FnExactReadBack.j2 kj55 t340 t339 (t352 != t311)) else (laws_FnExactReadBack.j2 kj55 t340 t339 true)) = some r := H
              have A97 := Aside0.mk A970
              clear A970
              by_cases c98 : t353 = true
              ·subst c98
               have H1 : (laws_FnExactReadBack.j2 kj55 t340 t339 (t352 != t311)) = some r := by rw [if_pos rfl] at H; exact H
               clear H
               have H := H1
               clear H1
               have H' := Aside0.mk H
               clear H
               obtain ⟨Ao99, co99, eo99⟩ := Kd.R_slice HO351.out
               subst eo99
               obtain ⟨Ao100, co100, eo100⟩ := Kd.R_slice HO_6.out
               subst eo100
               go_wp2_with (first | ((with_reducible refine gate_callee (f := 39) rfl ?_); refine goesL_ (some 104) rfl rfl Try.func39 (by kernel_rfl) rfl #[.slice Ao99 t349.length co99, .slice Ao100 t308.length co100] rfl (by (try simp only [List.map_toArray, List.map_cons, List.map_nil]); first | done | rfl | (simp only [List.length_drop, List.length_take]; rfl)) ?_; (with_reducible refine (laws_eqNoteS.calls kj55 _ _ t349 _ _ t308 true _ ?side1 ?side2 ?side3 ?side4 A97.out).mono ?_); (case side1 => exact cq (Kd.R_reads' HO351.out).2.2); (case side2 => exact (Kd.R_reads' HO351.out).2.1); (case side3 => exact cq (Kd.R_reads' HO_6.out).2.2); (case side4 => exact (Kd.R_reads' HO_6.out).2.1); rintro e w101 ⟨rfl, hb⟩; refine ⟨_, rfl, ?_⟩; have n0_ := Aside0.mk (Kd.R_below (kq HO_6) hb); have n1_ := Aside0.mk (Kd.R_below (kq HO_10) hb); have n2_ := Aside0.mk (Kd.R_below (kq HO_317000) hb); have n3_ := Aside0.mk (Kd.R_below (kq HO344) hb); have n4_ := Aside0.mk (Kd.R_below (kq HO348) hb); have n5_ := Aside0.mk (Kd.R_below (kq HO351) hb); have n6_ := Aside0.mk (blk_below (bq BK298) hb); have n7_ := Aside0.mk (blk_below (bq BK316) hb); have n8_ := Aside0.mk (below_step (eq2 HB GE298 GE316) hb); clear HO_6; clear HO_10; clear HO_317000; clear HO344; clear HO348; clear HO351; clear BK298; clear BK316; clear HB; have HO_6 := n0_; have HO_10 := n1_; have HO_317000 := n2_; have HO344 := n3_; have HO348 := n4_; have HO351 := n5_; have BK298 := n6_; have BK316 := n7_; have HB := n8_; clear n0_ n1_ n2_ n3_ n4_ n5_ n6_ n7_ n8_; (try clear hb); (try clear hb2); (try clear hk); (try clear hi)))
               go_meet
               case rel => exact ⟨_, ((t352 != t311)), (by first | rfl | (simp; done) | (simp [*]; done)), H', ⟨by have := HJ18.out; have := HJ55.out; first | omega | exact Nat.le_refl _⟩, ⟨by (try simp only [hl317000_55]); (with_reducible repeat (first | apply Kd.R_alloc | apply Kd.R_drewN | apply Kd.R_drew)); exact Kd.R_mono HO_10.out (fun _ hk => trivial)⟩, ⟨by (try simp only [hl317000_55]); (with_reducible repeat (first | apply Kd.R_alloc | apply Kd.R_drewN | apply Kd.R_drew)); exact Kd.R_mono HO_317000.out (fun _ hk => trivial)⟩, ⟨by (try simp only [hl317000_55]); exact bq BK298⟩, ⟨by (try simp only [hl317000_55]); exact bq BK316⟩, ⟨eq2 HB GE298 GE316⟩⟩
              ·replace c98 := Bool.eq_false_iff.mpr c98
               subst c98
               have H1 : (laws_FnExactReadBack.j2 kj55 t340 t339 true) = some r := by rw [if_neg (show ¬ (false = true) by decide)] at H; exact H
               clear H
               have H := H1
               clear H1
               have H' := Aside0.mk H
               clear H
               obtain ⟨Ao102, co102, eo102⟩ := Kd.R_slice HO351.out
               subst eo102
               obtain ⟨Ao103, co103, eo103⟩ := Kd.R_slice HO_6.out
               subst eo103
               go_wp2_with (first | ((with_reducible refine gate_callee (f := 39) rfl ?_); refine goesL_ (some 104) rfl rfl Try.func39 (by kernel_rfl) rfl #[.slice Ao102 t349.length co102, .slice Ao103 t308.length co103] rfl (by (try simp only [List.map_toArray, List.map_cons, List.map_nil]); first | done | rfl | (simp only [List.length_drop, List.length_take]; rfl)) ?_; (with_reducible refine (laws_eqNoteS.calls kj55 _ _ t349 _ _ t308 false _ ?side1 ?side2 ?side3 ?side4 A97.out).mono ?_); (case side1 => exact cq (Kd.R_reads' HO351.out).2.2); (case side2 => exact (Kd.R_reads' HO351.out).2.1); (case side3 => exact cq (Kd.R_reads' HO_6.out).2.2); (case side4 => exact (Kd.R_reads' HO_6.out).2.1); rintro e w104 ⟨rfl, hb⟩; refine ⟨_, rfl, ?_⟩; have n0_ := Aside0.mk (Kd.R_below (kq HO_6) hb); have n1_ := Aside0.mk (Kd.R_below (kq HO_10) hb); have n2_ := Aside0.mk (Kd.R_below (kq HO_317000) hb); have n3_ := Aside0.mk (Kd.R_below (kq HO344) hb); have n4_ := Aside0.mk (Kd.R_below (kq HO348) hb); have n5_ := Aside0.mk (Kd.R_below (kq HO351) hb); have n6_ := Aside0.mk (blk_below (bq BK298) hb); have n7_ := Aside0.mk (blk_below (bq BK316) hb); have n8_ := Aside0.mk (below_step (eq2 HB GE298 GE316) hb); clear HO_6; clear HO_10; clear HO_317000; clear HO344; clear HO348; clear HO351; clear BK298; clear BK316; clear HB; have HO_6 := n0_; have HO_10 := n1_; have HO_317000 := n2_; have HO344 := n3_; have HO348 := n4_; have HO351 := n5_; have BK298 := n6_; have BK316 := n7_; have HB := n8_; clear n0_ n1_ n2_ n3_ n4_ n5_ n6_ n7_ n8_; (try clear hb); (try clear hb2); (try clear hk); (try clear hi)))
               go_meet
               case rel => exact ⟨_, (true), (by first | rfl | (simp; done) | (simp [*]; done)), H', ⟨by have := HJ18.out; have := HJ55.out; first | omega | exact Nat.le_refl _⟩, ⟨by (try simp only [hl317000_55]); (with_reducible repeat (first | apply Kd.R_alloc | apply Kd.R_drewN | apply Kd.R_drew)); exact Kd.R_mono HO_10.out (fun _ hk => trivial)⟩, ⟨by (try simp only [hl317000_55]); (with_reducible repeat (first | apply Kd.R_alloc | apply Kd.R_drewN | apply Kd.R_drew)); exact Kd.R_mono HO_317000.out (fun _ hk => trivial)⟩, ⟨by (try simp only [hl317000_55]); exact bq BK298⟩, ⟨by (try simp only [hl317000_55]); exact bq BK316⟩, ⟨eq2 HB GE298 GE316⟩⟩
             case rest =>
              clear HC87
              try clear c1
              try clear c2
              try clear p2
              try clear c3
              try clear c4
              try clear c4b0
              try clear c5
              try clear c6
              try clear c7
              try clear c8
              try clear c9
              try clear c9b0
              try clear c13
              try clear c15
              try clear c17
              try clear c20
              try clear c22
              try clear c26
              try clear c33
              try clear c34
              try clear c37
              try clear c38
              try clear c39
              try clear c40
              try clear c41
              try clear c42
              try clear c47
              try clear c50
              try clear c53
              try clear c64
              try clear c68
              try clear c68b0
              try clear c70
              try clear c77
              try clear c80
              try clear c80b0
              try clear c83
              try clear c83b0
              try clear c83b1
              try clear c90
              try clear c98
              try clear hcz11_0
              try clear hcz11_1
              try clear hcz21_0
              try clear hcz21_1
              try clear hcz23_0
              try clear hcz23_1
              try clear hcz29_0
              try clear hcz29_1
              try clear hcz34_0
              try clear hcz34_1
              try clear hcz36_0
              try clear hcz36_1
              try clear hcz65_0
              try clear hcz65_1
              try clear hcz6_0
              try clear hcz6_1
              try clear hcz91_0
              try clear hcz91_1
              try clear hfz11_0
              try clear hfz11_1
              try clear hfz21_0
              try clear hfz21_1
              try clear hfz23_0
              try clear hfz23_1
              try clear hfz29_0
              try clear hfz29_1
              try clear hfz34_0
              try clear hfz34_1
              try clear hfz36_0
              try clear hfz36_1
              try clear hfz65_0
              try clear hfz65_1
              try clear hfz6_0
              try clear hfz6_1
              try clear hfz91_0
              try clear hfz91_1
              try clear p2
              obtain ⟨kq, x110_86, rfl, HA, HJ86, HO_10, HO_317000, BK298, BK316, HB⟩ := hcut
              have hl10_86 := (Kd.R_reads' HO_10.out).1
              rw [hl10_86] at HO_10
              (try simp only [hl10_86])
              (try simp only [hl10_86] at BK298)
              (try simp only [hl10_86] at BK316)
              (try simp only [hl10_86] at HO_317000)
              cases kq with
              | zero => exact absurd HA.out (by simp [laws_FnExactReadBack.j2])
              | succ kj86 =>
               have H := HA.out
               clear HA
               simp only [laws_FnExactReadBack.j2] at H
               by_cases c105 : x110_86 = true
               ·subst c105
                have H1 : (some false) = some r := by rw [if_pos rfl] at H; exact H
                clear H
                have H := H1
                clear H1
                obtain rfl := Option.some.inj H
                go_wp2
                go_ret
                exact ⟨by first | rfl | (simp [errW_none, errW_some] <;> rfl) | (simp [*, errW_none, errW_some] <;> rfl), eq2 HB GE298 GE316⟩
               ·replace c105 := Bool.eq_false_iff.mpr c105
                subst c105
                have H1 : ((laws_heldNoteS.f kj86 t340 1).bind fun t354 => (if t354 < 0 then (some false) else (if t354 = t339 then (some true) else (some false)))) = some r := by rw [if_neg (show ¬ (false = true) by decide)] at H; exact H
                clear H
                have H := H1
                clear H1
                replace H := Option.bind_eq_some_iff.mp H
                obtain ⟨t354, A1060, H⟩ := H
                replace H : (if t354 < 0 then (some false) else (if t354 = t339 then (some true) else (some false))) = some r := H
                have A106 := Aside0.mk A1060
                clear A1060
                by_cases c107 : t354 < 0
                ·rw [if_pos c107] at H
                 have c107b0 : decide (t354 < 0) = true := decide_eq_true c107
                 clear c107
                 obtain rfl := Option.some.inj H
                 go_wp2_with (first | ((with_reducible refine gate_callee (f := 42) rfl ?_); refine goesL_ (some 113) rfl rfl Try.func42 (by kernel_rfl) rfl #[.slice Ao88 t340.length co88, .int .i64 1] rfl (by (try simp only [List.map_toArray, List.map_cons, List.map_nil]); first | done | rfl | (simp only [List.length_drop, List.length_take]; rfl)) ?_; (with_reducible refine (laws_heldNoteS.calls kj86 _ _ t340 1 t354 _ ?side1 ?side2 A106.out).mono ?_); (case side1 => exact cq (Kd.R_reads' HO_10.out).2.2); (case side2 => exact (Kd.R_reads' HO_10.out).2.1); rintro e w' ⟨rfl, ⟨nd, rfl⟩⟩; refine ⟨_, rfl, ?_⟩))
                 go_ret
                 exact ⟨by first | rfl | (simp [errW_none, errW_some] <;> rfl) | (simp [*, errW_none, errW_some] <;> rfl), eq2 HB GE298 GE316⟩
                ·rw [if_neg c107] at H
                 have c107b0 : decide (t354 < 0) = false := decide_eq_false c107
                 clear c107
                 by_cases c108 : t354 = t339
                 ·rw [if_pos c108] at H
                  have c108b0 : (t354 == t339) = true := beq_iff_eq.mpr c108
                  have c108b1 : (t354 != t339) = false := bne_eq_false_iff_eq.mpr c108
                  clear c108
                  obtain rfl := Option.some.inj H
                  go_wp2_with (first | ((with_reducible refine gate_callee (f := 42) rfl ?_); refine goesL_ (some 113) rfl rfl Try.func42 (by kernel_rfl) rfl #[.slice Ao88 t340.length co88, .int .i64 1] rfl (by (try simp only [List.map_toArray, List.map_cons, List.map_nil]); first | done | rfl | (simp only [List.length_drop, List.length_take]; rfl)) ?_; (with_reducible refine (laws_heldNoteS.calls kj86 _ _ t340 1 t354 _ ?side1 ?side2 A106.out).mono ?_); (case side1 => exact cq (Kd.R_reads' HO_10.out).2.2); (case side2 => exact (Kd.R_reads' HO_10.out).2.1); rintro e w' ⟨rfl, ⟨nd, rfl⟩⟩; refine ⟨_, rfl, ?_⟩))
                  go_ret
                  exact ⟨by first | rfl | (simp [errW_none, errW_some] <;> rfl) | (simp [*, errW_none, errW_some] <;> rfl), eq2 HB GE298 GE316⟩
                 ·rw [if_neg c108] at H
                  have c108b0 : (t354 == t339) = false := beq_eq_false_iff_ne.mpr c108
                  have c108b1 : (t354 != t339) = true := bne_iff_ne.mpr c108
                  obtain rfl := Option.some.inj H
                  go_wp2_with (first | ((with_reducible refine gate_callee (f := 42) rfl ?_); refine goesL_ (some 113) rfl rfl Try.func42 (by kernel_rfl) rfl #[.slice Ao88 t340.length co88, .int .i64 1] rfl (by (try simp only [List.map_toArray, List.map_cons, List.map_nil]); first | done | rfl | (simp only [List.length_drop, List.length_take]; rfl)) ?_; (with_reducible refine (laws_heldNoteS.calls kj86 _ _ t340 1 t354 _ ?side1 ?side2 A106.out).mono ?_); (case side1 => exact cq (Kd.R_reads' HO_10.out).2.2); (case side2 => exact (Kd.R_reads' HO_10.out).2.1); rintro e w' ⟨rfl, ⟨nd, rfl⟩⟩; refine ⟨_, rfl, ?_⟩))
                  go_ret
                  exact ⟨by first | rfl | (simp [errW_none, errW_some] <;> rfl) | (simp [*, errW_none, errW_some] <;> rfl), eq2 HB GE298 GE316⟩
            ·rw [if_neg c83] at H
             have c83b0 : (t341 == t339) = false := beq_eq_false_iff_ne.mpr c83
             have c83b1 : (t341 != t339) = true := bne_iff_ne.mpr c83
             obtain rfl := Option.some.inj H
             obtain ⟨Ao109, co109, eo109⟩ := Kd.R_slice HO_10.out
             subst eo109
             go_wp2_with (first | ((with_reducible refine gate_callee (f := 41) rfl ?_); refine goesL_ (some 85) rfl rfl Try.func41 (by kernel_rfl) rfl #[.slice Ao109 t320.length co109, .int .i64 1] rfl (by (try simp only [List.map_toArray, List.map_cons, List.map_nil]); first | done | rfl | (simp only [List.length_drop, List.length_take]; rfl)) ?_; (with_reducible refine (laws_markNoteS.calls kj55 (fun k_ => some k_ = (.slice Ao109 t320.length co109 : Value).ownBlock) (.slice Ao109 t320.length co109) t320 1 t339 t340 w _ ?side1 ?side2 A78.out).mono ?_); (case side1 => repeat (first | (with_reducible first | exact HB.out | apply below_alloc | apply pw_below_drewN | apply below_drew1 | refine below_set ?_ GE298.out | refine below_set ?_ GE316.out) | exact HB.out)); (case side2 => exact Kd.R_tight rfl HO_10.out); rintro e w110 ⟨rfl, hy0, hb, hkp⟩; refine ⟨_, rfl, ?_⟩; have n0_ := Aside0.mk (Kd.R_mono (ok' := fun k_ => some k_ ≠ (.slice Ao109 t320.length co109 : Value).ownBlock) (Kd.R_keptB (HO_6.out) hkp (fun k_ hk_ hs_ => (hk_) hs_)) (fun k_ hk_ => hk_.1)); have n1_ := Aside0.mk (Kd.R_reok rfl hy0 (fun k_ e_ => HO_10.out.1 k_ e_)); have n2_ := Aside0.mk (Kd.R_mono (ok' := fun k_ => True) (Kd.R_keptB ((Kd.R_apart' HO_317000.out (Kd.R_typed HO_10.out) (by decide))) hkp (fun k_ hk_ hs_ => (hk_.2) hs_)) (fun k_ hk_ => trivial)); have n3_ := Aside0.mk (blk_kept (bq BK298) hkp (fun hs_ => (fun e_ => (Kd.R_ne HO_10.out BK298.out (by decide)) e_) hs_)); have n4_ := Aside0.mk (blk_kept (bq BK316) hkp (fun hs_ => (fun e_ => (Kd.R_ne HO_10.out BK316.out (by decide)) e_) hs_)); have n5_ := Aside0.mk (hb); clear HO_6; clear HO_10; clear HO_317000; clear BK298; clear BK316; clear HB; have HO_6 := n0_; have HO_10 := n1_; have HO_317000 := n2_; have BK298 := n3_; have BK316 := n4_; have HB := n5_; clear n0_ n1_ n2_ n3_ n4_ n5_; (try clear hb); (try clear hkp); (try clear hy0)) | ((with_reducible refine gate_callee (f := 42) rfl ?_); refine goesL_ (some 88) rfl rfl Try.func42 (by kernel_rfl) rfl #[.slice Ao109 t340.length co109, .int .i64 1] rfl (by (try simp only [List.map_toArray, List.map_cons, List.map_nil]); first | done | (rw [show t340.length = t320.length from (Kd.R_reads' HO_10.out).1.symm] <;> rfl) | rfl | (simp only [List.length_drop, List.length_take]; rfl)) ?_; (with_reducible refine (laws_heldNoteS.calls kj55 _ _ t340 1 t341 _ ?side1 ?side2 A79.out).mono ?_); (case side1 => exact cq (Kd.R_reads' HO_10.out).2.2); (case side2 => rw [show t340.length = t320.length from (Kd.R_reads' HO_10.out).1.symm]; exact (Kd.R_reads' HO_10.out).2.1); rintro e w' ⟨rfl, ⟨nd, rfl⟩⟩; refine ⟨_, rfl, ?_⟩))
             go_ret
             exact ⟨by first | rfl | (simp [errW_none, errW_some] <;> rfl) | (simp [*, errW_none, errW_some] <;> rfl), eq2 HB GE298 GE316⟩
       ·replace c53 := Bool.eq_false_iff.mpr c53
        subst c53
        have H1 : (some false) = some r := by rw [if_neg (show ¬ (false = true) by decide)] at H; exact H
        clear H
        have H := H1
        clear H1
        obtain rfl := Option.some.inj H
        try go_wp2
        have n0_ := Aside0.mk (Kd.R_drew HO_6.out)
        have n1_ := Aside0.mk (Kd.R_drew HO_9.out)
        have n2_ := Aside0.mk (Kd.R_drew HO_10.out)
        have n3_ := Aside0.mk (Kd.R_drew HO_317000.out)
        have n4_ := Aside0.mk (blk_drew BK298.out)
        have n5_ := Aside0.mk (blk_drew BK316.out)
        have n6_ := Aside0.mk (below_drew1 HB.out)
        clear HO_6
        clear HO_9
        clear HO_10
        clear HO_317000
        clear BK298
        clear BK316
        clear HB
        have HO_6 := n0_
        have HO_9 := n1_
        have HO_10 := n2_
        have HO_317000 := n3_
        have BK298 := n4_
        have BK316 := n5_
        have HB := n6_
        clear n0_ n1_ n2_ n3_ n4_ n5_ n6_
        refine start_ (n := 5) (S := fun w' => w'.cell? ⟨gb316, 0, none⟩ = some (.slice Ao32 t312.length co32) ∧ w'.cell? ⟨gb316, 1, none⟩ = some (.int .i64 t315) ∧ w'.cell? ⟨gb298, 0, none⟩ = some (.slice A0_0 l0_0.length c0_0) ∧ w'.cell? ⟨gb298, 1, none⟩ = some (.int .i64 a0_1)) (ds := []) #[false, false, false, false, false] (by kernel_rfl) rfl rfl ⟨(blk_cell BK316.out 0).trans rfl, (blk_cell BK316.out 1).trans rfl, (blk_cell BK298.out 0).trans rfl, (blk_cell BK298.out 1).trans rfl⟩ (fun hHeld => ?_)
        generalize wc.drew = w111 at HO_6 HO_9 HO_10 HO_317000 BK298 BK316 HB hHeld ⊢
        refine take_ (i := 0) (N := some 54) (v := ?_) (a' := ?_) #[true, false, false, false, false] rfl rfl (by kernel_rfl) (fun _ _ _ h => h) (Or.inl ⟨by rfl, ?_⟩) hHeld ?_ ?_
        rotate_left
        ·rintro w' ⟨s0, s1, s2, s3⟩
         go_simp
         with_reducible rfl
        rotate_left
        ·simp only [Act.put, List.setIfInBounds_toArray, List.set_cons_zero, List.set_cons_succ, i64_w, i32_w]
         rfl
        refine take_ (i := 1) (N := some 55) (v := ?_) (a' := ?_) #[true, true, false, false, false] rfl rfl (by kernel_rfl) (fun _ _ _ h => h) (Or.inl ⟨by rfl, ?_⟩) hHeld ?_ ?_
        rotate_left
        ·rintro w' ⟨s0, s1, s2, s3⟩
         go_simp
         with_reducible rfl
        rotate_left
        ·simp only [Act.put, List.setIfInBounds_toArray, List.set_cons_zero, List.set_cons_succ, i64_w, i32_w]
         rfl
        refine one_ (i := 2) (N := some 56) #[true, true, true, false, false] rfl rfl (by kernel_rfl) (by decide) (fun K hK => ?_)
        refine goes_ Try.func22 (by kernel_rfl) rfl #[.agg #[.slice A0_0 l0_0.length c0_0, .int .i64 a0_1]] (by rfl) rfl rfl (by (try simp only [List.map_toArray, List.map_cons, List.map_nil]); first | done | rfl | (simp only [List.length_drop, List.length_take]; rfl)) ?_
        with_reducible refine (laws_toInstrument.calls kj18 _ _ l0_0 a0_1 t325 t328 _ ?side1 ?side2 A48.out).mono ?_
        (case side1 => exact cq (Kd.C_below HR0_0.out HB.out))
        (case side2 => exact HC0_0.out)
        rintro e w112 ⟨v326, rfl, ho0, hb⟩
        refine ⟨_, rfl, ?_⟩
        have n0_ := Aside0.mk (Kd.R_below (kq HO_6) hb)
        have n1_ := Aside0.mk (Kd.R_below (kq HO_9) hb)
        have n2_ := Aside0.mk (Kd.R_below (kq HO_10) hb)
        have n3_ := Aside0.mk (Kd.R_elder' (kq HO_317000) (Kd.R_base ho0) hb)
        have n4_ := Aside0.mk (Kd.R_lower (Kd.R_new' ho0 (Kd.R_lt (kq HO_317000))) (below_size (eq2 HB GE298 GE316)))
        have n5_ := Aside0.mk (blk_below (bq BK298) hb)
        have n6_ := Aside0.mk (blk_below (bq BK316) hb)
        have n7_ := Aside0.mk (below_step (eq2 HB GE298 GE316) hb)
        clear HO_6
        clear HO_9
        clear HO_10
        clear HO_317000
        clear BK298
        clear BK316
        clear HB
        have HO_6 := n0_
        have HO_9 := n1_
        have HO_10 := n2_
        have HO_317000 := n3_
        have HO327 := n4_
        have BK298 := n5_
        have BK316 := n6_
        have HB := n7_
        clear n0_ n1_ n2_ n3_ n4_ n5_ n6_ n7_
        (try clear hb)
        (try clear hb2)
        (try clear hk)
        (try clear hi)
        (try clear ho0)
        obtain ⟨Ao113, co113, eo113⟩ := Kd.R_slice HO327.out
        (first | subst eo113 | (injection eo113 with f1_ f2_ f3_; have f4_ := f1_.symm; have f5_ := f3_.symm; clear f1_ f2_ f3_; subst f4_; subst f5_))
        refine hK.out _ _ ⟨(blk_cell BK316.out 0).trans rfl, (blk_cell BK316.out 1).trans rfl, (blk_cell BK298.out 0).trans rfl, (blk_cell BK298.out 1).trans rfl⟩ (fun hHeld => ?_)
        clear hK K
        refine norm_ (a' := ?_) ?_ ?_
        rotate_left
        ·show Act.put _ (some 56) _ = _
         simp only [Act.put, List.setIfInBounds_toArray, List.set_cons_zero, List.set_cons_succ, i64_w, i32_w]
         rfl
        refine one_ (i := 3) (N := some 57) #[true, true, true, true, false] rfl rfl (by kernel_rfl) (by decide) (fun K hK => ?_)
        refine goes_ Try.func26 (by kernel_rfl) rfl #[.agg #[.slice Ao32 t312.length co32, .int .i64 t315], .agg #[.slice Ao113 t325.length co113, .int .i64 t328]] (by rfl) rfl rfl (by (try simp only [List.map_toArray, List.map_cons, List.map_nil]); first | done | rfl | (simp only [List.length_drop, List.length_take]; rfl)) ?_
        with_reducible refine (laws_eqInstrument.calls kj18 _ _ t312 t315 _ _ t325 t328 true _ ?side1 ?side2 ?side3 ?side4 A49.out).mono ?_
        (case side1 => exact cq (Kd.R_reads' HO_317000.out).2.2)
        (case side2 => exact (Kd.R_reads' HO_317000.out).2.1)
        (case side3 => exact cq (Kd.R_reads' HO327.out).2.2)
        (case side4 => exact (Kd.R_reads' HO327.out).2.1)
        rintro e w114 ⟨rfl, hb⟩
        refine ⟨_, rfl, ?_⟩
        have n0_ := Aside0.mk (Kd.R_below (kq HO_6) hb)
        have n1_ := Aside0.mk (Kd.R_below (kq HO_9) hb)
        have n2_ := Aside0.mk (Kd.R_below (kq HO_10) hb)
        have n3_ := Aside0.mk (Kd.R_below (kq HO_317000) hb)
        have n4_ := Aside0.mk (Kd.R_below (kq HO327) hb)
        have n5_ := Aside0.mk (blk_below (bq BK298) hb)
        have n6_ := Aside0.mk (blk_below (bq BK316) hb)
        have n7_ := Aside0.mk (below_step (eq2 HB GE298 GE316) hb)
        clear HO_6
        clear HO_9
        clear HO_10
        clear HO_317000
        clear HO327
        clear BK298
        clear BK316
        clear HB
        have HO_6 := n0_
        have HO_9 := n1_
        have HO_10 := n2_
        have HO_317000 := n3_
        have HO327 := n4_
        have BK298 := n5_
        have BK316 := n6_
        have HB := n7_
        clear n0_ n1_ n2_ n3_ n4_ n5_ n6_ n7_
        (try clear hb)
        (try clear hb2)
        (try clear hk)
        (try clear hi)
        refine hK.out _ _ ⟨(blk_cell BK316.out 0).trans rfl, (blk_cell BK316.out 1).trans rfl, (blk_cell BK298.out 0).trans rfl, (blk_cell BK298.out 1).trans rfl⟩ (fun hHeld => ?_)
        clear hK K
        refine norm_ (a' := ?_) ?_ ?_
        rotate_left
        ·show Act.put _ (some 57) _ = _
         simp only [Act.put, List.setIfInBounds_toArray, List.set_cons_zero, List.set_cons_succ, i64_w, i32_w]
         rfl
        refine pure_ (i := 4) (N := some 58) (v := ?_) (a' := ?_) #[true, true, true, true, true] rfl rfl (by kernel_rfl) (fun _ _ _ h => h) (Or.inl ⟨by rfl, ?_⟩) ?_ ?_
        rotate_left
        ·intro w'
         go_simp
         with_reducible rfl
        rotate_left
        ·simp only [Act.put, List.setIfInBounds_toArray, List.set_cons_zero, List.set_cons_succ, i64_w, i32_w]
         rfl
        refine done_ (by kernel_rfl) ?_
        try go_wp2_with (first | ((with_reducible refine gate_callee (f := 15) rfl ?_); refine goesL_ (some 61) rfl rfl Try.func15 (by kernel_rfl) rfl #[.slice A1 l1.length c1] rfl (by (try simp only [List.map_toArray, List.map_cons, List.map_nil]); first | done | rfl | (simp only [List.length_drop, List.length_take]; rfl)) ?_; (with_reducible refine (laws_toHoleS.calls kj18 _ _ l1 t330 _ ?side1 ?side2 A51.out).mono ?_); (case side1 => exact cq (Kd.C_below HR1.out HB.out)); (case side2 => exact HC1.out); rintro e w115 ⟨v331, rfl, ho0, hb⟩; refine ⟨_, rfl, ?_⟩; have n0_ := Aside0.mk (Kd.R_below (kq HO_6) hb); have n1_ := Aside0.mk (Kd.R_elder' (kq HO_9) (Kd.R_base ho0) hb); have n2_ := Aside0.mk (Kd.R_below (kq HO_10) hb); have n3_ := Aside0.mk (Kd.R_below (kq HO_317000) hb); have n4_ := Aside0.mk (Kd.R_below (kq HO327) hb); have n5_ := Aside0.mk (Kd.R_lower (Kd.R_new' ho0 (Kd.R_lt (kq HO_9))) (below_size (eq2 HB GE298 GE316))); have n6_ := Aside0.mk (blk_below (bq BK298) hb); have n7_ := Aside0.mk (blk_below (bq BK316) hb); have n8_ := Aside0.mk (below_step (eq2 HB GE298 GE316) hb); clear HO_6; clear HO_9; clear HO_10; clear HO_317000; clear HO327; clear BK298; clear BK316; clear HB; have HO_6 := n0_; have HO_9 := n1_; have HO_10 := n2_; have HO_317000 := n3_; have HO327 := n4_; have HO332 := n5_; have BK298 := n6_; have BK316 := n7_; have HB := n8_; clear n0_ n1_ n2_ n3_ n4_ n5_ n6_ n7_ n8_; (try clear hb); (try clear hb2); (try clear hk); (try clear hi); (try clear ho0); obtain ⟨Ao116, co116, eo116⟩ := Kd.R_slice HO332.out; subst eo116) | ((with_reducible refine gate_callee (f := 17) rfl ?_); refine goesL_ (some 62) rfl rfl Try.func17 (by kernel_rfl) rfl #[.slice Ao37 t317.length co37, .slice Ao116 t330.length co116] rfl (by (try simp only [List.map_toArray, List.map_cons, List.map_nil]); first | done | rfl | (simp only [List.length_drop, List.length_take]; rfl)) ?_; (with_reducible refine (laws_eqHoleS.calls kj18 _ _ t317 _ _ t330 false _ ?side1 ?side2 ?side3 ?side4 A52.out).mono ?_); (case side1 => exact cq (Kd.R_reads' HO_9.out).2.2); (case side2 => exact (Kd.R_reads' HO_9.out).2.1); (case side3 => exact cq (Kd.R_reads' HO332.out).2.2); (case side4 => exact (Kd.R_reads' HO332.out).2.1); rintro e w117 ⟨rfl, hb⟩; refine ⟨_, rfl, ?_⟩; have n0_ := Aside0.mk (Kd.R_below (kq HO_6) hb); have n1_ := Aside0.mk (Kd.R_below (kq HO_9) hb); have n2_ := Aside0.mk (Kd.R_below (kq HO_10) hb); have n3_ := Aside0.mk (Kd.R_below (kq HO_317000) hb); have n4_ := Aside0.mk (Kd.R_below (kq HO327) hb); have n5_ := Aside0.mk (Kd.R_below (kq HO332) hb); have n6_ := Aside0.mk (blk_below (bq BK298) hb); have n7_ := Aside0.mk (blk_below (bq BK316) hb); have n8_ := Aside0.mk (below_step (eq2 HB GE298 GE316) hb); clear HO_6; clear HO_9; clear HO_10; clear HO_317000; clear HO327; clear HO332; clear BK298; clear BK316; clear HB; have HO_6 := n0_; have HO_9 := n1_; have HO_10 := n2_; have HO_317000 := n3_; have HO327 := n4_; have HO332 := n5_; have BK298 := n6_; have BK316 := n7_; have HB := n8_; clear n0_ n1_ n2_ n3_ n4_ n5_ n6_ n7_ n8_; (try clear hb); (try clear hb2); (try clear hk); (try clear hi)))
        go_ret
        exact ⟨by first | rfl | (simp [errW_none, errW_some] <;> rfl) | (simp [*, errW_none, errW_some] <;> rfl), eq2 HB GE298 GE316⟩
      ·replace c50 := Bool.eq_false_iff.mpr c50
       subst c50
       have H1 : (some false) = some r := by rw [if_neg (show ¬ (false = true) by decide)] at H; exact H
       clear H
       have H := H1
       clear H1
       obtain rfl := Option.some.inj H
       try go_wp2
       have n0_ := Aside0.mk (Kd.R_drew HO_6.out)
       have n1_ := Aside0.mk (Kd.R_drew HO_9.out)
       have n2_ := Aside0.mk (Kd.R_drew HO_10.out)
       have n3_ := Aside0.mk (Kd.R_drew HO_317000.out)
       have n4_ := Aside0.mk (blk_drew BK298.out)
       have n5_ := Aside0.mk (blk_drew BK316.out)
       have n6_ := Aside0.mk (below_drew1 HB.out)
       clear HO_6
       clear HO_9
       clear HO_10
       clear HO_317000
       clear BK298
       clear BK316
       clear HB
       have HO_6 := n0_
       have HO_9 := n1_
       have HO_10 := n2_
       have HO_317000 := n3_
       have BK298 := n4_
       have BK316 := n5_
       have HB := n6_
       clear n0_ n1_ n2_ n3_ n4_ n5_ n6_
       refine start_ (n := 5) (S := fun w' => w'.cell? ⟨gb316, 0, none⟩ = some (.slice Ao32 t312.length co32) ∧ w'.cell? ⟨gb316, 1, none⟩ = some (.int .i64 t315) ∧ w'.cell? ⟨gb298, 0, none⟩ = some (.slice A0_0 l0_0.length c0_0) ∧ w'.cell? ⟨gb298, 1, none⟩ = some (.int .i64 a0_1)) (ds := []) #[false, false, false, false, false] (by kernel_rfl) rfl rfl ⟨(blk_cell BK316.out 0).trans rfl, (blk_cell BK316.out 1).trans rfl, (blk_cell BK298.out 0).trans rfl, (blk_cell BK298.out 1).trans rfl⟩ (fun hHeld => ?_)
       generalize wc.drew = w118 at HO_6 HO_9 HO_10 HO_317000 BK298 BK316 HB hHeld ⊢
       refine take_ (i := 0) (N := some 54) (v := ?_) (a' := ?_) #[true, false, false, false, false] rfl rfl (by kernel_rfl) (fun _ _ _ h => h) (Or.inl ⟨by rfl, ?_⟩) hHeld ?_ ?_
       rotate_left
       ·rintro w' ⟨s0, s1, s2, s3⟩
        go_simp
        with_reducible rfl
       rotate_left
       ·simp only [Act.put, List.setIfInBounds_toArray, List.set_cons_zero, List.set_cons_succ, i64_w, i32_w]
        rfl
       refine take_ (i := 1) (N := some 55) (v := ?_) (a' := ?_) #[true, true, false, false, false] rfl rfl (by kernel_rfl) (fun _ _ _ h => h) (Or.inl ⟨by rfl, ?_⟩) hHeld ?_ ?_
       rotate_left
       ·rintro w' ⟨s0, s1, s2, s3⟩
        go_simp
        with_reducible rfl
       rotate_left
       ·simp only [Act.put, List.setIfInBounds_toArray, List.set_cons_zero, List.set_cons_succ, i64_w, i32_w]
        rfl
       refine one_ (i := 2) (N := some 56) #[true, true, true, false, false] rfl rfl (by kernel_rfl) (by decide) (fun K hK => ?_)
       refine goes_ Try.func22 (by kernel_rfl) rfl #[.agg #[.slice A0_0 l0_0.length c0_0, .int .i64 a0_1]] (by rfl) rfl rfl (by (try simp only [List.map_toArray, List.map_cons, List.map_nil]); first | done | rfl | (simp only [List.length_drop, List.length_take]; rfl)) ?_
       with_reducible refine (laws_toInstrument.calls kj18 _ _ l0_0 a0_1 t325 t328 _ ?side1 ?side2 A48.out).mono ?_
       (case side1 => exact cq (Kd.C_below HR0_0.out HB.out))
       (case side2 => exact HC0_0.out)
       rintro e w119 ⟨v326, rfl, ho0, hb⟩
       refine ⟨_, rfl, ?_⟩
       have n0_ := Aside0.mk (Kd.R_below (kq HO_6) hb)
       have n1_ := Aside0.mk (Kd.R_below (kq HO_9) hb)
       have n2_ := Aside0.mk (Kd.R_below (kq HO_10) hb)
       have n3_ := Aside0.mk (Kd.R_elder' (kq HO_317000) (Kd.R_base ho0) hb)
       have n4_ := Aside0.mk (Kd.R_lower (Kd.R_new' ho0 (Kd.R_lt (kq HO_317000))) (below_size (eq2 HB GE298 GE316)))
       have n5_ := Aside0.mk (blk_below (bq BK298) hb)
       have n6_ := Aside0.mk (blk_below (bq BK316) hb)
       have n7_ := Aside0.mk (below_step (eq2 HB GE298 GE316) hb)
       clear HO_6
       clear HO_9
       clear HO_10
       clear HO_317000
       clear BK298
       clear BK316
       clear HB
       have HO_6 := n0_
       have HO_9 := n1_
       have HO_10 := n2_
       have HO_317000 := n3_
       have HO327 := n4_
       have BK298 := n5_
       have BK316 := n6_
       have HB := n7_
       clear n0_ n1_ n2_ n3_ n4_ n5_ n6_ n7_
       (try clear hb)
       (try clear hb2)
       (try clear hk)
       (try clear hi)
       (try clear ho0)
       obtain ⟨Ao120, co120, eo120⟩ := Kd.R_slice HO327.out
       (first | subst eo120 | (injection eo120 with f1_ f2_ f3_; have f4_ := f1_.symm; have f5_ := f3_.symm; clear f1_ f2_ f3_; subst f4_; subst f5_))
       refine hK.out _ _ ⟨(blk_cell BK316.out 0).trans rfl, (blk_cell BK316.out 1).trans rfl, (blk_cell BK298.out 0).trans rfl, (blk_cell BK298.out 1).trans rfl⟩ (fun hHeld => ?_)
       clear hK K
       refine norm_ (a' := ?_) ?_ ?_
       rotate_left
       ·show Act.put _ (some 56) _ = _
        simp only [Act.put, List.setIfInBounds_toArray, List.set_cons_zero, List.set_cons_succ, i64_w, i32_w]
        rfl
       refine one_ (i := 3) (N := some 57) #[true, true, true, true, false] rfl rfl (by kernel_rfl) (by decide) (fun K hK => ?_)
       refine goes_ Try.func26 (by kernel_rfl) rfl #[.agg #[.slice Ao32 t312.length co32, .int .i64 t315], .agg #[.slice Ao120 t325.length co120, .int .i64 t328]] (by rfl) rfl rfl (by (try simp only [List.map_toArray, List.map_cons, List.map_nil]); first | done | rfl | (simp only [List.length_drop, List.length_take]; rfl)) ?_
       with_reducible refine (laws_eqInstrument.calls kj18 _ _ t312 t315 _ _ t325 t328 false _ ?side1 ?side2 ?side3 ?side4 A49.out).mono ?_
       (case side1 => exact cq (Kd.R_reads' HO_317000.out).2.2)
       (case side2 => exact (Kd.R_reads' HO_317000.out).2.1)
       (case side3 => exact cq (Kd.R_reads' HO327.out).2.2)
       (case side4 => exact (Kd.R_reads' HO327.out).2.1)
       rintro e w121 ⟨rfl, hb⟩
       refine ⟨_, rfl, ?_⟩
       have n0_ := Aside0.mk (Kd.R_below (kq HO_6) hb)
       have n1_ := Aside0.mk (Kd.R_below (kq HO_9) hb)
       have n2_ := Aside0.mk (Kd.R_below (kq HO_10) hb)
       have n3_ := Aside0.mk (Kd.R_below (kq HO_317000) hb)
       have n4_ := Aside0.mk (Kd.R_below (kq HO327) hb)
       have n5_ := Aside0.mk (blk_below (bq BK298) hb)
       have n6_ := Aside0.mk (blk_below (bq BK316) hb)
       have n7_ := Aside0.mk (below_step (eq2 HB GE298 GE316) hb)
       clear HO_6
       clear HO_9
       clear HO_10
       clear HO_317000
       clear HO327
       clear BK298
       clear BK316
       clear HB
       have HO_6 := n0_
       have HO_9 := n1_
       have HO_10 := n2_
       have HO_317000 := n3_
       have HO327 := n4_
       have BK298 := n5_
       have BK316 := n6_
       have HB := n7_
       clear n0_ n1_ n2_ n3_ n4_ n5_ n6_ n7_
       (try clear hb)
       (try clear hb2)
       (try clear hk)
       (try clear hi)
       refine hK.out _ _ ⟨(blk_cell BK316.out 0).trans rfl, (blk_cell BK316.out 1).trans rfl, (blk_cell BK298.out 0).trans rfl, (blk_cell BK298.out 1).trans rfl⟩ (fun hHeld => ?_)
       clear hK K
       refine norm_ (a' := ?_) ?_ ?_
       rotate_left
       ·show Act.put _ (some 57) _ = _
        simp only [Act.put, List.setIfInBounds_toArray, List.set_cons_zero, List.set_cons_succ, i64_w, i32_w]
        rfl
       refine pure_ (i := 4) (N := some 58) (v := ?_) (a' := ?_) #[true, true, true, true, true] rfl rfl (by kernel_rfl) (fun _ _ _ h => h) (Or.inl ⟨by rfl, ?_⟩) ?_ ?_
       rotate_left
       ·intro w'
        go_simp
        with_reducible rfl
       rotate_left
       ·simp only [Act.put, List.setIfInBounds_toArray, List.set_cons_zero, List.set_cons_succ, i64_w, i32_w]
        rfl
       refine done_ (by kernel_rfl) ?_
       try go_wp2
       go_ret
       exact ⟨by first | rfl | (simp [errW_none, errW_some] <;> rfl) | (simp [*, errW_none, errW_some] <;> rfl), eq2 HB GE298 GE316⟩

end Go.Proofs.Ytjidioekeinppaa.B
