/- Written by a program of this session over the print of the loaded functions: what each Go function computes, and that the call comes to it. -/
import Derived.Test.YtmkgkkomikiljaaYRC
import Derived.Test.YtmkgkkomikiljaaY0
import Derived.Test.YtmkgkkomikiljaaY1
import Derived.Test.YtmkgkkomikiljaaY2
import Derived.Test.YtmkgkkomikiljaaY3
import Derived.Test.YtmkgkkomikiljaaY8
import Derived.Test.YtmkgkkomikiljaaY15
namespace Go.Proofs.Ytmkgkkomikiljaa.Y
open Go.RowKit Go.Proofs.YtmkgkkomikiljaaW.PrintWords Go.Proofs.YtmkgkkomikiljaaW.PrintLast Go.Proofs.YtmkgkkomikiljaaW.PrintMore
attribute [local go_sem] max2_int min2_int max_two min_two max_three min_three max_four min_four   -- for this text's walks alone
set_option linter.unusedVariables false
set_option linter.unusedSimpArgs false

/-! ### laws_FnExactGreedyPart: function 9 -/
mutual
def laws_FnExactGreedyPart.j0 : Nat → List (S69) → Int → List Int → Bool → List (S67) → List Int → Bool → Bool → List Int → Int → List Int → Int → Option (Bool)
  | 0, _, _, _, _, _, _, _, _, _, _, _, _ => none
  | k + 1, x1, x2, x8, x9, x11, x12, x13, x57, x361000, x361001, x379000, x379001 => if x57 = true then (some false) else ((laws_toInstrument.f k x361000 x361001).bind fun bt387 => ((laws_eqInstrument.f k x379000 x379001 bt387.1 bt387.2).bind fun t391 => (if t391 = true then ((laws_toNoteS.f k x1).bind fun t392 => ((laws_eqNoteS.f k x11 t392).bind fun t395 => (if t395 = true then ((laws_markInstrument.f k x379000 x379001 1).bind fun bt396 => ((laws_markNoteS.f k x11 bt396.1).bind fun bt398 => (if bt398.1 < 0 then (laws_FnExactGreedyPart.j1 k x1 x2 x8 x9 x12 true x361000 x361001) else ((laws_eqIntS.f k x12 x8).bind fun t400 => (if t400 = true then (laws_FnExactGreedyPart.j1 k x1 x2 x8 x9 x12 (x13 != x9) x361000 x361001) else (laws_FnExactGreedyPart.j1 k x1 x2 x8 x9 x12 true x361000 x361001)))))) else (some false)))) else (some false))))
def laws_FnExactGreedyPart.j1 : Nat → List (S69) → Int → List Int → Bool → List Int → Bool → List Int → Int → Option (Bool)
  | 0, _, _, _, _, _, _, _, _ => none
  | k + 1, x1, x2, x8, x9, x12, x86, x361000, x361001 => if x86 = true then (some false) else ((laws_markIntS.f k x12 1).bind fun bt401 => ((laws_heldIntS.f k bt401.2 1).bind fun t403 => (if t403 < 0 then (some false) else (if t403 = bt401.1 then ((laws_toInstrument.f k x361000 x361001).bind fun bt404 => ((laws_toNoteS.f k x1).bind fun t408 => ((impl_GreedyPart.f k bt404.1 bt404.2 t408 x2).bind fun bt411 => ((laws_eqIntS.f k bt411.1 x8).bind fun t415 => (if t415 = true then (laws_FnExactGreedyPart.j2 k bt401.2 bt401.1 (bt411.2 != x9)) else (laws_FnExactGreedyPart.j2 k bt401.2 bt401.1 true)))))) else (some false)))))
def laws_FnExactGreedyPart.j2 : Nat → List Int → Int → Bool → Option (Bool)
  | 0, _, _, _ => none
  | k + 1, x12, x15, x115 => if x115 = true then (some false) else ((laws_heldIntS.f k x12 1).bind fun t416 => (if t416 < 0 then (some false) else (if t416 = x15 then (some true) else (some false))))
end
def laws_FnExactGreedyPart.f (k : Nat) (l0_0 : List Int) (a0_1 : Int) (l1 : List (S69)) (a2 : Int) : Option (Bool) := (laws_szInstrument.f l0_0 a0_1 1048576).bind fun t361 => (if t361 < 0 then (some true) else ((laws_szNoteS.f l1 t361).bind fun t362 => (if t362 < 0 then (some true) else ((laws_toInstrument.f k l0_0 a0_1).bind fun bt363 => ((laws_toNoteS.f k l1).bind fun t367 => ((spec_GreedyPart.f k bt363.1 bt363.2 t367 a2).bind fun bt370 => ((laws_toInstrument.f k l0_0 a0_1).bind fun bt374 => ((laws_toNoteS.f k l1).bind fun t379 => ((impl_GreedyPart.f k bt374.1 bt374.2 t379 a2).bind fun bt382 => ((laws_eqIntS.f k bt382.1 bt370.1).bind fun t386 => (if t386 = true then (laws_FnExactGreedyPart.j0 k l1 a2 bt370.1 bt370.2 t379 bt382.1 bt382.2 (bt382.2 != bt370.2) l0_0 a0_1 bt374.1 bt374.2) else (laws_FnExactGreedyPart.j0 k l1 a2 bt370.1 bt370.2 t379 bt382.1 bt382.2 true l0_0 a0_1 bt374.1 bt374.2))))))))))))
theorem laws_FnExactGreedyPart.mono_l : ∀ k, (∀ y0 y1 y2 y3 y4 y5 y6 y7 y8 y9 y10 y11, LeO (laws_FnExactGreedyPart.j0 k y0 y1 y2 y3 y4 y5 y6 y7 y8 y9 y10 y11) (laws_FnExactGreedyPart.j0 (k + 1) y0 y1 y2 y3 y4 y5 y6 y7 y8 y9 y10 y11)) ∧ (∀ y0 y1 y2 y3 y4 y5 y6 y7, LeO (laws_FnExactGreedyPart.j1 k y0 y1 y2 y3 y4 y5 y6 y7) (laws_FnExactGreedyPart.j1 (k + 1) y0 y1 y2 y3 y4 y5 y6 y7)) ∧ (∀ y0 y1 y2, LeO (laws_FnExactGreedyPart.j2 k y0 y1 y2) (laws_FnExactGreedyPart.j2 (k + 1) y0 y1 y2))
  | 0 => ⟨fun _ _ _ _ _ _ _ _ _ _ _ _ r h => by simp [laws_FnExactGreedyPart.j0] at h, fun _ _ _ _ _ _ _ _ r h => by simp [laws_FnExactGreedyPart.j1] at h, fun _ _ _ r h => by simp [laws_FnExactGreedyPart.j2] at h⟩
  | k + 1 => by
    obtain ⟨ih0, ih1, ih2⟩ := laws_FnExactGreedyPart.mono_l k
    refine ⟨?_, ?_, ?_⟩
    · intro y0 y1 y2 y3 y4 y5 y6 y7 y8 y9 y10 y11
      unfold laws_FnExactGreedyPart.j0
      repeat' first
      | (with_reducible exact ih0 _ _ _ _ _ _ _ _ _ _ _ _)
      | (with_reducible exact ih1 _ _ _ _ _ _ _ _)
      | (with_reducible exact ih2 _ _ _)
      | (with_reducible exact impl_GreedyPart.mono _ _ _ _ _)
      | (with_reducible exact laws_eqInstrument.mono _ _ _ _ _)
      | (with_reducible exact laws_eqIntS.mono _ _ _)
      | (with_reducible exact laws_eqNoteS.mono _ _ _)
      | (with_reducible exact laws_heldIntS.mono _ _ _)
      | (with_reducible exact laws_markInstrument.mono _ _ _ _)
      | (with_reducible exact laws_markIntS.mono _ _ _)
      | (with_reducible exact laws_markNoteS.mono _ _ _)
      | (with_reducible exact laws_toInstrument.mono _ _ _)
      | (with_reducible exact laws_toNoteS.mono _ _)
      | (with_reducible exact spec_GreedyPart.mono _ _ _ _ _)
      | (with_reducible exact LeO.refl _)
      | (with_reducible exact LeO.none _)
      | (with_reducible refine LeO.ite ?_ ?_)
      | (with_reducible refine LeO.bind ?_ (fun _ => ?_))
      | exact ih0 _ _ _ _ _ _ _ _ _ _ _ _
      | exact ih1 _ _ _ _ _ _ _ _
      | exact ih2 _ _ _
      | exact impl_GreedyPart.mono _ _ _ _ _
      | exact laws_eqInstrument.mono _ _ _ _ _
      | exact laws_eqIntS.mono _ _ _
      | exact laws_eqNoteS.mono _ _ _
      | exact laws_heldIntS.mono _ _ _
      | exact laws_markInstrument.mono _ _ _ _
      | exact laws_markIntS.mono _ _ _
      | exact laws_markNoteS.mono _ _ _
      | exact laws_toInstrument.mono _ _ _
      | exact laws_toNoteS.mono _ _
      | exact spec_GreedyPart.mono _ _ _ _ _
      | exact LeO.none _
      | refine LeO.ite ?_ ?_
      | refine LeO.bind ?_ (fun _ => ?_)
    · intro y0 y1 y2 y3 y4 y5 y6 y7
      unfold laws_FnExactGreedyPart.j1
      repeat' first
      | (with_reducible exact ih0 _ _ _ _ _ _ _ _ _ _ _ _)
      | (with_reducible exact ih1 _ _ _ _ _ _ _ _)
      | (with_reducible exact ih2 _ _ _)
      | (with_reducible exact impl_GreedyPart.mono _ _ _ _ _)
      | (with_reducible exact laws_eqInstrument.mono _ _ _ _ _)
      | (with_reducible exact laws_eqIntS.mono _ _ _)
      | (with_reducible exact laws_eqNoteS.mono _ _ _)
      | (with_reducible exact laws_heldIntS.mono _ _ _)
      | (with_reducible exact laws_markInstrument.mono _ _ _ _)
      | (with_reducible exact laws_markIntS.mono _ _ _)
      | (with_reducible exact laws_markNoteS.mono _ _ _)
      | (with_reducible exact laws_toInstrument.mono _ _ _)
      | (with_reducible exact laws_toNoteS.mono _ _)
      | (with_reducible exact spec_GreedyPart.mono _ _ _ _ _)
      | (with_reducible exact LeO.refl _)
      | (with_reducible exact LeO.none _)
      | (with_reducible refine LeO.ite ?_ ?_)
      | (with_reducible refine LeO.bind ?_ (fun _ => ?_))
      | exact ih0 _ _ _ _ _ _ _ _ _ _ _ _
      | exact ih1 _ _ _ _ _ _ _ _
      | exact ih2 _ _ _
      | exact impl_GreedyPart.mono _ _ _ _ _
      | exact laws_eqInstrument.mono _ _ _ _ _
      | exact laws_eqIntS.mono _ _ _
      | exact laws_eqNoteS.mono _ _ _
      | exact laws_heldIntS.mono _ _ _
      | exact laws_markInstrument.mono _ _ _ _
      | exact laws_markIntS.mono _ _ _
      | exact laws_markNoteS.mono _ _ _
      | exact laws_toInstrument.mono _ _ _
      | exact laws_toNoteS.mono _ _
      | exact spec_GreedyPart.mono _ _ _ _ _
      | exact LeO.none _
      | refine LeO.ite ?_ ?_
      | refine LeO.bind ?_ (fun _ => ?_)
    · intro y0 y1 y2
      unfold laws_FnExactGreedyPart.j2
      repeat' first
      | (with_reducible exact ih0 _ _ _ _ _ _ _ _ _ _ _ _)
      | (with_reducible exact ih1 _ _ _ _ _ _ _ _)
      | (with_reducible exact ih2 _ _ _)
      | (with_reducible exact impl_GreedyPart.mono _ _ _ _ _)
      | (with_reducible exact laws_eqInstrument.mono _ _ _ _ _)
      | (with_reducible exact laws_eqIntS.mono _ _ _)
      | (with_reducible exact laws_eqNoteS.mono _ _ _)
      | (with_reducible exact laws_heldIntS.mono _ _ _)
      | (with_reducible exact laws_markInstrument.mono _ _ _ _)
      | (with_reducible exact laws_markIntS.mono _ _ _)
      | (with_reducible exact laws_markNoteS.mono _ _ _)
      | (with_reducible exact laws_toInstrument.mono _ _ _)
      | (with_reducible exact laws_toNoteS.mono _ _)
      | (with_reducible exact spec_GreedyPart.mono _ _ _ _ _)
      | (with_reducible exact LeO.refl _)
      | (with_reducible exact LeO.none _)
      | (with_reducible refine LeO.ite ?_ ?_)
      | (with_reducible refine LeO.bind ?_ (fun _ => ?_))
      | exact ih0 _ _ _ _ _ _ _ _ _ _ _ _
      | exact ih1 _ _ _ _ _ _ _ _
      | exact ih2 _ _ _
      | exact impl_GreedyPart.mono _ _ _ _ _
      | exact laws_eqInstrument.mono _ _ _ _ _
      | exact laws_eqIntS.mono _ _ _
      | exact laws_eqNoteS.mono _ _ _
      | exact laws_heldIntS.mono _ _ _
      | exact laws_markInstrument.mono _ _ _ _
      | exact laws_markIntS.mono _ _ _
      | exact laws_markNoteS.mono _ _ _
      | exact laws_toInstrument.mono _ _ _
      | exact laws_toNoteS.mono _ _
      | exact spec_GreedyPart.mono _ _ _ _ _
      | exact LeO.none _
      | refine LeO.ite ?_ ?_
      | refine LeO.bind ?_ (fun _ => ?_)
theorem laws_FnExactGreedyPart.mono : ∀ a0 a1 a2 a3 k, LeO (laws_FnExactGreedyPart.f k a0 a1 a2 a3) (laws_FnExactGreedyPart.f (k + 1) a0 a1 a2 a3) := by
  intro a0 a1 a2 a3 k
  obtain ⟨ih0, ih1, ih2⟩ := laws_FnExactGreedyPart.mono_l k
  unfold laws_FnExactGreedyPart.f
  repeat' first
      | (with_reducible exact ih0 _ _ _ _ _ _ _ _ _ _ _ _)
      | (with_reducible exact ih1 _ _ _ _ _ _ _ _)
      | (with_reducible exact ih2 _ _ _)
      | (with_reducible exact impl_GreedyPart.mono _ _ _ _ _)
      | (with_reducible exact laws_eqInstrument.mono _ _ _ _ _)
      | (with_reducible exact laws_eqIntS.mono _ _ _)
      | (with_reducible exact laws_eqNoteS.mono _ _ _)
      | (with_reducible exact laws_heldIntS.mono _ _ _)
      | (with_reducible exact laws_markInstrument.mono _ _ _ _)
      | (with_reducible exact laws_markIntS.mono _ _ _)
      | (with_reducible exact laws_markNoteS.mono _ _ _)
      | (with_reducible exact laws_toInstrument.mono _ _ _)
      | (with_reducible exact laws_toNoteS.mono _ _)
      | (with_reducible exact spec_GreedyPart.mono _ _ _ _ _)
      | (with_reducible exact LeO.refl _)
      | (with_reducible exact LeO.none _)
      | (with_reducible refine LeO.ite ?_ ?_)
      | (with_reducible refine LeO.bind ?_ (fun _ => ?_))
      | exact ih0 _ _ _ _ _ _ _ _ _ _ _ _
      | exact ih1 _ _ _ _ _ _ _ _
      | exact ih2 _ _ _
      | exact impl_GreedyPart.mono _ _ _ _ _
      | exact laws_eqInstrument.mono _ _ _ _ _
      | exact laws_eqIntS.mono _ _ _
      | exact laws_eqNoteS.mono _ _ _
      | exact laws_heldIntS.mono _ _ _
      | exact laws_markInstrument.mono _ _ _ _
      | exact laws_markIntS.mono _ _ _
      | exact laws_markNoteS.mono _ _ _
      | exact laws_toInstrument.mono _ _ _
      | exact laws_toNoteS.mono _ _
      | exact spec_GreedyPart.mono _ _ _ _ _
      | exact LeO.none _
      | refine LeO.ite ?_ ?_
      | refine LeO.bind ?_ (fun _ => ?_)
set_option maxHeartbeats 8000000 in
set_option maxRecDepth 100000 in
theorem laws_FnExactGreedyPart.calls (k : Nat) (A0_0 : Option Addr) (c0_0 : Nat) (l0_0 : List Int) (a0_1 : Int) (A1 : Option Addr) (c1 : Nat) (l1 : List (S69)) (a2 : Int) (r : Bool) (w : World) (hr0_0 : Kd.C (Kd.int .i64) w A0_0 l0_0.length l0_0) (hc0_0 : l0_0.length ≤ c0_0) (hr1 : Kd.C k69 w A1 l1.length l1) (hc1 : l1.length ≤ c1) (h : laws_FnExactGreedyPart.f k l0_0 a0_1 l1 a2 = some r) :
    Calls Try.prog 9 #[.agg #[.slice A0_0 l0_0.length c0_0, .int .i64 a0_1], .slice A1 l1.length c1, .int .i64 a2] w fun e w' => e = .returned (.bool r) ∧ Below w.heap.size w w' := by
  have hu40 := Try.underlying40
  have hu43 := Try.underlying43
  have HR0_0 := Aside0.mk hr0_0
  have HC0_0 := Aside0.mk hc0_0
  clear hr0_0 hc0_0
  have HR1 := Aside0.mk hr1
  have HC1 := Aside0.mk hc1
  clear hr1 hc1
  have HB := Aside0.mk (Below.refl w.heap.size w)
  have H : ((laws_szInstrument.f l0_0 a0_1 1048576).bind fun t361 => (if t361 < 0 then (some true) else ((laws_szNoteS.f l1 t361).bind fun t362 => (if t362 < 0 then (some true) else ((laws_toInstrument.f k l0_0 a0_1).bind fun bt363 => ((laws_toNoteS.f k l1).bind fun t367 => ((spec_GreedyPart.f k bt363.1 bt363.2 t367 a2).bind fun bt370 => ((laws_toInstrument.f k l0_0 a0_1).bind fun bt374 => ((laws_toNoteS.f k l1).bind fun t379 => ((impl_GreedyPart.f k bt374.1 bt374.2 t379 a2).bind fun bt382 => ((laws_eqIntS.f k bt382.1 bt370.1).bind fun t386 => (if t386 = true then (laws_FnExactGreedyPart.j0 k l1 a2 bt370.1 bt370.2 t379 bt382.1 bt382.2 (bt382.2 != bt370.2) l0_0 a0_1 bt374.1 bt374.2) else (laws_FnExactGreedyPart.j0 k l1 a2 bt370.1 bt370.2 t379 bt382.1 bt382.2 true l0_0 a0_1 bt374.1 bt374.2))))))))))))) = some r := h
  clear h
  replace H := Option.bind_eq_some_iff.mp H
  obtain ⟨t361, A40, H⟩ := H
  replace H : (if t361 < 0 then (some true) else ((laws_szNoteS.f l1 t361).bind fun t362 => (if t362 < 0 then (some true) else ((laws_toInstrument.f k l0_0 a0_1).bind fun bt363 => ((laws_toNoteS.f k l1).bind fun t367 => ((spec_GreedyPart.f k bt363.1 bt363.2 t367 a2).bind fun bt370 => ((laws_toInstrument.f k l0_0 a0_1).bind fun bt374 => ((laws_toNoteS.f k l1).bind fun t379 => ((impl_GreedyPart.f k bt374.1 bt374.2 t379 a2).bind fun bt382 => ((laws_eqIntS.f k bt382.1 bt370.1).bind fun t386 => (if t386 = true then (laws_FnExactGreedyPart.j0 k l1 a2 bt370.1 bt370.2 t379 bt382.1 bt382.2 (bt382.2 != bt370.2) l0_0 a0_1 bt374.1 bt374.2) else (laws_FnExactGreedyPart.j0 k l1 a2 bt370.1 bt370.2 t379 bt382.1 bt382.2 true l0_0 a0_1 bt374.1 bt374.2)))))))))))) = some r := H
  have A4 := Aside0.mk A40
  clear A40
  by_cases c5 : t361 < 0
  · rw [if_pos c5] at H
    have c5b0 : decide (t361 < 0) = true := decide_eq_true c5
    clear c5
    obtain rfl := Option.some.inj H
    go_enter Try.func9, Try.ntmps9
    go_wp2_with (first | ((with_reducible refine gate_dst (N := 3) rfl ?_); refine box_event ?hg (N := 3) ?hd (cs := #[.slice A0_0 l0_0.length c0_0, .int .i64 a0_1]) (t := 40) ?hr ?_; (case hd => rfl); (case hg => rfl); (case hr => first | (go_simp; done) | (go_simp; rfl)); intro gb360 hg w6 hbox hb; have n0_ := Aside0.mk (below_step (eq0 HB) hb); have n1_ := Aside0.mk (hbox); have n2_ := Aside0.mk ((by rw [hg]; exact (below_size (eq0 HB)) : w.heap.size ≤ gb360)); have n3_ := Aside0.mk ((by rw [hg]; exact (below_size (eq0 HB)) : w.heap.size ≤ gb360)); clear HB; have HB := n0_; have BK360 := n1_; have GW360 := n2_; have GE360 := n3_; clear n0_ n1_ n2_ n3_; clear hb hbox hg; have hcz7_0 : w6.cell? ⟨gb360, 0, none⟩ = some (.slice A0_0 l0_0.length c0_0) := (blk_cell BK360.out 0).trans rfl; have hcz7_1 : w6.cell? ⟨gb360, 1, none⟩ = some (.int .i64 a0_1) := (blk_cell BK360.out 1).trans rfl; have hfz7_0 := blk_frozen BK360.out 0; have hfz7_1 := blk_frozen BK360.out 1) | ((with_reducible refine gate_callee (f := 28) rfl ?_); refine goesL_ (some 21) rfl rfl Try.func28 (by kernel_rfl) rfl #[.agg #[.slice A0_0 l0_0.length c0_0, .int .i64 a0_1], .int .i64 1048576] rfl (by (try simp only [List.map_toArray, List.map_cons, List.map_nil]); first | done | rfl | (simp only [List.length_drop, List.length_take]; rfl)) ?_; (with_reducible refine (laws_szInstrument.calls _ _ l0_0 a0_1 1048576 t361 _ ?side1 ?side2 A4.out).mono ?_); (case side1 => repeat (first | exact (Kd.C_below HR0_0.out HB.out) | (with_reducible refine Kd.C_alloc ?_ _) | (with_reducible refine Kd.C_drewN ?_ _) | (with_reducible refine Kd.C_drew ?_))); (case side2 => exact HC0_0.out); rintro e w8 ⟨rfl, hb⟩; refine ⟨_, rfl, ?_⟩; have n0_ := Aside0.mk (blk_below (g := gb360) (o := .cells #[.slice A0_0 l0_0.length c0_0, .int .i64 a0_1] 40 (0, 0)) (bq BK360) hb); have n1_ := Aside0.mk (below_step (eq1 HB GE360) hb); clear BK360; clear HB; have BK360 := n0_; have HB := n1_; clear n0_ n1_; (try clear hb); (try clear hb2); (try clear hk); (try clear hi)))
    go_ret
    exact ⟨by first | rfl | (simp [errW_none, errW_some] <;> rfl) | (simp [*, errW_none, errW_some] <;> rfl), eq1 HB GE360⟩
  · rw [if_neg c5] at H
    have c5b0 : decide (t361 < 0) = false := decide_eq_false c5
    clear c5
    replace H := Option.bind_eq_some_iff.mp H
    obtain ⟨t362, A90, H⟩ := H
    replace H : (if t362 < 0 then (some true) else ((laws_toInstrument.f k l0_0 a0_1).bind fun bt363 => ((laws_toNoteS.f k l1).bind fun t367 => ((spec_GreedyPart.f k bt363.1 bt363.2 t367 a2).bind fun bt370 => ((laws_toInstrument.f k l0_0 a0_1).bind fun bt374 => ((laws_toNoteS.f k l1).bind fun t379 => ((impl_GreedyPart.f k bt374.1 bt374.2 t379 a2).bind fun bt382 => ((laws_eqIntS.f k bt382.1 bt370.1).bind fun t386 => (if t386 = true then (laws_FnExactGreedyPart.j0 k l1 a2 bt370.1 bt370.2 t379 bt382.1 bt382.2 (bt382.2 != bt370.2) l0_0 a0_1 bt374.1 bt374.2) else (laws_FnExactGreedyPart.j0 k l1 a2 bt370.1 bt370.2 t379 bt382.1 bt382.2 true l0_0 a0_1 bt374.1 bt374.2)))))))))) = some r := H
    have A9 := Aside0.mk A90
    clear A90
    by_cases c10 : t362 < 0
    · rw [if_pos c10] at H
      have c10b0 : decide (t362 < 0) = true := decide_eq_true c10
      clear c10
      obtain rfl := Option.some.inj H
      go_enter Try.func9, Try.ntmps9
      go_wp2_with (first | ((with_reducible refine gate_dst (N := 3) rfl ?_); refine box_event ?hg (N := 3) ?hd (cs := #[.slice A0_0 l0_0.length c0_0, .int .i64 a0_1]) (t := 40) ?hr ?_; (case hd => rfl); (case hg => rfl); (case hr => first | (go_simp; done) | (go_simp; rfl)); intro gb360 hg w11 hbox hb; have n0_ := Aside0.mk (below_step (eq0 HB) hb); have n1_ := Aside0.mk (hbox); have n2_ := Aside0.mk ((by rw [hg]; exact (below_size (eq0 HB)) : w.heap.size ≤ gb360)); have n3_ := Aside0.mk ((by rw [hg]; exact (below_size (eq0 HB)) : w.heap.size ≤ gb360)); clear HB; have HB := n0_; have BK360 := n1_; have GW360 := n2_; have GE360 := n3_; clear n0_ n1_ n2_ n3_; clear hb hbox hg; have hcz12_0 : w11.cell? ⟨gb360, 0, none⟩ = some (.slice A0_0 l0_0.length c0_0) := (blk_cell BK360.out 0).trans rfl; have hcz12_1 : w11.cell? ⟨gb360, 1, none⟩ = some (.int .i64 a0_1) := (blk_cell BK360.out 1).trans rfl; have hfz12_0 := blk_frozen BK360.out 0; have hfz12_1 := blk_frozen BK360.out 1) | ((with_reducible refine gate_callee (f := 28) rfl ?_); refine goesL_ (some 21) rfl rfl Try.func28 (by kernel_rfl) rfl #[.agg #[.slice A0_0 l0_0.length c0_0, .int .i64 a0_1], .int .i64 1048576] rfl (by (try simp only [List.map_toArray, List.map_cons, List.map_nil]); first | done | rfl | (simp only [List.length_drop, List.length_take]; rfl)) ?_; (with_reducible refine (laws_szInstrument.calls _ _ l0_0 a0_1 1048576 t361 _ ?side1 ?side2 A4.out).mono ?_); (case side1 => repeat (first | exact (Kd.C_below HR0_0.out HB.out) | (with_reducible refine Kd.C_alloc ?_ _) | (with_reducible refine Kd.C_drewN ?_ _) | (with_reducible refine Kd.C_drew ?_))); (case side2 => exact HC0_0.out); rintro e w13 ⟨rfl, hb⟩; refine ⟨_, rfl, ?_⟩; have n0_ := Aside0.mk (blk_below (g := gb360) (o := .cells #[.slice A0_0 l0_0.length c0_0, .int .i64 a0_1] 40 (0, 0)) (bq BK360) hb); have n1_ := Aside0.mk (below_step (eq1 HB GE360) hb); clear BK360; clear HB; have BK360 := n0_; have HB := n1_; clear n0_ n1_; (try clear hb); (try clear hb2); (try clear hk); (try clear hi)) | ((with_reducible refine gate_callee (f := 14) rfl ?_); refine goesL_ (some 26) rfl rfl Try.func14 (by kernel_rfl) rfl #[.slice A1 l1.length c1, .int .i64 t361] rfl (by (try simp only [List.map_toArray, List.map_cons, List.map_nil]); first | done | rfl | (simp only [List.length_drop, List.length_take]; rfl)) ?_; (with_reducible refine (laws_szNoteS.calls _ _ l1 t361 t362 _ ?side1 ?side2 A9.out).mono ?_); (case side1 => repeat (first | exact (Kd.C_below HR1.out HB.out) | (with_reducible refine Kd.C_alloc ?_ _) | (with_reducible refine Kd.C_drewN ?_ _) | (with_reducible refine Kd.C_drew ?_))); (case side2 => exact HC1.out); rintro e w' ⟨rfl, ⟨nd, rfl⟩⟩; refine ⟨_, rfl, ?_⟩))
      go_ret
      exact ⟨by first | rfl | (simp [errW_none, errW_some] <;> rfl) | (simp [*, errW_none, errW_some] <;> rfl), eq1 HB GE360⟩
    · rw [if_neg c10] at H
      have c10b0 : decide (t362 < 0) = false := decide_eq_false c10
      clear c10
      replace H := Option.bind_eq_some_iff.mp H
      obtain ⟨⟨t363, t366⟩, A140, H⟩ := H
      replace H : ((laws_toNoteS.f k l1).bind fun t367 => ((spec_GreedyPart.f k t363 t366 t367 a2).bind fun bt370 => ((laws_toInstrument.f k l0_0 a0_1).bind fun bt374 => ((laws_toNoteS.f k l1).bind fun t379 => ((impl_GreedyPart.f k bt374.1 bt374.2 t379 a2).bind fun bt382 => ((laws_eqIntS.f k bt382.1 bt370.1).bind fun t386 => (if t386 = true then (laws_FnExactGreedyPart.j0 k l1 a2 bt370.1 bt370.2 t379 bt382.1 bt382.2 (bt382.2 != bt370.2) l0_0 a0_1 bt374.1 bt374.2) else (laws_FnExactGreedyPart.j0 k l1 a2 bt370.1 bt370.2 t379 bt382.1 bt382.2 true l0_0 a0_1 bt374.1 bt374.2)))))))) = some r := H
      have A14 := Aside0.mk A140
      clear A140
      replace H := Option.bind_eq_some_iff.mp H
      obtain ⟨t367, A150, H⟩ := H
      replace H : ((spec_GreedyPart.f k t363 t366 t367 a2).bind fun bt370 => ((laws_toInstrument.f k l0_0 a0_1).bind fun bt374 => ((laws_toNoteS.f k l1).bind fun t379 => ((impl_GreedyPart.f k bt374.1 bt374.2 t379 a2).bind fun bt382 => ((laws_eqIntS.f k bt382.1 bt370.1).bind fun t386 => (if t386 = true then (laws_FnExactGreedyPart.j0 k l1 a2 bt370.1 bt370.2 t379 bt382.1 bt382.2 (bt382.2 != bt370.2) l0_0 a0_1 bt374.1 bt374.2) else (laws_FnExactGreedyPart.j0 k l1 a2 bt370.1 bt370.2 t379 bt382.1 bt382.2 true l0_0 a0_1 bt374.1 bt374.2))))))) = some r := H
      have A15 := Aside0.mk A150
      clear A150
      replace H := Option.bind_eq_some_iff.mp H
      obtain ⟨⟨t370, t373⟩, A160, H⟩ := H
      replace H : ((laws_toInstrument.f k l0_0 a0_1).bind fun bt374 => ((laws_toNoteS.f k l1).bind fun t379 => ((impl_GreedyPart.f k bt374.1 bt374.2 t379 a2).bind fun bt382 => ((laws_eqIntS.f k bt382.1 t370).bind fun t386 => (if t386 = true then (laws_FnExactGreedyPart.j0 k l1 a2 t370 t373 t379 bt382.1 bt382.2 (bt382.2 != t373) l0_0 a0_1 bt374.1 bt374.2) else (laws_FnExactGreedyPart.j0 k l1 a2 t370 t373 t379 bt382.1 bt382.2 true l0_0 a0_1 bt374.1 bt374.2)))))) = some r := H
      have A16 := Aside0.mk A160
      clear A160
      replace H := Option.bind_eq_some_iff.mp H
      obtain ⟨⟨t374, t377⟩, A170, H⟩ := H
      replace H : ((laws_toNoteS.f k l1).bind fun t379 => ((impl_GreedyPart.f k t374 t377 t379 a2).bind fun bt382 => ((laws_eqIntS.f k bt382.1 t370).bind fun t386 => (if t386 = true then (laws_FnExactGreedyPart.j0 k l1 a2 t370 t373 t379 bt382.1 bt382.2 (bt382.2 != t373) l0_0 a0_1 t374 t377) else (laws_FnExactGreedyPart.j0 k l1 a2 t370 t373 t379 bt382.1 bt382.2 true l0_0 a0_1 t374 t377))))) = some r := H
      have A17 := Aside0.mk A170
      clear A170
      replace H := Option.bind_eq_some_iff.mp H
      obtain ⟨t379, A180, H⟩ := H
      replace H : ((impl_GreedyPart.f k t374 t377 t379 a2).bind fun bt382 => ((laws_eqIntS.f k bt382.1 t370).bind fun t386 => (if t386 = true then (laws_FnExactGreedyPart.j0 k l1 a2 t370 t373 t379 bt382.1 bt382.2 (bt382.2 != t373) l0_0 a0_1 t374 t377) else (laws_FnExactGreedyPart.j0 k l1 a2 t370 t373 t379 bt382.1 bt382.2 true l0_0 a0_1 t374 t377)))) = some r := H
      have A18 := Aside0.mk A180
      clear A180
      replace H := Option.bind_eq_some_iff.mp H
      obtain ⟨⟨t382, t385⟩, A190, H⟩ := H
      replace H : ((laws_eqIntS.f k t382 t370).bind fun t386 => (if t386 = true then (laws_FnExactGreedyPart.j0 k l1 a2 t370 t373 t379 t382 t385 (t385 != t373) l0_0 a0_1 t374 t377) else (laws_FnExactGreedyPart.j0 k l1 a2 t370 t373 t379 t382 t385 true l0_0 a0_1 t374 t377))) = some r := H
      have A19 := Aside0.mk A190
      clear A190
      have HC20 := Aside0.mk H
      clear H
      go_enter Try.func9, Try.ntmps9
      go_upto_region 12 with (first | ((with_reducible refine gate_dst (N := 3) rfl ?_); refine box_event ?hg (N := 3) ?hd (cs := #[.slice A0_0 l0_0.length c0_0, .int .i64 a0_1]) (t := 40) ?hr ?_; (case hd => rfl); (case hg => rfl); (case hr => first | (go_simp; done) | (go_simp; rfl)); intro gb360 hg w21 hbox hb; have n0_ := Aside0.mk (below_step (eq0 HB) hb); have n1_ := Aside0.mk (hbox); have n2_ := Aside0.mk ((by rw [hg]; exact (below_size (eq0 HB)) : w.heap.size ≤ gb360)); have n3_ := Aside0.mk ((by rw [hg]; exact (below_size (eq0 HB)) : w.heap.size ≤ gb360)); clear HB; have HB := n0_; have BK360 := n1_; have GW360 := n2_; have GE360 := n3_; clear n0_ n1_ n2_ n3_; clear hb hbox hg; have hcz22_0 : w21.cell? ⟨gb360, 0, none⟩ = some (.slice A0_0 l0_0.length c0_0) := (blk_cell BK360.out 0).trans rfl; have hcz22_1 : w21.cell? ⟨gb360, 1, none⟩ = some (.int .i64 a0_1) := (blk_cell BK360.out 1).trans rfl; have hfz22_0 := blk_frozen BK360.out 0; have hfz22_1 := blk_frozen BK360.out 1) | ((with_reducible refine gate_callee (f := 28) rfl ?_); refine goesL_ (some 21) rfl rfl Try.func28 (by kernel_rfl) rfl #[.agg #[.slice A0_0 l0_0.length c0_0, .int .i64 a0_1], .int .i64 1048576] rfl (by (try simp only [List.map_toArray, List.map_cons, List.map_nil]); first | done | rfl | (simp only [List.length_drop, List.length_take]; rfl)) ?_; (with_reducible refine (laws_szInstrument.calls _ _ l0_0 a0_1 1048576 t361 _ ?side1 ?side2 A4.out).mono ?_); (case side1 => repeat (first | exact (Kd.C_below HR0_0.out HB.out) | (with_reducible refine Kd.C_alloc ?_ _) | (with_reducible refine Kd.C_drewN ?_ _) | (with_reducible refine Kd.C_drew ?_))); (case side2 => exact HC0_0.out); rintro e w23 ⟨rfl, hb⟩; refine ⟨_, rfl, ?_⟩; have n0_ := Aside0.mk (blk_below (g := gb360) (o := .cells #[.slice A0_0 l0_0.length c0_0, .int .i64 a0_1] 40 (0, 0)) (bq BK360) hb); have n1_ := Aside0.mk (below_step (eq1 HB GE360) hb); clear BK360; clear HB; have BK360 := n0_; have HB := n1_; clear n0_ n1_; (try clear hb); (try clear hb2); (try clear hk); (try clear hi)) | ((with_reducible refine gate_callee (f := 14) rfl ?_); refine goesL_ (some 26) rfl rfl Try.func14 (by kernel_rfl) rfl #[.slice A1 l1.length c1, .int .i64 t361] rfl (by (try simp only [List.map_toArray, List.map_cons, List.map_nil]); first | done | rfl | (simp only [List.length_drop, List.length_take]; rfl)) ?_; (with_reducible refine (laws_szNoteS.calls _ _ l1 t361 t362 _ ?side1 ?side2 A9.out).mono ?_); (case side1 => repeat (first | exact (Kd.C_below HR1.out HB.out) | (with_reducible refine Kd.C_alloc ?_ _) | (with_reducible refine Kd.C_drewN ?_ _) | (with_reducible refine Kd.C_drew ?_))); (case side2 => exact HC1.out); rintro e w' ⟨rfl, ⟨nd, rfl⟩⟩; refine ⟨_, rfl, ?_⟩; (try (rw [drewN_self w23]; generalize hq_ : World.drewN w23 _ = w23; have n0_ : Aside0 (w23.heap[gb360]? = some (.cells #[.slice A0_0 l0_0.length c0_0, .int .i64 a0_1] 40 (0, 0))) := ⟨by rw [← hq_]; exact (bq BK360)⟩; have n1_ : Aside0 (Below w.heap.size w w23) := ⟨by rw [← hq_]; exact (eq1 HB GE360)⟩; clear BK360 HB hq_; have BK360 := n0_; have HB := n1_; clear n0_ n1_)); have hcz24_0 : w23.cell? ⟨gb360, 0, none⟩ = some (.slice A0_0 l0_0.length c0_0) := (blk_cell BK360.out 0).trans rfl; have hcz24_1 : w23.cell? ⟨gb360, 1, none⟩ = some (.int .i64 a0_1) := (blk_cell BK360.out 1).trans rfl; have hfz24_0 := blk_frozen BK360.out 0; have hfz24_1 := blk_frozen BK360.out 1) | ((with_reducible refine gate_callee (f := 30) rfl ?_); refine goesL_ (some 31) rfl rfl Try.func30 (by kernel_rfl) rfl #[.agg #[.slice A0_0 l0_0.length c0_0, .int .i64 a0_1]] rfl (by (try simp only [List.map_toArray, List.map_cons, List.map_nil]); first | done | rfl | (simp only [List.length_drop, List.length_take]; rfl)) ?_; (with_reducible refine (laws_toInstrument.calls k _ _ l0_0 a0_1 t363 t366 _ ?side1 ?side2 A14.out).mono ?_); (case side1 => repeat (first | exact (Kd.C_below HR0_0.out HB.out) | (with_reducible refine Kd.C_alloc ?_ _) | (with_reducible refine Kd.C_drewN ?_ _) | (with_reducible refine Kd.C_drew ?_))); (case side2 => exact HC0_0.out); rintro e w25 ⟨v364, rfl, ho0, hb⟩; refine ⟨_, rfl, ?_⟩; have n0_ := Aside0.mk (Kd.R_lower ho0 (below_size (eq1 HB GE360))); have n1_ := Aside0.mk (blk_below (g := gb360) (o := .cells #[.slice A0_0 l0_0.length c0_0, .int .i64 a0_1] 40 (0, 0)) (bq BK360) hb); have n2_ := Aside0.mk (below_step (eq1 HB GE360) hb); clear BK360; clear HB; have HO365 := n0_; have BK360 := n1_; have HB := n2_; clear n0_ n1_ n2_; (try clear hb); (try clear hb2); (try clear hk); (try clear hi); (try clear ho0)) | ((with_reducible refine gate_callee (f := 16) rfl ?_); refine goesL_ (some 33) rfl rfl Try.func16 (by kernel_rfl) rfl #[.slice A1 l1.length c1] rfl (by (try simp only [List.map_toArray, List.map_cons, List.map_nil]); first | done | rfl | (simp only [List.length_drop, List.length_take]; rfl)) ?_; (with_reducible refine (laws_toNoteS.calls k _ _ l1 t367 _ ?side1 ?side2 A15.out).mono ?_); (case side1 => repeat (first | exact (Kd.C_below HR1.out HB.out) | (with_reducible refine Kd.C_alloc ?_ _) | (with_reducible refine Kd.C_drewN ?_ _) | (with_reducible refine Kd.C_drew ?_))); (case side2 => exact HC1.out); rintro e w26 ⟨v368, rfl, ho0, hb⟩; refine ⟨_, rfl, ?_⟩; have n0_ := Aside0.mk (Kd.R_below (kq HO365) hb); have n1_ := Aside0.mk (Kd.R_lower ho0 (below_size (eq1 HB GE360))); have n2_ := Aside0.mk (blk_below (g := gb360) (o := .cells #[.slice A0_0 l0_0.length c0_0, .int .i64 a0_1] 40 (0, 0)) (bq BK360) hb); have n3_ := Aside0.mk (below_step (eq1 HB GE360) hb); clear HO365; clear BK360; clear HB; have HO365 := n0_; have HO369 := n1_; have BK360 := n2_; have HB := n3_; clear n0_ n1_ n2_ n3_; (try clear hb); (try clear hb2); (try clear hk); (try clear hi); (try clear ho0); obtain ⟨Ao27, co27, eo27⟩ := Kd.R_slice HO365.out; subst eo27; obtain ⟨Ao28, co28, eo28⟩ := Kd.R_slice HO369.out; subst eo28) | ((with_reducible refine gate_callee (f := 38) rfl ?_); refine goesL_ (some 35) rfl rfl Try.func38 (by kernel_rfl) rfl #[.agg #[.slice Ao27 t363.length co27, .int .i64 t366], .slice Ao28 t367.length co28, .int .i64 a2] rfl (by (try simp only [List.map_toArray, List.map_cons, List.map_nil]); first | done | rfl | (simp only [List.length_drop, List.length_take]; rfl)) ?_; (with_reducible refine (spec_GreedyPart.calls k _ _ t363 t366 _ _ t367 a2 t370 t373 _ ?side1 ?side2 ?side3 ?side4 A16.out).mono ?_); (case side1 => repeat (first | exact (Kd.R_reads' HO365.out).2.2 | (with_reducible refine Kd.C_alloc ?_ _) | (with_reducible refine Kd.C_drewN ?_ _) | (with_reducible refine Kd.C_drew ?_))); (case side2 => exact (Kd.R_reads' HO365.out).2.1); (case side3 => repeat (first | exact (Kd.R_reads' HO369.out).2.2 | (with_reducible refine Kd.C_alloc ?_ _) | (with_reducible refine Kd.C_drewN ?_ _) | (with_reducible refine Kd.C_drew ?_))); (case side4 => exact (Kd.R_reads' HO369.out).2.1); rintro e w29 ⟨v371, rfl, ho0, hb⟩; refine ⟨_, rfl, ?_⟩; have n0_ := Aside0.mk (Kd.R_elder' (kq HO365) (Kd.R_base ho0) hb); have n1_ := Aside0.mk (Kd.R_below (kq HO369) hb); have n2_ := Aside0.mk (Kd.R_lower (Kd.R_new' ho0 (Kd.R_lt (kq HO365))) (below_size (eq1 HB GE360))); have n3_ := Aside0.mk (blk_below (g := gb360) (o := .cells #[.slice A0_0 l0_0.length c0_0, .int .i64 a0_1] 40 (0, 0)) (bq BK360) hb); have n4_ := Aside0.mk (below_step (eq1 HB GE360) hb); clear HO365; clear HO369; clear BK360; clear HB; have HO365 := n0_; have HO369 := n1_; have HO372 := n2_; have BK360 := n3_; have HB := n4_; clear n0_ n1_ n2_ n3_ n4_; (try clear hb); (try clear hb2); (try clear hk); (try clear hi); (try clear ho0); have hcz30_0 : w29.cell? ⟨gb360, 0, none⟩ = some (.slice A0_0 l0_0.length c0_0) := (blk_cell BK360.out 0).trans rfl; have hcz30_1 : w29.cell? ⟨gb360, 1, none⟩ = some (.int .i64 a0_1) := (blk_cell BK360.out 1).trans rfl; have hfz30_0 := blk_frozen BK360.out 0; have hfz30_1 := blk_frozen BK360.out 1) | ((with_reducible refine gate_callee (f := 30) rfl ?_); refine goesL_ (some 39) rfl rfl Try.func30 (by kernel_rfl) rfl #[.agg #[.slice A0_0 l0_0.length c0_0, .int .i64 a0_1]] rfl (by (try simp only [List.map_toArray, List.map_cons, List.map_nil]); first | done | rfl | (simp only [List.length_drop, List.length_take]; rfl)) ?_; (with_reducible refine (laws_toInstrument.calls k _ _ l0_0 a0_1 t374 t377 _ ?side1 ?side2 A17.out).mono ?_); (case side1 => repeat (first | exact (Kd.C_below HR0_0.out HB.out) | (with_reducible refine Kd.C_alloc ?_ _) | (with_reducible refine Kd.C_drewN ?_ _) | (with_reducible refine Kd.C_drew ?_))); (case side2 => exact HC0_0.out); rintro e w31 ⟨v375, rfl, ho0, hb⟩; refine ⟨_, rfl, ?_⟩; have n0_ := Aside0.mk (Kd.R_elder' (kq HO365) (Kd.R_base ho0) hb); have n1_ := Aside0.mk (Kd.R_below (kq HO369) hb); have n2_ := Aside0.mk (Kd.R_elder' (kq HO372) (Kd.R_base ho0) hb); have n3_ := Aside0.mk (Kd.R_lower (Kd.R_new' (Kd.R_new' ho0 (Kd.R_lt (kq HO365))) (Kd.R_lt (kq HO372))) (below_size (eq1 HB GE360))); have n4_ := Aside0.mk (blk_below (g := gb360) (o := .cells #[.slice A0_0 l0_0.length c0_0, .int .i64 a0_1] 40 (0, 0)) (bq BK360) hb); have n5_ := Aside0.mk (below_step (eq1 HB GE360) hb); clear HO365; clear HO369; clear HO372; clear BK360; clear HB; have HO365 := n0_; have HO369 := n1_; have HO372 := n2_; have HO376 := n3_; have BK360 := n4_; have HB := n5_; clear n0_ n1_ n2_ n3_ n4_ n5_; (try clear hb); (try clear hb2); (try clear hk); (try clear hi); (try clear ho0)) | ((with_reducible refine gate_dst (N := 10) rfl ?_); refine box_event ?hg (N := 10) ?hd (cs := #[.slice none 0 0, .int .i64 0]) (t := 43) ?hr ?_; (case hd => rfl); (case hg => rfl); (case hr => first | (go_simp; done) | (go_simp; rfl)); intro gb378 hg w32 hbox hb; have n0_ := Aside0.mk (Kd.R_below (kq HO365) hb); have n1_ := Aside0.mk (Kd.R_below (kq HO369) hb); have n2_ := Aside0.mk (Kd.R_below (kq HO372) hb); have n3_ := Aside0.mk (Kd.R_below (kq HO376) hb); have n4_ := Aside0.mk (blk_below (g := gb360) (o := .cells #[.slice A0_0 l0_0.length c0_0, .int .i64 a0_1] 40 (0, 0)) (bq BK360) hb); have n5_ := Aside0.mk (below_step (eq1 HB GE360) hb); have n6_ := Aside0.mk (hbox); have n7_ := Aside0.mk ((by rw [hg]; exact (below_size (eq1 HB GE360)) : w.heap.size ≤ gb378)); have n8_ := Aside0.mk ((by rw [hg]; exact (below_size (eq1 HB GE360)) : w.heap.size ≤ gb378)); have n9_ := Aside0.mk ((by rw [hg]; exact Nat.ne_of_lt (blk_lt (g := gb360) (o := .cells #[.slice A0_0 l0_0.length c0_0, .int .i64 a0_1] 40 (0, 0)) (bq BK360)) : gb360 ≠ gb378)); have n10_ := Aside0.mk ((by rw [hg]; exact Nat.ne_of_gt (blk_lt (g := gb360) (o := .cells #[.slice A0_0 l0_0.length c0_0, .int .i64 a0_1] 40 (0, 0)) (bq BK360)) : gb378 ≠ gb360)); clear HO365; clear HO369; clear HO372; clear HO376; clear BK360; clear HB; have HO365 := n0_; have HO369 := n1_; have HO372 := n2_; have HO376 := n3_; have BK360 := n4_; have HB := n5_; have BK378 := n6_; have GW378 := n7_; have GE378 := n8_; have NB360_378 := n9_; have NB378_360 := n10_; clear n0_ n1_ n2_ n3_ n4_ n5_ n6_ n7_ n8_ n9_ n10_; clear hb hbox hg; obtain ⟨Ao33, co33, eo33⟩ := Kd.R_slice HO376.out; subst eo33; have hnb34 := NB378_360.out; have hnc34 := NB360_378.out; have hcz35_0 : w32.cell? ⟨gb378, 0, none⟩ = some (.slice none 0 0) := (blk_cell BK378.out 0).trans rfl; have hcz35_1 : w32.cell? ⟨gb378, 1, none⟩ = some (.int .i64 0) := (blk_cell BK378.out 1).trans rfl; have hfz35_0 := blk_frozen BK378.out 0; have hfz35_1 := blk_frozen BK378.out 1) | ((with_reducible refine gate_callee (f := 16) rfl ?_); refine goesL_ (some 41) rfl rfl Try.func16 (by kernel_rfl) rfl #[.slice A1 l1.length c1] rfl (by (try simp only [List.map_toArray, List.map_cons, List.map_nil]); first | done | rfl | (simp only [List.length_drop, List.length_take]; rfl)) ?_; (with_reducible refine (laws_toNoteS.calls k _ _ l1 t379 _ ?side1 ?side2 A18.out).mono ?_); (case side1 => exact Kd.C_below HR1.out (eq2 HB GE360 GE378)); (case side2 => exact HC1.out); rintro e w36 ⟨v380, rfl, ho0, hb⟩; refine ⟨_, rfl, ?_⟩; have n0_ := Aside0.mk (Kd.R_below (by (with_reducible repeat (first | apply Kd.R_alloc | apply Kd.R_drewN | apply Kd.R_drew)); exact (Kd.R_mono (Kd.R_far (p := ⟨gb378, 1, none⟩) (Kd.R_far (p := ⟨gb378, 0, none⟩) (Kd.R_types HO365.out BK378.out (by decide)) (fun _ hk => hk.2) (.slice Ao33 t374.length co33)) (fun _ hk => hk.2) (.int .i64 t377)) (fun _ h_ => h_.1))) hb); have n1_ := Aside0.mk (Kd.R_elder' (by (with_reducible repeat (first | apply Kd.R_alloc | apply Kd.R_drewN | apply Kd.R_drew)); exact (Kd.R_mono (Kd.R_far (p := ⟨gb378, 1, none⟩) (Kd.R_far (p := ⟨gb378, 0, none⟩) (Kd.R_types HO369.out BK378.out (by decide)) (fun _ hk => hk.2) (.slice Ao33 t374.length co33)) (fun _ hk => hk.2) (.int .i64 t377)) (fun _ h_ => h_.1))) (Kd.R_base ho0) hb); have n2_ := Aside0.mk (Kd.R_below (by (with_reducible repeat (first | apply Kd.R_alloc | apply Kd.R_drewN | apply Kd.R_drew)); exact (Kd.R_mono (Kd.R_far (p := ⟨gb378, 1, none⟩) (Kd.R_far (p := ⟨gb378, 0, none⟩) (Kd.R_types HO372.out BK378.out (by decide)) (fun _ hk => hk.2) (.slice Ao33 t374.length co33)) (fun _ hk => hk.2) (.int .i64 t377)) (fun _ h_ => h_.1))) hb); have n3_ := Aside0.mk (Kd.R_below (by (with_reducible repeat (first | apply Kd.R_alloc | apply Kd.R_drewN | apply Kd.R_drew)); exact (Kd.R_mono (Kd.R_far (p := ⟨gb378, 1, none⟩) (Kd.R_far (p := ⟨gb378, 0, none⟩) (Kd.R_types HO376.out BK378.out (by decide)) (fun _ hk => hk.2) (.slice Ao33 t374.length co33)) (fun _ hk => hk.2) (.int .i64 t377)) (fun _ h_ => h_.1))) hb); have n4_ := Aside0.mk (Kd.R_lower (Kd.R_new' ho0 (Kd.R_lt (by (with_reducible repeat (first | apply Kd.R_alloc | apply Kd.R_drewN | apply Kd.R_drew)); exact (Kd.R_mono (Kd.R_far (p := ⟨gb378, 1, none⟩) (Kd.R_far (p := ⟨gb378, 0, none⟩) (Kd.R_types HO369.out BK378.out (by decide)) (fun _ hk => hk.2) (.slice Ao33 t374.length co33)) (fun _ hk => hk.2) (.int .i64 t377)) (fun _ h_ => h_.1))))) (below_size (eq2 HB GE360 GE378))); have n5_ := Aside0.mk (blk_below (g := gb360) (o := .cells #[.slice A0_0 l0_0.length c0_0, .int .i64 a0_1] 40 (0, 0)) (by (with_reducible repeat (first | refine blk_drewN ?_ _ | refine blk_drew ?_ | refine blk_alloc ?_ _)); refine blk_far ?_ NB360_378.out _; (with_reducible repeat (first | refine blk_drewN ?_ _ | refine blk_drew ?_ | refine blk_alloc ?_ _)); refine blk_far ?_ NB360_378.out _; (with_reducible repeat (first | refine blk_drewN ?_ _ | refine blk_drew ?_ | refine blk_alloc ?_ _)); exact BK360.out) hb); have n6_ := Aside0.mk (blk_below (g := gb378) (o := .cells #[.slice Ao33 t374.length co33, .int .i64 t377] 43 (0, 0)) (by (with_reducible repeat (first | refine blk_drewN ?_ _ | refine blk_drew ?_ | refine blk_alloc ?_ _)); refine blk_put (cs := #[.slice Ao33 t374.length co33, .int .i64 0]) ?_ 1 _ rfl; (with_reducible repeat (first | refine blk_drewN ?_ _ | refine blk_drew ?_ | refine blk_alloc ?_ _)); refine blk_put (cs := #[.slice none 0 0, .int .i64 0]) ?_ 0 _ rfl; (with_reducible repeat (first | refine blk_drewN ?_ _ | refine blk_drew ?_ | refine blk_alloc ?_ _)); exact BK378.out) hb); have n7_ := Aside0.mk (below_step (eq2 HB GE360 GE378) hb); clear HO365; clear HO369; clear HO372; clear HO376; clear BK360; clear BK378; clear HB; have HO365 := n0_; have HO369 := n1_; have HO372 := n2_; have HO376 := n3_; have HO381 := n4_; have BK360 := n5_; have BK378 := n6_; have HB := n7_; clear n0_ n1_ n2_ n3_ n4_ n5_ n6_ n7_; (try clear hb); (try clear hb2); (try clear hk); (try clear hi); (try clear ho0); have hcz37_0 : w36.cell? ⟨gb378, 0, none⟩ = some (.slice Ao33 t374.length co33) := (blk_cell BK378.out 0).trans rfl; have hcz37_1 : w36.cell? ⟨gb378, 1, none⟩ = some (.int .i64 t377) := (blk_cell BK378.out 1).trans rfl; have hfz37_0 := blk_frozen BK378.out 0; have hfz37_1 := blk_frozen BK378.out 1; obtain ⟨Ao38, co38, eo38⟩ := Kd.R_slice HO381.out; subst eo38) | ((with_reducible refine gate_callee (f := 39) rfl ?_); refine goesL_ (some 46) rfl rfl Try.func39 (by kernel_rfl) rfl #[.agg #[.slice Ao33 t374.length co33, .int .i64 t377], .slice Ao38 t379.length co38, .int .i64 a2] rfl (by (try simp only [List.map_toArray, List.map_cons, List.map_nil]); first | done | rfl | (simp only [List.length_drop, List.length_take]; rfl)) ?_; (with_reducible refine (impl_GreedyPart.calls k _ _ t374 t377 _ _ t379 a2 t382 t385 _ ?side1 ?side2 ?side3 ?side4 A19.out).mono ?_); (case side1 => repeat (first | exact (Kd.R_reads' HO376.out).2.2 | (with_reducible refine Kd.C_alloc ?_ _) | (with_reducible refine Kd.C_drewN ?_ _) | (with_reducible refine Kd.C_drew ?_))); (case side2 => exact (Kd.R_reads' HO376.out).2.1); (case side3 => repeat (first | exact (Kd.R_reads' HO381.out).2.2 | (with_reducible refine Kd.C_alloc ?_ _) | (with_reducible refine Kd.C_drewN ?_ _) | (with_reducible refine Kd.C_drew ?_))); (case side4 => exact (Kd.R_reads' HO381.out).2.1); rintro e w39 ⟨v383, rfl, ho0, hb⟩; refine ⟨_, rfl, ?_⟩; have n0_ := Aside0.mk (Kd.R_elder' (kq HO365) (Kd.R_base ho0) hb); have n1_ := Aside0.mk (Kd.R_below (kq HO369) hb); have n2_ := Aside0.mk (Kd.R_elder' (kq HO372) (Kd.R_base ho0) hb); have n3_ := Aside0.mk (Kd.R_elder' (kq HO376) (Kd.R_base ho0) hb); have n4_ := Aside0.mk (Kd.R_below (kq HO381) hb); have n5_ := Aside0.mk (Kd.R_lower (Kd.R_new' (Kd.R_new' (Kd.R_new' ho0 (Kd.R_lt (kq HO365))) (Kd.R_lt (kq HO372))) (Kd.R_lt (kq HO376))) (below_size (eq2 HB GE360 GE378))); have n6_ := Aside0.mk (blk_below (g := gb360) (o := .cells #[.slice A0_0 l0_0.length c0_0, .int .i64 a0_1] 40 (0, 0)) (bq BK360) hb); have n7_ := Aside0.mk (blk_below (g := gb378) (o := .cells #[.slice Ao33 t374.length co33, .int .i64 t377] 43 (0, 0)) (bq BK378) hb); have n8_ := Aside0.mk (below_step (eq2 HB GE360 GE378) hb); clear HO365; clear HO369; clear HO372; clear HO376; clear HO381; clear BK360; clear BK378; clear HB; have HO365 := n0_; have HO369 := n1_; have HO372 := n2_; have HO376 := n3_; have HO381 := n4_; have HO384 := n5_; have BK360 := n6_; have BK378 := n7_; have HB := n8_; clear n0_ n1_ n2_ n3_ n4_ n5_ n6_ n7_ n8_; (try clear hb); (try clear hb2); (try clear hk); (try clear hi); (try clear ho0)))
      (try simp only [Act.put, List.setIfInBounds_toArray, List.set_cons_zero, List.set_cons_succ])
      go_cut [57] (fun v57 wc => ∃ (kq : Nat) (x57_19 : Bool), v57 = .bool x57_19 ∧ Aside0 (laws_FnExactGreedyPart.j0 kq l1 a2 t370 t373 t379 t382 t385 x57_19 l0_0 a0_1 t374 t377 = some r) ∧ Aside0 (kq ≤ k) ∧ Aside0 (Kd.R (Kd.int .i64) 3 wc w.heap.size (fun k_ => some k_ ≠ (v383 : Value).ownBlock ∧ some k_ ≠ ((.slice Ao33 t374.length co33) : Value).ownBlock) v371 t370) ∧ Aside0 (Kd.R k67 67 wc w.heap.size (fun _ => True) (.slice Ao38 t379.length co38) t379) ∧ Aside0 (Kd.R (Kd.int .i64) 3 wc w.heap.size (fun k_ => some k_ ≠ (v371 : Value).ownBlock ∧ some k_ ≠ ((.slice Ao33 t374.length co33) : Value).ownBlock) v383 t382) ∧ Aside0 (Kd.R (Kd.int .i64) 3 wc w.heap.size (fun k_ => some k_ ≠ (v371 : Value).ownBlock ∧ some k_ ≠ (v383 : Value).ownBlock) (.slice Ao33 t374.length co33) t374) ∧ Aside0 (wc.heap[gb360]? = some (.cells #[(.slice A0_0 l0_0.length c0_0), .int .i64 a0_1] 40 (0, 0))) ∧ Aside0 (wc.heap[gb378]? = some (.cells #[(.slice Ao33 t374.length co33), .int .i64 t377] 43 (0, 0))) ∧ Aside0 (Below w.heap.size w wc))
      case first =>
        have H := HC20.out
        clear HC20
        replace H := Option.bind_eq_some_iff.mp H
        obtain ⟨t386, A400, H⟩ := H
        replace H : (if t386 = true then (laws_FnExactGreedyPart.j0 k l1 a2 t370 t373 t379 t382 t385 (t385 != t373) l0_0 a0_1 t374 t377) else (laws_FnExactGreedyPart.j0 k l1 a2 t370 t373 t379 t382 t385 true l0_0 a0_1 t374 t377)) = some r := H
        have A40 := Aside0.mk A400
        clear A400
        by_cases c41 : t386 = true
        · subst c41
          have H1 : (laws_FnExactGreedyPart.j0 k l1 a2 t370 t373 t379 t382 t385 (t385 != t373) l0_0 a0_1 t374 t377) = some r := by rw [if_pos rfl] at H; exact H
          clear H
          have H := H1
          clear H1
          have H' := Aside0.mk H
          clear H
          obtain ⟨Ao42, co42, eo42⟩ := Kd.R_slice HO384.out
          subst eo42
          obtain ⟨Ao43, co43, eo43⟩ := Kd.R_slice HO372.out
          subst eo43
          go_wp2_with (first | ((with_reducible refine gate_callee (f := 22) rfl ?_); refine goesL_ (some 51) rfl rfl Try.func22 (by kernel_rfl) rfl #[.slice Ao42 t382.length co42, .slice Ao43 t370.length co43] rfl (by (try simp only [List.map_toArray, List.map_cons, List.map_nil]); first | done | rfl | (simp only [List.length_drop, List.length_take]; rfl)) ?_; (with_reducible refine (laws_eqIntS.calls k _ _ t382 _ _ t370 true _ ?side1 ?side2 ?side3 ?side4 A40.out).mono ?_); (case side1 => repeat (first | exact (Kd.R_reads' HO384.out).2.2 | (with_reducible refine Kd.C_alloc ?_ _) | (with_reducible refine Kd.C_drewN ?_ _) | (with_reducible refine Kd.C_drew ?_))); (case side2 => exact (Kd.R_reads' HO384.out).2.1); (case side3 => repeat (first | exact (Kd.R_reads' HO372.out).2.2 | (with_reducible refine Kd.C_alloc ?_ _) | (with_reducible refine Kd.C_drewN ?_ _) | (with_reducible refine Kd.C_drew ?_))); (case side4 => exact (Kd.R_reads' HO372.out).2.1); rintro e w' ⟨rfl, ⟨nd, rfl⟩⟩; refine ⟨_, rfl, ?_⟩))
          go_meet
          case rel => exact ⟨_, ((t385 != t373)), (by first | rfl | (simp; done) | (simp [*]; done)), H', ⟨by first | omega | exact Nat.le_refl _⟩, ⟨by (with_reducible repeat (first | apply Kd.R_alloc | apply Kd.R_drewN | apply Kd.R_drew)); exact Kd.R_mono HO372.out (fun _ hk => ⟨hk.2, hk.1.2⟩)⟩, ⟨by (with_reducible repeat (first | apply Kd.R_alloc | apply Kd.R_drewN | apply Kd.R_drew)); exact Kd.R_mono HO381.out (fun _ hk => trivial)⟩, ⟨by (with_reducible repeat (first | apply Kd.R_alloc | apply Kd.R_drewN | apply Kd.R_drew)); exact Kd.R_mono HO384.out (fun _ hk => ⟨hk.1.2, hk.2⟩)⟩, ⟨by (with_reducible repeat (first | apply Kd.R_alloc | apply Kd.R_drewN | apply Kd.R_drew)); exact Kd.R_mono HO376.out (fun _ hk => ⟨hk.1.2, hk.2⟩)⟩, ⟨bq BK360⟩, ⟨bq BK378⟩, ⟨eq2 HB GE360 GE378⟩⟩
        · replace c41 := Bool.eq_false_iff.mpr c41
          subst c41
          have H1 : (laws_FnExactGreedyPart.j0 k l1 a2 t370 t373 t379 t382 t385 true l0_0 a0_1 t374 t377) = some r := by rw [if_neg (show ¬ (false = true) by decide)] at H; exact H
          clear H
          have H := H1
          clear H1
          have H' := Aside0.mk H
          clear H
          obtain ⟨Ao44, co44, eo44⟩ := Kd.R_slice HO384.out
          subst eo44
          obtain ⟨Ao45, co45, eo45⟩ := Kd.R_slice HO372.out
          subst eo45
          go_wp2_with (first | ((with_reducible refine gate_callee (f := 22) rfl ?_); refine goesL_ (some 51) rfl rfl Try.func22 (by kernel_rfl) rfl #[.slice Ao44 t382.length co44, .slice Ao45 t370.length co45] rfl (by (try simp only [List.map_toArray, List.map_cons, List.map_nil]); first | done | rfl | (simp only [List.length_drop, List.length_take]; rfl)) ?_; (with_reducible refine (laws_eqIntS.calls k _ _ t382 _ _ t370 false _ ?side1 ?side2 ?side3 ?side4 A40.out).mono ?_); (case side1 => repeat (first | exact (Kd.R_reads' HO384.out).2.2 | (with_reducible refine Kd.C_alloc ?_ _) | (with_reducible refine Kd.C_drewN ?_ _) | (with_reducible refine Kd.C_drew ?_))); (case side2 => exact (Kd.R_reads' HO384.out).2.1); (case side3 => repeat (first | exact (Kd.R_reads' HO372.out).2.2 | (with_reducible refine Kd.C_alloc ?_ _) | (with_reducible refine Kd.C_drewN ?_ _) | (with_reducible refine Kd.C_drew ?_))); (case side4 => exact (Kd.R_reads' HO372.out).2.1); rintro e w' ⟨rfl, ⟨nd, rfl⟩⟩; refine ⟨_, rfl, ?_⟩))
          go_meet
          case rel => exact ⟨_, (true), (by first | rfl | (simp; done) | (simp [*]; done)), H', ⟨by first | omega | exact Nat.le_refl _⟩, ⟨by (with_reducible repeat (first | apply Kd.R_alloc | apply Kd.R_drewN | apply Kd.R_drew)); exact Kd.R_mono HO372.out (fun _ hk => ⟨hk.2, hk.1.2⟩)⟩, ⟨by (with_reducible repeat (first | apply Kd.R_alloc | apply Kd.R_drewN | apply Kd.R_drew)); exact Kd.R_mono HO381.out (fun _ hk => trivial)⟩, ⟨by (with_reducible repeat (first | apply Kd.R_alloc | apply Kd.R_drewN | apply Kd.R_drew)); exact Kd.R_mono HO384.out (fun _ hk => ⟨hk.1.2, hk.2⟩)⟩, ⟨by (with_reducible repeat (first | apply Kd.R_alloc | apply Kd.R_drewN | apply Kd.R_drew)); exact Kd.R_mono HO376.out (fun _ hk => ⟨hk.1.2, hk.2⟩)⟩, ⟨bq BK360⟩, ⟨bq BK378⟩, ⟨eq2 HB GE360 GE378⟩⟩
      case rest =>
        clear HC20
        try clear c1
        try clear c2
        try clear p2
        try clear c3
        try clear c4
        try clear c5
        try clear c5b0
        try clear c9
        try clear c10
        try clear c10b0
        try clear c14
        try clear c16
        try clear c22
        try clear c28
        try clear c30
        try clear c34
        try clear c38
        try clear c39
        try clear c41
        try clear hcz12_0
        try clear hcz12_1
        try clear hcz22_0
        try clear hcz22_1
        try clear hcz24_0
        try clear hcz24_1
        try clear hcz30_0
        try clear hcz30_1
        try clear hcz35_0
        try clear hcz35_1
        try clear hcz37_0
        try clear hcz37_1
        try clear hcz7_0
        try clear hcz7_1
        try clear hfz12_0
        try clear hfz12_1
        try clear hfz22_0
        try clear hfz22_1
        try clear hfz24_0
        try clear hfz24_1
        try clear hfz30_0
        try clear hfz30_1
        try clear hfz35_0
        try clear hfz35_1
        try clear hfz37_0
        try clear hfz37_1
        try clear hfz7_0
        try clear hfz7_1
        obtain ⟨kq, x57_19, rfl, HA, HJ19, HO_8, HO_11, HO_12, HO_379000, BK360, BK378, HB⟩ := hcut
        cases kq with
        | zero => exact absurd HA.out (by simp [laws_FnExactGreedyPart.j0])
        | succ kj19 =>
          have H := HA.out
          clear HA
          simp only [laws_FnExactGreedyPart.j0] at H
          by_cases c46 : x57_19 = true
          · subst c46
            have H1 : (some false) = some r := by rw [if_pos rfl] at H; exact H
            clear H
            have H := H1
            clear H1
            obtain rfl := Option.some.inj H
            go_wp2
            go_ret
            exact ⟨by first | rfl | (simp [errW_none, errW_some] <;> rfl) | (simp [*, errW_none, errW_some] <;> rfl), eq2 HB GE360 GE378⟩
          · replace c46 := Bool.eq_false_iff.mpr c46
            subst c46
            have H1 : ((laws_toInstrument.f kj19 l0_0 a0_1).bind fun bt387 => ((laws_eqInstrument.f kj19 t374 t377 bt387.1 bt387.2).bind fun t391 => (if t391 = true then ((laws_toNoteS.f kj19 l1).bind fun t392 => ((laws_eqNoteS.f kj19 t379 t392).bind fun t395 => (if t395 = true then ((laws_markInstrument.f kj19 t374 t377 1).bind fun bt396 => ((laws_markNoteS.f kj19 t379 bt396.1).bind fun bt398 => (if bt398.1 < 0 then (laws_FnExactGreedyPart.j1 kj19 l1 a2 t370 t373 t382 true l0_0 a0_1) else ((laws_eqIntS.f kj19 t382 t370).bind fun t400 => (if t400 = true then (laws_FnExactGreedyPart.j1 kj19 l1 a2 t370 t373 t382 (t385 != t373) l0_0 a0_1) else (laws_FnExactGreedyPart.j1 kj19 l1 a2 t370 t373 t382 true l0_0 a0_1)))))) else (some false)))) else (some false)))) = some r := by rw [if_neg (show ¬ (false = true) by decide)] at H; exact H
            clear H
            have H := H1
            clear H1
            replace H := Option.bind_eq_some_iff.mp H
            obtain ⟨⟨t387, t390⟩, A470, H⟩ := H
            replace H : ((laws_eqInstrument.f kj19 t374 t377 t387 t390).bind fun t391 => (if t391 = true then ((laws_toNoteS.f kj19 l1).bind fun t392 => ((laws_eqNoteS.f kj19 t379 t392).bind fun t395 => (if t395 = true then ((laws_markInstrument.f kj19 t374 t377 1).bind fun bt396 => ((laws_markNoteS.f kj19 t379 bt396.1).bind fun bt398 => (if bt398.1 < 0 then (laws_FnExactGreedyPart.j1 kj19 l1 a2 t370 t373 t382 true l0_0 a0_1) else ((laws_eqIntS.f kj19 t382 t370).bind fun t400 => (if t400 = true then (laws_FnExactGreedyPart.j1 kj19 l1 a2 t370 t373 t382 (t385 != t373) l0_0 a0_1) else (laws_FnExactGreedyPart.j1 kj19 l1 a2 t370 t373 t382 true l0_0 a0_1)))))) else (some false)))) else (some false))) = some r := H
            have A47 := Aside0.mk A470
            clear A470
            replace H := Option.bind_eq_some_iff.mp H
            obtain ⟨t391, A480, H⟩ := H
            replace H : (if t391 = true then ((laws_toNoteS.f kj19 l1).bind fun t392 => ((laws_eqNoteS.f kj19 t379 t392).bind fun t395 => (if t395 = true then ((laws_markInstrument.f kj19 t374 t377 1).bind fun bt396 => ((laws_markNoteS.f kj19 t379 bt396.1).bind fun bt398 => (if bt398.1 < 0 then (laws_FnExactGreedyPart.j1 kj19 l1 a2 t370 t373 t382 true l0_0 a0_1) else ((laws_eqIntS.f kj19 t382 t370).bind fun t400 => (if t400 = true then (laws_FnExactGreedyPart.j1 kj19 l1 a2 t370 t373 t382 (t385 != t373) l0_0 a0_1) else (laws_FnExactGreedyPart.j1 kj19 l1 a2 t370 t373 t382 true l0_0 a0_1)))))) else (some false)))) else (some false)) = some r := H
            have A48 := Aside0.mk A480
            clear A480
            by_cases c49 : t391 = true
            · subst c49
              have H1 : ((laws_toNoteS.f kj19 l1).bind fun t392 => ((laws_eqNoteS.f kj19 t379 t392).bind fun t395 => (if t395 = true then ((laws_markInstrument.f kj19 t374 t377 1).bind fun bt396 => ((laws_markNoteS.f kj19 t379 bt396.1).bind fun bt398 => (if bt398.1 < 0 then (laws_FnExactGreedyPart.j1 kj19 l1 a2 t370 t373 t382 true l0_0 a0_1) else ((laws_eqIntS.f kj19 t382 t370).bind fun t400 => (if t400 = true then (laws_FnExactGreedyPart.j1 kj19 l1 a2 t370 t373 t382 (t385 != t373) l0_0 a0_1) else (laws_FnExactGreedyPart.j1 kj19 l1 a2 t370 t373 t382 true l0_0 a0_1)))))) else (some false)))) = some r := by rw [if_pos rfl] at H; exact H
              clear H
              have H := H1
              clear H1
              replace H := Option.bind_eq_some_iff.mp H
              obtain ⟨t392, A500, H⟩ := H
              replace H : ((laws_eqNoteS.f kj19 t379 t392).bind fun t395 => (if t395 = true then ((laws_markInstrument.f kj19 t374 t377 1).bind fun bt396 => ((laws_markNoteS.f kj19 t379 bt396.1).bind fun bt398 => (if bt398.1 < 0 then (laws_FnExactGreedyPart.j1 kj19 l1 a2 t370 t373 t382 true l0_0 a0_1) else ((laws_eqIntS.f kj19 t382 t370).bind fun t400 => (if t400 = true then (laws_FnExactGreedyPart.j1 kj19 l1 a2 t370 t373 t382 (t385 != t373) l0_0 a0_1) else (laws_FnExactGreedyPart.j1 kj19 l1 a2 t370 t373 t382 true l0_0 a0_1)))))) else (some false))) = some r := H
              have A50 := Aside0.mk A500
              clear A500
              replace H := Option.bind_eq_some_iff.mp H
              obtain ⟨t395, A510, H⟩ := H
              replace H : (if t395 = true then ((laws_markInstrument.f kj19 t374 t377 1).bind fun bt396 => ((laws_markNoteS.f kj19 t379 bt396.1).bind fun bt398 => (if bt398.1 < 0 then (laws_FnExactGreedyPart.j1 kj19 l1 a2 t370 t373 t382 true l0_0 a0_1) else ((laws_eqIntS.f kj19 t382 t370).bind fun t400 => (if t400 = true then (laws_FnExactGreedyPart.j1 kj19 l1 a2 t370 t373 t382 (t385 != t373) l0_0 a0_1) else (laws_FnExactGreedyPart.j1 kj19 l1 a2 t370 t373 t382 true l0_0 a0_1)))))) else (some false)) = some r := H
              have A51 := Aside0.mk A510
              clear A510
              by_cases c52 : t395 = true
              · subst c52
                have H1 : ((laws_markInstrument.f kj19 t374 t377 1).bind fun bt396 => ((laws_markNoteS.f kj19 t379 bt396.1).bind fun bt398 => (if bt398.1 < 0 then (laws_FnExactGreedyPart.j1 kj19 l1 a2 t370 t373 t382 true l0_0 a0_1) else ((laws_eqIntS.f kj19 t382 t370).bind fun t400 => (if t400 = true then (laws_FnExactGreedyPart.j1 kj19 l1 a2 t370 t373 t382 (t385 != t373) l0_0 a0_1) else (laws_FnExactGreedyPart.j1 kj19 l1 a2 t370 t373 t382 true l0_0 a0_1)))))) = some r := by rw [if_pos rfl] at H; exact H
                clear H
                have H := H1
                clear H1
                replace H := Option.bind_eq_some_iff.mp H
                obtain ⟨⟨t396, t397⟩, A530, H⟩ := H
                replace H : ((laws_markNoteS.f kj19 t379 t396).bind fun bt398 => (if bt398.1 < 0 then (laws_FnExactGreedyPart.j1 kj19 l1 a2 t370 t373 t382 true l0_0 a0_1) else ((laws_eqIntS.f kj19 t382 t370).bind fun t400 => (if t400 = true then (laws_FnExactGreedyPart.j1 kj19 l1 a2 t370 t373 t382 (t385 != t373) l0_0 a0_1) else (laws_FnExactGreedyPart.j1 kj19 l1 a2 t370 t373 t382 true l0_0 a0_1))))) = some r := H
                have A53 := Aside0.mk A530
                clear A530
                replace H := Option.bind_eq_some_iff.mp H
                obtain ⟨⟨t398, t399⟩, A540, H⟩ := H
                replace H : (if t398 < 0 then (laws_FnExactGreedyPart.j1 kj19 l1 a2 t370 t373 t382 true l0_0 a0_1) else ((laws_eqIntS.f kj19 t382 t370).bind fun t400 => (if t400 = true then (laws_FnExactGreedyPart.j1 kj19 l1 a2 t370 t373 t382 (t385 != t373) l0_0 a0_1) else (laws_FnExactGreedyPart.j1 kj19 l1 a2 t370 t373 t382 true l0_0 a0_1)))) = some r := H
                have A54 := Aside0.mk A540
                clear A540
                have HC55 := Aside0.mk H
                clear H
                try go_wp2
                have n0_ := Aside0.mk (Kd.R_drew HO_8.out)
                have n1_ := Aside0.mk (Kd.R_drew HO_11.out)
                have n2_ := Aside0.mk (Kd.R_drew HO_12.out)
                have n3_ := Aside0.mk (Kd.R_drew HO_379000.out)
                have n4_ := Aside0.mk (blk_drew BK360.out)
                have n5_ := Aside0.mk (blk_drew BK378.out)
                have n6_ := Aside0.mk (below_drew1 HB.out)
                clear HO_8
                clear HO_11
                clear HO_12
                clear HO_379000
                clear BK360
                clear BK378
                clear HB
                have HO_8 := n0_
                have HO_11 := n1_
                have HO_12 := n2_
                have HO_379000 := n3_
                have BK360 := n4_
                have BK378 := n5_
                have HB := n6_
                clear n0_ n1_ n2_ n3_ n4_ n5_ n6_
                refine start_ (n := 5) (S := fun w' => w'.cell? ⟨gb378, 0, none⟩ = some (.slice Ao33 t374.length co33) ∧ w'.cell? ⟨gb378, 1, none⟩ = some (.int .i64 t377) ∧ w'.cell? ⟨gb360, 0, none⟩ = some (.slice A0_0 l0_0.length c0_0) ∧ w'.cell? ⟨gb360, 1, none⟩ = some (.int .i64 a0_1)) (ds := []) #[false, false, false, false, false] (by kernel_rfl) rfl rfl ⟨(blk_cell BK378.out 0).trans rfl, (blk_cell BK378.out 1).trans rfl, (blk_cell BK360.out 0).trans rfl, (blk_cell BK360.out 1).trans rfl⟩ (fun hHeld => ?_)
                generalize wc.drew = w56 at HO_8 HO_11 HO_12 HO_379000 BK360 BK378 HB hHeld ⊢
                refine take_ (i := 0) (N := some 58) (v := ?_) (a' := ?_) #[true, false, false, false, false] rfl rfl (by kernel_rfl) (fun _ _ _ h => h) (Or.inl ⟨by rfl, ?_⟩) hHeld ?_ ?_
                rotate_left
                · rintro w' ⟨s0, s1, s2, s3⟩
                  go_simp
                  with_reducible rfl
                rotate_left
                · simp only [Act.put, List.setIfInBounds_toArray, List.set_cons_zero, List.set_cons_succ, i64_w, i32_w]
                  rfl
                refine take_ (i := 1) (N := some 59) (v := ?_) (a' := ?_) #[true, true, false, false, false] rfl rfl (by kernel_rfl) (fun _ _ _ h => h) (Or.inl ⟨by rfl, ?_⟩) hHeld ?_ ?_
                rotate_left
                · rintro w' ⟨s0, s1, s2, s3⟩
                  go_simp
                  with_reducible rfl
                rotate_left
                · simp only [Act.put, List.setIfInBounds_toArray, List.set_cons_zero, List.set_cons_succ, i64_w, i32_w]
                  rfl
                refine one_ (i := 2) (N := some 60) #[true, true, true, false, false] rfl rfl (by kernel_rfl) (by decide) (fun K hK => ?_)
                refine goes_ Try.func30 (by kernel_rfl) rfl #[.agg #[.slice A0_0 l0_0.length c0_0, .int .i64 a0_1]] (by rfl) rfl rfl (by (try simp only [List.map_toArray, List.map_cons, List.map_nil]); first | done | rfl | (simp only [List.length_drop, List.length_take]; rfl)) ?_
                with_reducible refine (laws_toInstrument.calls kj19 _ _ l0_0 a0_1 t387 t390 _ ?side1 ?side2 A47.out).mono ?_
                (case side1 => repeat (first | exact (Kd.C_below HR0_0.out HB.out) | (with_reducible refine Kd.C_alloc ?_ _) | (with_reducible refine Kd.C_drewN ?_ _) | (with_reducible refine Kd.C_drew ?_)))
                (case side2 => exact HC0_0.out)
                rintro e w57 ⟨v388, rfl, ho0, hb⟩
                refine ⟨_, rfl, ?_⟩
                have n0_ := Aside0.mk (Kd.R_elder' (kq HO_8) (Kd.R_base ho0) hb)
                have n1_ := Aside0.mk (Kd.R_below (kq HO_11) hb)
                have n2_ := Aside0.mk (Kd.R_elder' (kq HO_12) (Kd.R_base ho0) hb)
                have n3_ := Aside0.mk (Kd.R_elder' (kq HO_379000) (Kd.R_base ho0) hb)
                have n4_ := Aside0.mk (Kd.R_lower (Kd.R_new' (Kd.R_new' (Kd.R_new' ho0 (Kd.R_lt (kq HO_8))) (Kd.R_lt (kq HO_12))) (Kd.R_lt (kq HO_379000))) (below_size (eq2 HB GE360 GE378)))
                have n5_ := Aside0.mk (blk_below (g := gb360) (o := .cells #[.slice A0_0 l0_0.length c0_0, .int .i64 a0_1] 40 (0, 0)) (bq BK360) hb)
                have n6_ := Aside0.mk (blk_below (g := gb378) (o := .cells #[.slice Ao33 t374.length co33, .int .i64 t377] 43 (0, 0)) (bq BK378) hb)
                have n7_ := Aside0.mk (below_step (eq2 HB GE360 GE378) hb)
                clear HO_8
                clear HO_11
                clear HO_12
                clear HO_379000
                clear BK360
                clear BK378
                clear HB
                have HO_8 := n0_
                have HO_11 := n1_
                have HO_12 := n2_
                have HO_379000 := n3_
                have HO389 := n4_
                have BK360 := n5_
                have BK378 := n6_
                have HB := n7_
                clear n0_ n1_ n2_ n3_ n4_ n5_ n6_ n7_
                (try clear hb)
                (try clear hb2)
                (try clear hk)
                (try clear hi)
                (try clear ho0)
                obtain ⟨Ao58, co58, eo58⟩ := Kd.R_slice HO389.out
                (first | subst eo58 | (injection eo58 with f1_ f2_ f3_; have f4_ := f1_.symm; have f5_ := f3_.symm; clear f1_ f2_ f3_; subst f4_; subst f5_))
                refine hK.out _ _ ⟨(blk_cell BK378.out 0).trans rfl, (blk_cell BK378.out 1).trans rfl, (blk_cell BK360.out 0).trans rfl, (blk_cell BK360.out 1).trans rfl⟩ (fun hHeld => ?_)
                clear hK K
                refine norm_ (a' := ?_) ?_ ?_
                rotate_left
                · show Act.put _ (some 60) _ = _
                  simp only [Act.put, List.setIfInBounds_toArray, List.set_cons_zero, List.set_cons_succ, i64_w, i32_w]
                  rfl
                refine one_ (i := 3) (N := some 61) #[true, true, true, true, false] rfl rfl (by kernel_rfl) (by decide) (fun K hK => ?_)
                refine goes_ Try.func32 (by kernel_rfl) rfl #[.agg #[.slice Ao33 t374.length co33, .int .i64 t377], .agg #[.slice Ao58 t387.length co58, .int .i64 t390]] (by rfl) rfl rfl (by (try simp only [List.map_toArray, List.map_cons, List.map_nil]); first | done | rfl | (simp only [List.length_drop, List.length_take]; rfl)) ?_
                with_reducible refine (laws_eqInstrument.calls kj19 _ _ t374 t377 _ _ t387 t390 true _ ?side1 ?side2 ?side3 ?side4 A48.out).mono ?_
                (case side1 => repeat (first | exact (Kd.R_reads' HO_379000.out).2.2 | (with_reducible refine Kd.C_alloc ?_ _) | (with_reducible refine Kd.C_drewN ?_ _) | (with_reducible refine Kd.C_drew ?_)))
                (case side2 => exact (Kd.R_reads' HO_379000.out).2.1)
                (case side3 => repeat (first | exact (Kd.R_reads' HO389.out).2.2 | (with_reducible refine Kd.C_alloc ?_ _) | (with_reducible refine Kd.C_drewN ?_ _) | (with_reducible refine Kd.C_drew ?_)))
                (case side4 => exact (Kd.R_reads' HO389.out).2.1)
                rintro e w59 ⟨rfl, hb⟩
                refine ⟨_, rfl, ?_⟩
                have n0_ := Aside0.mk (Kd.R_below (kq HO_8) hb)
                have n1_ := Aside0.mk (Kd.R_below (kq HO_11) hb)
                have n2_ := Aside0.mk (Kd.R_below (kq HO_12) hb)
                have n3_ := Aside0.mk (Kd.R_below (kq HO_379000) hb)
                have n4_ := Aside0.mk (Kd.R_below (kq HO389) hb)
                have n5_ := Aside0.mk (blk_below (g := gb360) (o := .cells #[.slice A0_0 l0_0.length c0_0, .int .i64 a0_1] 40 (0, 0)) (bq BK360) hb)
                have n6_ := Aside0.mk (blk_below (g := gb378) (o := .cells #[.slice Ao33 t374.length co33, .int .i64 t377] 43 (0, 0)) (bq BK378) hb)
                have n7_ := Aside0.mk (below_step (eq2 HB GE360 GE378) hb)
                clear HO_8
                clear HO_11
                clear HO_12
                clear HO_379000
                clear HO389
                clear BK360
                clear BK378
                clear HB
                have HO_8 := n0_
                have HO_11 := n1_
                have HO_12 := n2_
                have HO_379000 := n3_
                have HO389 := n4_
                have BK360 := n5_
                have BK378 := n6_
                have HB := n7_
                clear n0_ n1_ n2_ n3_ n4_ n5_ n6_ n7_
                (try clear hb)
                (try clear hb2)
                (try clear hk)
                (try clear hi)
                refine hK.out _ _ ⟨(blk_cell BK378.out 0).trans rfl, (blk_cell BK378.out 1).trans rfl, (blk_cell BK360.out 0).trans rfl, (blk_cell BK360.out 1).trans rfl⟩ (fun hHeld => ?_)
                clear hK K
                refine norm_ (a' := ?_) ?_ ?_
                rotate_left
                · show Act.put _ (some 61) _ = _
                  simp only [Act.put, List.setIfInBounds_toArray, List.set_cons_zero, List.set_cons_succ, i64_w, i32_w]
                  rfl
                refine pure_ (i := 4) (N := some 62) (v := ?_) (a' := ?_) #[true, true, true, true, true] rfl rfl (by kernel_rfl) (fun _ _ _ h => h) (Or.inl ⟨by rfl, ?_⟩) ?_ ?_
                rotate_left
                · intro w'
                  go_simp
                  with_reducible rfl
                rotate_left
                · simp only [Act.put, List.setIfInBounds_toArray, List.set_cons_zero, List.set_cons_succ, i64_w, i32_w]
                  rfl
                refine done_ (by kernel_rfl) ?_
                go_upto_region 21 with (first | ((with_reducible refine gate_callee (f := 16) rfl ?_); refine goesL_ (some 65) rfl rfl Try.func16 (by kernel_rfl) rfl #[.slice A1 l1.length c1] rfl (by (try simp only [List.map_toArray, List.map_cons, List.map_nil]); first | done | rfl | (simp only [List.length_drop, List.length_take]; rfl)) ?_; (with_reducible refine (laws_toNoteS.calls kj19 _ _ l1 t392 _ ?side1 ?side2 A50.out).mono ?_); (case side1 => repeat (first | exact (Kd.C_below HR1.out HB.out) | (with_reducible refine Kd.C_alloc ?_ _) | (with_reducible refine Kd.C_drewN ?_ _) | (with_reducible refine Kd.C_drew ?_))); (case side2 => exact HC1.out); rintro e w60 ⟨v393, rfl, ho0, hb⟩; refine ⟨_, rfl, ?_⟩; have n0_ := Aside0.mk (Kd.R_below (kq HO_8) hb); have n1_ := Aside0.mk (Kd.R_elder' (kq HO_11) (Kd.R_base ho0) hb); have n2_ := Aside0.mk (Kd.R_below (kq HO_12) hb); have n3_ := Aside0.mk (Kd.R_below (kq HO_379000) hb); have n4_ := Aside0.mk (Kd.R_below (kq HO389) hb); have n5_ := Aside0.mk (Kd.R_lower (Kd.R_new' ho0 (Kd.R_lt (kq HO_11))) (below_size (eq2 HB GE360 GE378))); have n6_ := Aside0.mk (blk_below (g := gb360) (o := .cells #[.slice A0_0 l0_0.length c0_0, .int .i64 a0_1] 40 (0, 0)) (bq BK360) hb); have n7_ := Aside0.mk (blk_below (g := gb378) (o := .cells #[.slice Ao33 t374.length co33, .int .i64 t377] 43 (0, 0)) (bq BK378) hb); have n8_ := Aside0.mk (below_step (eq2 HB GE360 GE378) hb); clear HO_8; clear HO_11; clear HO_12; clear HO_379000; clear HO389; clear BK360; clear BK378; clear HB; have HO_8 := n0_; have HO_11 := n1_; have HO_12 := n2_; have HO_379000 := n3_; have HO389 := n4_; have HO394 := n5_; have BK360 := n6_; have BK378 := n7_; have HB := n8_; clear n0_ n1_ n2_ n3_ n4_ n5_ n6_ n7_ n8_; (try clear hb); (try clear hb2); (try clear hk); (try clear hi); (try clear ho0); obtain ⟨Ao61, co61, eo61⟩ := Kd.R_slice HO394.out; subst eo61) | ((with_reducible refine gate_callee (f := 18) rfl ?_); refine goesL_ (some 66) rfl rfl Try.func18 (by kernel_rfl) rfl #[.slice Ao38 t379.length co38, .slice Ao61 t392.length co61] rfl (by (try simp only [List.map_toArray, List.map_cons, List.map_nil]); first | done | rfl | (simp only [List.length_drop, List.length_take]; rfl)) ?_; (with_reducible refine (laws_eqNoteS.calls kj19 _ _ t379 _ _ t392 true _ ?side1 ?side2 ?side3 ?side4 A51.out).mono ?_); (case side1 => repeat (first | exact (Kd.R_reads' HO_11.out).2.2 | (with_reducible refine Kd.C_alloc ?_ _) | (with_reducible refine Kd.C_drewN ?_ _) | (with_reducible refine Kd.C_drew ?_))); (case side2 => exact (Kd.R_reads' HO_11.out).2.1); (case side3 => repeat (first | exact (Kd.R_reads' HO394.out).2.2 | (with_reducible refine Kd.C_alloc ?_ _) | (with_reducible refine Kd.C_drewN ?_ _) | (with_reducible refine Kd.C_drew ?_))); (case side4 => exact (Kd.R_reads' HO394.out).2.1); rintro e w62 ⟨rfl, hb⟩; refine ⟨_, rfl, ?_⟩; have n0_ := Aside0.mk (Kd.R_below (kq HO_8) hb); have n1_ := Aside0.mk (Kd.R_below (kq HO_11) hb); have n2_ := Aside0.mk (Kd.R_below (kq HO_12) hb); have n3_ := Aside0.mk (Kd.R_below (kq HO_379000) hb); have n4_ := Aside0.mk (Kd.R_below (kq HO389) hb); have n5_ := Aside0.mk (Kd.R_below (kq HO394) hb); have n6_ := Aside0.mk (blk_below (g := gb360) (o := .cells #[.slice A0_0 l0_0.length c0_0, .int .i64 a0_1] 40 (0, 0)) (bq BK360) hb); have n7_ := Aside0.mk (blk_below (g := gb378) (o := .cells #[.slice Ao33 t374.length co33, .int .i64 t377] 43 (0, 0)) (bq BK378) hb); have n8_ := Aside0.mk (below_step (eq2 HB GE360 GE378) hb); clear HO_8; clear HO_11; clear HO_12; clear HO_379000; clear HO389; clear HO394; clear BK360; clear BK378; clear HB; have HO_8 := n0_; have HO_11 := n1_; have HO_12 := n2_; have HO_379000 := n3_; have HO389 := n4_; have HO394 := n5_; have BK360 := n6_; have BK378 := n7_; have HB := n8_; clear n0_ n1_ n2_ n3_ n4_ n5_ n6_ n7_ n8_; (try clear hb); (try clear hb2); (try clear hk); (try clear hi); have hnb63 := NB378_360.out; have hnc63 := NB360_378.out; have hcz64_0 : w62.cell? ⟨gb378, 0, none⟩ = some (.slice Ao33 t374.length co33) := (blk_cell BK378.out 0).trans rfl; have hcz64_1 : w62.cell? ⟨gb378, 1, none⟩ = some (.int .i64 t377) := (blk_cell BK378.out 1).trans rfl; have hfz64_0 := blk_frozen BK378.out 0; have hfz64_1 := blk_frozen BK378.out 1) | ((with_reducible refine gate_callee (f := 33) rfl ?_); refine goesL_ (some 70) rfl rfl Try.func33 (by kernel_rfl) rfl #[.agg #[.slice Ao33 t374.length co33, .int .i64 t377], .int .i64 1] rfl (by (try simp only [List.map_toArray, List.map_cons, List.map_nil]); first | done | rfl | (simp only [List.length_drop, List.length_take]; rfl)) ?_; (with_reducible refine (laws_markInstrument.calls kj19 (fun k_ => some k_ = (.slice Ao33 t374.length co33 : Value).ownBlock) (.slice Ao33 t374.length co33) t374 t377 1 t396 t397 w _ ?side1 ?side2 A53.out).mono ?_); (case side1 => repeat (first | (with_reducible first | exact HB.out | apply below_alloc | apply pw_below_drewN | apply below_drew1 | refine below_set ?_ GE360.out | refine below_set ?_ GE378.out) | exact HB.out)); (case side2 => exact Kd.R_tight rfl HO_379000.out); rintro e w65 ⟨rfl, hy0, hb, hkp⟩; refine ⟨_, rfl, ?_⟩; have n0_ := Aside0.mk (Kd.R_mono (ok' := fun k_ => some k_ ≠ (v383 : Value).ownBlock ∧ some k_ ≠ (.slice Ao33 t374.length co33 : Value).ownBlock ∧ some k_ ≠ (.slice Ao58 t387.length co58 : Value).ownBlock) (Kd.R_keptB (HO_8.out) hkp (fun k_ hk_ hs_ => (hk_.1.2) hs_)) (fun k_ hk_ => ⟨hk_.1.1.1, hk_.1.1.2, hk_.1.2⟩)); have n1_ := Aside0.mk (Kd.R_mono (ok' := fun k_ => some k_ ≠ (.slice Ao61 t392.length co61 : Value).ownBlock) (Kd.R_keptB ((Kd.R_apart' HO_11.out (Kd.R_typed HO_379000.out) (by decide))) hkp (fun k_ hk_ hs_ => (hk_.2) hs_)) (fun k_ hk_ => hk_.1.1.2)); have n2_ := Aside0.mk (Kd.R_mono (ok' := fun k_ => some k_ ≠ (v371 : Value).ownBlock ∧ some k_ ≠ (.slice Ao33 t374.length co33 : Value).ownBlock ∧ some k_ ≠ (.slice Ao58 t387.length co58 : Value).ownBlock) (Kd.R_keptB (HO_12.out) hkp (fun k_ hk_ hs_ => (hk_.1.2) hs_)) (fun k_ hk_ => ⟨hk_.1.1.1, hk_.1.1.2, hk_.1.2⟩)); have n3_ := Aside0.mk (Kd.R_reok rfl hy0 (fun k_ e_ => HO_379000.out.1 k_ e_)); have n4_ := Aside0.mk (blk_kept (bq BK360) hkp (fun hs_ => (fun e_ => (Kd.R_ne HO_379000.out BK360.out (by decide)) e_) hs_)); have n5_ := Aside0.mk (blk_kept (bq BK378) hkp (fun hs_ => (fun e_ => (Kd.R_ne HO_379000.out BK378.out (by decide)) e_) hs_)); have n6_ := Aside0.mk (Kd.R_mono (ok' := fun k_ => some k_ ≠ (v371 : Value).ownBlock ∧ some k_ ≠ (v383 : Value).ownBlock ∧ some k_ ≠ (.slice Ao33 t374.length co33 : Value).ownBlock) (Kd.R_keptB (HO389.out) hkp (fun k_ hk_ hs_ => (hk_.2) hs_)) (fun k_ hk_ => ⟨hk_.1.1.1.2, hk_.1.1.2, hk_.1.2⟩)); have n7_ := Aside0.mk (Kd.R_mono (ok' := fun k_ => some k_ ≠ (.slice Ao38 t379.length co38 : Value).ownBlock) (Kd.R_keptB ((Kd.R_apart' HO394.out (Kd.R_typed HO_379000.out) (by decide))) hkp (fun k_ hk_ hs_ => (hk_.2) hs_)) (fun k_ hk_ => hk_.1.1.2)); have n8_ := Aside0.mk (hb); clear HO_8; clear HO_11; clear HO_12; clear HO_379000; clear BK360; clear BK378; clear HO389; clear HO394; clear HB; have HO_8 := n0_; have HO_11 := n1_; have HO_12 := n2_; have HO_379000 := n3_; have BK360 := n4_; have BK378 := n5_; have HO389 := n6_; have HO394 := n7_; have HB := n8_; clear n0_ n1_ n2_ n3_ n4_ n5_ n6_ n7_ n8_; (try clear hb); (try clear hkp); (try clear hy0)) | ((with_reducible refine gate_callee (f := 25) rfl ?_); refine goesL_ (some 73) rfl rfl Try.func25 (by kernel_rfl) rfl #[.slice Ao38 t379.length co38, .int .i64 t396] rfl (by (try simp only [List.map_toArray, List.map_cons, List.map_nil]); first | done | rfl | (simp only [List.length_drop, List.length_take]; rfl)) ?_; (with_reducible refine (laws_markNoteS.calls kj19 (fun k_ => some k_ = (.slice Ao38 t379.length co38 : Value).ownBlock) (.slice Ao38 t379.length co38) t379 t396 t398 t399 w _ ?side1 ?side2 A54.out).mono ?_); (case side1 => repeat (first | (with_reducible first | exact HB.out | apply below_alloc | apply pw_below_drewN | apply below_drew1 | refine below_set ?_ GE360.out | refine below_set ?_ GE378.out) | exact HB.out)); (case side2 => exact Kd.R_tight rfl HO_11.out); rintro e w66 ⟨rfl, hy0, hb, hkp⟩; refine ⟨_, rfl, ?_⟩; have n0_ := Aside0.mk (Kd.R_mono (ok' := fun k_ => some k_ ≠ (v383 : Value).ownBlock ∧ some k_ ≠ (.slice Ao33 t374.length co33 : Value).ownBlock ∧ some k_ ≠ (.slice Ao58 t387.length co58 : Value).ownBlock) (Kd.R_keptB ((Kd.R_apart' HO_8.out (Kd.R_typed HO_11.out) (by decide))) hkp (fun k_ hk_ hs_ => (hk_.2) hs_)) (fun k_ hk_ => ⟨hk_.1.1.1, hk_.1.1.2.1, hk_.1.1.2.2⟩)); have n1_ := Aside0.mk (Kd.R_reok rfl hy0 (fun k_ e_ => HO_11.out.1 k_ e_)); have n2_ := Aside0.mk (Kd.R_mono (ok' := fun k_ => some k_ ≠ (v371 : Value).ownBlock ∧ some k_ ≠ (.slice Ao33 t374.length co33 : Value).ownBlock ∧ some k_ ≠ (.slice Ao58 t387.length co58 : Value).ownBlock) (Kd.R_keptB ((Kd.R_apart' HO_12.out (Kd.R_typed HO_11.out) (by decide))) hkp (fun k_ hk_ hs_ => (hk_.2) hs_)) (fun k_ hk_ => ⟨hk_.1.1.1, hk_.1.1.2.1, hk_.1.1.2.2⟩)); have n3_ := Aside0.mk (Kd.R_mono (ok' := fun k_ => some k_ ≠ (v371 : Value).ownBlock ∧ some k_ ≠ (v383 : Value).ownBlock ∧ some k_ ≠ (.slice Ao58 t387.length co58 : Value).ownBlock) (Kd.R_keptB ((Kd.R_apart' HO_379000.out (Kd.R_typed HO_11.out) (by decide))) hkp (fun k_ hk_ hs_ => (hk_.2) hs_)) (fun k_ hk_ => ⟨hk_.1.1.1.1, hk_.1.1.1.2, hk_.1.1.2⟩)); have n4_ := Aside0.mk (blk_kept (bq BK360) hkp (fun hs_ => (fun e_ => (Kd.R_ne HO_11.out BK360.out (by decide)) e_) hs_)); have n5_ := Aside0.mk (blk_kept (bq BK378) hkp (fun hs_ => (fun e_ => (Kd.R_ne HO_11.out BK378.out (by decide)) e_) hs_)); have n6_ := Aside0.mk (Kd.R_mono (ok' := fun k_ => some k_ ≠ (v371 : Value).ownBlock ∧ some k_ ≠ (v383 : Value).ownBlock ∧ some k_ ≠ (.slice Ao33 t374.length co33 : Value).ownBlock) (Kd.R_keptB ((Kd.R_apart' HO389.out (Kd.R_typed HO_11.out) (by decide))) hkp (fun k_ hk_ hs_ => (hk_.2) hs_)) (fun k_ hk_ => ⟨hk_.1.1.1, hk_.1.1.2.1, hk_.1.1.2.2⟩)); have n7_ := Aside0.mk (Kd.R_mono (ok' := fun k_ => some k_ ≠ (.slice Ao38 t379.length co38 : Value).ownBlock) (Kd.R_keptB (HO394.out) hkp (fun k_ hk_ hs_ => (hk_) hs_)) (fun k_ hk_ => hk_.1)); have n8_ := Aside0.mk (hb); clear HO_8; clear HO_11; clear HO_12; clear HO_379000; clear BK360; clear BK378; clear HO389; clear HO394; clear HB; have HO_8 := n0_; have HO_11 := n1_; have HO_12 := n2_; have HO_379000 := n3_; have BK360 := n4_; have BK378 := n5_; have HO389 := n6_; have HO394 := n7_; have HB := n8_; clear n0_ n1_ n2_ n3_ n4_ n5_ n6_ n7_ n8_; (try clear hb); (try clear hkp); (try clear hy0)))
                (try simp only [Act.put, List.setIfInBounds_toArray, List.set_cons_zero, List.set_cons_succ])
                go_cut [86] (fun v86 wc => ∃ (kq : Nat) (x86_54 : Bool), v86 = .bool x86_54 ∧ Aside0 (laws_FnExactGreedyPart.j1 kq l1 a2 t370 t373 t382 x86_54 l0_0 a0_1 = some r) ∧ Aside0 (kq ≤ kj19) ∧ Aside0 (Kd.R (Kd.int .i64) 3 wc w.heap.size (fun k_ => some k_ ≠ (v383 : Value).ownBlock ∧ some k_ ≠ ((.slice Ao33 t374.length co33) : Value).ownBlock) v371 t370) ∧ Aside0 (Kd.R (Kd.int .i64) 3 wc w.heap.size (fun k_ => some k_ ≠ (v371 : Value).ownBlock ∧ some k_ ≠ ((.slice Ao33 t374.length co33) : Value).ownBlock) v383 t382) ∧ Aside0 (Kd.R (Kd.int .i64) 3 wc w.heap.size (fun k_ => some k_ ≠ (v371 : Value).ownBlock ∧ some k_ ≠ (v383 : Value).ownBlock) (.slice Ao33 t374.length co33) t397) ∧ Aside0 (wc.heap[gb360]? = some (.cells #[(.slice A0_0 l0_0.length c0_0), .int .i64 a0_1] 40 (0, 0))) ∧ Aside0 (wc.heap[gb378]? = some (.cells #[(.slice Ao33 t374.length co33), .int .i64 t377] 43 (0, 0))) ∧ Aside0 (Below w.heap.size w wc))
                case first =>
                  have H := HC55.out
                  clear HC55
                  by_cases c67 : t398 < 0
                  · rw [if_pos c67] at H
                    have c67b0 : decide (t398 < 0) = true := decide_eq_true c67
                    clear c67
                    (first | rw [c67b0] | (simp only [i64_w, i32_w]; rw [c67b0]) | skip)
                    have H' := Aside0.mk H
                    clear H
                    go_wp2
                    go_meet
                    case rel => exact ⟨_, (true), (by first | rfl | (simp; done) | (simp [*]; done)), H', ⟨by have := HJ19.out; first | omega | exact Nat.le_refl _⟩, ⟨by (with_reducible repeat (first | apply Kd.R_alloc | apply Kd.R_drewN | apply Kd.R_drew)); exact Kd.R_mono HO_8.out (fun _ hk => ⟨hk.1, hk.2.1⟩)⟩, ⟨by (with_reducible repeat (first | apply Kd.R_alloc | apply Kd.R_drewN | apply Kd.R_drew)); exact Kd.R_mono HO_12.out (fun _ hk => ⟨hk.1, hk.2.1⟩)⟩, ⟨by (with_reducible repeat (first | apply Kd.R_alloc | apply Kd.R_drewN | apply Kd.R_drew)); exact Kd.R_mono HO_379000.out (fun _ hk => ⟨hk.1, hk.2.1⟩)⟩, ⟨bq BK360⟩, ⟨bq BK378⟩, ⟨eq2 HB GE360 GE378⟩⟩
                  · rw [if_neg c67] at H
                    have c67b0 : decide (t398 < 0) = false := decide_eq_false c67
                    clear c67
                    (first | rw [c67b0] | (simp only [i64_w, i32_w]; rw [c67b0]) | skip)
                    replace H := Option.bind_eq_some_iff.mp H
                    obtain ⟨t400, A680, H⟩ := H
                    replace H : (if t400 = true then (laws_FnExactGreedyPart.j1 kj19 l1 a2 t370 t373 t382 (t385 != t373) l0_0 a0_1) else (laws_FnExactGreedyPart.j1 kj19 l1 a2 t370 t373 t382 true l0_0 a0_1)) = some r := H
                    have A68 := Aside0.mk A680
                    clear A680
                    by_cases c69 : t400 = true
                    · subst c69
                      have H1 : (laws_FnExactGreedyPart.j1 kj19 l1 a2 t370 t373 t382 (t385 != t373) l0_0 a0_1) = some r := by rw [if_pos rfl] at H; exact H
                      clear H
                      have H := H1
                      clear H1
                      have H' := Aside0.mk H
                      clear H
                      obtain ⟨Ao70, co70, eo70⟩ := Kd.R_slice HO_12.out
                      subst eo70
                      obtain ⟨Ao71, co71, eo71⟩ := Kd.R_slice HO_8.out
                      subst eo71
                      go_wp2_with (first | (go_at_call 22; (with_reducible refine (laws_eqIntS.calls kj19 _ _ t382 _ _ t370 true _ ?side1 ?side2 ?side3 ?side4 A68.out).mono ?_); (case side1 => repeat (first | exact (Kd.R_reads' HO_12.out).2.2 | (with_reducible refine Kd.C_alloc ?_ _) | (with_reducible refine Kd.C_drewN ?_ _) | (with_reducible refine Kd.C_drew ?_))); (case side2 => exact (Kd.R_reads' HO_12.out).2.1); (case side3 => repeat (first | exact (Kd.R_reads' HO_8.out).2.2 | (with_reducible refine Kd.C_alloc ?_ _) | (with_reducible refine Kd.C_drewN ?_ _) | (with_reducible refine Kd.C_drew ?_))); (case side4 => exact (Kd.R_reads' HO_8.out).2.1); rintro e w' ⟨rfl, ⟨nd, rfl⟩⟩))
                      go_meet
                      case rel => exact ⟨_, ((t385 != t373)), (by first | rfl | (simp; done) | (simp [*]; done)), H', ⟨by have := HJ19.out; first | omega | exact Nat.le_refl _⟩, ⟨by (with_reducible repeat (first | apply Kd.R_alloc | apply Kd.R_drewN | apply Kd.R_drew)); exact Kd.R_mono HO_8.out (fun _ hk => ⟨hk.1, hk.2.1⟩)⟩, ⟨by (with_reducible repeat (first | apply Kd.R_alloc | apply Kd.R_drewN | apply Kd.R_drew)); exact Kd.R_mono HO_12.out (fun _ hk => ⟨hk.1, hk.2.1⟩)⟩, ⟨by (with_reducible repeat (first | apply Kd.R_alloc | apply Kd.R_drewN | apply Kd.R_drew)); exact Kd.R_mono HO_379000.out (fun _ hk => ⟨hk.1, hk.2.1⟩)⟩, ⟨bq BK360⟩, ⟨bq BK378⟩, ⟨eq2 HB GE360 GE378⟩⟩
                    · replace c69 := Bool.eq_false_iff.mpr c69
                      subst c69
                      have H1 : (laws_FnExactGreedyPart.j1 kj19 l1 a2 t370 t373 t382 true l0_0 a0_1) = some r := by rw [if_neg (show ¬ (false = true) by decide)] at H; exact H
                      clear H
                      have H := H1
                      clear H1
                      have H' := Aside0.mk H
                      clear H
                      obtain ⟨Ao72, co72, eo72⟩ := Kd.R_slice HO_12.out
                      subst eo72
                      obtain ⟨Ao73, co73, eo73⟩ := Kd.R_slice HO_8.out
                      subst eo73
                      go_wp2_with (first | (go_at_call 22; (with_reducible refine (laws_eqIntS.calls kj19 _ _ t382 _ _ t370 false _ ?side1 ?side2 ?side3 ?side4 A68.out).mono ?_); (case side1 => repeat (first | exact (Kd.R_reads' HO_12.out).2.2 | (with_reducible refine Kd.C_alloc ?_ _) | (with_reducible refine Kd.C_drewN ?_ _) | (with_reducible refine Kd.C_drew ?_))); (case side2 => exact (Kd.R_reads' HO_12.out).2.1); (case side3 => repeat (first | exact (Kd.R_reads' HO_8.out).2.2 | (with_reducible refine Kd.C_alloc ?_ _) | (with_reducible refine Kd.C_drewN ?_ _) | (with_reducible refine Kd.C_drew ?_))); (case side4 => exact (Kd.R_reads' HO_8.out).2.1); rintro e w' ⟨rfl, ⟨nd, rfl⟩⟩))
                      go_meet
                      case rel => exact ⟨_, (true), (by first | rfl | (simp; done) | (simp [*]; done)), H', ⟨by have := HJ19.out; first | omega | exact Nat.le_refl _⟩, ⟨by (with_reducible repeat (first | apply Kd.R_alloc | apply Kd.R_drewN | apply Kd.R_drew)); exact Kd.R_mono HO_8.out (fun _ hk => ⟨hk.1, hk.2.1⟩)⟩, ⟨by (with_reducible repeat (first | apply Kd.R_alloc | apply Kd.R_drewN | apply Kd.R_drew)); exact Kd.R_mono HO_12.out (fun _ hk => ⟨hk.1, hk.2.1⟩)⟩, ⟨by (with_reducible repeat (first | apply Kd.R_alloc | apply Kd.R_drewN | apply Kd.R_drew)); exact Kd.R_mono HO_379000.out (fun _ hk => ⟨hk.1, hk.2.1⟩)⟩, ⟨bq BK360⟩, ⟨bq BK378⟩, ⟨eq2 HB GE360 GE378⟩⟩
                case rest =>
                  clear HC55
                  try clear c1
                  try clear c2
                  try clear p2
                  try clear c3
                  try clear c4
                  try clear c5
                  try clear c5b0
                  try clear c6
                  try clear c9
                  try clear c10
                  try clear c10b0
                  try clear c14
                  try clear c16
                  try clear c18
                  try clear c22
                  try clear c25
                  try clear c28
                  try clear c30
                  try clear c32
                  try clear c33
                  try clear c34
                  try clear c38
                  try clear c39
                  try clear c41
                  try clear c46
                  try clear c49
                  try clear c52
                  try clear c63
                  try clear c67
                  try clear c67b0
                  try clear c69
                  try clear hcz12_0
                  try clear hcz12_1
                  try clear hcz22_0
                  try clear hcz22_1
                  try clear hcz24_0
                  try clear hcz24_1
                  try clear hcz30_0
                  try clear hcz30_1
                  try clear hcz35_0
                  try clear hcz35_1
                  try clear hcz37_0
                  try clear hcz37_1
                  try clear hcz64_0
                  try clear hcz64_1
                  try clear hcz7_0
                  try clear hcz7_1
                  try clear hfz12_0
                  try clear hfz12_1
                  try clear hfz22_0
                  try clear hfz22_1
                  try clear hfz24_0
                  try clear hfz24_1
                  try clear hfz30_0
                  try clear hfz30_1
                  try clear hfz35_0
                  try clear hfz35_1
                  try clear hfz37_0
                  try clear hfz37_1
                  try clear hfz64_0
                  try clear hfz64_1
                  try clear hfz7_0
                  try clear hfz7_1
                  try clear p2
                  obtain ⟨kq, x86_54, rfl, HA, HJ54, HO_8, HO_12, HO_379000, BK360, BK378, HB⟩ := hcut
                  have hl379000_54 := (Kd.R_reads' HO_379000.out).1
                  rw [hl379000_54] at HO_379000
                  (try simp only [hl379000_54])
                  (try simp only [hl379000_54] at BK360)
                  (try simp only [hl379000_54] at BK378)
                  (try simp only [hl379000_54] at HO_8)
                  (try simp only [hl379000_54] at HO_12)
                  cases kq with
                  | zero => exact absurd HA.out (by simp [laws_FnExactGreedyPart.j1])
                  | succ kj54 =>
                    have H := HA.out
                    clear HA
                    simp only [laws_FnExactGreedyPart.j1] at H
                    by_cases c74 : x86_54 = true
                    · subst c74
                      have H1 : (some false) = some r := by rw [if_pos rfl] at H; exact H
                      clear H
                      have H := H1
                      clear H1
                      obtain rfl := Option.some.inj H
                      go_wp2
                      go_ret
                      exact ⟨by first | rfl | (simp [errW_none, errW_some] <;> rfl) | (simp [*, errW_none, errW_some] <;> rfl), eq2 HB GE360 GE378⟩
                    · replace c74 := Bool.eq_false_iff.mpr c74
                      subst c74
                      have H1 : ((laws_markIntS.f kj54 t382 1).bind fun bt401 => ((laws_heldIntS.f kj54 bt401.2 1).bind fun t403 => (if t403 < 0 then (some false) else (if t403 = bt401.1 then ((laws_toInstrument.f kj54 l0_0 a0_1).bind fun bt404 => ((laws_toNoteS.f kj54 l1).bind fun t408 => ((impl_GreedyPart.f kj54 bt404.1 bt404.2 t408 a2).bind fun bt411 => ((laws_eqIntS.f kj54 bt411.1 t370).bind fun t415 => (if t415 = true then (laws_FnExactGreedyPart.j2 kj54 bt401.2 bt401.1 (bt411.2 != t373)) else (laws_FnExactGreedyPart.j2 kj54 bt401.2 bt401.1 true)))))) else (some false))))) = some r := by rw [if_neg (show ¬ (false = true) by decide)] at H; exact H
                      clear H
                      have H := H1
                      clear H1
                      replace H := Option.bind_eq_some_iff.mp H
                      obtain ⟨⟨t401, t402⟩, A750, H⟩ := H
                      replace H : ((laws_heldIntS.f kj54 t402 1).bind fun t403 => (if t403 < 0 then (some false) else (if t403 = t401 then ((laws_toInstrument.f kj54 l0_0 a0_1).bind fun bt404 => ((laws_toNoteS.f kj54 l1).bind fun t408 => ((impl_GreedyPart.f kj54 bt404.1 bt404.2 t408 a2).bind fun bt411 => ((laws_eqIntS.f kj54 bt411.1 t370).bind fun t415 => (if t415 = true then (laws_FnExactGreedyPart.j2 kj54 t402 t401 (bt411.2 != t373)) else (laws_FnExactGreedyPart.j2 kj54 t402 t401 true)))))) else (some false)))) = some r := H
                      have A75 := Aside0.mk A750
                      clear A750
                      replace H := Option.bind_eq_some_iff.mp H
                      obtain ⟨t403, A760, H⟩ := H
                      replace H : (if t403 < 0 then (some false) else (if t403 = t401 then ((laws_toInstrument.f kj54 l0_0 a0_1).bind fun bt404 => ((laws_toNoteS.f kj54 l1).bind fun t408 => ((impl_GreedyPart.f kj54 bt404.1 bt404.2 t408 a2).bind fun bt411 => ((laws_eqIntS.f kj54 bt411.1 t370).bind fun t415 => (if t415 = true then (laws_FnExactGreedyPart.j2 kj54 t402 t401 (bt411.2 != t373)) else (laws_FnExactGreedyPart.j2 kj54 t402 t401 true)))))) else (some false))) = some r := H
                      have A76 := Aside0.mk A760
                      clear A760
                      by_cases c77 : t403 < 0
                      · rw [if_pos c77] at H
                        have c77b0 : decide (t403 < 0) = true := decide_eq_true c77
                        clear c77
                        obtain rfl := Option.some.inj H
                        obtain ⟨Ao78, co78, eo78⟩ := Kd.R_slice HO_12.out
                        subst eo78
                        go_wp2_with (first | ((with_reducible refine gate_callee (f := 26) rfl ?_); refine goesL_ (some 89) rfl rfl Try.func26 (by kernel_rfl) rfl #[.slice Ao78 t382.length co78, .int .i64 1] rfl (by (try simp only [List.map_toArray, List.map_cons, List.map_nil]); first | done | rfl | (simp only [List.length_drop, List.length_take]; rfl)) ?_; (with_reducible refine (laws_markIntS.calls kj54 (fun k_ => some k_ = (.slice Ao78 t382.length co78 : Value).ownBlock) (.slice Ao78 t382.length co78) t382 1 t401 t402 w _ ?side1 ?side2 A75.out).mono ?_); (case side1 => repeat (first | (with_reducible first | exact HB.out | apply below_alloc | apply pw_below_drewN | apply below_drew1 | refine below_set ?_ GE360.out | refine below_set ?_ GE378.out) | exact HB.out)); (case side2 => exact Kd.R_tight rfl HO_12.out); rintro e w79 ⟨rfl, hy0, hb, hkp⟩; refine ⟨_, rfl, ?_⟩; have n0_ := Aside0.mk (Kd.R_mono (ok' := fun k_ => some k_ ≠ (.slice Ao78 t382.length co78 : Value).ownBlock ∧ some k_ ≠ (.slice Ao33 t397.length co33 : Value).ownBlock) (Kd.R_keptB (HO_8.out) hkp (fun k_ hk_ hs_ => (hk_.1) hs_)) (fun k_ hk_ => ⟨hk_.1.1, hk_.1.2⟩)); have n1_ := Aside0.mk (Kd.R_reok rfl hy0 (fun k_ e_ => HO_12.out.1 k_ e_)); have n2_ := Aside0.mk (Kd.R_mono (ok' := fun k_ => some k_ ≠ (v371 : Value).ownBlock ∧ some k_ ≠ (.slice Ao78 t382.length co78 : Value).ownBlock) (Kd.R_keptB (HO_379000.out) hkp (fun k_ hk_ hs_ => (hk_.2) hs_)) (fun k_ hk_ => ⟨hk_.1.1, hk_.1.2⟩)); have n3_ := Aside0.mk (blk_kept (bq BK360) hkp (fun hs_ => (fun e_ => (Kd.R_ne HO_12.out BK360.out (by decide)) e_) hs_)); have n4_ := Aside0.mk (blk_kept (bq BK378) hkp (fun hs_ => (fun e_ => (Kd.R_ne HO_12.out BK378.out (by decide)) e_) hs_)); have n5_ := Aside0.mk (hb); clear HO_8; clear HO_12; clear HO_379000; clear BK360; clear BK378; clear HB; have HO_8 := n0_; have HO_12 := n1_; have HO_379000 := n2_; have BK360 := n3_; have BK378 := n4_; have HB := n5_; clear n0_ n1_ n2_ n3_ n4_ n5_; (try clear hb); (try clear hkp); (try clear hy0)) | ((with_reducible refine gate_callee (f := 40) rfl ?_); refine goesL_ (some 92) rfl rfl Try.func40 (by kernel_rfl) rfl #[.slice Ao78 t402.length co78, .int .i64 1] rfl (by (try simp only [List.map_toArray, List.map_cons, List.map_nil]); first | done | (rw [show t402.length = t382.length from (Kd.R_reads' HO_12.out).1.symm] <;> rfl) | rfl | (simp only [List.length_drop, List.length_take]; rfl)) ?_; (with_reducible refine (laws_heldIntS.calls kj54 _ _ t402 1 t403 _ ?side1 ?side2 A76.out).mono ?_); (case side1 => repeat (first | exact (Kd.R_reads' HO_12.out).2.2 | (with_reducible refine Kd.C_alloc ?_ _) | (with_reducible refine Kd.C_drewN ?_ _) | (with_reducible refine Kd.C_drew ?_))); (case side2 => rw [show t402.length = t382.length from (Kd.R_reads' HO_12.out).1.symm]; exact (Kd.R_reads' HO_12.out).2.1); rintro e w' ⟨rfl, ⟨nd, rfl⟩⟩; refine ⟨_, rfl, ?_⟩))
                        go_ret
                        exact ⟨by first | rfl | (simp [errW_none, errW_some] <;> rfl) | (simp [*, errW_none, errW_some] <;> rfl), eq2 HB GE360 GE378⟩
                      · rw [if_neg c77] at H
                        have c77b0 : decide (t403 < 0) = false := decide_eq_false c77
                        clear c77
                        by_cases c80 : t403 = t401
                        · rw [if_pos c80] at H
                          have c80b0 : (t403 == t401) = true := beq_iff_eq.mpr c80
                          have c80b1 : (t403 != t401) = false := bne_eq_false_iff_eq.mpr c80
                          clear c80
                          replace H := Option.bind_eq_some_iff.mp H
                          obtain ⟨⟨t404, t407⟩, A810, H⟩ := H
                          replace H : ((laws_toNoteS.f kj54 l1).bind fun t408 => ((impl_GreedyPart.f kj54 t404 t407 t408 a2).bind fun bt411 => ((laws_eqIntS.f kj54 bt411.1 t370).bind fun t415 => (if t415 = true then (laws_FnExactGreedyPart.j2 kj54 t402 t401 (bt411.2 != t373)) else (laws_FnExactGreedyPart.j2 kj54 t402 t401 true))))) = some r := H
                          have A81 := Aside0.mk A810
                          clear A810
                          replace H := Option.bind_eq_some_iff.mp H
                          obtain ⟨t408, A820, H⟩ := H
                          replace H : ((impl_GreedyPart.f kj54 t404 t407 t408 a2).bind fun bt411 => ((laws_eqIntS.f kj54 bt411.1 t370).bind fun t415 => (if t415 = true then (laws_FnExactGreedyPart.j2 kj54 t402 t401 (bt411.2 != t373)) else (laws_FnExactGreedyPart.j2 kj54 t402 t401 true)))) = some r := H
                          have A82 := Aside0.mk A820
                          clear A820
                          replace H := Option.bind_eq_some_iff.mp H
                          obtain ⟨⟨t411, t414⟩, A830, H⟩ := H
                          replace H : ((laws_eqIntS.f kj54 t411 t370).bind fun t415 => (if t415 = true then (laws_FnExactGreedyPart.j2 kj54 t402 t401 (t414 != t373)) else (laws_FnExactGreedyPart.j2 kj54 t402 t401 true))) = some r := H
                          have A83 := Aside0.mk A830
                          clear A830
                          have HC84 := Aside0.mk H
                          clear H
                          obtain ⟨Ao85, co85, eo85⟩ := Kd.R_slice HO_12.out
                          subst eo85
                          go_upto_region 32 with (first | ((with_reducible refine gate_callee (f := 26) rfl ?_); refine goesL_ (some 89) rfl rfl Try.func26 (by kernel_rfl) rfl #[.slice Ao85 t382.length co85, .int .i64 1] rfl (by (try simp only [List.map_toArray, List.map_cons, List.map_nil]); first | done | rfl | (simp only [List.length_drop, List.length_take]; rfl)) ?_; (with_reducible refine (laws_markIntS.calls kj54 (fun k_ => some k_ = (.slice Ao85 t382.length co85 : Value).ownBlock) (.slice Ao85 t382.length co85) t382 1 t401 t402 w _ ?side1 ?side2 A75.out).mono ?_); (case side1 => repeat (first | (with_reducible first | exact HB.out | apply below_alloc | apply pw_below_drewN | apply below_drew1 | refine below_set ?_ GE360.out | refine below_set ?_ GE378.out) | exact HB.out)); (case side2 => exact Kd.R_tight rfl HO_12.out); rintro e w86 ⟨rfl, hy0, hb, hkp⟩; refine ⟨_, rfl, ?_⟩; have n0_ := Aside0.mk (Kd.R_mono (ok' := fun k_ => some k_ ≠ (.slice Ao85 t382.length co85 : Value).ownBlock ∧ some k_ ≠ (.slice Ao33 t397.length co33 : Value).ownBlock) (Kd.R_keptB (HO_8.out) hkp (fun k_ hk_ hs_ => (hk_.1) hs_)) (fun k_ hk_ => ⟨hk_.1.1, hk_.1.2⟩)); have n1_ := Aside0.mk (Kd.R_reok rfl hy0 (fun k_ e_ => HO_12.out.1 k_ e_)); have n2_ := Aside0.mk (Kd.R_mono (ok' := fun k_ => some k_ ≠ (v371 : Value).ownBlock ∧ some k_ ≠ (.slice Ao85 t382.length co85 : Value).ownBlock) (Kd.R_keptB (HO_379000.out) hkp (fun k_ hk_ hs_ => (hk_.2) hs_)) (fun k_ hk_ => ⟨hk_.1.1, hk_.1.2⟩)); have n3_ := Aside0.mk (blk_kept (bq BK360) hkp (fun hs_ => (fun e_ => (Kd.R_ne HO_12.out BK360.out (by decide)) e_) hs_)); have n4_ := Aside0.mk (blk_kept (bq BK378) hkp (fun hs_ => (fun e_ => (Kd.R_ne HO_12.out BK378.out (by decide)) e_) hs_)); have n5_ := Aside0.mk (hb); clear HO_8; clear HO_12; clear HO_379000; clear BK360; clear BK378; clear HB; have HO_8 := n0_; have HO_12 := n1_; have HO_379000 := n2_; have BK360 := n3_; have BK378 := n4_; have HB := n5_; clear n0_ n1_ n2_ n3_ n4_ n5_; (try clear hb); (try clear hkp); (try clear hy0)) | ((with_reducible refine gate_callee (f := 40) rfl ?_); refine goesL_ (some 92) rfl rfl Try.func40 (by kernel_rfl) rfl #[.slice Ao85 t402.length co85, .int .i64 1] rfl (by (try simp only [List.map_toArray, List.map_cons, List.map_nil]); first | done | (rw [show t402.length = t382.length from (Kd.R_reads' HO_12.out).1.symm] <;> rfl) | rfl | (simp only [List.length_drop, List.length_take]; rfl)) ?_; (with_reducible refine (laws_heldIntS.calls kj54 _ _ t402 1 t403 _ ?side1 ?side2 A76.out).mono ?_); (case side1 => repeat (first | exact (Kd.R_reads' HO_12.out).2.2 | (with_reducible refine Kd.C_alloc ?_ _) | (with_reducible refine Kd.C_drewN ?_ _) | (with_reducible refine Kd.C_drew ?_))); (case side2 => rw [show t402.length = t382.length from (Kd.R_reads' HO_12.out).1.symm]; exact (Kd.R_reads' HO_12.out).2.1); rintro e w' ⟨rfl, ⟨nd, rfl⟩⟩; refine ⟨_, rfl, ?_⟩; have hnb87 := NB360_378.out; have hnc87 := NB378_360.out; have hcz88_0 : w86.cell? ⟨gb360, 0, none⟩ = some (.slice A0_0 l0_0.length c0_0) := (blk_cell BK360.out 0).trans rfl; have hcz88_1 : w86.cell? ⟨gb360, 1, none⟩ = some (.int .i64 a0_1) := (blk_cell BK360.out 1).trans rfl; have hfz88_0 := blk_frozen BK360.out 0; have hfz88_1 := blk_frozen BK360.out 1) | ((with_reducible refine gate_callee (f := 30) rfl ?_); refine goesL_ (some 100) rfl rfl Try.func30 (by kernel_rfl) rfl #[.agg #[.slice A0_0 l0_0.length c0_0, .int .i64 a0_1]] rfl (by (try simp only [List.map_toArray, List.map_cons, List.map_nil]); first | done | rfl | (simp only [List.length_drop, List.length_take]; rfl)) ?_; (with_reducible refine (laws_toInstrument.calls kj54 _ _ l0_0 a0_1 t404 t407 _ ?side1 ?side2 A81.out).mono ?_); (case side1 => repeat (first | exact (Kd.C_below HR0_0.out (eq2 HB GE360 GE378)) | (with_reducible refine Kd.C_alloc ?_ _) | (with_reducible refine Kd.C_drewN ?_ _) | (with_reducible refine Kd.C_drew ?_))); (case side2 => exact HC0_0.out); rintro e w89 ⟨v405, rfl, ho0, hb⟩; refine ⟨_, rfl, ?_⟩; have n0_ := Aside0.mk (Kd.R_elder' (kq HO_8) (Kd.R_base ho0) hb); have n1_ := Aside0.mk (Kd.R_elder' (kq HO_12) (Kd.R_base ho0) hb); have n2_ := Aside0.mk (Kd.R_elder' (kq HO_379000) (Kd.R_base ho0) hb); have n3_ := Aside0.mk (Kd.R_lower (Kd.R_new' (Kd.R_new' (Kd.R_new' ho0 (Kd.R_lt (kq HO_8))) (Kd.R_lt (kq HO_12))) (Kd.R_lt (kq HO_379000))) (below_size (eq2 HB GE360 GE378))); have n4_ := Aside0.mk (blk_below (g := gb360) (o := .cells #[.slice A0_0 l0_0.length c0_0, .int .i64 a0_1] 40 (0, 0)) (bq BK360) hb); have n5_ := Aside0.mk (blk_below (g := gb378) (o := .cells #[.slice Ao33 t397.length co33, .int .i64 t377] 43 (0, 0)) (bq BK378) hb); have n6_ := Aside0.mk (below_step (eq2 HB GE360 GE378) hb); clear HO_8; clear HO_12; clear HO_379000; clear BK360; clear BK378; clear HB; have HO_8 := n0_; have HO_12 := n1_; have HO_379000 := n2_; have HO406 := n3_; have BK360 := n4_; have BK378 := n5_; have HB := n6_; clear n0_ n1_ n2_ n3_ n4_ n5_ n6_; (try clear hb); (try clear hb2); (try clear hk); (try clear hi); (try clear ho0)) | ((with_reducible refine gate_callee (f := 16) rfl ?_); refine goesL_ (some 102) rfl rfl Try.func16 (by kernel_rfl) rfl #[.slice A1 l1.length c1] rfl (by (try simp only [List.map_toArray, List.map_cons, List.map_nil]); first | done | rfl | (simp only [List.length_drop, List.length_take]; rfl)) ?_; (with_reducible refine (laws_toNoteS.calls kj54 _ _ l1 t408 _ ?side1 ?side2 A82.out).mono ?_); (case side1 => repeat (first | exact (Kd.C_below HR1.out HB.out) | (with_reducible refine Kd.C_alloc ?_ _) | (with_reducible refine Kd.C_drewN ?_ _) | (with_reducible refine Kd.C_drew ?_))); (case side2 => exact HC1.out); rintro e w90 ⟨v409, rfl, ho0, hb⟩; refine ⟨_, rfl, ?_⟩; have n0_ := Aside0.mk (Kd.R_below (kq HO_8) hb); have n1_ := Aside0.mk (Kd.R_below (kq HO_12) hb); have n2_ := Aside0.mk (Kd.R_below (kq HO_379000) hb); have n3_ := Aside0.mk (Kd.R_below (kq HO406) hb); have n4_ := Aside0.mk (Kd.R_lower ho0 (below_size (eq2 HB GE360 GE378))); have n5_ := Aside0.mk (blk_below (g := gb360) (o := .cells #[.slice A0_0 l0_0.length c0_0, .int .i64 a0_1] 40 (0, 0)) (bq BK360) hb); have n6_ := Aside0.mk (blk_below (g := gb378) (o := .cells #[.slice Ao33 t397.length co33, .int .i64 t377] 43 (0, 0)) (bq BK378) hb); have n7_ := Aside0.mk (below_step (eq2 HB GE360 GE378) hb); clear HO_8; clear HO_12; clear HO_379000; clear HO406; clear BK360; clear BK378; clear HB; have HO_8 := n0_; have HO_12 := n1_; have HO_379000 := n2_; have HO406 := n3_; have HO410 := n4_; have BK360 := n5_; have BK378 := n6_; have HB := n7_; clear n0_ n1_ n2_ n3_ n4_ n5_ n6_ n7_; (try clear hb); (try clear hb2); (try clear hk); (try clear hi); (try clear ho0); obtain ⟨Ao91, co91, eo91⟩ := Kd.R_slice HO406.out; subst eo91; obtain ⟨Ao92, co92, eo92⟩ := Kd.R_slice HO410.out; subst eo92) | ((with_reducible refine gate_callee (f := 39) rfl ?_); refine goesL_ (some 104) rfl rfl Try.func39 (by kernel_rfl) rfl #[.agg #[.slice Ao91 t404.length co91, .int .i64 t407], .slice Ao92 t408.length co92, .int .i64 a2] rfl (by (try simp only [List.map_toArray, List.map_cons, List.map_nil]); first | done | rfl | (simp only [List.length_drop, List.length_take]; rfl)) ?_; (with_reducible refine (impl_GreedyPart.calls kj54 _ _ t404 t407 _ _ t408 a2 t411 t414 _ ?side1 ?side2 ?side3 ?side4 A83.out).mono ?_); (case side1 => repeat (first | exact (Kd.R_reads' HO406.out).2.2 | (with_reducible refine Kd.C_alloc ?_ _) | (with_reducible refine Kd.C_drewN ?_ _) | (with_reducible refine Kd.C_drew ?_))); (case side2 => exact (Kd.R_reads' HO406.out).2.1); (case side3 => repeat (first | exact (Kd.R_reads' HO410.out).2.2 | (with_reducible refine Kd.C_alloc ?_ _) | (with_reducible refine Kd.C_drewN ?_ _) | (with_reducible refine Kd.C_drew ?_))); (case side4 => exact (Kd.R_reads' HO410.out).2.1); rintro e w93 ⟨v412, rfl, ho0, hb⟩; refine ⟨_, rfl, ?_⟩; have n0_ := Aside0.mk (Kd.R_elder' (kq HO_8) (Kd.R_base ho0) hb); have n1_ := Aside0.mk (Kd.R_elder' (kq HO_12) (Kd.R_base ho0) hb); have n2_ := Aside0.mk (Kd.R_elder' (kq HO_379000) (Kd.R_base ho0) hb); have n3_ := Aside0.mk (Kd.R_elder' (kq HO406) (Kd.R_base ho0) hb); have n4_ := Aside0.mk (Kd.R_below (kq HO410) hb); have n5_ := Aside0.mk (Kd.R_lower (Kd.R_new' (Kd.R_new' (Kd.R_new' (Kd.R_new' ho0 (Kd.R_lt (kq HO_8))) (Kd.R_lt (kq HO_12))) (Kd.R_lt (kq HO_379000))) (Kd.R_lt (kq HO406))) (below_size (eq2 HB GE360 GE378))); have n6_ := Aside0.mk (blk_below (g := gb360) (o := .cells #[.slice A0_0 l0_0.length c0_0, .int .i64 a0_1] 40 (0, 0)) (bq BK360) hb); have n7_ := Aside0.mk (blk_below (g := gb378) (o := .cells #[.slice Ao33 t397.length co33, .int .i64 t377] 43 (0, 0)) (bq BK378) hb); have n8_ := Aside0.mk (below_step (eq2 HB GE360 GE378) hb); clear HO_8; clear HO_12; clear HO_379000; clear HO406; clear HO410; clear BK360; clear BK378; clear HB; have HO_8 := n0_; have HO_12 := n1_; have HO_379000 := n2_; have HO406 := n3_; have HO410 := n4_; have HO413 := n5_; have BK360 := n6_; have BK378 := n7_; have HB := n8_; clear n0_ n1_ n2_ n3_ n4_ n5_ n6_ n7_ n8_; (try clear hb); (try clear hb2); (try clear hk); (try clear hi); (try clear ho0)))
                          (try simp only [Act.put, List.setIfInBounds_toArray, List.set_cons_zero, List.set_cons_succ])
                          go_cut [115] (fun v115 wc => ∃ (kq : Nat) (x115_83 : Bool), v115 = .bool x115_83 ∧ Aside0 (laws_FnExactGreedyPart.j2 kq t402 t401 x115_83 = some r) ∧ Aside0 (kq ≤ kj54) ∧ Aside0 (Kd.R (Kd.int .i64) 3 wc w.heap.size (fun k_ => some k_ ≠ ((.slice Ao33 t397.length co33) : Value).ownBlock) (.slice Ao85 t382.length co85) t402) ∧ Aside0 (Kd.R (Kd.int .i64) 3 wc w.heap.size (fun k_ => some k_ ≠ ((.slice Ao85 t382.length co85) : Value).ownBlock) (.slice Ao33 t397.length co33) t397) ∧ Aside0 (wc.heap[gb360]? = some (.cells #[(.slice A0_0 l0_0.length c0_0), .int .i64 a0_1] 40 (0, 0))) ∧ Aside0 (wc.heap[gb378]? = some (.cells #[(.slice Ao33 t397.length co33), .int .i64 t377] 43 (0, 0))) ∧ Aside0 (Below w.heap.size w wc))
                          case first =>
                            have H := HC84.out
                            clear HC84
                            replace H := Option.bind_eq_some_iff.mp H
                            obtain ⟨t415, A940, H⟩ := H
                            replace H : (if t415 = true then (laws_FnExactGreedyPart.j2 kj54 t402 t401 (t414 != t373)) else (laws_FnExactGreedyPart.j2 kj54 t402 t401 true)) = some r := H
                            have A94 := Aside0.mk A940
                            clear A940
                            by_cases c95 : t415 = true
                            · subst c95
                              have H1 : (laws_FnExactGreedyPart.j2 kj54 t402 t401 (t414 != t373)) = some r := by rw [if_pos rfl] at H; exact H
                              clear H
                              have H := H1
                              clear H1
                              have H' := Aside0.mk H
                              clear H
                              obtain ⟨Ao96, co96, eo96⟩ := Kd.R_slice HO413.out
                              subst eo96
                              obtain ⟨Ao97, co97, eo97⟩ := Kd.R_slice HO_8.out
                              subst eo97
                              go_wp2_with (first | ((with_reducible refine gate_callee (f := 22) rfl ?_); refine goesL_ (some 109) rfl rfl Try.func22 (by kernel_rfl) rfl #[.slice Ao96 t411.length co96, .slice Ao97 t370.length co97] rfl (by (try simp only [List.map_toArray, List.map_cons, List.map_nil]); first | done | rfl | (simp only [List.length_drop, List.length_take]; rfl)) ?_; (with_reducible refine (laws_eqIntS.calls kj54 _ _ t411 _ _ t370 true _ ?side1 ?side2 ?side3 ?side4 A94.out).mono ?_); (case side1 => repeat (first | exact (Kd.R_reads' HO413.out).2.2 | (with_reducible refine Kd.C_alloc ?_ _) | (with_reducible refine Kd.C_drewN ?_ _) | (with_reducible refine Kd.C_drew ?_))); (case side2 => exact (Kd.R_reads' HO413.out).2.1); (case side3 => repeat (first | exact (Kd.R_reads' HO_8.out).2.2 | (with_reducible refine Kd.C_alloc ?_ _) | (with_reducible refine Kd.C_drewN ?_ _) | (with_reducible refine Kd.C_drew ?_))); (case side4 => exact (Kd.R_reads' HO_8.out).2.1); rintro e w' ⟨rfl, ⟨nd, rfl⟩⟩; refine ⟨_, rfl, ?_⟩))
                              go_meet
                              case rel => exact ⟨_, ((t414 != t373)), (by first | rfl | (simp; done) | (simp [*]; done)), H', ⟨by have := HJ19.out; have := HJ54.out; first | omega | exact Nat.le_refl _⟩, ⟨by (try simp only [hl379000_54]); (with_reducible repeat (first | apply Kd.R_alloc | apply Kd.R_drewN | apply Kd.R_drew)); exact Kd.R_mono HO_12.out (fun _ hk => hk.1.1.2)⟩, ⟨by (try simp only [hl379000_54]); (with_reducible repeat (first | apply Kd.R_alloc | apply Kd.R_drewN | apply Kd.R_drew)); exact Kd.R_mono HO_379000.out (fun _ hk => hk.1.1.2)⟩, ⟨by (try simp only [hl379000_54]); (with_reducible repeat (first | refine blk_drewN ?_ _ | refine blk_drew ?_ | refine blk_alloc ?_ _)); exact BK360.out⟩, ⟨by (try simp only [hl379000_54]); (with_reducible repeat (first | refine blk_drewN ?_ _ | refine blk_drew ?_ | refine blk_alloc ?_ _)); exact BK378.out⟩, ⟨eq2 HB GE360 GE378⟩⟩
                            · replace c95 := Bool.eq_false_iff.mpr c95
                              subst c95
                              have H1 : (laws_FnExactGreedyPart.j2 kj54 t402 t401 true) = some r := by rw [if_neg (show ¬ (false = true) by decide)] at H; exact H
                              clear H
                              have H := H1
                              clear H1
                              have H' := Aside0.mk H
                              clear H
                              obtain ⟨Ao98, co98, eo98⟩ := Kd.R_slice HO413.out
                              subst eo98
                              obtain ⟨Ao99, co99, eo99⟩ := Kd.R_slice HO_8.out
                              subst eo99
                              go_wp2_with (first | ((with_reducible refine gate_callee (f := 22) rfl ?_); refine goesL_ (some 109) rfl rfl Try.func22 (by kernel_rfl) rfl #[.slice Ao98 t411.length co98, .slice Ao99 t370.length co99] rfl (by (try simp only [List.map_toArray, List.map_cons, List.map_nil]); first | done | rfl | (simp only [List.length_drop, List.length_take]; rfl)) ?_; (with_reducible refine (laws_eqIntS.calls kj54 _ _ t411 _ _ t370 false _ ?side1 ?side2 ?side3 ?side4 A94.out).mono ?_); (case side1 => repeat (first | exact (Kd.R_reads' HO413.out).2.2 | (with_reducible refine Kd.C_alloc ?_ _) | (with_reducible refine Kd.C_drewN ?_ _) | (with_reducible refine Kd.C_drew ?_))); (case side2 => exact (Kd.R_reads' HO413.out).2.1); (case side3 => repeat (first | exact (Kd.R_reads' HO_8.out).2.2 | (with_reducible refine Kd.C_alloc ?_ _) | (with_reducible refine Kd.C_drewN ?_ _) | (with_reducible refine Kd.C_drew ?_))); (case side4 => exact (Kd.R_reads' HO_8.out).2.1); rintro e w' ⟨rfl, ⟨nd, rfl⟩⟩; refine ⟨_, rfl, ?_⟩))
                              go_meet
                              case rel => exact ⟨_, (true), (by first | rfl | (simp; done) | (simp [*]; done)), H', ⟨by have := HJ19.out; have := HJ54.out; first | omega | exact Nat.le_refl _⟩, ⟨by (try simp only [hl379000_54]); (with_reducible repeat (first | apply Kd.R_alloc | apply Kd.R_drewN | apply Kd.R_drew)); exact Kd.R_mono HO_12.out (fun _ hk => hk.1.1.2)⟩, ⟨by (try simp only [hl379000_54]); (with_reducible repeat (first | apply Kd.R_alloc | apply Kd.R_drewN | apply Kd.R_drew)); exact Kd.R_mono HO_379000.out (fun _ hk => hk.1.1.2)⟩, ⟨by (try simp only [hl379000_54]); (with_reducible repeat (first | refine blk_drewN ?_ _ | refine blk_drew ?_ | refine blk_alloc ?_ _)); exact BK360.out⟩, ⟨by (try simp only [hl379000_54]); (with_reducible repeat (first | refine blk_drewN ?_ _ | refine blk_drew ?_ | refine blk_alloc ?_ _)); exact BK378.out⟩, ⟨eq2 HB GE360 GE378⟩⟩
                          case rest =>
                            clear HC84
                            try clear c1
                            try clear c2
                            try clear p2
                            try clear c3
                            try clear c4
                            try clear c5
                            try clear c5b0
                            try clear c6
                            try clear c7
                            try clear c8
                            try clear c9
                            try clear c10
                            try clear c10b0
                            try clear c14
                            try clear c16
                            try clear c18
                            try clear c22
                            try clear c25
                            try clear c26
                            try clear c28
                            try clear c30
                            try clear c32
                            try clear c33
                            try clear c34
                            try clear c38
                            try clear c39
                            try clear c40
                            try clear c41
                            try clear c46
                            try clear c49
                            try clear c52
                            try clear c63
                            try clear c67
                            try clear c67b0
                            try clear c69
                            try clear c74
                            try clear c77
                            try clear c77b0
                            try clear c80
                            try clear c80b0
                            try clear c80b1
                            try clear c87
                            try clear c95
                            try clear hcz12_0
                            try clear hcz12_1
                            try clear hcz22_0
                            try clear hcz22_1
                            try clear hcz24_0
                            try clear hcz24_1
                            try clear hcz30_0
                            try clear hcz30_1
                            try clear hcz35_0
                            try clear hcz35_1
                            try clear hcz37_0
                            try clear hcz37_1
                            try clear hcz64_0
                            try clear hcz64_1
                            try clear hcz7_0
                            try clear hcz7_1
                            try clear hcz88_0
                            try clear hcz88_1
                            try clear hfz12_0
                            try clear hfz12_1
                            try clear hfz22_0
                            try clear hfz22_1
                            try clear hfz24_0
                            try clear hfz24_1
                            try clear hfz30_0
                            try clear hfz30_1
                            try clear hfz35_0
                            try clear hfz35_1
                            try clear hfz37_0
                            try clear hfz37_1
                            try clear hfz64_0
                            try clear hfz64_1
                            try clear hfz7_0
                            try clear hfz7_1
                            try clear hfz88_0
                            try clear hfz88_1
                            try clear p2
                            obtain ⟨kq, x115_83, rfl, HA, HJ83, HO_12, HO_379000, BK360, BK378, HB⟩ := hcut
                            have hl12_83 := (Kd.R_reads' HO_12.out).1
                            rw [hl12_83] at HO_12
                            (try simp only [hl12_83])
                            (try simp only [hl12_83] at BK360)
                            (try simp only [hl12_83] at BK378)
                            (try simp only [hl12_83] at HO_379000)
                            cases kq with
                            | zero => exact absurd HA.out (by simp [laws_FnExactGreedyPart.j2])
                            | succ kj83 =>
                              have H := HA.out
                              clear HA
                              simp only [laws_FnExactGreedyPart.j2] at H
                              by_cases c100 : x115_83 = true
                              · subst c100
                                have H1 : (some false) = some r := by rw [if_pos rfl] at H; exact H
                                clear H
                                have H := H1
                                clear H1
                                obtain rfl := Option.some.inj H
                                go_wp2
                                go_ret
                                exact ⟨by first | rfl | (simp [errW_none, errW_some] <;> rfl) | (simp [*, errW_none, errW_some] <;> rfl), eq2 HB GE360 GE378⟩
                              · replace c100 := Bool.eq_false_iff.mpr c100
                                subst c100
                                have H1 : ((laws_heldIntS.f kj83 t402 1).bind fun t416 => (if t416 < 0 then (some false) else (if t416 = t401 then (some true) else (some false)))) = some r := by rw [if_neg (show ¬ (false = true) by decide)] at H; exact H
                                clear H
                                have H := H1
                                clear H1
                                replace H := Option.bind_eq_some_iff.mp H
                                obtain ⟨t416, A1010, H⟩ := H
                                replace H : (if t416 < 0 then (some false) else (if t416 = t401 then (some true) else (some false))) = some r := H
                                have A101 := Aside0.mk A1010
                                clear A1010
                                by_cases c102 : t416 < 0
                                · rw [if_pos c102] at H
                                  have c102b0 : decide (t416 < 0) = true := decide_eq_true c102
                                  clear c102
                                  obtain rfl := Option.some.inj H
                                  go_wp2_with (first | ((with_reducible refine gate_callee (f := 40) rfl ?_); refine goesL_ (some 118) rfl rfl Try.func40 (by kernel_rfl) rfl #[.slice Ao85 t402.length co85, .int .i64 1] rfl (by (try simp only [List.map_toArray, List.map_cons, List.map_nil]); first | done | rfl | (simp only [List.length_drop, List.length_take]; rfl)) ?_; (with_reducible refine (laws_heldIntS.calls kj83 _ _ t402 1 t416 _ ?side1 ?side2 A101.out).mono ?_); (case side1 => repeat (first | exact (Kd.R_reads' HO_12.out).2.2 | (with_reducible refine Kd.C_alloc ?_ _) | (with_reducible refine Kd.C_drewN ?_ _) | (with_reducible refine Kd.C_drew ?_))); (case side2 => exact (Kd.R_reads' HO_12.out).2.1); rintro e w' ⟨rfl, ⟨nd, rfl⟩⟩; refine ⟨_, rfl, ?_⟩))
                                  go_ret
                                  exact ⟨by first | rfl | (simp [errW_none, errW_some] <;> rfl) | (simp [*, errW_none, errW_some] <;> rfl), eq2 HB GE360 GE378⟩
                                · rw [if_neg c102] at H
                                  have c102b0 : decide (t416 < 0) = false := decide_eq_false c102
                                  clear c102
                                  by_cases c103 : t416 = t401
                                  · rw [if_pos c103] at H
                                    have c103b0 : (t416 == t401) = true := beq_iff_eq.mpr c103
                                    have c103b1 : (t416 != t401) = false := bne_eq_false_iff_eq.mpr c103
                                    clear c103
                                    obtain rfl := Option.some.inj H
                                    go_wp2_with (first | ((with_reducible refine gate_callee (f := 40) rfl ?_); refine goesL_ (some 118) rfl rfl Try.func40 (by kernel_rfl) rfl #[.slice Ao85 t402.length co85, .int .i64 1] rfl (by (try simp only [List.map_toArray, List.map_cons, List.map_nil]); first | done | rfl | (simp only [List.length_drop, List.length_take]; rfl)) ?_; (with_reducible refine (laws_heldIntS.calls kj83 _ _ t402 1 t416 _ ?side1 ?side2 A101.out).mono ?_); (case side1 => repeat (first | exact (Kd.R_reads' HO_12.out).2.2 | (with_reducible refine Kd.C_alloc ?_ _) | (with_reducible refine Kd.C_drewN ?_ _) | (with_reducible refine Kd.C_drew ?_))); (case side2 => exact (Kd.R_reads' HO_12.out).2.1); rintro e w' ⟨rfl, ⟨nd, rfl⟩⟩; refine ⟨_, rfl, ?_⟩))
                                    go_ret
                                    exact ⟨by first | rfl | (simp [errW_none, errW_some] <;> rfl) | (simp [*, errW_none, errW_some] <;> rfl), eq2 HB GE360 GE378⟩
                                  · rw [if_neg c103] at H
                                    have c103b0 : (t416 == t401) = false := beq_eq_false_iff_ne.mpr c103
                                    have c103b1 : (t416 != t401) = true := bne_iff_ne.mpr c103
                                    obtain rfl := Option.some.inj H
                                    go_wp2_with (first | ((with_reducible refine gate_callee (f := 40) rfl ?_); refine goesL_ (some 118) rfl rfl Try.func40 (by kernel_rfl) rfl #[.slice Ao85 t402.length co85, .int .i64 1] rfl (by (try simp only [List.map_toArray, List.map_cons, List.map_nil]); first | done | rfl | (simp only [List.length_drop, List.length_take]; rfl)) ?_; (with_reducible refine (laws_heldIntS.calls kj83 _ _ t402 1 t416 _ ?side1 ?side2 A101.out).mono ?_); (case side1 => repeat (first | exact (Kd.R_reads' HO_12.out).2.2 | (with_reducible refine Kd.C_alloc ?_ _) | (with_reducible refine Kd.C_drewN ?_ _) | (with_reducible refine Kd.C_drew ?_))); (case side2 => exact (Kd.R_reads' HO_12.out).2.1); rintro e w' ⟨rfl, ⟨nd, rfl⟩⟩; refine ⟨_, rfl, ?_⟩))
                                    go_ret
                                    exact ⟨by first | rfl | (simp [errW_none, errW_some] <;> rfl) | (simp [*, errW_none, errW_some] <;> rfl), eq2 HB GE360 GE378⟩
                        · rw [if_neg c80] at H
                          have c80b0 : (t403 == t401) = false := beq_eq_false_iff_ne.mpr c80
                          have c80b1 : (t403 != t401) = true := bne_iff_ne.mpr c80
                          obtain rfl := Option.some.inj H
                          obtain ⟨Ao104, co104, eo104⟩ := Kd.R_slice HO_12.out
                          subst eo104
                          go_wp2_with (first | ((with_reducible refine gate_callee (f := 26) rfl ?_); refine goesL_ (some 89) rfl rfl Try.func26 (by kernel_rfl) rfl #[.slice Ao104 t382.length co104, .int .i64 1] rfl (by (try simp only [List.map_toArray, List.map_cons, List.map_nil]); first | done | rfl | (simp only [List.length_drop, List.length_take]; rfl)) ?_; (with_reducible refine (laws_markIntS.calls kj54 (fun k_ => some k_ = (.slice Ao104 t382.length co104 : Value).ownBlock) (.slice Ao104 t382.length co104) t382 1 t401 t402 w _ ?side1 ?side2 A75.out).mono ?_); (case side1 => repeat (first | (with_reducible first | exact HB.out | apply below_alloc | apply pw_below_drewN | apply below_drew1 | refine below_set ?_ GE360.out | refine below_set ?_ GE378.out) | exact HB.out)); (case side2 => exact Kd.R_tight rfl HO_12.out); rintro e w105 ⟨rfl, hy0, hb, hkp⟩; refine ⟨_, rfl, ?_⟩; have n0_ := Aside0.mk (Kd.R_mono (ok' := fun k_ => some k_ ≠ (.slice Ao104 t382.length co104 : Value).ownBlock ∧ some k_ ≠ (.slice Ao33 t397.length co33 : Value).ownBlock) (Kd.R_keptB (HO_8.out) hkp (fun k_ hk_ hs_ => (hk_.1) hs_)) (fun k_ hk_ => ⟨hk_.1.1, hk_.1.2⟩)); have n1_ := Aside0.mk (Kd.R_reok rfl hy0 (fun k_ e_ => HO_12.out.1 k_ e_)); have n2_ := Aside0.mk (Kd.R_mono (ok' := fun k_ => some k_ ≠ (v371 : Value).ownBlock ∧ some k_ ≠ (.slice Ao104 t382.length co104 : Value).ownBlock) (Kd.R_keptB (HO_379000.out) hkp (fun k_ hk_ hs_ => (hk_.2) hs_)) (fun k_ hk_ => ⟨hk_.1.1, hk_.1.2⟩)); have n3_ := Aside0.mk (blk_kept (bq BK360) hkp (fun hs_ => (fun e_ => (Kd.R_ne HO_12.out BK360.out (by decide)) e_) hs_)); have n4_ := Aside0.mk (blk_kept (bq BK378) hkp (fun hs_ => (fun e_ => (Kd.R_ne HO_12.out BK378.out (by decide)) e_) hs_)); have n5_ := Aside0.mk (hb); clear HO_8; clear HO_12; clear HO_379000; clear BK360; clear BK378; clear HB; have HO_8 := n0_; have HO_12 := n1_; have HO_379000 := n2_; have BK360 := n3_; have BK378 := n4_; have HB := n5_; clear n0_ n1_ n2_ n3_ n4_ n5_; (try clear hb); (try clear hkp); (try clear hy0)) | ((with_reducible refine gate_callee (f := 40) rfl ?_); refine goesL_ (some 92) rfl rfl Try.func40 (by kernel_rfl) rfl #[.slice Ao104 t402.length co104, .int .i64 1] rfl (by (try simp only [List.map_toArray, List.map_cons, List.map_nil]); first | done | (rw [show t402.length = t382.length from (Kd.R_reads' HO_12.out).1.symm] <;> rfl) | rfl | (simp only [List.length_drop, List.length_take]; rfl)) ?_; (with_reducible refine (laws_heldIntS.calls kj54 _ _ t402 1 t403 _ ?side1 ?side2 A76.out).mono ?_); (case side1 => repeat (first | exact (Kd.R_reads' HO_12.out).2.2 | (with_reducible refine Kd.C_alloc ?_ _) | (with_reducible refine Kd.C_drewN ?_ _) | (with_reducible refine Kd.C_drew ?_))); (case side2 => rw [show t402.length = t382.length from (Kd.R_reads' HO_12.out).1.symm]; exact (Kd.R_reads' HO_12.out).2.1); rintro e w' ⟨rfl, ⟨nd, rfl⟩⟩; refine ⟨_, rfl, ?_⟩))
                          go_ret
                          exact ⟨by first | rfl | (simp [errW_none, errW_some] <;> rfl) | (simp [*, errW_none, errW_some] <;> rfl), eq2 HB GE360 GE378⟩
              · replace c52 := Bool.eq_false_iff.mpr c52
                subst c52
                have H1 : (some false) = some r := by rw [if_neg (show ¬ (false = true) by decide)] at H; exact H
                clear H
                have H := H1
                clear H1
                obtain rfl := Option.some.inj H
                try go_wp2
                have n0_ := Aside0.mk (Kd.R_drew HO_8.out)
                have n1_ := Aside0.mk (Kd.R_drew HO_11.out)
                have n2_ := Aside0.mk (Kd.R_drew HO_12.out)
                have n3_ := Aside0.mk (Kd.R_drew HO_379000.out)
                have n4_ := Aside0.mk (blk_drew BK360.out)
                have n5_ := Aside0.mk (blk_drew BK378.out)
                have n6_ := Aside0.mk (below_drew1 HB.out)
                clear HO_8
                clear HO_11
                clear HO_12
                clear HO_379000
                clear BK360
                clear BK378
                clear HB
                have HO_8 := n0_
                have HO_11 := n1_
                have HO_12 := n2_
                have HO_379000 := n3_
                have BK360 := n4_
                have BK378 := n5_
                have HB := n6_
                clear n0_ n1_ n2_ n3_ n4_ n5_ n6_
                refine start_ (n := 5) (S := fun w' => w'.cell? ⟨gb378, 0, none⟩ = some (.slice Ao33 t374.length co33) ∧ w'.cell? ⟨gb378, 1, none⟩ = some (.int .i64 t377) ∧ w'.cell? ⟨gb360, 0, none⟩ = some (.slice A0_0 l0_0.length c0_0) ∧ w'.cell? ⟨gb360, 1, none⟩ = some (.int .i64 a0_1)) (ds := []) #[false, false, false, false, false] (by kernel_rfl) rfl rfl ⟨(blk_cell BK378.out 0).trans rfl, (blk_cell BK378.out 1).trans rfl, (blk_cell BK360.out 0).trans rfl, (blk_cell BK360.out 1).trans rfl⟩ (fun hHeld => ?_)
                generalize wc.drew = w106 at HO_8 HO_11 HO_12 HO_379000 BK360 BK378 HB hHeld ⊢
                refine take_ (i := 0) (N := some 58) (v := ?_) (a' := ?_) #[true, false, false, false, false] rfl rfl (by kernel_rfl) (fun _ _ _ h => h) (Or.inl ⟨by rfl, ?_⟩) hHeld ?_ ?_
                rotate_left
                · rintro w' ⟨s0, s1, s2, s3⟩
                  go_simp
                  with_reducible rfl
                rotate_left
                · simp only [Act.put, List.setIfInBounds_toArray, List.set_cons_zero, List.set_cons_succ, i64_w, i32_w]
                  rfl
                refine take_ (i := 1) (N := some 59) (v := ?_) (a' := ?_) #[true, true, false, false, false] rfl rfl (by kernel_rfl) (fun _ _ _ h => h) (Or.inl ⟨by rfl, ?_⟩) hHeld ?_ ?_
                rotate_left
                · rintro w' ⟨s0, s1, s2, s3⟩
                  go_simp
                  with_reducible rfl
                rotate_left
                · simp only [Act.put, List.setIfInBounds_toArray, List.set_cons_zero, List.set_cons_succ, i64_w, i32_w]
                  rfl
                refine one_ (i := 2) (N := some 60) #[true, true, true, false, false] rfl rfl (by kernel_rfl) (by decide) (fun K hK => ?_)
                refine goes_ Try.func30 (by kernel_rfl) rfl #[.agg #[.slice A0_0 l0_0.length c0_0, .int .i64 a0_1]] (by rfl) rfl rfl (by (try simp only [List.map_toArray, List.map_cons, List.map_nil]); first | done | rfl | (simp only [List.length_drop, List.length_take]; rfl)) ?_
                with_reducible refine (laws_toInstrument.calls kj19 _ _ l0_0 a0_1 t387 t390 _ ?side1 ?side2 A47.out).mono ?_
                (case side1 => repeat (first | exact (Kd.C_below HR0_0.out HB.out) | (with_reducible refine Kd.C_alloc ?_ _) | (with_reducible refine Kd.C_drewN ?_ _) | (with_reducible refine Kd.C_drew ?_)))
                (case side2 => exact HC0_0.out)
                rintro e w107 ⟨v388, rfl, ho0, hb⟩
                refine ⟨_, rfl, ?_⟩
                have n0_ := Aside0.mk (Kd.R_elder' (kq HO_8) (Kd.R_base ho0) hb)
                have n1_ := Aside0.mk (Kd.R_below (kq HO_11) hb)
                have n2_ := Aside0.mk (Kd.R_elder' (kq HO_12) (Kd.R_base ho0) hb)
                have n3_ := Aside0.mk (Kd.R_elder' (kq HO_379000) (Kd.R_base ho0) hb)
                have n4_ := Aside0.mk (Kd.R_lower (Kd.R_new' (Kd.R_new' (Kd.R_new' ho0 (Kd.R_lt (kq HO_8))) (Kd.R_lt (kq HO_12))) (Kd.R_lt (kq HO_379000))) (below_size (eq2 HB GE360 GE378)))
                have n5_ := Aside0.mk (blk_below (g := gb360) (o := .cells #[.slice A0_0 l0_0.length c0_0, .int .i64 a0_1] 40 (0, 0)) (bq BK360) hb)
                have n6_ := Aside0.mk (blk_below (g := gb378) (o := .cells #[.slice Ao33 t374.length co33, .int .i64 t377] 43 (0, 0)) (bq BK378) hb)
                have n7_ := Aside0.mk (below_step (eq2 HB GE360 GE378) hb)
                clear HO_8
                clear HO_11
                clear HO_12
                clear HO_379000
                clear BK360
                clear BK378
                clear HB
                have HO_8 := n0_
                have HO_11 := n1_
                have HO_12 := n2_
                have HO_379000 := n3_
                have HO389 := n4_
                have BK360 := n5_
                have BK378 := n6_
                have HB := n7_
                clear n0_ n1_ n2_ n3_ n4_ n5_ n6_ n7_
                (try clear hb)
                (try clear hb2)
                (try clear hk)
                (try clear hi)
                (try clear ho0)
                obtain ⟨Ao108, co108, eo108⟩ := Kd.R_slice HO389.out
                (first | subst eo108 | (injection eo108 with f1_ f2_ f3_; have f4_ := f1_.symm; have f5_ := f3_.symm; clear f1_ f2_ f3_; subst f4_; subst f5_))
                refine hK.out _ _ ⟨(blk_cell BK378.out 0).trans rfl, (blk_cell BK378.out 1).trans rfl, (blk_cell BK360.out 0).trans rfl, (blk_cell BK360.out 1).trans rfl⟩ (fun hHeld => ?_)
                clear hK K
                refine norm_ (a' := ?_) ?_ ?_
                rotate_left
                · show Act.put _ (some 60) _ = _
                  simp only [Act.put, List.setIfInBounds_toArray, List.set_cons_zero, List.set_cons_succ, i64_w, i32_w]
                  rfl
                refine one_ (i := 3) (N := some 61) #[true, true, true, true, false] rfl rfl (by kernel_rfl) (by decide) (fun K hK => ?_)
                refine goes_ Try.func32 (by kernel_rfl) rfl #[.agg #[.slice Ao33 t374.length co33, .int .i64 t377], .agg #[.slice Ao108 t387.length co108, .int .i64 t390]] (by rfl) rfl rfl (by (try simp only [List.map_toArray, List.map_cons, List.map_nil]); first | done | rfl | (simp only [List.length_drop, List.length_take]; rfl)) ?_
                with_reducible refine (laws_eqInstrument.calls kj19 _ _ t374 t377 _ _ t387 t390 true _ ?side1 ?side2 ?side3 ?side4 A48.out).mono ?_
                (case side1 => repeat (first | exact (Kd.R_reads' HO_379000.out).2.2 | (with_reducible refine Kd.C_alloc ?_ _) | (with_reducible refine Kd.C_drewN ?_ _) | (with_reducible refine Kd.C_drew ?_)))
                (case side2 => exact (Kd.R_reads' HO_379000.out).2.1)
                (case side3 => repeat (first | exact (Kd.R_reads' HO389.out).2.2 | (with_reducible refine Kd.C_alloc ?_ _) | (with_reducible refine Kd.C_drewN ?_ _) | (with_reducible refine Kd.C_drew ?_)))
                (case side4 => exact (Kd.R_reads' HO389.out).2.1)
                rintro e w109 ⟨rfl, hb⟩
                refine ⟨_, rfl, ?_⟩
                have n0_ := Aside0.mk (Kd.R_below (kq HO_8) hb)
                have n1_ := Aside0.mk (Kd.R_below (kq HO_11) hb)
                have n2_ := Aside0.mk (Kd.R_below (kq HO_12) hb)
                have n3_ := Aside0.mk (Kd.R_below (kq HO_379000) hb)
                have n4_ := Aside0.mk (Kd.R_below (kq HO389) hb)
                have n5_ := Aside0.mk (blk_below (g := gb360) (o := .cells #[.slice A0_0 l0_0.length c0_0, .int .i64 a0_1] 40 (0, 0)) (bq BK360) hb)
                have n6_ := Aside0.mk (blk_below (g := gb378) (o := .cells #[.slice Ao33 t374.length co33, .int .i64 t377] 43 (0, 0)) (bq BK378) hb)
                have n7_ := Aside0.mk (below_step (eq2 HB GE360 GE378) hb)
                clear HO_8
                clear HO_11
                clear HO_12
                clear HO_379000
                clear HO389
                clear BK360
                clear BK378
                clear HB
                have HO_8 := n0_
                have HO_11 := n1_
                have HO_12 := n2_
                have HO_379000 := n3_
                have HO389 := n4_
                have BK360 := n5_
                have BK378 := n6_
                have HB := n7_
                clear n0_ n1_ n2_ n3_ n4_ n5_ n6_ n7_
                (try clear hb)
                (try clear hb2)
                (try clear hk)
                (try clear hi)
                refine hK.out _ _ ⟨(blk_cell BK378.out 0).trans rfl, (blk_cell BK378.out 1).trans rfl, (blk_cell BK360.out 0).trans rfl, (blk_cell BK360.out 1).trans rfl⟩ (fun hHeld => ?_)
                clear hK K
                refine norm_ (a' := ?_) ?_ ?_
                rotate_left
                · show Act.put _ (some 61) _ = _
                  simp only [Act.put, List.setIfInBounds_toArray, List.set_cons_zero, List.set_cons_succ, i64_w, i32_w]
                  rfl
                refine pure_ (i := 4) (N := some 62) (v := ?_) (a' := ?_) #[true, true, true, true, true] rfl rfl (by kernel_rfl) (fun _ _ _ h => h) (Or.inl ⟨by rfl, ?_⟩) ?_ ?_
                rotate_left
                · intro w'
                  go_simp
                  with_reducible rfl
                rotate_left
                · simp only [Act.put, List.setIfInBounds_toArray, List.set_cons_zero, List.set_cons_succ, i64_w, i32_w]
                  rfl
                refine done_ (by kernel_rfl) ?_
                try go_wp2_with (first | ((with_reducible refine gate_callee (f := 16) rfl ?_); refine goesL_ (some 65) rfl rfl Try.func16 (by kernel_rfl) rfl #[.slice A1 l1.length c1] rfl (by (try simp only [List.map_toArray, List.map_cons, List.map_nil]); first | done | rfl | (simp only [List.length_drop, List.length_take]; rfl)) ?_; (with_reducible refine (laws_toNoteS.calls kj19 _ _ l1 t392 _ ?side1 ?side2 A50.out).mono ?_); (case side1 => repeat (first | exact (Kd.C_below HR1.out HB.out) | (with_reducible refine Kd.C_alloc ?_ _) | (with_reducible refine Kd.C_drewN ?_ _) | (with_reducible refine Kd.C_drew ?_))); (case side2 => exact HC1.out); rintro e w110 ⟨v393, rfl, ho0, hb⟩; refine ⟨_, rfl, ?_⟩; have n0_ := Aside0.mk (Kd.R_below (kq HO_8) hb); have n1_ := Aside0.mk (Kd.R_elder' (kq HO_11) (Kd.R_base ho0) hb); have n2_ := Aside0.mk (Kd.R_below (kq HO_12) hb); have n3_ := Aside0.mk (Kd.R_below (kq HO_379000) hb); have n4_ := Aside0.mk (Kd.R_below (kq HO389) hb); have n5_ := Aside0.mk (Kd.R_lower (Kd.R_new' ho0 (Kd.R_lt (kq HO_11))) (below_size (eq2 HB GE360 GE378))); have n6_ := Aside0.mk (blk_below (g := gb360) (o := .cells #[.slice A0_0 l0_0.length c0_0, .int .i64 a0_1] 40 (0, 0)) (bq BK360) hb); have n7_ := Aside0.mk (blk_below (g := gb378) (o := .cells #[.slice Ao33 t374.length co33, .int .i64 t377] 43 (0, 0)) (bq BK378) hb); have n8_ := Aside0.mk (below_step (eq2 HB GE360 GE378) hb); clear HO_8; clear HO_11; clear HO_12; clear HO_379000; clear HO389; clear BK360; clear BK378; clear HB; have HO_8 := n0_; have HO_11 := n1_; have HO_12 := n2_; have HO_379000 := n3_; have HO389 := n4_; have HO394 := n5_; have BK360 := n6_; have BK378 := n7_; have HB := n8_; clear n0_ n1_ n2_ n3_ n4_ n5_ n6_ n7_ n8_; (try clear hb); (try clear hb2); (try clear hk); (try clear hi); (try clear ho0); obtain ⟨Ao111, co111, eo111⟩ := Kd.R_slice HO394.out; subst eo111) | ((with_reducible refine gate_callee (f := 18) rfl ?_); refine goesL_ (some 66) rfl rfl Try.func18 (by kernel_rfl) rfl #[.slice Ao38 t379.length co38, .slice Ao111 t392.length co111] rfl (by (try simp only [List.map_toArray, List.map_cons, List.map_nil]); first | done | rfl | (simp only [List.length_drop, List.length_take]; rfl)) ?_; (with_reducible refine (laws_eqNoteS.calls kj19 _ _ t379 _ _ t392 false _ ?side1 ?side2 ?side3 ?side4 A51.out).mono ?_); (case side1 => repeat (first | exact (Kd.R_reads' HO_11.out).2.2 | (with_reducible refine Kd.C_alloc ?_ _) | (with_reducible refine Kd.C_drewN ?_ _) | (with_reducible refine Kd.C_drew ?_))); (case side2 => exact (Kd.R_reads' HO_11.out).2.1); (case side3 => repeat (first | exact (Kd.R_reads' HO394.out).2.2 | (with_reducible refine Kd.C_alloc ?_ _) | (with_reducible refine Kd.C_drewN ?_ _) | (with_reducible refine Kd.C_drew ?_))); (case side4 => exact (Kd.R_reads' HO394.out).2.1); rintro e w112 ⟨rfl, hb⟩; refine ⟨_, rfl, ?_⟩; have n0_ := Aside0.mk (Kd.R_below (kq HO_8) hb); have n1_ := Aside0.mk (Kd.R_below (kq HO_11) hb); have n2_ := Aside0.mk (Kd.R_below (kq HO_12) hb); have n3_ := Aside0.mk (Kd.R_below (kq HO_379000) hb); have n4_ := Aside0.mk (Kd.R_below (kq HO389) hb); have n5_ := Aside0.mk (Kd.R_below (kq HO394) hb); have n6_ := Aside0.mk (blk_below (g := gb360) (o := .cells #[.slice A0_0 l0_0.length c0_0, .int .i64 a0_1] 40 (0, 0)) (bq BK360) hb); have n7_ := Aside0.mk (blk_below (g := gb378) (o := .cells #[.slice Ao33 t374.length co33, .int .i64 t377] 43 (0, 0)) (bq BK378) hb); have n8_ := Aside0.mk (below_step (eq2 HB GE360 GE378) hb); clear HO_8; clear HO_11; clear HO_12; clear HO_379000; clear HO389; clear HO394; clear BK360; clear BK378; clear HB; have HO_8 := n0_; have HO_11 := n1_; have HO_12 := n2_; have HO_379000 := n3_; have HO389 := n4_; have HO394 := n5_; have BK360 := n6_; have BK378 := n7_; have HB := n8_; clear n0_ n1_ n2_ n3_ n4_ n5_ n6_ n7_ n8_; (try clear hb); (try clear hb2); (try clear hk); (try clear hi)))
                go_ret
                exact ⟨by first | rfl | (simp [errW_none, errW_some] <;> rfl) | (simp [*, errW_none, errW_some] <;> rfl), eq2 HB GE360 GE378⟩
            · replace c49 := Bool.eq_false_iff.mpr c49
              subst c49
              have H1 : (some false) = some r := by rw [if_neg (show ¬ (false = true) by decide)] at H; exact H
              clear H
              have H := H1
              clear H1
              obtain rfl := Option.some.inj H
              try go_wp2
              have n0_ := Aside0.mk (Kd.R_drew HO_8.out)
              have n1_ := Aside0.mk (Kd.R_drew HO_11.out)
              have n2_ := Aside0.mk (Kd.R_drew HO_12.out)
              have n3_ := Aside0.mk (Kd.R_drew HO_379000.out)
              have n4_ := Aside0.mk (blk_drew BK360.out)
              have n5_ := Aside0.mk (blk_drew BK378.out)
              have n6_ := Aside0.mk (below_drew1 HB.out)
              clear HO_8
              clear HO_11
              clear HO_12
              clear HO_379000
              clear BK360
              clear BK378
              clear HB
              have HO_8 := n0_
              have HO_11 := n1_
              have HO_12 := n2_
              have HO_379000 := n3_
              have BK360 := n4_
              have BK378 := n5_
              have HB := n6_
              clear n0_ n1_ n2_ n3_ n4_ n5_ n6_
              refine start_ (n := 5) (S := fun w' => w'.cell? ⟨gb378, 0, none⟩ = some (.slice Ao33 t374.length co33) ∧ w'.cell? ⟨gb378, 1, none⟩ = some (.int .i64 t377) ∧ w'.cell? ⟨gb360, 0, none⟩ = some (.slice A0_0 l0_0.length c0_0) ∧ w'.cell? ⟨gb360, 1, none⟩ = some (.int .i64 a0_1)) (ds := []) #[false, false, false, false, false] (by kernel_rfl) rfl rfl ⟨(blk_cell BK378.out 0).trans rfl, (blk_cell BK378.out 1).trans rfl, (blk_cell BK360.out 0).trans rfl, (blk_cell BK360.out 1).trans rfl⟩ (fun hHeld => ?_)
              generalize wc.drew = w113 at HO_8 HO_11 HO_12 HO_379000 BK360 BK378 HB hHeld ⊢
              refine take_ (i := 0) (N := some 58) (v := ?_) (a' := ?_) #[true, false, false, false, false] rfl rfl (by kernel_rfl) (fun _ _ _ h => h) (Or.inl ⟨by rfl, ?_⟩) hHeld ?_ ?_
              rotate_left
              · rintro w' ⟨s0, s1, s2, s3⟩
                go_simp
                with_reducible rfl
              rotate_left
              · simp only [Act.put, List.setIfInBounds_toArray, List.set_cons_zero, List.set_cons_succ, i64_w, i32_w]
                rfl
              refine take_ (i := 1) (N := some 59) (v := ?_) (a' := ?_) #[true, true, false, false, false] rfl rfl (by kernel_rfl) (fun _ _ _ h => h) (Or.inl ⟨by rfl, ?_⟩) hHeld ?_ ?_
              rotate_left
              · rintro w' ⟨s0, s1, s2, s3⟩
                go_simp
                with_reducible rfl
              rotate_left
              · simp only [Act.put, List.setIfInBounds_toArray, List.set_cons_zero, List.set_cons_succ, i64_w, i32_w]
                rfl
              refine one_ (i := 2) (N := some 60) #[true, true, true, false, false] rfl rfl (by kernel_rfl) (by decide) (fun K hK => ?_)
              refine goes_ Try.func30 (by kernel_rfl) rfl #[.agg #[.slice A0_0 l0_0.length c0_0, .int .i64 a0_1]] (by rfl) rfl rfl (by (try simp only [List.map_toArray, List.map_cons, List.map_nil]); first | done | rfl | (simp only [List.length_drop, List.length_take]; rfl)) ?_
              with_reducible refine (laws_toInstrument.calls kj19 _ _ l0_0 a0_1 t387 t390 _ ?side1 ?side2 A47.out).mono ?_
              (case side1 => repeat (first | exact (Kd.C_below HR0_0.out HB.out) | (with_reducible refine Kd.C_alloc ?_ _) | (with_reducible refine Kd.C_drewN ?_ _) | (with_reducible refine Kd.C_drew ?_)))
              (case side2 => exact HC0_0.out)
              rintro e w114 ⟨v388, rfl, ho0, hb⟩
              refine ⟨_, rfl, ?_⟩
              have n0_ := Aside0.mk (Kd.R_elder' (kq HO_8) (Kd.R_base ho0) hb)
              have n1_ := Aside0.mk (Kd.R_below (kq HO_11) hb)
              have n2_ := Aside0.mk (Kd.R_elder' (kq HO_12) (Kd.R_base ho0) hb)
              have n3_ := Aside0.mk (Kd.R_elder' (kq HO_379000) (Kd.R_base ho0) hb)
              have n4_ := Aside0.mk (Kd.R_lower (Kd.R_new' (Kd.R_new' (Kd.R_new' ho0 (Kd.R_lt (kq HO_8))) (Kd.R_lt (kq HO_12))) (Kd.R_lt (kq HO_379000))) (below_size (eq2 HB GE360 GE378)))
              have n5_ := Aside0.mk (blk_below (g := gb360) (o := .cells #[.slice A0_0 l0_0.length c0_0, .int .i64 a0_1] 40 (0, 0)) (bq BK360) hb)
              have n6_ := Aside0.mk (blk_below (g := gb378) (o := .cells #[.slice Ao33 t374.length co33, .int .i64 t377] 43 (0, 0)) (bq BK378) hb)
              have n7_ := Aside0.mk (below_step (eq2 HB GE360 GE378) hb)
              clear HO_8
              clear HO_11
              clear HO_12
              clear HO_379000
              clear BK360
              clear BK378
              clear HB
              have HO_8 := n0_
              have HO_11 := n1_
              have HO_12 := n2_
              have HO_379000 := n3_
              have HO389 := n4_
              have BK360 := n5_
              have BK378 := n6_
              have HB := n7_
              clear n0_ n1_ n2_ n3_ n4_ n5_ n6_ n7_
              (try clear hb)
              (try clear hb2)
              (try clear hk)
              (try clear hi)
              (try clear ho0)
              obtain ⟨Ao115, co115, eo115⟩ := Kd.R_slice HO389.out
              (first | subst eo115 | (injection eo115 with f1_ f2_ f3_; have f4_ := f1_.symm; have f5_ := f3_.symm; clear f1_ f2_ f3_; subst f4_; subst f5_))
              refine hK.out _ _ ⟨(blk_cell BK378.out 0).trans rfl, (blk_cell BK378.out 1).trans rfl, (blk_cell BK360.out 0).trans rfl, (blk_cell BK360.out 1).trans rfl⟩ (fun hHeld => ?_)
              clear hK K
              refine norm_ (a' := ?_) ?_ ?_
              rotate_left
              · show Act.put _ (some 60) _ = _
                simp only [Act.put, List.setIfInBounds_toArray, List.set_cons_zero, List.set_cons_succ, i64_w, i32_w]
                rfl
              refine one_ (i := 3) (N := some 61) #[true, true, true, true, false] rfl rfl (by kernel_rfl) (by decide) (fun K hK => ?_)
              refine goes_ Try.func32 (by kernel_rfl) rfl #[.agg #[.slice Ao33 t374.length co33, .int .i64 t377], .agg #[.slice Ao115 t387.length co115, .int .i64 t390]] (by rfl) rfl rfl (by (try simp only [List.map_toArray, List.map_cons, List.map_nil]); first | done | rfl | (simp only [List.length_drop, List.length_take]; rfl)) ?_
              with_reducible refine (laws_eqInstrument.calls kj19 _ _ t374 t377 _ _ t387 t390 false _ ?side1 ?side2 ?side3 ?side4 A48.out).mono ?_
              (case side1 => repeat (first | exact (Kd.R_reads' HO_379000.out).2.2 | (with_reducible refine Kd.C_alloc ?_ _) | (with_reducible refine Kd.C_drewN ?_ _) | (with_reducible refine Kd.C_drew ?_)))
              (case side2 => exact (Kd.R_reads' HO_379000.out).2.1)
              (case side3 => repeat (first | exact (Kd.R_reads' HO389.out).2.2 | (with_reducible refine Kd.C_alloc ?_ _) | (with_reducible refine Kd.C_drewN ?_ _) | (with_reducible refine Kd.C_drew ?_)))
              (case side4 => exact (Kd.R_reads' HO389.out).2.1)
              rintro e w116 ⟨rfl, hb⟩
              refine ⟨_, rfl, ?_⟩
              have n0_ := Aside0.mk (Kd.R_below (kq HO_8) hb)
              have n1_ := Aside0.mk (Kd.R_below (kq HO_11) hb)
              have n2_ := Aside0.mk (Kd.R_below (kq HO_12) hb)
              have n3_ := Aside0.mk (Kd.R_below (kq HO_379000) hb)
              have n4_ := Aside0.mk (Kd.R_below (kq HO389) hb)
              have n5_ := Aside0.mk (blk_below (g := gb360) (o := .cells #[.slice A0_0 l0_0.length c0_0, .int .i64 a0_1] 40 (0, 0)) (bq BK360) hb)
              have n6_ := Aside0.mk (blk_below (g := gb378) (o := .cells #[.slice Ao33 t374.length co33, .int .i64 t377] 43 (0, 0)) (bq BK378) hb)
              have n7_ := Aside0.mk (below_step (eq2 HB GE360 GE378) hb)
              clear HO_8
              clear HO_11
              clear HO_12
              clear HO_379000
              clear HO389
              clear BK360
              clear BK378
              clear HB
              have HO_8 := n0_
              have HO_11 := n1_
              have HO_12 := n2_
              have HO_379000 := n3_
              have HO389 := n4_
              have BK360 := n5_
              have BK378 := n6_
              have HB := n7_
              clear n0_ n1_ n2_ n3_ n4_ n5_ n6_ n7_
              (try clear hb)
              (try clear hb2)
              (try clear hk)
              (try clear hi)
              refine hK.out _ _ ⟨(blk_cell BK378.out 0).trans rfl, (blk_cell BK378.out 1).trans rfl, (blk_cell BK360.out 0).trans rfl, (blk_cell BK360.out 1).trans rfl⟩ (fun hHeld => ?_)
              clear hK K
              refine norm_ (a' := ?_) ?_ ?_
              rotate_left
              · show Act.put _ (some 61) _ = _
                simp only [Act.put, List.setIfInBounds_toArray, List.set_cons_zero, List.set_cons_succ, i64_w, i32_w]
                rfl
              refine pure_ (i := 4) (N := some 62) (v := ?_) (a' := ?_) #[true, true, true, true, true] rfl rfl (by kernel_rfl) (fun _ _ _ h => h) (Or.inl ⟨by rfl, ?_⟩) ?_ ?_
              rotate_left
              · intro w'
                go_simp
                with_reducible rfl
              rotate_left
              · simp only [Act.put, List.setIfInBounds_toArray, List.set_cons_zero, List.set_cons_succ, i64_w, i32_w]
                rfl
              refine done_ (by kernel_rfl) ?_
              try go_wp2
              go_ret
              exact ⟨by first | rfl | (simp [errW_none, errW_some] <;> rfl) | (simp [*, errW_none, errW_some] <;> rfl), eq2 HB GE360 GE378⟩

end Go.Proofs.Ytmkgkkomikiljaa.Y
