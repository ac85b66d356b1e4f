/- A call's end and beginning, loops, contracts, regions in any order. Over any program. No condition. -/
import Derived.Test.YtgjpphcbdbfhlaaGreatLE2
import Derived.Orders
set_option linter.unusedVariables false
set_option linter.unusedSimpArgs false
namespace Go.Proofs.YtgjpphcbdbfhlaaGreat.L.EV
open Go.RowKit Go.Proofs Go.Proofs.YtgjpphcbdbfhlaaGreatW.PrintWords Go.Proofs.YtgjpphcbdbfhlaaGreatW.PrintLast
universe u
section
variable {P : Program} {I : Nat → Option TI} {X : Nat → Prop} {Y : Came} {w0 w : World} {N : Nat} {η : Nat → Value} {σ : Nat → AV} {a : Act} {o : Oper} {fn : Func} {R : Value → World → Prop} {K : List Item} {s : Wr}
/-! ### Results -/
def resOne (I : Nat → Option TI) (σ : Nat → AV) (x : ResultVar) : Option PV :=
  match x with
  | .tmp t => (match σ (2 * t) with | .p x => pcps x fun x => some x | _ => none)
  | .cell t T => (match σ (2 * t) with
    | .p (.c (.bx b off)) => (match Nat.beq off 0 with
      | true => (match σ (2 * b + 1) with
        | .mem T' cs => (match I T with
          | none => none
          | some ti => (match ti.agg with
            | true => (match Nat.beq ti.size cs.length with | true => lcps cs fun cs => some (.ag cs) | false => none)
            | false => (match cs with
              | x :: _ => ccps x fun x => some (.c x)
              | [] => none)))
        | _ => none)
      | false => none)
    | _ => none)
def resA (I : Nat → Option TI) (σ : Nat → AV) : List ResultVar → Option (List PV)
  | [] => some []
  | x :: rs => match resOne I σ x with
    | none => none
    | some p => match resA I σ rs with
      | none => none
      | some l => some (p :: l)
def resSem (tmps : Array Value) (x : ResultVar) : Sem Value :=
  match x with
  | .tmp t => pure (tmps.getD t undef)
  | .cell b t => do loadVar t (← asAddr (tmps.getD b undef))
theorem results_eq (fn : Func) (tmps : Array Value) : results fn tmps = (do let vs ← fn.results.mapM (resSem tmps); pure (if h : vs.size = 1 then vs[0] else .tuple vs)) := by
  have e : (fun x : ResultVar => match x with | .tmp t => (pure (tmps.getD t undef) : Sem Value) | .cell a t => do loadVar t (← asAddr (tmps.getD a undef))) = resSem tmps := by
    funext x; cases x <;> rfl
  rw [← e]
  rfl
def one : List PV → AV
  | [x] => .p x
  | l => .tp l
theorem resOne_sound (hI : ∀ t ti, I t = some ti → TiOk P t ti) (Rr : Rl X Y w0 N η σ a w) {x : ResultVar} {p : PV} (h : resOne I σ x = some p) : ∃ v, p.rel (Live σ) (Own X η σ) η w v ∧
    (resSem a.tmps x).run P w = .ok v w := by
  cases x with
  | tmp t =>
    have hs := Rr.slot t
    unfold resOne at h
    simp only at h
    cases hv : σ (2 * t) with
    | p x =>
      rw [hv] at h hs
      simp only [pcps_eq] at h
      cases h
      exact ⟨_, hs, rfl⟩
    | _ => rw [hv] at h; cases h
  | cell t T =>
    have hs := Rr.slot t
    unfold resOne at h
    simp only at h
    split at h
    · rename_i b off hv
      rw [hv] at hs
      obtain ⟨hl, g, eg, he⟩ := hs
      cases ho : Nat.beq off 0 with
      | false => rw [ho] at h; cases h
      | true =>
        rw [ho] at h
        simp only at h
        have ho' := Nat.eq_of_beq_eq_true ho
        subst ho'
        split at h
        · rename_i T' cs hm
          obtain ⟨g', vs, b0, b1, b2⟩ := Rr.box b T' cs hm
          rw [eg] at b0
          cases b0
          have hlen := CVs.rel_len b2
          cases ht : I T with
          | none => rw [ht] at h; cases h
          | some ti =>
            rw [ht] at h
            simp only at h
            have hg := ti_agg (hI T ti ht) w
            have hsz := ti_size (hI T ti ht) w
            cases hag : ti.agg with
            | true =>
              rw [hag] at h
              simp only at h
              cases hq : Nat.beq ti.size cs.length with
              | false => rw [hq] at h; cases h
              | true =>
                rw [hq] at h
                simp only [lcps_eq] at h
                cases h
                have hq' := Nat.eq_of_beq_eq_true hq
                have hl := run_loadCells_list (P := P) w ⟨g, 0, none⟩ vs (fun j v hj => box_cell b1 0 j (by simpa using hj))
                rw [hlen, ← hq'] at hl
                refine ⟨.agg vs.toArray, ⟨vs, rfl, b2⟩, ?_⟩
                simp only [resSem, he, asAddr, Sem.run_bind, Sem.run_pure, Result.andThen_ok, loadVar, hg, hag, if_true, hsz, hl]
            | false =>
              rw [hag] at h
              simp only at h
              cases cs with
              | nil => cases h
              | cons y ys =>
                simp only [ccps_eq] at h
                cases h
                cases vs with
                | nil => simp at hlen
                | cons u us =>
                  have h0 := box_cell b1 0 0 (u := u) rfl
                  rw [Addr.add_zero'] at h0
                  refine ⟨u, b2.1, ?_⟩
                  simp only [resSem, he, asAddr, Sem.run_bind, Sem.run_pure, Result.andThen_ok, loadVar, hg, hag, Bool.false_eq_true, if_false, run_load, h0]
        · cases h
    · cases h
theorem resA_sound (hI : ∀ t ti, I t = some ti → TiOk P t ti) (Rr : Rl X Y w0 N η σ a w) : ∀ {xs : List ResultVar} {l : List PV}, resA I σ xs = some l → ∃ vs, PVs.rel (Live σ) (Own X η σ) η w l vs ∧
    (xs.mapM (resSem a.tmps)).run P w = .ok vs w
  | [], l, h => by cases h; exact ⟨[], trivial, rfl⟩
  | x :: xs, l, h => by
    unfold resA at h
    cases h1 : resOne I σ x with
    | none => rw [h1] at h; cases h
    | some p =>
      rw [h1] at h
      simp only at h
      cases h2 : resA I σ xs with
      | none => rw [h2] at h; cases h
      | some l' =>
        rw [h2] at h
        cases h
        obtain ⟨v, g1, g2⟩ := resOne_sound hI Rr h1
        obtain ⟨vs, g3, g4⟩ := resA_sound hI Rr h2
        refine ⟨v :: vs, ⟨g1, g3⟩, ?_⟩
        rw [List.mapM_cons]
        simp only [Sem.run_bind, g2, g4, Result.andThen_ok, Sem.run_pure]
/-! ### What is handed back -/
/-- One cell in the contract's words; the number of the row that is handed back; the row that is read. -/
inductive CLe (σ : Nat → AV) : CV → CV → Option Nat → List Nat → Prop
  | same {x : CV} (h : x.noBx = true) : CLe σ x x none []
  | own {q : Nat} {α : Type} {e : Nat} {k : EK α} {xs : List α} (h : σ (2 * q + 1) = .row e k xs) : CLe σ (.rp q) (.ow e k xs) (some q) []
  | rd {q : Nat} {α : Type} {e : Nat} {k : EK α} {xs : List α} (h : σ (2 * q + 1) = .row e k xs) : CLe σ (.rp q) (.sl k xs) none [q]
  | fz {q : Nat} {α : Type} {k : EK α} {xs : List α} (h : σ (2 * q + 1) = .fz k xs) : CLe σ (.rp q) (.sl k xs) none []
  | nilS {α : Type} {k : EK α} : CLe σ (.v (.slice none 0 0)) (.sl k []) none []
  | nilO {α : Type} {e : Nat} {k : EK α} : CLe σ (.v (.slice none 0 0)) (.ow e k []) none []
inductive CLes (σ : Nat → AV) : List CV → List CV → List (Option Nat) → List Nat → Prop
  | nil : CLes σ [] [] [] []
  | cons {x y : CV} {xs ys : List CV} {o : Option Nat} {os : List (Option Nat)} {d ds : List Nat} (h : CLe σ x y o d) (t : CLes σ xs ys os ds) : CLes σ (x :: xs) (y :: ys) (o :: os) (d ++ ds)
inductive PLe (σ : Nat → AV) : PV → PV → List (Option Nat) → List Nat → Prop
  | c {x y : CV} {o : Option Nat} {d : List Nat} (h : CLe σ x y o d) : PLe σ (.c x) (.c y) [o] d
  | ag {xs ys : List CV} {o : List (Option Nat)} {d : List Nat} (h : CLes σ xs ys o d) : PLe σ (.ag xs) (.ag ys) o d
  | fb {xs : List CV} (h : xs.all CV.noBx = true) : PLe σ (.fb xs) (.fb xs) [none] []
  | ob {q T : Nat} {xs ys : List CV} {o : List (Option Nat)} {d : List Nat} (h : σ (2 * q + 1) = .mem T xs) (t : CLes σ xs ys o d) : PLe σ (.c (.bx q 0)) (.ob T ys) (some q :: o) d
inductive PLes (σ : Nat → AV) : List PV → List PV → List (Option Nat) → List Nat → Prop
  | nil : PLes σ [] [] [] []
  | cons {x y : PV} {xs ys : List PV} {o os : List (Option Nat)} {d ds : List Nat} (h : PLe σ x y o d) (t : PLes σ xs ys os ds) : PLes σ (x :: xs) (y :: ys) (o ++ os) (d ++ ds)
/-- What stands under an own argument's number. -/
inductive OLes (N : Nat) (σ : Nat → AV) : Outs → List (Option Nat) → List Nat → Prop
  | nil : OLes N σ [] [] []
  | row {j : Nat} {α : Type} {e : Nat} {k : EK α} {xs : List α} {o : Outs} {os : List (Option Nat)} {ds : List Nat} (h : σ (2 * (2 * N + j) + 1) = .row e k xs) (t : OLes N σ o os ds) : OLes N σ ((j, .c (.ow e k xs)) :: o) (some (2 * N + j) :: os) ds
  | box {j T : Nat} {xs ys : List CV} {o : Outs} {os os' : List (Option Nat)} {d ds : List Nat} (h : σ (2 * (2 * N + j) + 1) = .mem T xs) (c : CLes σ xs ys os d) (t : OLes N σ o os' ds) : OLes N σ ((j, .ob T ys) :: o) ((some (2 * N + j) :: os) ++ os') (d ++ ds)
def okRet (os : List (Option Nat)) (ds : List Nat) : Bool := noDup (ids os) && ds.all fun q => !((ids os).any fun p => Nat.beq q p)
/-- The blocks that are handed back. -/
def ob1 (η : Nat → Value) (σ : Nat → AV) : Option Nat → Option Nat
  | some q => bk η σ q
  | none => none
def Wb (η : Nat → Value) (σ : Nat → AV) (os : List (Option Nat)) (i : Nat) : Option Nat := match os[i]? with
  | some (some q) => bk η σ q
  | _ => none
theorem Wb_some {os : List (Option Nat)} {i b : Nat} (h : Wb η σ os i = some b) : ∃ q, os[i]? = some (some q) ∧ bk η σ q = some b := by
  unfold Wb at h
  split at h
  · rename_i q hq; exact ⟨q, hq, h⟩
  · cases h
section
variable {os : List (Option Nat)} {Z : Nat → Prop}
/-- Os is a stretch of all that is handed back. -/
def AtOs (all os : List (Option Nat)) (i : Nat) : Prop := ∀ t o, os[t]? = some o → all[i + t]? = some o
theorem CLe.len {xs ys : List CV} {o : List (Option Nat)} {d : List Nat} (h : CLes σ xs ys o d) : o.length = ys.length := by
  induction h with
  | nil => rfl
  | cons h t ih => simp [ih]
theorem CLe.relr (Rr : Rl X Y w0 N η σ a w) (hZ : ∀ i, Z i → i < w.heap.size → Own X η σ i) {x y : CV} {o : Option Nat} {d : List Nat} {u : Value} (hrd : ∀ q ∈ d, ∀ k, vb (η q) = some k → ¬ Z k)
    (h : CLe σ x y o d) (hr : x.rel (Live σ) (Own X η σ) η w u) : y.relg Z w u ∧ (y.isOw = true → vb u = ob1 η σ o) := by
  cases h with
  | same hn =>
    have h1 := CV.rel_step (CV.rel_noBx (L1 := NoL) (η1 := η0) hn hr) (Ext.refl _ _) hZ (fun _ h => h) (fun _ _ => rfl)
    have h2 : x.isOw = false := by cases x <;> first | rfl | cases hn
    exact ⟨by rw [CV.relg_eq h2]; exact h1, fun e => by rw [h2] at e; cases e⟩
  | own h =>
    obtain ⟨_, rfl⟩ := hr
    exact ⟨(Rr.row _ _ _ _ h).kept (Ext.refl _ _) hZ fun _ _ => rfl, fun _ => (bk_of (by rw [h]; rfl)).symm⟩
  | rd h =>
    obtain ⟨_, rfl⟩ := hr
    exact ⟨(Rr.row _ _ _ _ h).reads hZ fun b hb => hrd _ (by simp) b hb, fun e => by cases e⟩
  | fz h =>
    obtain ⟨_, rfl⟩ := hr
    obtain ⟨A, c, f1, f2, f3⟩ := Rr.fz _ _ _ h
    exact ⟨⟨A, c, f1, f2, EK.row_step f3 (Ext.refl _ _) hZ⟩, fun e => by cases e⟩
  | nilS =>
    have hu : u = .slice none 0 0 := hr
    subst hu
    exact ⟨⟨none, 0, rfl, Nat.le_refl _, by simp, fun h => by simp at h⟩, fun e => by cases e⟩
  | nilO =>
    have hu : u = .slice none 0 0 := hr
    subst hu
    exact ⟨⟨[], World.ownsRow_nil _ _ _ _, by simp, fun j p hp => by simp at hp⟩, fun _ => rfl⟩
theorem Wb_at {o : Option Nat} {i : Nat} (h : os[i]? = some o) : Wb η σ os i = ob1 η σ o := by
  unfold Wb
  rw [h]
  cases o <;> rfl
theorem CLes.relr (Rr : Rl X Y w0 N η σ a w) (hZ : ∀ i, Z i → i < w.heap.size → Own X η σ i) : ∀ {i : Nat} {xs ys : List CV} {o : List (Option Nat)} {d : List Nat} {us : List Value}, (∀ q ∈ d, ∀ k, vb (η q) = some k → ¬ Z k) → AtOs os o i →
    CLes σ xs ys o d → CVs.rel (Live σ) (Own X η σ) η w xs us → CVs.relr Z (Wb η σ os) w i ys us
  | i, _, _, _, _, [], hrd, ha, .nil, hr => trivial
  | i, _, _, _, _, u :: us, hrd, ha, .cons h t, hr => by
    obtain ⟨h1, h2⟩ := CLe.relr Rr hZ (fun q hq => hrd q (List.mem_append_left _ hq)) h hr.1
    refine ⟨h1, fun e => ?_, hr.2.1, CLes.relr Rr hZ (fun q hq => hrd q (List.mem_append_right _ hq)) (fun t o ho => ?_) t hr.2.2⟩
    · have := ha 0 _ rfl
      rw [Nat.add_zero] at this
      rw [Wb_at this]
      exact h2 e
    · have := ha (t + 1) o (by simpa using ho)
      rwa [show i + (t + 1) = i + 1 + t from by omega] at this
  | i, _, _, _, _, _ :: _, _, _, .nil, hr => hr.elim
  | i, _, _, _, _, [], _, _, .cons h t, hr => hr.elim
theorem AtOs.left {o o' : List (Option Nat)} {i : Nat} (h : AtOs os (o ++ o') i) : AtOs os o i := fun t x hx => h t x (by rw [List.getElem?_append_left (List.getElem?_eq_some_iff.1 hx).1]; exact hx)
theorem AtOs.right {o o' : List (Option Nat)} {i : Nat} (h : AtOs os (o ++ o') i) : AtOs os o' (i + o.length) := fun t x hx => by
  have := h (o.length + t) x (by rw [List.getElem?_append_right (by omega), Nat.add_sub_cancel_left]; exact hx)
  rwa [← Nat.add_assoc] at this
theorem PLe.relr (Rr : Rl X Y w0 N η σ a w) (hZ : ∀ i, Z i → i < w.heap.size → Own X η σ i) {i : Nat} {x y : PV} {o : List (Option Nat)} {d : List Nat} {u : Value} (hrd : ∀ q ∈ d, ∀ k, vb (η q) = some k → ¬ Z k) (ha : AtOs os o i)
    (h : PLe σ x y o d) (hr : x.rel (Live σ) (Own X η σ) η w u) : y.relr Z (Wb η σ os) w i u ∧ o.length = y.owF.length := by
  cases h with
  | c h =>
    obtain ⟨h1, h2⟩ := CLe.relr Rr hZ hrd h hr
    refine ⟨⟨h1, fun e => ?_⟩, rfl⟩
    have := ha 0 _ rfl
    rw [Nat.add_zero] at this
    rw [Wb_at this]
    exact h2 e
  | ag h => obtain ⟨us, e, hr⟩ := hr; exact ⟨⟨us, e, CLes.relr Rr hZ hrd ha h hr⟩, by simp [PV.owF, CLe.len h]⟩
  | fb h => exact ⟨PV.rel_step (PV.rel_noBx (x := .fb _) (L1 := NoL) (η1 := η0) h hr) (Ext.refl _ _) hZ (fun _ h => h) (fun _ _ => rfl), rfl⟩
  | @ob q T xs ys o d h t =>
    obtain ⟨_, g, e1, e2⟩ := hr
    obtain ⟨g', us, b0, b1, b2⟩ := Rr.box q T xs h
    rw [e1] at b0
    cases b0
    refine ⟨⟨g, us, e2, ?_, b1, CLes.relr Rr hZ hrd (fun t o ho => ?_) t b2⟩, by simp [PV.owF, CLe.len t]⟩
    · have := ha 0 _ rfl
      rw [Nat.add_zero] at this
      rw [Wb_at this]
      show bk η σ q = _
      rw [bk_of (by rw [h]; rfl), e1]
      rfl
    · have := ha (t + 1) o (by simpa using ho)
      rwa [show i + (t + 1) = i + 1 + t from by omega] at this
theorem PLes.relr (Rr : Rl X Y w0 N η σ a w) (hZ : ∀ i, Z i → i < w.heap.size → Own X η σ i) : ∀ {i : Nat} {xs ys : List PV} {o : List (Option Nat)} {d : List Nat} {us : List Value}, (∀ q ∈ d, ∀ k, vb (η q) = some k → ¬ Z k) → AtOs os o i →
    PLes σ xs ys o d → PVs.rel (Live σ) (Own X η σ) η w xs us → PVs.relr Z (Wb η σ os) w i ys us ∧ o.length = (PVs.owF ys).length
  | i, _, _, _, _, [], hrd, ha, .nil, hr => ⟨trivial, rfl⟩
  | i, _, _, _, _, u :: us, hrd, ha, .cons h t, hr => by
    obtain ⟨h1, h2⟩ := PLe.relr Rr hZ (fun q hq => hrd q (List.mem_append_left _ hq)) ha.left h hr.1
    have ha' := ha.right
    rw [h2] at ha'
    obtain ⟨h3, h4⟩ := PLes.relr Rr hZ (fun q hq => hrd q (List.mem_append_right _ hq)) ha' t hr.2
    exact ⟨⟨h1, h3⟩, by unfold PVs.owF; rw [List.length_append, List.length_append, h2, h4]⟩
  | i, _, _, _, _, _ :: _, _, _, .nil, hr => hr.elim
  | i, _, _, _, _, [], _, _, .cons h t, hr => hr.elim
theorem OLes.outOk (Rr : Rl X Y w0 N η σ a w) (hZ : ∀ i, Z i → i < w.heap.size → Own X η σ i) {gs : List Value} : ∀ {i : Nat} {out : Outs} {o : List (Option Nat)} {d : List Nat}, (∀ p ∈ out, gs[p.1]? = some (η (2 * N + p.1))) → (∀ q ∈ d, ∀ k, vb (η q) = some k → ¬ Z k) → AtOs os o i →
    OLes N σ out o d → OutOk Z (Wb η σ os) w gs i out := by
  intro i out o d hg hrd ha h
  induction h generalizing i with
  | nil => trivial
  | @row j α e k xs out os' ds h t ih =>
    have hR : (σ (2 * (2 * N + j) + 1)).isOwn = true := by rw [h]; rfl
    refine ⟨⟨η (2 * N + j), hg _ (List.mem_cons_self ..), (Rr.row _ _ _ _ h).kept (Ext.refl _ _) hZ fun _ _ => rfl, fun _ => ?_⟩, ih (fun p hp => hg p (List.mem_cons_of_mem _ hp)) hrd (fun t o ho => ?_)⟩
    · have := ha 0 _ rfl
      rw [Nat.add_zero] at this
      rw [Wb_at this]
      exact (bk_of hR).symm
    · have := ha (t + 1) o (by simpa using ho)
      rwa [show i + (t + 1) = i + 1 + t from by omega] at this
  | @box j T xs ys out os1 os2 d1 ds h c t ih =>
    have hR : (σ (2 * (2 * N + j) + 1)).isOwn = true := by rw [h]; rfl
    obtain ⟨g, us, b0, b1, b2⟩ := Rr.box _ T xs h
    have ha' := ha.right
    have hl := CLe.len c
    refine ⟨⟨η (2 * N + j), hg _ (List.mem_cons_self ..), g, us, b0, ?_, b1, CLes.relr Rr hZ (fun q hq => hrd q (List.mem_append_left _ hq)) (fun t o ho => ?_) c b2⟩, ih (fun p hp => hg p (List.mem_cons_of_mem _ hp)) (fun q hq => hrd q (List.mem_append_right _ hq)) ?_⟩
    · have := ha 0 _ rfl
      rw [Nat.add_zero] at this
      rw [Wb_at this]
      show bk η σ (2 * N + j) = _
      rw [bk_of hR, b0]
      rfl
    · have := ha.left (t + 1) o (by simpa using ho)
      rwa [show i + (t + 1) = i + 1 + t from by omega] at this
    · simpa [PV.owF, hl] using ha'
end
/-- What came in, under numbers: own part j is number 2N + j. -/
def pinY (N : Nat) (fs : List Bool) (gs : List Value) : Came where
  z := Zb fs gs
  y := fun r => if 2 * N ≤ r then (match fs[r - 2 * N]? with | some true => gs[r - 2 * N]? | _ => none) else none
theorem pinY_inv {N r : Nat} {fs : List Bool} {gs : List Value} {v : Value} (h : (pinY N fs gs).y r = some v) : 2 * N ≤ r ∧ fs[r - 2 * N]? = some true ∧ gs[r - 2 * N]? = some v := by
  unfold pinY at h
  simp only at h
  split at h
  · rename_i hle
    split at h
    · rename_i hf; exact ⟨hle, hf, h⟩
    · cases h
  · cases h
/-- What holds at the end of a call: nothing else is asked of its arguments. -/
structure Fin (N : Nat) (fs : List Bool) (gs : List Value) (r : AV) (out : Outs) : Prop where
  len : gs.length = fs.length
  list : one r.list = r
  out : ∀ p ∈ out, fs[p.1]? = some true
theorem one_relr {Z : Nat → Prop} {W : Nat → Option Nat} {r : AV} : ∀ {m : List PV} {us : List Value}, PVs.relr Z W w 0 m us → one m = r → ∃ v, (if h : us.toArray.size = 1 then us.toArray[0] else .tuple us.toArray) = v ∧ r.relr Z W w v
  | [], [], g, e => by subst e; exact ⟨.tuple #[], by simp, [], rfl, trivial⟩
  | [x], [u], g, e => by subst e; exact ⟨u, by simp, g.1⟩
  | x :: y :: m, u :: u' :: us, g, e => by subst e; exact ⟨.tuple (u :: u' :: us).toArray, by simp, u :: u' :: us, rfl, g⟩
  | [x], u :: u' :: us, g, _ => g.2.elim
  | x :: y :: m, [u], g, _ => g.2.elim
theorem OLes.ok {out : Outs} {o : List (Option Nat)} {d : List Nat} (h : OLes N σ out o d) : ∀ p ∈ out, (σ (2 * (2 * N + p.1) + 1)).isOwn = true := by
  induction h with
  | nil => intro p hp; simp at hp
  | row h t ih =>
    intro p hp
    rcases List.mem_cons.1 hp with rfl | hp
    · rw [h]; rfl
    · exact ih p hp
  | box h c t ih =>
    intro p hp
    rcases List.mem_cons.1 hp with rfl | hp
    · rw [h]; rfl
    · exact ih p hp
theorem res_val (hI : ∀ t ti, I t = some ti → TiOk P t ti) {fs : List Bool} {gs : List Value} (Rr : Rl X (pinY N fs gs) w0 N η σ a w) {l : List PV} {r : AV} {out : Outs} (hf : Fin N fs gs r out) (h : resA I σ fn.results.toList = some l)
    {o1 o2 : List (Option Nat)} {d1 d2 : List Nat} (hle : PLes σ l r.list o1 d1) (hout : OLes N σ out o2 d2) (hok : okRet (o1 ++ o2) (d1 ++ d2) = true) : ∃ v, (results fn a.tmps).run P w = .ok v w ∧ RetOk X w0 fs gs r out v w := by
  obtain ⟨us, h1, h2⟩ := resA_sound hI Rr h
  unfold okRet at hok
  rw [Bool.and_eq_true] at hok
  obtain ⟨hnd, hrds⟩ := hok
  -- the blocks handed back
  have hsub : ∀ i, (X i ∨ ∃ t, Wb η σ (o1 ++ o2) t = some i) → Own X η σ i := by
    rintro i (hi | ⟨t, ht⟩)
    · exact .inl hi
    · obtain ⟨q, _, hq⟩ := Wb_some ht; exact .inr ⟨q, hq⟩
  have hrd : ∀ q ∈ d1 ++ d2, ∀ k, vb (η q) = some k → (σ (2 * q + 1)).isOwn = true → ¬ (X k ∨ ∃ t, Wb η σ (o1 ++ o2) t = some k) := by
    intro q hq k hk ho
    have hbq : bk η σ q = some k := by rw [bk_of ho]; exact hk
    rintro (hx | ⟨t, ht⟩)
    · rcases Rr.obase q k hbq with h5 | h5
      · have := Rr.bound k hx; omega
      · exact Rr.apart k h5 hx
    · obtain ⟨p, e1, e2⟩ := Wb_some ht
      have := Rr.oinj p q k e2 hbq
      subst this
      have h3 := List.all_eq_true.1 hrds p hq
      simp only [Bool.not_eq_true'] at h3
      have h4 : ((ids (o1 ++ o2)).any fun p' => Nat.beq p p') = true := List.any_eq_true.2 ⟨p, mem_ids.2 ⟨t, e1⟩, Nat.beq_refl p⟩
      rw [h3] at h4
      cases h4
  have hdo : ∀ q ∈ d1 ++ d2, (σ (2 * q + 1)).isOwn = true := by
    have cle : ∀ {x y : CV} {o : Option Nat} {d : List Nat}, CLe σ x y o d → ∀ q ∈ d, (σ (2 * q + 1)).isOwn = true := by
      intro x y o d h q hq
      cases h <;> first | (simp at hq; done) | (rename_i h; simp at hq; subst hq; rw [h]; rfl)
    have cles : ∀ {xs ys : List CV} {o : List (Option Nat)} {d : List Nat}, CLes σ xs ys o d → ∀ q ∈ d, (σ (2 * q + 1)).isOwn = true := by
      intro xs ys o d h
      induction h with
      | nil => intro q hq; simp at hq
      | cons h t ih =>
        intro q hq
        rcases List.mem_append.1 hq with hq | hq
        · exact cle h q hq
        · exact ih q hq
    have ples : ∀ {xs ys : List PV} {o : List (Option Nat)} {d : List Nat}, PLes σ xs ys o d → ∀ q ∈ d, (σ (2 * q + 1)).isOwn = true := by
      intro xs ys o d h
      induction h with
      | nil => intro q hq; simp at hq
      | cons h t ih =>
        intro q hq
        rcases List.mem_append.1 hq with hq | hq
        · cases h with
          | c h => exact cle h q hq
          | ag h => exact cles h q hq
          | fb h => simp at hq
          | ob h t => exact cles t q hq
        · exact ih q hq
    have oles : ∀ {out : Outs} {o : List (Option Nat)} {d : List Nat}, OLes N σ out o d → ∀ q ∈ d, (σ (2 * q + 1)).isOwn = true := by
      intro out o d h
      induction h with
      | nil => intro q hq; simp at hq
      | row h t ih => exact ih
      | box h c t ih =>
        intro q hq
        rcases List.mem_append.1 hq with hq | hq
        · exact cles c q hq
        · exact ih q hq
    intro q hq
    rcases List.mem_append.1 hq with hq | hq
    · exact ples hle q hq
    · exact oles hout q hq
  obtain ⟨g3, g4⟩ := PLes.relr (os := o1 ++ o2) (i := 0) Rr (fun i hi _ => hsub i hi) (fun q hq k hk => hrd q (List.mem_append_left _ hq) k hk (hdo q (List.mem_append_left _ hq))) (fun t o ho => by rw [Nat.zero_add, List.getElem?_append_left (List.getElem?_eq_some_iff.1 ho).1]; exact ho) hle h1
  have hgs : ∀ p ∈ out, gs[p.1]? = some (η (2 * N + p.1)) := by
    intro p hp
    have ho := hout.ok p hp
    have hj := hf.out p hp
    have hl : p.1 < gs.length := by rw [hf.len]; exact (List.getElem?_eq_some_iff.1 hj).1
    have hp : (pinY N fs gs).y (2 * N + p.1) = some gs[p.1] := by
      unfold pinY
      simp only
      rw [if_pos (by omega), show 2 * N + p.1 - 2 * N = p.1 from by omega, hj]
      exact List.getElem?_eq_getElem hl
    rw [Rr.pin _ _ hp ho]
    exact List.getElem?_eq_getElem hl
  have g5 := OLes.outOk (os := o1 ++ o2) (i := (PVs.owF r.list).length) (gs := gs) Rr (fun i hi _ => hsub i hi) hgs (fun q hq k hk => hrd q (List.mem_append_right _ hq) k hk (hdo q (List.mem_append_right _ hq))) (fun t o ho => by rw [← g4, List.getElem?_append_right (by omega), Nat.add_sub_cancel_left]; exact ho) hout
  have hm : (fn.results.mapM (resSem a.tmps)).run P w = .ok us.toArray w := by
    rw [Array.mapM_eq_mapM_toList]
    simp only [Sem.run_map, h2, Result.andThen_ok]
  obtain ⟨v, e1, e2⟩ := one_relr g3 hf.list
  refine ⟨v, ?_, Wb η σ (o1 ++ o2), Rr.ext, ?_, ?_, e2, g5⟩
  · subst e1
    rw [results_eq]
    simp only [Sem.run_bind, hm, Result.andThen_ok]
    rfl
  · intro i b hb
    obtain ⟨q, _, hq⟩ := Wb_some hb
    rcases Rr.obase q b hq with h | h
    · exact .inr h
    · exact .inl h
  · intro i j b hi hj
    obtain ⟨q, e1, e2⟩ := Wb_some hi
    obtain ⟨q', e1', e2'⟩ := Wb_some hj
    have := Rr.oinj q q' b e2 e2'
    subst this
    exact ids_inj hnd i j q e1 e1'
theorem Go1.ret (Rr : Rl X Y w0 N η σ a w) {v : Value} (hr : (results fn a.tmps).run P w = .ok v w) (h : R v w) : Go1 P fn R (.code .ret :: K) a w := fun b cs => ⟨a, w, v, Rr.defers, hr, h, _, .one step_ret⟩
theorem Go1.fin (Rr : Rl X Y w0 N η σ a w) {v : Value} (hr : (results fn a.tmps).run P w = .ok v w) (h : R v w) : Go1 P fn R [] a w := fun b cs => ⟨a, w, v, Rr.defers, hr, h, _, .one step_end⟩
theorem Runs.ret (hI : ∀ t ti, I t = some ti → TiOk P t ti) {fs : List Bool} {gs : List Value} {l : List PV} {r : AV} {out : Outs} {o1 o2 : List (Option Nat)} {d1 d2 : List Nat} (hf : Fin N fs gs r out) (h : resA I (look s) fn.results.toList = some l) (hle : PLes (look s) l r.list o1 d1) (hout : OLes N (look s) out o2 d2) (hok : okRet (o1 ++ o2) (d1 ++ d2) = true) :
    Runs P fn X (pinY N fs gs) w0 N (RetOk X w0 fs gs r out) (.code .ret :: K) s := ⟨fun η a w Rr => by
  obtain ⟨v, h1, h2⟩ := res_val hI Rr hf h hle hout hok
  exact Go1.ret Rr h1 h2⟩
theorem Runs.fin (hI : ∀ t ti, I t = some ti → TiOk P t ti) {fs : List Bool} {gs : List Value} {l : List PV} {r : AV} {out : Outs} {o1 o2 : List (Option Nat)} {d1 d2 : List Nat} (hf : Fin N fs gs r out) (h : resA I (look s) fn.results.toList = some l) (hle : PLes (look s) l r.list o1 d1) (hout : OLes N (look s) out o2 d2) (hok : okRet (o1 ++ o2) (d1 ++ d2) = true) :
    Runs P fn X (pinY N fs gs) w0 N (RetOk X w0 fs gs r out) [] s := ⟨fun η a w Rr => by
  obtain ⟨v, h1, h2⟩ := res_val hI Rr hf h hle hout hok
  exact Go1.fin Rr h1 h2⟩
/-! ### Knowing less -/
inductive Sub : Wr → Wr → Prop
  | nil (s : Wr) : Sub [] s
  | cons {n : Nat} {v : AV} {r s : Wr} (h : look s n = v) (k : Sub r s) : Sub ((n, v) :: r) s
def okBx (s : Wr) : Bool := s.all fun p => p.2.ids.all fun b => (look s (2 * b + 1)).isMem
theorem Sub.look {s s' : Wr} (h : Sub s' s) (n : Nat) : EV.look s' n = .any ∨ EV.look s' n = EV.look s n := by
  induction h with
  | nil s => exact .inl rfl
  | cons h k ih =>
    rw [look_cons]
    unfold upd
    split
    · rename_i e; subst e; exact .inr h.symm
    · exact ih
theorem CV.rel_L {L L1 : Nat → Prop} {x : CV} (hb : ∀ b ∈ x.ids, L1 b) {u : Value} (h : x.rel L X η w u) : x.rel L1 X η w u := by
  cases x with
  | bx b off => exact ⟨hb b (by simp [CV.ids]), h.2⟩
  | rp b => exact ⟨hb b (by simp [CV.ids]), h.2⟩
  | er b sz n i off => exact ⟨hb b (by simp [CV.ids]), h.2⟩
  | _ => exact h
theorem CVs.rel_L {L L1 : Nat → Prop} : ∀ {xs : List CV} {us : List Value}, (∀ b ∈ xs.flatMap CV.ids, L1 b) → CVs.rel L X η w xs us → CVs.rel L1 X η w xs us
  | [], [], _, _ => trivial
  | x :: xs, u :: us, hb, h => ⟨CV.rel_L (fun b hx => hb b (by simp only [List.flatMap_cons, List.mem_append]; exact .inl hx)) h.1, h.2.1, CVs.rel_L (fun b hx => hb b (by simp only [List.flatMap_cons, List.mem_append]; exact .inr hx)) h.2.2⟩
theorem PV.rel_L {L L1 : Nat → Prop} {x : PV} (hb : ∀ b ∈ x.ids, L1 b) {u : Value} (h : x.rel L X η w u) : x.rel L1 X η w u := by
  cases x with
  | c x => exact CV.rel_L hb h
  | ag cs => obtain ⟨vs, e, h⟩ := h; exact ⟨vs, e, CVs.rel_L hb h⟩
  | fb cs => obtain ⟨ad, vs, e1, e2, e3, e4, h⟩ := h; exact ⟨ad, vs, e1, e2, e3, e4, CVs.rel_L hb h⟩
  | ob T cs => exact h
theorem PVs.rel_L {L L1 : Nat → Prop} : ∀ {xs : List PV} {us : List Value}, (∀ b ∈ xs.flatMap PV.ids, L1 b) → PVs.rel L X η w xs us → PVs.rel L1 X η w xs us
  | [], [], _, _ => trivial
  | x :: xs, u :: us, hb, h => ⟨PV.rel_L (fun b hx => hb b (by simp only [List.flatMap_cons, List.mem_append]; exact .inl hx)) h.1, PVs.rel_L (fun b hx => hb b (by simp only [List.flatMap_cons, List.mem_append]; exact .inr hx)) h.2⟩
theorem AV.rel_L {L L1 : Nat → Prop} {x : AV} (hb : ∀ b ∈ x.ids, L1 b) {u : Value} (h : x.rel L X η w u) : x.rel L1 X η w u := by
  cases x with
  | p x => exact PV.rel_L hb h
  | tp l => obtain ⟨vs, e, h⟩ := h; exact ⟨vs, e, PVs.rel_L hb h⟩
  | fn f l => obtain ⟨vs, e, h⟩ := h; exact ⟨vs, e, PVs.rel_L hb h⟩
  | _ => trivial
theorem okBx_look {s : Wr} (h : okBx s = true) (n : Nat) : ∀ b ∈ (look s n).ids, Live (look s) b := by
  have key : ∀ r : Wr, (∀ p ∈ r, ∀ b ∈ p.2.ids, Live (look s) b) → ∀ b ∈ (look r n).ids, Live (look s) b := by
    intro r
    induction r with
    | nil => intro _ b hb; simp [look, AV.ids] at hb
    | cons p r ih =>
      obtain ⟨k, v⟩ := p
      intro hp b hb
      rw [look_cons] at hb
      unfold upd at hb
      split at hb
      · exact hp (k, v) (by simp) b hb
      · exact ih (fun q hq => hp q (List.mem_cons_of_mem _ hq)) b hb
  refine key s fun p hp b hb => ?_
  have := List.all_eq_true.1 (List.all_eq_true.1 h p hp) b hb
  exact this
theorem Runs.weak {s' : Wr} (hs : Sub s' s) (hb : okBx s' = true) (h : Runs P fn X Y w0 N R K s') : Runs P fn X Y w0 N R K s := ⟨fun η a w hr => h.out η a w (hr.weaken hs.look (fun n u X' w' hu => AV.rel_L (okBx_look hb n) hu) fun b T cs vs X' w' hm hu => CVs.rel_L (fun c hc => okBx_look hb (2 * b + 1) c (by rw [hm]; exact hc)) hu)⟩
/-! ### Loops and joins -/
def fcps {γ : Type u} (x : AV) (k : AV → γ) : γ :=
  match x with
  | .p x => pcps x fun x => k (.p x)
  | .tp l => k (.tp l)
  | .any => k .any
  | .mem T cs => lcps cs fun cs => k (.mem T cs)
  | x => k x
theorem fcps_eq {γ : Type u} (x : AV) (k : AV → γ) : fcps x k = k x := by
  cases x with
  | any => rfl
  | p x => exact pcps_eq x (fun x => k (.p x))
  | tp l => rfl
  | mem T cs => exact lcps_eq cs (fun cs => k (.mem T cs))
  | _ => rfl
def keepK {γ : Type u} (s : Wr) : List Nat → (Wr → γ) → γ
  | [], k => k []
  | n :: ns, k => fcps (look s n) fun v => keepK s ns fun t => k ((n, v) :: t)
theorem keepK_sub {γ : Type u} (s : Wr) : ∀ (ns : List Nat) (k : Wr → γ), ∃ t, keepK s ns k = k t ∧ Sub t s
  | [], k => ⟨[], rfl, .nil s⟩
  | n :: ns, k => by
    unfold keepK
    rw [fcps_eq]
    obtain ⟨t, h1, h2⟩ := keepK_sub s ns fun t => k ((n, look s n) :: t)
    exact ⟨_, h1, .cons rfl h2⟩
theorem Sub.append {t u s : Wr} (h : Sub t s) (k : Sub u s) : Sub (t ++ u) s := by
  induction h with
  | nil s => exact k
  | cons h _ ih => exact .cons h (ih k)
/-- A loop: what holds of the slots that it turns (u); the others are kept (t). -/
theorem Runs.loopQ {c : Code} (ns : List Nat) {t : Wr} (ht : keepK s ns some = some t)
    (main : ∀ Q : Wr → Prop, (∀ u, Runs P fn X Y w0 N R (.code c :: .inLoop c :: K) (u ++ t) → Q u) → (∀ u s', Q u → Sub (u ++ t) s' → okBx (u ++ t) = true → Runs P fn X Y w0 N R (.inLoop c :: K) s') → ∃ u, Q u ∧ Sub u s ∧ okBx (u ++ t) = true) :
    Runs P fn X Y w0 N R (.code (.loop c) :: K) s := by
  obtain ⟨t', h1, h2⟩ := keepK_sub s ns some
  rw [h1] at ht
  injection ht with ht
  subst ht
  obtain ⟨u, hq, hu, hb⟩ := main (fun u => Runs P fn X Y w0 N R (.code c :: .inLoop c :: K) (u ++ t')) (fun u h => h) (fun u s' hq hs hb => Runs.inLoop (Runs.weak hs hb hq))
  exact Runs.loop (Runs.weak (hu.append h2) hb hq)
/-- Ways that meet again. -/
theorem Runs.cutQ {x y : Code} (ns : List Nat) {t : Wr} (ht : keepK s ns some = some t)
    (main : ∀ Q : Wr → Prop, (∀ u, Runs P fn X Y w0 N R (.code y :: K) (u ++ t) → Q u) → (∀ u s', Q u → Sub (u ++ t) s' → okBx (u ++ t) = true → Runs P fn X Y w0 N R (.code y :: K) s') → Runs P fn X Y w0 N R (.code x :: .code y :: K) s) :
    Runs P fn X Y w0 N R (.code (.seq x y) :: K) s :=
  Runs.seq (main (fun u => Runs P fn X Y w0 N R (.code y :: K) (u ++ t)) (fun u h => h) fun u s' hq hs hb => Runs.weak hs hb hq)
end
end Go.Proofs.YtgjpphcbdbfhlaaGreat.L.EV
namespace Go.Proofs.YtgjpphcbdbfhlaaGreat.L.EV
open Go.RowKit Go.Proofs Go.Proofs.YtgjpphcbdbfhlaaGreatW.PrintWords Go.Proofs.YtgjpphcbdbfhlaaGreatW.PrintLast
universe u
section
variable {P : Program} {X : Nat → Prop} {w : World} {fn : Func}
def CVs.num : Nat → List CV → List CV
  | _, [] => []
  | b, c :: cs => (match c with | .ow _ _ _ => .rp b | c => c) :: CVs.num (b + 1) cs
def CVs.ini : Nat → List CV → Wr
  | _, [] => []
  | b, .ow e k xs :: cs => (2 * b + 1, .row e k xs) :: CVs.ini (b + 1) cs
  | b, _ :: cs => CVs.ini (b + 1) cs
def PV.slot (b : Nat) : PV → PV
  | .c (.ow _ _ _) => .c (.rp b)
  | .ag cs => .ag (CVs.num b cs)
  | .ob _ _ => .c (.bx b 0)
  | x => x
def PV.ini (b : Nat) : PV → Wr
  | .c (.ow e k xs) => [(2 * b + 1, .row e k xs)]
  | .ag cs => CVs.ini b cs
  | .ob T cs => (2 * b + 1, .mem T (CVs.num (b + 1) cs)) :: CVs.ini (b + 1) cs
  | _ => []
def AV.slot (b : Nat) : AV → AV
  | .p x => .p (x.slot b)
  | v => v
def AV.ini (b : Nat) : AV → Wr
  | .p x => x.ini b
  | _ => []
def initS : Nat → Nat → List AV → Wr
  | _, _, [] => []
  | n, b, v :: vs => (2 * n, v.slot b) :: (v.ini b ++ initS (n + 1) (b + v.owF.length) vs)
/-- A list seen from further on. -/
def Seg {α : Type} (l m : List α) (i : Nat) : Prop := ∀ (t : Nat) (y : α), l[t]? = some y → m[i + t]? = some y
theorem Seg.refl {α : Type} (l : List α) : Seg l l 0 := fun t y h => by rw [Nat.zero_add]; exact h
theorem Seg.left {α : Type} {l l' m : List α} {i : Nat} (h : Seg (l ++ l') m i) : Seg l m i := fun t y hy => h t y (by rw [List.getElem?_append_left (List.getElem?_eq_some_iff.1 hy).1]; exact hy)
theorem Seg.right {α : Type} {l l' m : List α} {i : Nat} (h : Seg (l ++ l') m i) : Seg l' m (i + l.length) := fun t y hy => by
  have := h (l.length + t) y (by rw [List.getElem?_append_right (by omega), Nat.add_sub_cancel_left]; exact hy)
  rwa [← Nat.add_assoc] at this
theorem Seg.tail {α : Type} {x : α} {l m : List α} {i : Nat} (h : Seg (x :: l) m i) : Seg l m (i + 1) := Seg.right (l := [x]) h
theorem Seg.head {α : Type} {x : α} {l m : List α} {i : Nat} (h : Seg (x :: l) m i) : m[i]? = some x := h 0 x rfl
/-- What an entry tells. -/
inductive Ent (Z : Nat → Prop) (w : World) (fs : List Bool) (gs : List Value) (B : Nat) (κ : Nat) : AV → Prop
  | row {i : Nat} {u : Value} {α : Type} {e : Nat} {k : EK α} {xs : List α} (h0 : κ = 2 * (B + i) + 1) (h1 : fs[i]? = some true) (h2 : gs[i]? = some u) (h3 : RowOwn Z w e k u xs) : Ent Z w fs gs B κ (.row e k xs)
  | mem {i : Nat} {T : Nat} {cs : List CV} {g : Nat} {us : List Value} (h0 : κ = 2 * (B + i) + 1) (h1 : fs[i]? = some true) (h2 : gs[i]? = some (.pointer (some ⟨g, 0, none⟩))) (h3 : w.heap[g]? = some (.cells us.toArray T (0, 0))) (h4 : CVs.relg Z w cs us)
      (h5 : Seg (cs.map CV.isOw) fs (i + 1)) (h6 : Seg us gs (i + 1)) : Ent Z w fs gs B κ (.mem T (CVs.num (B + i + 1) cs))
section
variable {Z : Nat → Prop} {fs : List Bool} {gs : List Value} {B : Nat}
theorem CVs.ini_mem : ∀ {i : Nat} {cs : List CV} {us : List Value} {κ : Nat} {v : AV}, CVs.relg Z w cs us → Seg (cs.map CV.isOw) fs i → Seg us gs i → (κ, v) ∈ CVs.ini (B + i) cs → Ent Z w fs gs B κ v
  | i, [], [], κ, v, _, _, _, hm => by unfold CVs.ini at hm; simp at hm
  | i, c :: cs, u :: us, κ, v, h, hf, hg, hm => by
    have tl : (κ, v) ∈ CVs.ini (B + i + 1) cs → Ent Z w fs gs B κ v := fun hm => CVs.ini_mem (i := i + 1) h.2.2 hf.tail hg.tail (by rw [← Nat.add_assoc]; exact hm)
    cases c with
    | ow e k xs =>
      unfold CVs.ini at hm
      rcases List.mem_cons.1 hm with e1 | hm
      · cases e1; exact .row rfl hf.head hg.head h.1
      · exact tl hm
    | _ => unfold CVs.ini at hm; exact tl hm
  | _, [], _ :: _, _, _, h, _, _, _ => h.elim
  | _, _ :: _, [], _, _, h, _, _, _ => h.elim
theorem PV.ini_mem {i : Nat} {x : PV} {u : Value} {g1 : List Value} {κ : Nat} {v : AV} (h : x.relg Z w u g1) (hf : Seg x.owF fs i) (hg : Seg g1 gs i) (hm : (κ, v) ∈ x.ini (B + i)) : Ent Z w fs gs B κ v := by
  cases x with
  | c x =>
    cases x with
    | ow e k xs =>
      obtain ⟨rfl, h⟩ := h
      unfold PV.ini at hm
      simp at hm
      obtain ⟨rfl, rfl⟩ := hm
      exact .row rfl hf.head hg.head h
    | _ => unfold PV.ini at hm; simp at hm
  | ag cs => obtain ⟨_, h⟩ := h; exact CVs.ini_mem h hf hg hm
  | fb cs => unfold PV.ini at hm; simp at hm
  | ob T cs =>
    obtain ⟨g, us, rfl, rfl, h1, h2⟩ := h
    have hm : (κ, v) ∈ (2 * (B + i) + 1, AV.mem T (CVs.num (B + i + 1) cs)) :: CVs.ini (B + i + 1) cs := hm
    rcases List.mem_cons.1 hm with e1 | hm
    · cases e1; exact .mem rfl hf.head hg.head h1 h2 (Seg.tail hf) hg.tail
    · exact CVs.ini_mem (i := i + 1) h2 (Seg.tail hf) hg.tail (by rw [← Nat.add_assoc]; exact hm)
theorem relg_len : ∀ {cs : List CV} {us : List Value}, CVs.relg Z w cs us → us.length = cs.length
  | [], [], _ => rfl
  | _ :: _, _ :: _, h => by simp [relg_len h.2.2]
  | [], _ :: _, h => h.elim
  | _ :: _, [], h => h.elim
theorem AV.relg_len {v : AV} {u : Value} {g1 : List Value} (h : v.relg Z w u g1) : g1.length = v.owF.length := by
  cases v with
  | p x =>
    cases x with
    | c x => obtain ⟨rfl, _⟩ := h; rfl
    | ag cs => obtain ⟨_, h⟩ := h; simpa [AV.owF, PV.owF] using EV.relg_len h
    | fb cs => obtain ⟨rfl, _⟩ := h; rfl
    | ob T cs => obtain ⟨g, us, _, rfl, _, h⟩ := h; simpa [AV.owF, PV.owF] using EV.relg_len h
  | _ => obtain ⟨rfl, _⟩ := h; rfl
theorem Args.relg_len : ∀ {vs : List AV} {us g1 : List Value}, Args.relg Z w vs us g1 → g1.length = (owFs vs).length ∧ us.length = vs.length
  | [], [], g1, h => by have h : g1 = [] := h; subst h; exact ⟨rfl, rfl⟩
  | v :: vs, u :: us, g1, h => by
    obtain ⟨ga, gb, rfl, h1, h2⟩ := h
    obtain ⟨e1, e2⟩ := Args.relg_len h2
    exact ⟨by unfold owFs; rw [List.length_append, List.length_append, AV.relg_len h1, e1], by simp [e2]⟩
  | [], _ :: _, _, h => h.elim
  | _ :: _, [], _, h => h.elim
theorem initS_odd : ∀ {n i : Nat} {vs : List AV} {us g1 : List Value} {q : Nat} {v : AV}, Args.relg Z w vs us g1 → Seg (owFs vs) fs i → Seg g1 gs i → (2 * q + 1, v) ∈ initS n (B + i) vs → Ent Z w fs gs B (2 * q + 1) v
  | n, i, [], [], g1, q, v, _, _, _, hm => by unfold initS at hm; simp at hm
  | n, i, a :: vs, u :: us, g1, q, v, h, hf, hg, hm => by
    obtain ⟨ga, gb, rfl, h1, h2⟩ := h
    have hm : (2 * q + 1, v) ∈ (2 * n, a.slot (B + i)) :: (a.ini (B + i) ++ initS (n + 1) (B + i + a.owF.length) vs) := hm
    rcases List.mem_cons.1 hm with e1 | hm
    · injection e1 with e1 _; omega
    · rcases List.mem_append.1 hm with hm | hm
      · cases a with
        | p x => exact PV.ini_mem h1 hf.left hg.left hm
        | _ => unfold AV.ini at hm; simp at hm
      · have hl := AV.relg_len h1
        exact initS_odd (i := i + a.owF.length) h2 hf.right (by rw [← hl]; exact hg.right) (by rw [← Nat.add_assoc]; exact hm)
  | _, _, [], _ :: _, _, _, _, h, _, _, _ => h.elim
  | _, _, _ :: _, [], _, _, _, h, _, _, _ => h.elim
theorem initS_even : ∀ {n i : Nat} {vs : List AV} {us g1 : List Value} {m : Nat} {v : AV}, Args.relg Z w vs us g1 → Seg (owFs vs) fs i → Seg g1 gs i → (2 * m, v) ∈ initS n (B + i) vs →
    ∃ (j i' : Nat) (a : AV) (u : Value) (ga : List Value), m = n + j ∧ us[j]? = some u ∧ v = a.slot (B + i') ∧ a.relg Z w u ga ∧ Seg a.owF fs i' ∧ Seg ga gs i'
  | n, i, [], [], g1, m, v, _, _, _, hm => by unfold initS at hm; simp at hm
  | n, i, a :: vs, u :: us, g1, m, v, h, hf, hg, hm => by
    obtain ⟨ga, gb, rfl, h1, h2⟩ := h
    have hm : (2 * m, v) ∈ (2 * n, a.slot (B + i)) :: (a.ini (B + i) ++ initS (n + 1) (B + i + a.owF.length) vs) := hm
    rcases List.mem_cons.1 hm with e1 | hm
    · injection e1 with e1 e2
      exact ⟨0, i, a, u, ga, by omega, rfl, e2, h1, hf.left, hg.left⟩
    · rcases List.mem_append.1 hm with hm | hm
      · exfalso
        have odd : ∀ (cs : List CV) (b : Nat), ∀ p ∈ CVs.ini b cs, ∃ q, p.1 = 2 * q + 1 := by
          intro cs
          induction cs with
          | nil => intro b p hp; unfold CVs.ini at hp; simp at hp
          | cons c cs ih =>
            intro b p hp
            cases c with
            | ow e k xs =>
              unfold CVs.ini at hp
              rcases List.mem_cons.1 hp with rfl | hp
              · exact ⟨b, rfl⟩
              · exact ih _ p hp
            | _ => unfold CVs.ini at hp; exact ih _ p hp
        have : ∃ q, 2 * m = 2 * q + 1 := by
          cases a with
          | p x =>
            cases x with
            | c x =>
              cases x with
              | ow e k xs => have hm : (2 * m, v) ∈ [(2 * (B + i) + 1, AV.row e k xs)] := hm; simp at hm; exact ⟨_, hm.1⟩
              | _ => have hm : (2 * m, v) ∈ ([] : Wr) := hm; simp at hm
            | ag cs => exact odd cs _ _ hm
            | fb cs => have hm : (2 * m, v) ∈ ([] : Wr) := hm; simp at hm
            | ob T cs =>
              have hm : (2 * m, v) ∈ (2 * (B + i) + 1, AV.mem T (CVs.num (B + i + 1) cs)) :: CVs.ini (B + i + 1) cs := hm
              rcases List.mem_cons.1 hm with e1 | hm
              · injection e1 with e1 _; exact ⟨_, e1⟩
              · exact odd cs _ _ hm
          | _ => unfold AV.ini at hm; simp at hm
        obtain ⟨q, hq⟩ := this
        omega
      · have hl := AV.relg_len h1
        obtain ⟨j, i', a', u', ga', e1, e2, e3⟩ := initS_even (n := n + 1) (i := i + a.owF.length) h2 hf.right (by rw [← hl]; exact hg.right) (by rw [← Nat.add_assoc]; exact hm)
        exact ⟨j + 1, i', a', u', ga', by omega, by simpa using e2, e3⟩
  | _, _, [], _ :: _, _, _, _, h, _, _, _ => h.elim
  | _, _, _ :: _, [], _, _, _, h, _, _, _ => h.elim
/-- Each own part has an entry. -/
theorem CVs.ini_has : ∀ {b : Nat} {cs : List CV} {t : Nat}, (cs.map CV.isOw)[t]? = some true → ∃ v, (2 * (b + t) + 1, v) ∈ CVs.ini b cs
  | b, [], t, h => by simp at h
  | b, c :: cs, 0, h => by
    cases c <;> first | (simp [CV.isOw] at h; done) | exact ⟨_, List.mem_cons_self ..⟩
  | b, c :: cs, t + 1, h => by
    obtain ⟨v, hv⟩ := CVs.ini_has (b := b + 1) (t := t) (by simpa using h)
    rw [show b + 1 + t = b + (t + 1) from by omega] at hv
    refine ⟨v, ?_⟩
    cases c <;> first | (unfold CVs.ini; exact List.mem_cons_of_mem _ hv) | (unfold CVs.ini; exact hv)
theorem PV.ini_has {b : Nat} {x : PV} {t : Nat} (h : x.owF[t]? = some true) : ∃ v, (2 * (b + t) + 1, v) ∈ x.ini b := by
  cases x with
  | c x =>
    cases t with
    | succ t => simp [PV.owF] at h
    | zero => cases x <;> first | (simp [PV.owF, CV.isOw] at h; done) | exact ⟨_, List.mem_cons_self ..⟩
  | ag cs => exact CVs.ini_has h
  | fb cs => cases t <;> simp [PV.owF] at h
  | ob T cs =>
    cases t with
    | zero => exact ⟨_, List.mem_cons_self ..⟩
    | succ t =>
      obtain ⟨v, hv⟩ := CVs.ini_has (b := b + 1) (t := t) (by simpa [PV.owF] using h)
      rw [show b + 1 + t = b + (t + 1) from by omega] at hv
      exact ⟨v, List.mem_cons_of_mem _ hv⟩
theorem initS_has : ∀ {n b : Nat} {vs : List AV} {t : Nat}, (owFs vs)[t]? = some true → ∃ v, (2 * (b + t) + 1, v) ∈ initS n b vs
  | n, b, [], t, h => by simp [owFs] at h
  | n, b, a :: vs, t, h => by
    unfold owFs at h
    by_cases hl : t < a.owF.length
    · rw [List.getElem?_append_left hl] at h
      have : ∃ v, (2 * (b + t) + 1, v) ∈ a.ini b := by
        cases a with
        | p x => exact PV.ini_has h
        | _ => cases t <;> simp [AV.owF] at h
      obtain ⟨v, hv⟩ := this
      exact ⟨v, List.mem_cons_of_mem _ (List.mem_append_left _ hv)⟩
    · rw [List.getElem?_append_right (by omega)] at h
      obtain ⟨v, hv⟩ := initS_has (n := n + 1) (b := b + a.owF.length) h
      rw [show b + a.owF.length + (t - a.owF.length) = b + t from by omega] at hv
      exact ⟨v, List.mem_cons_of_mem _ (List.mem_append_right _ hv)⟩
variable {L : Nat → Prop} {η : Nat → Value}
theorem CVs.num_rel : ∀ {b : Nat} {cs : List CV} {us : List Value}, CVs.relg Z w cs us → (∀ t : Nat, (cs.map CV.isOw)[t]? = some true → L (b + t)) → (∀ (t : Nat) (y : Value), us[t]? = some y → η (b + t) = y) → CVs.rel L Z η w (CVs.num b cs) us
  | b, [], [], _, _, _ => trivial
  | b, c :: cs, u :: us, h, hL, hη => by
    unfold CVs.num
    have tl := CVs.num_rel (b := b + 1) h.2.2 (fun t ht => by have := hL (t + 1) (by simpa using ht); rwa [show b + (t + 1) = b + 1 + t from by omega] at this) (fun t y hy => by have := hη (t + 1) y (by simpa using hy); rwa [show b + (t + 1) = b + 1 + t from by omega] at this)
    cases c with
    | ow e k xs => exact ⟨⟨hL 0 rfl, (hη 0 u rfl).symm⟩, h.2.1, tl⟩
    | _ => exact ⟨CV.relg_rel rfl h.1, h.2.1, tl⟩
  | _, [], _ :: _, h, _, _ => h.elim
  | _, _ :: _, [], h, _, _ => h.elim
theorem PV.slot_rel {b : Nat} {x : PV} {u : Value} {g1 : List Value} (h : x.relg Z w u g1) (hL : ∀ t : Nat, x.owF[t]? = some true → L (b + t)) (hη : ∀ (t : Nat) (y : Value), g1[t]? = some y → η (b + t) = y) : (x.slot b).rel L Z η w u := by
  cases x with
  | c x =>
    obtain ⟨rfl, h⟩ := h
    cases x with
    | ow e k xs => exact ⟨hL 0 rfl, (hη 0 u rfl).symm⟩
    | _ => exact CV.relg_rel (L := L) (η1 := η) rfl h
  | ag cs => obtain ⟨e, h⟩ := h; exact ⟨g1, e, CVs.num_rel h hL hη⟩
  | fb cs => exact PV.rel_noL (x := .fb cs) h.2
  | ob T cs => obtain ⟨g, us, rfl, rfl, h1, h2⟩ := h; exact ⟨hL 0 rfl, g, hη 0 _ rfl, rfl⟩
theorem AV.slot_rel {b : Nat} {v : AV} {u : Value} {g1 : List Value} (h : v.relg Z w u g1) (hL : ∀ t : Nat, v.owF[t]? = some true → L (b + t)) (hη : ∀ (t : Nat) (y : Value), g1[t]? = some y → η (b + t) = y) : (v.slot b).rel L Z η w u := by
  cases v with
  | p x => exact PV.slot_rel h hL hη
  | fn f l => exact AV.rel_noL (x := .fn f l) h.2
  | ai xs => exact AV.rel_noL (x := .ai xs) h.2
  | tp l => exact AV.rel_noL (x := .tp l) h.2
  | _ => trivial
end
theorem look_mem : ∀ {s : Wr} {n : Nat}, look s n = .any ∨ (n, look s n) ∈ s
  | [], n => .inl rfl
  | (k, v) :: s, n => by
    rw [look_cons]
    unfold upd
    split
    · rename_i e; subst e; exact .inr (List.mem_cons_self ..)
    · rcases look_mem (s := s) (n := n) with h | h
      · exact .inl h
      · exact .inr (List.mem_cons_of_mem _ h)
theorem look_has : ∀ {s : Wr} {n : Nat} {v : AV}, (n, v) ∈ s → (n, look s n) ∈ s
  | (k, x) :: s, n, v, h => by
    rw [look_cons]
    unfold upd
    split
    · rename_i e; subst e; exact List.mem_cons_self ..
    · rename_i e
      rcases List.mem_cons.1 h with h | h
      · cases h; exact absurd rfl e
      · exact List.mem_cons_of_mem _ (look_has h)
theorem init_rl {args : List AV} {vs gs : List Value} {w : World} {N : Nat} (hX : ∀ k, X k → k < w.heap.size) (hA : ArgOk X w args vs gs) (hl : args.length ≤ N) (hn : (owFs args).length ≤ 256) :
    Rl X (pinY N (owFs args) gs) w N (fun r => gs.getD (r - 2 * N) undef) (look (initS 0 (2 * N) args)) { tmps := vs.toArray ++ Array.replicate (N - vs.toArray.size) undef, defers := [] } w := by
  obtain ⟨hlg, hlv⟩ := Args.relg_len hA.rel
  have ent : ∀ q v, (2 * q + 1, v) ∈ initS 0 (2 * N) args → Ent (fun k => X k ∨ Zb (owFs args) gs k) w (owFs args) gs (2 * N) (2 * q + 1) v := fun q v hm => initS_odd (i := 0) (B := 2 * N) hA.rel (Seg.refl _) (Seg.refl _) hm
  have hη : ∀ (i : Nat) (y : Value), gs[i]? = some y → gs.getD (2 * N + i - 2 * N) undef = y := fun i y hy => by rw [show 2 * N + i - 2 * N = i from by omega, List.getD_eq_getElem?_getD, hy]; rfl
  have own : ∀ q, (look (initS 0 (2 * N) args) (2 * q + 1)).isOwn = true → Ent (fun k => X k ∨ Zb (owFs args) gs k) w (owFs args) gs (2 * N) (2 * q + 1) (look (initS 0 (2 * N) args) (2 * q + 1)) := by
    intro q hq
    rcases look_mem (s := initS 0 (2 * N) args) (n := 2 * q + 1) with h | h
    · rw [h] at hq; cases hq
    · exact ent q _ h
  have live : ∀ i : Nat, (owFs args)[i]? = some true → Live (look (initS 0 (2 * N) args)) (2 * N + i) := by
    intro i hi
    obtain ⟨v, hv⟩ := initS_has (n := 0) (b := 2 * N) hi
    have := ent _ _ (look_has hv)
    unfold Live
    generalize look (initS 0 (2 * N) args) (2 * (2 * N + i) + 1) = x at this
    cases this <;> rfl
  have bkO : ∀ q k, bk (fun r => gs.getD (r - 2 * N) undef) (look (initS 0 (2 * N) args)) q = some k → ∃ i, q = 2 * N + i ∧ Ob (owFs args) gs i k := by
    intro q k hk
    obtain ⟨h1, h2⟩ := bk_some hk
    have h3 := own q h1
    have : ∃ (i : Nat) (u : Value), 2 * q + 1 = 2 * (2 * N + i) + 1 ∧ (owFs args)[i]? = some true ∧ gs[i]? = some u := by
      generalize look (initS 0 (2 * N) args) (2 * q + 1) = x at h3
      cases h3 with
      | row e0 e1 e2 _ => exact ⟨_, _, e0, e1, e2⟩
      | mem e0 e1 e2 _ _ _ _ => exact ⟨_, _, e0, e1, e2⟩
    obtain ⟨i, u, e0, e1, e2⟩ := this
    have : q = 2 * N + i := by omega
    subst this
    have h9 : vb (gs.getD (2 * N + i - 2 * N) undef) = some k := h2
    rw [hη i u e2] at h9
    exact ⟨i, rfl, e1, u, e2, h9⟩
  have hOwn : ∀ i, Own X (fun r => gs.getD (r - 2 * N) undef) (look (initS 0 (2 * N) args)) i → X i ∨ Zb (owFs args) gs i := by
    rintro i (hi | ⟨q, hq⟩)
    · exact .inl hi
    · obtain ⟨j, _, hj⟩ := bkO q i hq; exact .inr ⟨j, hj⟩
  have hsize : ∀ k, Zb (owFs args) gs k → k < w.heap.size := by
    rintro k ⟨i, hi, u, hu, hk⟩
    obtain ⟨v, hv⟩ := initS_has (n := 0) (b := 2 * N) hi
    have := ent _ _ hv
    cases this with
    | @row i' u' α' e' k' xs' e0 e1 e2 e3 =>
      have : i' = i := by omega
      subst this
      rw [hu] at e2
      cases e2
      exact e3.lt hk
    | @mem i' T' cs' g us e0 e1 e2 e3 e4 e5 e6 =>
      have : i' = i := by omega
      subst this
      rw [hu] at e2
      cases e2
      cases hk
      exact (Array.getElem?_eq_some_iff.1 e3).1
  refine ⟨rfl, by simp only [Array.size_append, List.size_toArray, Array.size_replicate, hlv]; omega, Ext.refl _ _, hX, hA.apart, hsize, ?_, ?_, ?_, ?_, ?_, ?_, ?_, ?_⟩
  · intro q k hk; obtain ⟨i, _, hi⟩ := bkO q k hk; exact .inr ⟨i, hi⟩
  · intro q q' k hk hk'
    obtain ⟨i, rfl, hi⟩ := bkO q k hk
    obtain ⟨i', rfl, hi'⟩ := bkO q' k hk'
    rw [hA.inj i i' k hi hi']
  · intro m
    rcases look_mem (s := initS 0 (2 * N) args) (n := 2 * m) with h | h
    · rw [h]; trivial
    · obtain ⟨j, i', a, u, ga, e1, e2, e3, e4, e5, e6⟩ := initS_even (i := 0) (B := 2 * N) hA.rel (Seg.refl _) (Seg.refl _) h
      rw [e3]
      have hval : (vs.toArray ++ Array.replicate (N - vs.toArray.size) undef).getD m undef = u := by
        have hj := (List.getElem?_eq_some_iff.1 e2).1
        rw [Nat.zero_add] at e1
        subst e1
        rw [Array.getD_eq_getD_getElem?, Array.getElem?_append_left (by simpa using hj)]
        simp [e2]
      simp only
      rw [hval]
      refine AV.rel_step (AV.slot_rel (L := Live (look (initS 0 (2 * N) args))) (η := fun r => gs.getD (r - 2 * N) undef) e4 (fun t ht => ?_) (fun t y hy => ?_)) (Ext.refl _ _) (fun i hi _ => hOwn i hi) (fun _ h => h) (fun _ _ => rfl)
      · rw [Nat.add_assoc]; exact live _ (e5 t _ ht)
      · rw [Nat.add_assoc]; exact hη _ y (e6 t y hy)
  · intro b T cs e
    have h3 := own b (by rw [e]; rfl)
    rw [e] at h3
    generalize hv : AV.mem T cs = v at h3
    cases h3 with
    | row e0 e1 e2 e3 => cases hv
    | @mem i T' cs' g us e0 e1 e2 e3 e4 e5 e6 =>
      cases hv
      have : b = 2 * N + i := by omega
      subst this
      refine ⟨g, us, hη i _ e2, e3, ?_⟩
      refine CVs.rel_step (e := Ext.refl _ _) (fun i hi _ => hOwn i hi) (fun _ h => h) (fun _ _ => rfl) (CVs.num_rel (L := Live (look (initS 0 (2 * N) args))) (η := fun r => gs.getD (r - 2 * N) undef) e4 (fun t ht => ?_) (fun t y hy => ?_))
      · rw [Nat.add_assoc, Nat.add_assoc, ← Nat.add_assoc i 1 t]; exact live _ (e5 t _ ht)
      · rw [Nat.add_assoc, Nat.add_assoc, ← Nat.add_assoc i 1 t]; exact hη _ y (e6 t y hy)
  · intro r α e k xs hr
    have h3 := own r (by rw [hr]; rfl)
    rw [hr] at h3
    generalize hv : AV.row e k xs = v at h3
    cases h3 with
    | mem e0 e1 e2 e3 e4 e5 e6 => cases hv
    | @row i u α' e' k' xs' e0 e1 e2 e3 =>
      cases hv
      have : r = 2 * N + i := by omega
      subst this
      show RowOwn _ w e k (gs.getD (2 * N + i - 2 * N) undef) xs
      rw [hη i u e2]
      exact e3.kept (Ext.refl _ _) (fun i hi _ => hOwn i hi) fun _ _ => rfl
  · intro r α k xs hr
    rcases look_mem (s := initS 0 (2 * N) args) (n := 2 * r + 1) with h | h
    · rw [h] at hr; cases hr
    · have := ent r _ h
      rw [hr] at this
      cases this
  · intro r v hp hr
    obtain ⟨g1, g2, g3⟩ := pinY_inv hp
    rw [List.getD_eq_getElem?_getD, g3]
    rfl
  · intro r v hp
    obtain ⟨g1, g2, g3⟩ := pinY_inv hp
    have := (List.getElem?_eq_some_iff.1 g2).1
    omega
def outsOk (fs : List Bool) (out : Outs) : Bool := out.all fun p => match fs[p.1]? with | some true => true | _ => false
theorem Con.mk' {f : Nat} {c : Code} {args : List AV} {r : AV} {out : Outs} (hf : P.funcs[f]? = some fn) (hb : fn.body = some c) (hc : callable P f = true) (hl : (Nat.ble args.length fn.ntmps && Nat.ble (owFs args).length 256) = true)
    (hr : EV.one r.list = r) (ho : outsOk (owFs args) out = true)
    (h : ∀ X w0 gs, Fin fn.ntmps (owFs args) gs r out → Runs P fn X (pinY fn.ntmps (owFs args) gs) w0 fn.ntmps (RetOk X w0 (owFs args) gs r out) [.code c] (initS 0 (2 * fn.ntmps) args)) : Con P f args r out := by
  rw [Bool.and_eq_true] at hl
  refine ⟨hc, fun X w vs gs hX hA => ?_⟩
  intro cs
  let b : Frame := { (default : Frame) with fn := f, kind := .normal }
  have henter : Frame.enter P f vs.toArray .normal = b.at { tmps := vs.toArray ++ Array.replicate (fn.ntmps - vs.toArray.size) undef, defers := [] } [.code c] := by
    simp [Frame.enter, Frame.at, hf, hb, b]
  obtain ⟨hlg, hlv⟩ := Args.relg_len hA.rel
  have hout : ∀ p ∈ out, (owFs args)[p.1]? = some true := by
    intro p hp
    have := List.all_eq_true.1 ho p hp
    split at this
    · assumption
    · cases this
  obtain ⟨a', w', v, h1, h2, h3, todo, h4⟩ := (h X w gs ⟨hlg, hr, hout⟩).out _ _ w (init_rl hX hA (Nat.le_of_ble_eq_true hl.1) (Nat.le_of_ble_eq_true hl.2)) b cs
  rw [← henter] at h4
  exact ⟨.returned v, w', _, ⟨v, rfl, h3⟩, h4, rfl, rfl, h1, rfl, fn, hf, h2⟩
end
end Go.Proofs.YtgjpphcbdbfhlaaGreat.L.EV
namespace Go.Proofs.YtgjpphcbdbfhlaaGreat.L.EV
open Go.RowKit Go.Proofs Go.Proofs.YtgjpphcbdbfhlaaGreatW.PrintWords Go.Proofs.YtgjpphcbdbfhlaaGreatW.PrintLast
universe u
section
variable {P : Program} {X : Nat → Prop} {Y : Came} {w0 w : World} {N : Nat} {η : Nat → Value} {σ : Nat → AV} {a : Act} {fn : Func} {R : Value → World → Prop} {K : List Item} {s : Wr}
theorem free_none (h : Rl X Y w0 N η σ a w) {r : Nat} (hf : freeN N r = true) : Y.y r = none := by
  cases hy : Y.y r with
  | none => rfl
  | some v =>
    obtain ⟨h1, h2⟩ := h.ypin r v hy
    unfold freeN at hf
    rw [Bool.or_eq_true] at hf
    rcases hf with hf | hf
    · have := Nat.le_of_ble_eq_true hf; omega
    · have := Nat.le_of_ble_eq_true hf; omega
def isNil : AV → Bool
  | .p (.c (.v (.slice none 0 0))) => true
  | _ => false
theorem isNil_inv {v : AV} (h : isNil v = true) : v = .p (.c (.v (.slice none 0 0))) := by
  unfold isNil at h
  split at h
  · rfl
  · cases h
/-- A box's nil cell, turned to a row of one's own. -/
def CV.nilTo (c d : CV) : Option Nat := match d with
  | .rp r => (match c with | .v (.slice none 0 0) => some r | _ => none)
  | _ => none
theorem CV.nilTo_inv {c d : CV} {r : Nat} (h : CV.nilTo c d = some r) : c = .v (.slice none 0 0) := by
  unfold CV.nilTo at h
  split at h
  · split at h
    · rfl
    · cases h
  · cases h
def coeCs : List CV → List CV → Option (List CV × Nat)
  | c :: cs, d :: ds => (match CV.nilTo c d with
    | some r => some (.rp r :: cs, r)
    | none => (match coeCs cs ds with
      | some p => some (c :: p.1, p.2)
      | none => none))
  | _, _ => none
theorem coeCs_rel {L Z : Nat → Prop} {η : Nat → Value} {w : World} : ∀ {cs ds l : List CV} {us : List Value} {r : Nat}, coeCs cs ds = some (l, r) → CVs.rel L Z η w cs us → L r → η r = .slice none 0 0 → CVs.rel L Z η w l us
  | [], ds, l, us, r, h, _, _, _ => by unfold coeCs at h; cases h
  | c :: cs, [], l, us, r, h, _, _, _ => by unfold coeCs at h; cases h
  | c :: cs, d :: ds, l, [], r, h, h1, _, _ => h1.elim
  | c :: cs, d :: ds, l, u :: us, r, h, h1, h2, h3 => by
    unfold coeCs at h
    split at h
    · rename_i r' e
      cases h
      obtain ⟨a1, a2, a3⟩ := h1
      refine ⟨⟨h2, ?_⟩, a2, a3⟩
      rw [CV.nilTo_inv e] at a1
      have a1 : u = .slice none 0 0 := a1
      rw [a1, h3]
    · split at h
      · rename_i p e
        obtain ⟨l', r'⟩ := p
        cases h
        exact ⟨h1.1, h1.2.1, coeCs_rel e h1.2.2 h2 h3⟩
      · cases h
def coeB (N : Nat) (u : Wr) (σ : Nat → AV) (n : Nat) (ds : List CV) : Wr :=
  match σ (2 * n + 1) with
  | .mem T cs => (match coeCs cs ds with
    | some p => (match look u (2 * p.2 + 1) with
      | .row e k _ => (match freeN N p.2 && !(σ (2 * p.2 + 1)).isMem with
        | true => [(2 * n + 1, .mem T p.1), (2 * p.2 + 1, .row e k [])]
        | false => [])
      | _ => [])
    | none => [])
  | _ => []
theorem coeB_sound (h : Rl X Y w0 N η σ a w) (u : Wr) (n : Nat) (ds : List CV) : ∃ η', Rl X Y w0 N η' (app (coeB N u σ n ds) σ) a w := by
  have id : ∃ η', Rl X Y w0 N η' (app [] σ) a w := ⟨η, h⟩
  unfold coeB
  split
  · rename_i al T cs hm
    split
    · rename_i p hp
      obtain ⟨l, r⟩ := p
      split
      · rename_i al e k ys hu
        cases hb : (freeN N r && !(σ (2 * r + 1)).isMem) with
        | false => exact id
        | true =>
          simp only
          rw [Bool.and_eq_true, Bool.not_eq_true'] at hb
          have hYr : Y.y r = none := free_none h hb.1
          have hrn : n ≠ r := by rintro rfl; have := hb.2; rw [hm] at this; cases this
          have h1 := h.newRow (d := r) (e := e) (k := k) (v := .slice none 0 0) (xs := []) (cs := []) (w1 := w) hb.2 hYr ⟨by simp, fun j p hp => by simp at hp⟩ (Ext.refl _ _) (World.ownsRow_nil _ _ _ _) (fun b hb => by cases hb)
          have hm1 : upd σ (2 * r + 1) (.row e k []) (2 * n + 1) = .mem T cs := by rw [upd_ne _ _ (by omega)]; exact hm
          have hd : (upd σ (2 * r + 1) (.row e k []) (2 * n + 1)).isOwn = true := by rw [hm1]; rfl
          refine ⟨_, (h1.upd1 (d := n) (v := .mem T l) hd rfl (Ext.refl _ _) (fun T' cs' e' => ?_) (fun {α} e k xs e' => by cases e') (fun {α} k xs e' => by cases e')).congr fun m => rfl⟩
          cases e'
          obtain ⟨g, us, e1, e2, e3⟩ := h1.box n T cs hm1
          refine ⟨g, us, e1, e2, ?_⟩
          refine coeCs_rel hp (CVs.rel_step (e := Ext.refl _ _) (fun i hi _ => ?_) (Live.upd rfl) (fun _ _ => rfl) e3) ?_ ?_
          · rcases hi with hi | ⟨q, hi⟩
            · exact .inl hi
            · rcases bk_upd hi with ⟨rfl, _, h2⟩ | ⟨_, h1, h2⟩
              · exact .inr ⟨_, by rw [bk_of hd]; exact h2⟩
              · exact .inr ⟨q, by rw [bk_of h1]; exact h2⟩
          · show AV.isMem _ = true
            rw [upd_ne _ _ (by omega), upd_same]
            rfl
          · simp
      · exact id
    · exact id
  · exact id
/-- One slot's words turned to those that are wanted (u says what a new row is). -/
def coe1 (N : Nat) (u : Wr) (σ : Nat → AV) (n : Nat) (want : AV) : Wr :=
  match want with
  | .p (.c (.sl k _)) => (match isNil (σ (2 * n)) with
    | true => [(2 * n, .p (.c (.sl k [])))]
    | false => (match σ (2 * n) with
      | .p (.c (.rp q)) => (match σ (2 * q + 1) with
        | .row e k' xs => [(2 * n, .p (.c (.sl k' xs))), (2 * q + 1, .fz k' xs)]
        | .fz k' xs => [(2 * n, .p (.c (.sl k' xs)))]
        | _ => [])
      | _ => []))
  | .p (.c (.rp r)) => (match isNil (σ (2 * n)) with
    | true => (match look u (2 * r + 1) with
      | .row e k _ => (match freeN N r && !(σ (2 * r + 1)).isMem with
        | true => [(2 * n, .p (.c (.rp r))), (2 * r + 1, .row e k [])]
        | false => [])
      | _ => [])
    | false => [])
  | .mem _ ds => coeB N u σ n ds
  | _ => []
theorem coe1_sound (h : Rl X Y w0 N η σ a w) (u : Wr) (n : Nat) (want : AV) : ∃ η', Rl X Y w0 N η' (app (coe1 N u σ n want) σ) a w := by
  have id : ∃ η', Rl X Y w0 N η' (app [] σ) a w := ⟨η, h⟩
  unfold coe1
  split
  · rename_i al k ys
    cases hn : isNil (σ (2 * n)) with
    | true =>
      simp only
      refine ⟨η, h.reslot ?_⟩
      have := h.slot n
      rw [isNil_inv hn] at this
      have this : a.tmps.getD n undef = .slice none 0 0 := this
      rw [this]
      exact ⟨none, 0, rfl, Nat.le_refl _, by simp, fun h => by simp at h⟩
    | false =>
      simp only
      split
      · rename_i q hq
        have hs := h.slot n
        rw [hq] at hs
        obtain ⟨hl, he⟩ := hs
        split
        · rename_i al' e k' xs hr
          have h1 := h.freeze hr
          refine ⟨η, h1.reslot ?_⟩
          obtain ⟨A, c, f1, f2, f3⟩ := h1.fz q k' xs (upd_same _ _ _)
          rw [he, f1]
          exact ⟨A, c, rfl, f2, f3⟩
        · rename_i al' k' xs hr
          refine ⟨η, h.reslot ?_⟩
          obtain ⟨A, c, f1, f2, f3⟩ := h.fz q k' xs hr
          rw [he, f1]
          exact ⟨A, c, rfl, f2, f3⟩
        · exact id
      · exact id
  · rename_i r
    cases hn : isNil (σ (2 * n)) with
    | false => exact id
    | true =>
      simp only
      split
      · rename_i al e k ys hu
        cases hb : (freeN N r && !(σ (2 * r + 1)).isMem) with
        | false => exact id
        | true =>
          simp only
          rw [Bool.and_eq_true, Bool.not_eq_true'] at hb
          have hYr : Y.y r = none := free_none h hb.1
          have hs := h.slot n
          rw [isNil_inv hn] at hs
          have hs : a.tmps.getD n undef = .slice none 0 0 := hs
          have h1 := h.newRow (d := r) (e := e) (k := k) (v := .slice none 0 0) (xs := []) (cs := []) (w1 := w) hb.2 hYr ⟨by simp, fun j p hp => by simp at hp⟩ (Ext.refl _ _) (World.ownsRow_nil _ _ _ _) (fun b hb => by cases hb)
          refine ⟨_, (h1.reslot (d := n) (V := .p (.c (.rp r))) ⟨by unfold Live; rw [upd_same]; rfl, by rw [hs]; simp⟩).congr fun m => rfl⟩
      · exact id
  · exact coeB_sound h u n _
  · exact id
def coeK {γ : Type u} (N : Nat) (u : Wr) : Wr → Wr → (Wr → γ) → γ
  | [], s, k => k s
  | (n, want) :: r, s, k => appK (coe1 N u (look s) (n / 2) want) s fun s => coeK N u r s k
theorem Runs.coe {u : Wr} : ∀ {r s : Wr} {s' : Wr}, coeK N u r s some = some s' → Runs P fn X Y w0 N R K s' → Runs P fn X Y w0 N R K s
  | [], s, s', h, k => by cases h; exact k
  | (n, want) :: r, s, s', h, k => by
    unfold coeK at h
    rw [appK_eq] at h
    have ih := Runs.coe h k
    refine ⟨fun η a w hr => ?_⟩
    obtain ⟨η', h1⟩ := coe1_sound hr u (n / 2) want
    exact ih.out η' a w (by rw [look_app]; exact h1)
/-! ### Other numbers -/
def renKey (r q n : Nat) : Nat := match Nat.beq n (2 * r + 1) with
  | true => 2 * q + 1
  | false => n
def renW (r q : Nat) (s : Wr) : Wr := s.map fun p => (renKey r q p.1, p.2.ren r q)
def noKey (n : Nat) (s : Wr) : Bool := s.all fun p => !Nat.beq p.1 n
theorem renKey_eq (r q n : Nat) : renKey r q n = if n = 2 * r + 1 then 2 * q + 1 else n := by
  unfold renKey
  by_cases e : n = 2 * r + 1
  · subst e; simp [Nat.beq_refl]
  · have hb : Nat.beq n (2 * r + 1) = false := by cases hq : Nat.beq n (2 * r + 1) with | false => rfl | true => exact absurd (Nat.eq_of_beq_eq_true hq) e
    rw [hb, if_neg e]
theorem renW_look {r q : Nat} : ∀ {s : Wr}, noKey (2 * q + 1) s = true → ∀ n, look (renW r q s) (renKey r q n) = if n = 2 * q + 1 ∧ r ≠ q then look (renW r q s) (2 * q + 1) else (look s n).ren r q := by
  intro s
  induction s with
  | nil => intro _ n; split
           · rename_i h; rw [renKey_eq, h.1]; split <;> rfl
           · rfl
  | cons p s ih =>
    obtain ⟨m, v⟩ := p
    intro hs n
    unfold noKey at hs
    rw [List.all_cons, Bool.and_eq_true] at hs
    have hm : m ≠ 2 * q + 1 := by intro e; subst e; have := hs.1; simp [Nat.beq_refl] at this
    have ih := ih hs.2 n
    by_cases hn : n = 2 * q + 1 ∧ r ≠ q
    · rw [if_pos hn, renKey_eq, if_neg (by omega), hn.1]
    · rw [if_neg hn] at ih ⊢
      show look ((renKey r q m, v.ren r q) :: renW r q s) (renKey r q n) = _
      rw [look_cons, look_cons]
      by_cases e : n = m
      · subst e; rw [upd_same, upd_same]
      · rw [upd_ne _ _ e, upd_ne, ih]
        rw [renKey_eq, renKey_eq]
        by_cases e1 : n = 2 * r + 1
        · by_cases e2 : m = 2 * r + 1
          · omega
          · rw [if_pos e1, if_neg e2]; omega
        · by_cases e2 : m = 2 * r + 1
          · rw [if_neg e1, if_pos e2]
            intro e3
            exact hn ⟨e3, by omega⟩
          · rw [if_neg e1, if_neg e2]; exact e
theorem noKey_look {n : Nat} : ∀ {s : Wr}, noKey n s = true → look s n = .any
  | [], _ => rfl
  | (m, v) :: s, h => by
    unfold noKey at h
    rw [List.all_cons, Bool.and_eq_true] at h
    rw [look_cons, upd_ne]
    · exact noKey_look h.2
    · intro e; subst e; have := h.1; simp [Nat.beq_refl] at this
def okRen (N r q : Nat) (s : Wr) : Bool := freeN N r && !Nat.beq r q && noKey (2 * q + 1) s && okBx s
theorem Runs.ren {r q : Nat} (hok : okRen N r q s = true) (h : Runs P fn X Y w0 N R K s) : Runs P fn X Y w0 N R K (renW r q s) := by
  unfold okRen at hok
  simp only [Bool.and_eq_true, Bool.not_eq_true'] at hok
  obtain ⟨⟨⟨h1, h2⟩, h3⟩, h4⟩ := hok
  have hrq : r ≠ q := by intro e; subst e; rw [Nat.beq_refl] at h2; cases h2
  have hl := renW_look (r := r) h3
  refine ⟨fun η a w hr => h.out _ a w (hr.rename (σ := look s) (free_none hr h1) hrq (by rw [noKey_look h3]; rfl) (fun n b hb => okBx_look h4 n b hb) (fun n => ?_) (fun b hb1 hb2 => ?_) ?_)⟩
  · have := hl (2 * n)
    rw [renKey_eq, if_neg (by omega), if_neg (by omega)] at this
    exact this
  · have := hl (2 * b + 1)
    rw [renKey_eq, if_neg (by omega), if_neg (by omega)] at this
    exact this
  · have := hl (2 * r + 1)
    rw [renKey_eq, if_pos rfl, if_neg (by omega)] at this
    exact this
def okRens (N : Nat) : List (Nat × Nat) → Wr → Bool
  | [], _ => true
  | (r, q) :: m, s => okRen N r q s && okRens N m (renW r q s)
def renWs : List (Nat × Nat) → Wr → Wr
  | [], s => s
  | (r, q) :: m, s => renWs m (renW r q s)
theorem Runs.rens : ∀ {m : List (Nat × Nat)} {s : Wr}, okRens N m s = true → Runs P fn X Y w0 N R K s → Runs P fn X Y w0 N R K (renWs m s)
  | [], s, _, h => h
  | (r, q) :: m, s, hok, h => by
    unfold okRens at hok
    rw [Bool.and_eq_true] at hok
    show Runs P fn X Y w0 N R K (renWs m (renW r q s))
    exact Runs.rens (m := m) (s := renW r q s) hok.2 (Runs.ren hok.1 h)
/-- The new numbers that u wants for what s has. -/
def addRen (r q : Nat) (l : List (Nat × Nat)) : List (Nat × Nat) := match Nat.beq r q || l.any (fun p => Nat.beq p.1 r) with
  | true => l
  | false => (r, q) :: l
def renCs : List CV → List CV → List (Nat × Nat) → List (Nat × Nat)
  | .rp r :: cs, .rp q :: ds, l => renCs cs ds (addRen r q l)
  | .bx r _ :: cs, .bx q _ :: ds, l => renCs cs ds (addRen r q l)
  | _ :: cs, _ :: ds, l => renCs cs ds l
  | _, _, l => l
def mkRenA (v x : AV) (l : List (Nat × Nat)) : List (Nat × Nat) := match v with
  | .p (.c a) => (match x with | .p (.c b) => renCs [a] [b] l | _ => l)
  | .p (.ag cs) => (match x with | .p (.ag ds) => renCs cs ds l | _ => l)
  | .mem _ cs => (match x with | .mem _ ds => renCs cs ds l | _ => l)
  | _ => l
def mkRen (s : Wr) : Wr → List (Nat × Nat)
  | [] => []
  | (n, v) :: u => mkRenA v (look s n) (mkRen s u)
def renWK {γ : Type u} (r q : Nat) : Wr → (Wr → γ) → γ
  | [], k => k []
  | (n, v) :: s, k => fcps (v.ren r q) fun v => renWK r q s fun t => k ((renKey r q n, v) :: t)
theorem renWK_eq {γ : Type u} (r q : Nat) : ∀ (s : Wr) (k : Wr → γ), renWK r q s k = k (renW r q s)
  | [], _ => rfl
  | (n, v) :: s, k => by unfold renWK; rw [fcps_eq, renWK_eq r q s]; rfl
def rensK {γ : Type u} : List (Nat × Nat) → Wr → (Wr → γ) → γ
  | [], s, k => k s
  | (r, q) :: m, s, k => renWK r q s fun s => rensK m s k
theorem rensK_eq {γ : Type u} : ∀ (m : List (Nat × Nat)) (s : Wr) (k : Wr → γ), rensK m s k = k (renWs m s)
  | [], _, _ => rfl
  | (r, q) :: m, s, k => by unfold rensK; rw [renWK_eq, rensK_eq m]; rfl
/-- The state comes to what is wanted: u of what turns, t of what stays. -/
structure Into (N : Nat) (u t s : Wr) : Prop where
  mk' ::
  ex : ∃ s1 z : Wr, coeK N u u s some = some s1 ∧ okRens N (mkRen s1 u) (u ++ t) = true ∧ rensK (mkRen s1 u) (u ++ t) some = some z ∧ Sub z s1 ∧ okBx z = true
theorem Into.mk {N : Nat} {u t s s1 z : Wr} (h1 : coeK N u u s some = some s1) (h2 : okRens N (mkRen s1 u) (u ++ t) = true) (h3 : rensK (mkRen s1 u) (u ++ t) some = some z) (h4 : Sub z s1) (h5 : okBx z = true) : Into N u t s := ⟨⟨s1, z, h1, h2, h3, h4, h5⟩⟩
theorem Runs.into {u t : Wr} (h : Into N u t s) (k : Runs P fn X Y w0 N R K (u ++ t)) : Runs P fn X Y w0 N R K s := by
  obtain ⟨s1, z, h1, h2, h3, h4, h5⟩ := h.ex
  rw [rensK_eq] at h3
  injection h3 with h3
  subst h3
  exact Runs.coe h1 (Runs.weak h4 h5 (Runs.rens h2 k))
end
end Go.Proofs.YtgjpphcbdbfhlaaGreat.L.EV
namespace Go.Proofs.YtgjpphcbdbfhlaaGreat.L.EV
open Go.RowKit Go.Proofs Go.Proofs.YtgjpphcbdbfhlaaGreatW.PrintWords Go.Proofs.YtgjpphcbdbfhlaaGreatW.PrintLast
universe u
/-! ### What stands behind some of the operations -/
def keys (wr : Wr) : List Nat := wr.map (·.1)
theorem app_nkey {n : Nat} {σ : Nat → AV} : ∀ {wr : Wr}, n ∉ keys wr → app wr σ n = σ n
  | [], _ => rfl
  | (k, v) :: r, h => by
    simp only [keys, List.map_cons, List.mem_cons, not_or] at h
    unfold app
    rw [upd_ne _ _ h.1]
    exact app_nkey h.2
theorem app_key {n : Nat} {σ σ' : Nat → AV} : ∀ {wr : Wr}, n ∈ keys wr → app wr σ n = app wr σ' n
  | [], h => by simp [keys] at h
  | (k, v) :: r, h => by
    unfold app
    by_cases e : n = k
    · subst e; rw [upd_same, upd_same]
    · rw [upd_ne _ _ e, upd_ne _ _ e]
      simp only [keys, List.map_cons, List.mem_cons] at h
      exact app_key (h.resolve_left e)
theorem app_congr {n : Nat} {σ σ' : Nat → AV} {wr : Wr} (h : σ n = σ' n) : app wr σ n = app wr σ' n := by
  by_cases e : n ∈ keys wr
  · exact app_key e
  · rw [app_nkey e, app_nkey e, h]
def stL : List Wr → Nat → (Nat → Bool) → (Nat → AV) → Nat → AV
  | [], _, _, σ => σ
  | wr :: r, k, L, σ => stL r (k + 1) L (if L k = true then app wr σ else σ)
theorem stL_cons (wr : Wr) (r : List Wr) (k : Nat) (L : Nat → Bool) (σ : Nat → AV) : stL (wr :: r) k L σ = stL r (k + 1) L (if L k = true then app wr σ else σ) := rfl
theorem stL_loc {n : Nat} {L L' : Nat → Bool} : ∀ {rs : List Wr} {k : Nat} {σ σ' : Nat → AV}, σ n = σ' n → (∀ j wr, rs[j]? = some wr → n ∈ keys wr → L (k + j) = L' (k + j)) → stL rs k L σ n = stL rs k L' σ' n
  | [], k, σ, σ', h, _ => h
  | wr :: r, k, σ, σ', h, hL => by
    unfold stL
    refine stL_loc ?_ fun j w hj hn => by have := hL (j + 1) w (by simpa using hj) hn; rwa [show k + (j + 1) = k + 1 + j from by omega] at this
    by_cases hn : n ∈ keys wr
    · have := hL 0 wr rfl hn
      rw [Nat.add_zero] at this
      rw [this]
      split
      · exact app_congr h
      · exact h
    · have h1 : (if L k = true then app wr σ else σ) n = σ n := by split; exact app_nkey hn; rfl
      have h2 : (if L' k = true then app wr σ' else σ') n = σ' n := by split; exact app_nkey hn; rfl
      rw [h1, h2, h]
theorem stL_off {L : Nat → Bool} : ∀ {rs : List Wr} {k : Nat} {σ : Nat → AV}, (∀ j, k ≤ j → L j = false) → stL rs k L σ = σ
  | [], _, _, _ => rfl
  | wr :: r, k, σ, h => by
    unfold stL
    rw [if_neg (by rw [h k (Nat.le_refl _)]; simp)]
    exact stL_off fun j hj => h j (by omega)
theorem stL_append {L : Nat → Bool} : ∀ {rs ts : List Wr} {k : Nat} {σ : Nat → AV}, stL (rs ++ ts) k L σ = stL ts (k + rs.length) L (stL rs k L σ)
  | [], ts, k, σ => rfl
  | wr :: r, ts, k, σ => by
    rw [List.cons_append, stL_cons, stL_append, stL_cons, show k + (wr :: r).length = k + 1 + r.length from by simp; omega]
theorem stL_congr {L L' : Nat → Bool} : ∀ {rs : List Wr} {k : Nat} {σ : Nat → AV}, (∀ j, j < rs.length → L (k + j) = L' (k + j)) → stL rs k L σ = stL rs k L' σ
  | [], _, _, _ => rfl
  | wr :: r, k, σ, h => by
    unfold stL
    have h0 := h 0 (by simp)
    rw [Nat.add_zero] at h0
    rw [h0]
    exact stL_congr fun j hj => by have := h (j + 1) (by simp; omega); rwa [show k + (j + 1) = k + 1 + j from by omega] at this
/-- The one of number i comes last. -/
theorem stL_last {L : Nat → Bool} {rs : List Wr} {i : Nat} {wr : Wr} {σ : Nat → AV} (hi : rs[i]? = some wr) (hL : L i = true) (hf : ∀ j, i < j → L j = false) : stL rs 0 L σ = app wr (stL (rs.take i) 0 L σ) := by
  have hlt : i < rs.length := (List.getElem?_eq_some_iff.1 hi).1
  have e : rs = rs.take i ++ wr :: rs.drop (i + 1) := by
    have h1 := (List.getElem?_eq_some_iff.1 hi).2
    have h2 := List.drop_eq_getElem_cons hlt
    rw [h1] at h2
    rw [← h2, List.take_append_drop]
  conv => lhs; rw [e]
  rw [stL_append, stL_cons, List.length_take, Nat.min_eq_left (Nat.le_of_lt hlt), Nat.zero_add, if_pos hL]
  exact stL_off fun j hj => hf j (by omega)
/-! ### Which waits for which -/
def maskOf (ms : List Nat) (o : Oper) : Nat := o.after.toList.foldl (fun acc e => if Region.binds .any e = true then (acc ||| 2 ^ e.on) ||| ms.getD e.on 0 else acc) 0
def masks : List Oper → List Nat → List Nat
  | [], ms => ms
  | o :: r, ms => masks r (ms ++ [maskOf ms o])
def meets (a b : List Nat) : Bool := a.any fun x => b.any fun y => Nat.beq x y
def clash (p q : List Nat × List Nat) : Bool := meets p.1 q.1 || meets p.1 q.2 || meets p.2 q.1
def rowOk (ms : List Nat) (j : Nat) (q : List Nat × List Nat) : List (List Nat × List Nat) → Nat → Bool
  | [], _ => true
  | p :: ps, i => (match Nat.ble j i with | true => true | false => (match (ms.getD j 0).testBit i with | true => true | false => !clash p q)) && rowOk ms j q ps (i + 1)
def allOk (ms : List Nat) (ps : List (List Nat × List Nat)) : List (List Nat × List Nat) → Nat → Bool
  | [], _ => true
  | q :: qs, j => rowOk ms j q ps 0 && allOk ms ps qs (j + 1)
def edgesOk : List Oper → Nat → Bool
  | [], _ => true
  | o :: r, k => (o.after.toList.all fun e => !Region.binds .any e || Nat.blt e.on k) && edgesOk r (k + 1)
def indepB (ops : Array Oper) (ps : List (List Nat × List Nat)) : Bool := edgesOk ops.toList 0 && Nat.beq ps.length ops.size && allOk (masks ops.toList []) ps ps 0
theorem meets_of {a b : List Nat} {n : Nat} (ha : n ∈ a) (hb : n ∈ b) : meets a b = true := by
  unfold meets
  rw [List.any_eq_true]
  exact ⟨n, ha, List.any_eq_true.2 ⟨n, hb, Nat.beq_refl n⟩⟩
theorem rowOk_get {ms : List Nat} {j : Nat} {q : List Nat × List Nat} : ∀ {ps : List (List Nat × List Nat)} {i0 : Nat}, rowOk ms j q ps i0 = true → ∀ i p, ps[i]? = some p → i0 + i < j → (ms.getD j 0).testBit (i0 + i) = true ∨ clash p q = false
  | [], _, _, i, p, hp, _ => by simp at hp
  | p0 :: ps, i0, h, 0, p, hp, hlt => by
    simp at hp
    subst hp
    unfold rowOk at h
    simp only [Bool.and_eq_true] at h
    have h1 := h.1
    rw [Nat.add_zero] at hlt ⊢
    have hb : Nat.ble j i0 = false := by
      cases hq : Nat.ble j i0 with
      | false => rfl
      | true => have := Nat.le_of_ble_eq_true hq; omega
    rw [hb] at h1
    simp only at h1
    cases ht : (ms.getD j 0).testBit i0 with
    | true => exact .inl rfl
    | false => rw [ht] at h1; simp only [Bool.not_eq_true'] at h1; exact .inr h1
  | p0 :: ps, i0, h, i + 1, p, hp, hlt => by
    unfold rowOk at h
    simp only [Bool.and_eq_true] at h
    have := rowOk_get h.2 i p (by simpa using hp) (by omega)
    rwa [show i0 + 1 + i = i0 + (i + 1) from by omega] at this
theorem allOk_get {ms : List Nat} {ps : List (List Nat × List Nat)} : ∀ {qs : List (List Nat × List Nat)} {j0 : Nat}, allOk ms ps qs j0 = true → ∀ j q, qs[j]? = some q → ∀ i p, ps[i]? = some p → i < j0 + j → (ms.getD (j0 + j) 0).testBit i = true ∨ clash p q = false
  | [], _, _, j, q, hq, _, _, _, _ => by simp at hq
  | q0 :: qs, j0, h, 0, q, hq, i, p, hp, hlt => by
    simp at hq
    subst hq
    unfold allOk at h
    simp only [Bool.and_eq_true] at h
    have := rowOk_get h.1 i p hp (by omega)
    rwa [Nat.zero_add] at this
  | q0 :: qs, j0, h, j + 1, q, hq, i, p, hp, hlt => by
    unfold allOk at h
    simp only [Bool.and_eq_true] at h
    have := allOk_get h.2 j q (by simpa using hq) i p hp (by omega)
    rwa [show j0 + 1 + j = j0 + (j + 1) from by omega] at this
theorem foldMask {ms : List Nat} {i : Nat} : ∀ (es : List Edge) (acc : Nat), (es.foldl (fun acc e => if Region.binds .any e = true then (acc ||| 2 ^ e.on) ||| ms.getD e.on 0 else acc) acc).testBit i = true → acc.testBit i = true ∨ ∃ e ∈ es, Region.binds .any e = true ∧ (i = e.on ∨ (ms.getD e.on 0).testBit i = true)
  | [], acc, h => .inl h
  | e :: es, acc, h => by
    rw [List.foldl_cons] at h
    rcases foldMask es _ h with h1 | ⟨e', h1, h2⟩
    · split at h1
      · rename_i hb
        rw [Nat.testBit_or, Nat.testBit_or, Bool.or_eq_true, Bool.or_eq_true] at h1
        rcases h1 with (h1 | h1) | h1
        · exact .inl h1
        · rw [Nat.testBit_two_pow] at h1
          exact .inr ⟨e, by simp, hb, .inl (by simpa using h1 : e.on = i).symm⟩
        · exact .inr ⟨e, by simp, hb, .inr h1⟩
      · exact .inl h1
    · exact .inr ⟨e', List.mem_cons_of_mem _ h1, h2⟩
theorem masks_prefix : ∀ (l : List Oper) (ms : List Nat) (k : Nat), k < ms.length → (masks l ms).getD k 0 = ms.getD k 0
  | [], _, _, _ => rfl
  | o :: r, ms, k, h => by
    unfold masks
    rw [masks_prefix r _ k (by simp; omega)]
    rw [List.getD_eq_getElem?_getD, List.getD_eq_getElem?_getD, List.getElem?_append_left h]
theorem masks_at : ∀ (l : List Oper) (ms : List Nat) (k : Nat) (o : Oper), l[k]? = some o → ∃ ms', (masks l ms).getD (ms.length + k) 0 = maskOf ms' o ∧ (∀ j, j < ms.length + k → ms'.getD j 0 = (masks l ms).getD j 0) ∧ ms'.length = ms.length + k
  | [], _, k, _, h => by simp at h
  | o' :: r, ms, 0, o, h => by
    simp at h
    subst h
    refine ⟨ms, ?_, fun j hj => ?_, rfl⟩
    · unfold masks
      rw [Nat.add_zero, masks_prefix r _ ms.length (by simp)]
      rw [List.getD_eq_getElem?_getD]
      simp
    · unfold masks
      rw [masks_prefix r _ j (by simp; omega), List.getD_eq_getElem?_getD, List.getD_eq_getElem?_getD, List.getElem?_append_left (by omega)]
  | o' :: r, ms, k + 1, o, h => by
    unfold masks
    obtain ⟨ms', h1, h2, h3⟩ := masks_at r (ms ++ [maskOf ms o']) k o (by simpa using h)
    rw [List.length_append, List.length_singleton, show ms.length + 1 + k = ms.length + (k + 1) from by omega] at h1 h2 h3
    exact ⟨ms', h1, h2, h3⟩
/-- What an operation waits for, through others, has come up when it may come up. -/
theorem masks_closed {ops : List Oper} {L : Nat → Bool} (hL : ∀ j o, ops[j]? = some o → L j = true → ∀ e ∈ o.after.toList, Region.binds .any e = true → L e.on = true) (he : edgesOk ops 0 = true) :
    ∀ (j : Nat) (o : Oper), ops[j]? = some o → (∀ e ∈ o.after.toList, Region.binds .any e = true → L e.on = true) → ∀ i, ((masks ops []).getD j 0).testBit i = true → L i = true := by
  have hedge : ∀ (l : List Oper) (k : Nat), edgesOk l k = true → ∀ j o, l[j]? = some o → ∀ e ∈ o.after.toList, Region.binds .any e = true → e.on < k + j := by
    intro l
    induction l with
    | nil => intro k _ j o h; simp at h
    | cons o' r ih =>
      intro k h j o hj e hm hb
      unfold edgesOk at h
      simp only [Bool.and_eq_true] at h
      cases j with
      | zero =>
        simp at hj
        subst hj
        have := List.all_eq_true.1 h.1 e hm
        rw [hb] at this
        simp only [Bool.not_true, Bool.false_or] at this
        have := Nat.le_of_ble_eq_true this
        omega
      | succ j =>
        have := ih (k + 1) h.2 j o (by simpa using hj) e hm hb
        omega
  intro j
  induction j using Nat.strongRecOn with
  | _ j ih =>
    intro o ho hd i hi
    obtain ⟨ms', h1, h2, h3⟩ := masks_at ops [] j o ho
    rw [List.length_nil, Nat.zero_add] at h1 h2 h3
    rw [h1] at hi
    unfold maskOf at hi
    rcases foldMask _ _ hi with h4 | ⟨e, h4, h5, h6⟩
    · simp at h4
    · have hlt := hedge ops 0 he j o ho e h4 h5
      rw [Nat.zero_add] at hlt
      have hLe := hd e h4 h5
      rcases h6 with h6 | h6
      · subst h6; exact hLe
      · rw [h2 _ hlt] at h6
        have hlen : e.on < ops.length := Nat.lt_trans hlt (List.getElem?_eq_some_iff.1 ho).1
        exact ih e.on hlt _ (List.getElem?_eq_getElem hlen) (fun e' he' hb' => hL _ _ (List.getElem?_eq_getElem hlen) hLe e' he' hb') i h6
theorem filter_lt {p : Nat → Bool} {i : Nat} : ∀ (l : List Nat), i ∈ l → p i = true → (l.filter fun j => p j && !Nat.beq j i).length < (l.filter p).length
  | [], h, _ => by simp at h
  | x :: l, h, hp => by
    have hle : (l.filter fun j => p j && !Nat.beq j i).length ≤ (l.filter p).length := by
      have : l.filter (fun j => p j && !Nat.beq j i) = (l.filter p).filter fun j => !Nat.beq j i := by rw [List.filter_filter]; congr; funext j; rw [Bool.and_comm]
      rw [this]
      exact List.length_filter_le _ _
    by_cases e : x = i
    · subst e
      rw [List.filter_cons, List.filter_cons, if_pos hp, if_neg (by simp [Nat.beq_refl])]
      simp only [List.length_cons]
      omega
    · have hm : i ∈ l := by rcases List.mem_cons.1 h with h | h; exact absurd h.symm e; exact h
      have ih := filter_lt l hm hp
      have hb : Nat.beq x i = false := by cases hq : Nat.beq x i with | false => rfl | true => exact absurd (Nat.eq_of_beq_eq_true hq) e
      rw [List.filter_cons, List.filter_cons, hb]
      simp only [Bool.not_false, Bool.and_true]
      split
      · simp only [List.length_cons]; omega
      · exact ih
section
variable {P : Program} {I : Nat → Option TI} {X : Nat → Prop} {Y : Came} {w0 w : World} {N : Nat} {η : Nat → Value} {σ : Nat → AV} {a : Act} {o : Oper} {fn : Func} {R : Value → World → Prop} {K : List Item} {s : Wr} {ops : Array Oper} {l : List Oper}
/-- What an operation does, wherever what it reads is the same. -/
def Sk (P : Program) (X : Nat → Prop) (Y : Came) (w0 : World) (N : Nat) (ops : Array Oper) (o : Oper) (σ : Nat → AV) (wr : Wr) (rd : List Nat) : Prop :=
  ∀ σ', (∀ n ∈ rd, σ' n = σ n) → ∀ (η : Nat → Value) (a : Act) (w : World) (Q : Exit → Act → World → Prop) (K : Act → World → Prop), Rl X Y w0 N η σ' a w → (∀ η' a' w', Rl X Y w0 N η' (app wr σ') a' w' → K a' w') →
    if Region.wanted o (yielded ops a.tmps) = true then o.wp P a w K Q else K (a.put o.dst undef) w
theorem Sk.step (hI : ∀ t ti, I t = some ti → TiOk P t ti) {wr : Wr} {q : Option Prop} {rd : List Nat} (h : stepA I N ops o σ = some (⟨wr, q⟩, rd)) (hp : Ask q) : Sk P X Y w0 N ops o σ wr rd := by
  intro σ' e η a w Q K hr hk
  have h' := stepA_framed ops σ _ h σ' e
  rcases stepA_sound hI hr h' hp with ⟨hw, v, w', η', hy, hr'⟩ | ⟨hw, hr'⟩
  · rw [if_pos hw]
    unfold Oper.wp
    rcases hy with hy | ⟨hy, rfl⟩
    · rw [hy]; exact hk _ _ _ hr'
    · rw [hy]; exact hk _ _ _ hr'
  · rw [if_neg (by rw [hw]; simp)]
    exact hk _ _ _ hr'
def Valid (P : Program) (X : Nat → Prop) (Y : Came) (w0 : World) (N : Nat) (ops : Array Oper) (σ : Nat → AV) (done : List (Wr × List Nat)) : Prop :=
  ∀ i o wr rd, done[i]? = some (wr, rd) → ops[i]? = some o → Sk P X Y w0 N ops o (stL (done.map (·.1)) 0 (fun j => decide (j < i)) σ) wr rd
/-- Every order. -/
theorem any_order {done : List (Wr × List Nat)} (hv : Valid P X Y w0 N ops σ done) (hi : indepB ops (done.map fun p => (keys p.1, p.2)) = true) {Q : Exit → Act → World → Prop}
    (hQ : ∀ η a w, Rl X Y w0 N η (stL (done.map (·.1)) 0 (fun _ => true) σ) a w → Q .normal a w) (hr : Rl X Y w0 N η σ a w) : wpAny P .any ops Q ops.size (Array.replicate ops.size false) a w := by
  unfold indepB at hi
  simp only [Bool.and_eq_true] at hi
  obtain ⟨⟨he, hlen⟩, hall⟩ := hi
  have hlen := Nat.eq_of_beq_eq_true hlen
  rw [List.length_map] at hlen
  have key : ∀ (fuel : Nat) (listed : Array Bool) (η : Nat → Value) (a : Act) (w : World), listed.size = ops.size → ((List.range ops.size).filter fun i => !listed.getD i true).length ≤ fuel →
      (∀ j o, ops[j]? = some o → listed.getD j false = true → ∀ e ∈ o.after.toList, Region.binds .any e = true → listed.getD e.on false = true) →
      Rl X Y w0 N η (stL (done.map (·.1)) 0 (fun j => listed.getD j false) σ) a w → wpAny P .any ops Q fuel listed a w := by
    intro fuel
    induction fuel with
    | zero =>
      intro listed η a w hs hc hd hr
      have hnone : ∀ i, i < ops.size → listed.getD i true = true := by
        intro i hi
        have hz : ((List.range ops.size).filter fun i => !listed.getD i true) = [] := List.length_eq_zero_iff.1 (by omega)
        have := List.filter_eq_nil_iff.1 hz i (List.mem_range.2 hi)
        simpa using this
      refine ⟨?_, ?_⟩
      · apply List.eq_nil_iff_forall_not_mem.2
        intro j hj
        obtain ⟨h0, o, ho, _⟩ := mem_ready.1 hj
        rw [hnone j (Array.getElem?_eq_some_iff.1 ho).1] at h0
        cases h0
      · refine hQ η a w ?_
        rw [stL_congr (L' := fun j => listed.getD j false)]
        · exact hr
        · intro j hj
          rw [List.length_map, hlen] at hj
          have := hnone j hj
          rw [Nat.zero_add]
          rw [Array.getD_eq_getD_getElem?] at this ⊢
          rw [Array.getElem?_eq_getElem (by omega)] at this ⊢
          simpa using this.symm
    | succ fuel ih =>
      intro listed η a w hs hc hd hr
      refine ⟨fun hready => ?_, fun i hi => ?_⟩
      · -- nothing may come up any more: all has
        have hall' : ∀ i, i < ops.size → listed.getD i false = true := by
          intro i
          induction i using Nat.strongRecOn with
          | _ i ihi =>
            intro hlt
            cases hq : listed.getD i false with
            | true => rfl
            | false =>
              have : i ∈ Region.ready .any ops listed := by
                refine mem_ready.2 ⟨?_, _, Array.getElem?_eq_getElem hlt, ?_⟩
                · rw [Array.getD_eq_getD_getElem?] at hq ⊢
                  rw [Array.getElem?_eq_getElem (by omega)] at hq ⊢
                  simpa using hq
                · intro e hm hb
                  have hlt2 : e.on < i := by
                    have hedge : ∀ (l : List Oper) (k : Nat), edgesOk l k = true → ∀ j o, l[j]? = some o → ∀ e ∈ o.after.toList, Region.binds .any e = true → e.on < k + j := by
                      intro l
                      induction l with
                      | nil => intro k _ j o h; simp at h
                      | cons o' r ih =>
                        intro k h j o hj e hm hb
                        unfold edgesOk at h
                        simp only [Bool.and_eq_true] at h
                        cases j with
                        | zero =>
                          simp at hj
                          subst hj
                          have := List.all_eq_true.1 h.1 e hm
                          rw [hb] at this
                          simp only [Bool.not_true, Bool.false_or] at this
                          have := Nat.le_of_ble_eq_true this
                          omega
                        | succ j =>
                          have := ih (k + 1) h.2 j o (by simpa using hj) e hm hb
                          omega
                    have := hedge ops.toList 0 he i ops[i] (by rw [Array.getElem?_toList]; exact Array.getElem?_eq_getElem hlt) e (by simpa using hm) hb
                    omega
                  exact ihi e.on hlt2 (by omega)
              rw [hready] at this
              cases this
        refine hQ η a w ?_
        rw [stL_congr (L' := fun j => listed.getD j false)]
        · exact hr
        · intro j hj
          rw [List.length_map, hlen] at hj
          rw [Nat.zero_add, hall' j hj]
      · obtain ⟨h0, o, ho, hready⟩ := mem_ready.1 hi
        have hlt : i < ops.size := (Array.getElem?_eq_some_iff.1 ho).1
        have h0' : listed.getD i false = false := by
          rw [Array.getD_eq_getD_getElem?] at h0 ⊢
          rw [Array.getElem?_eq_getElem (by omega)] at h0 ⊢
          simpa using h0
        obtain ⟨⟨wr, rd⟩, hd2⟩ : ∃ p, done[i]? = some p := ⟨_, List.getElem?_eq_getElem (by omega)⟩
        have hsk := hv i o wr rd hd2 ho
        have hclosed := masks_closed (ops := ops.toList) (L := fun j => listed.getD j false) (fun j o hj hl => hd j o (by rw [← Array.getElem?_toList]; exact hj) hl) he
        have hget : ∀ (j : Nat) (p : Wr × List Nat), done[j]? = some p → (done.map fun p => (keys p.1, p.2))[j]? = some (keys p.1, p.2) := fun j p hj => by rw [List.getElem?_map, hj]; rfl
        -- an earlier one that clashes has come up; a later one that clashes has not
        have hbefore : ∀ (j : Nat) (p : Wr × List Nat), done[j]? = some p → j < i → clash (keys p.1, p.2) (keys wr, rd) = true → listed.getD j false = true := by
          intro j p hj hji hcl
          rcases allOk_get hall i _ (hget i _ hd2) j _ (hget j p hj) (by omega) with h | h
          · rw [Nat.zero_add] at h
            exact hclosed i o (by rw [Array.getElem?_toList]; exact ho) (fun e hm hb => hready e (by simpa using hm) hb) j h
          · rw [hcl] at h; cases h
        have hafter : ∀ (j : Nat) (p : Wr × List Nat), done[j]? = some p → i < j → clash (keys wr, rd) (keys p.1, p.2) = true → listed.getD j false = false := by
          intro j p hj hji hcl
          rcases allOk_get hall j _ (hget j p hj) i _ (hget i _ hd2) (by omega) with h | h
          · rw [Nat.zero_add] at h
            cases hq : listed.getD j false with
            | false => rfl
            | true =>
              have hjl : j < ops.size := by have := (List.getElem?_eq_some_iff.1 hj).1; omega
              have := hclosed j ops[j] (by rw [Array.getElem?_toList]; exact Array.getElem?_eq_getElem hjl) (fun e hm hb => hd j ops[j] (Array.getElem?_eq_getElem hjl) hq e hm hb) i h
              rw [h0'] at this
              cases this
          · rw [hcl] at h; cases h
        have hmapget : ∀ (j : Nat) (w' : Wr), (done.map (·.1))[j]? = some w' → ∃ p : Wr × List Nat, done[j]? = some p ∧ p.1 = w' := fun j w' hj => by
          rw [List.getElem?_map, Option.map_eq_some_iff] at hj
          exact hj
        -- what it reads is what the text's order gives
        have hreads : ∀ n ∈ rd, stL (done.map (·.1)) 0 (fun j => listed.getD j false) σ n = stL (done.map (·.1)) 0 (fun j => decide (j < i)) σ n := by
          intro n hn
          refine stL_loc rfl fun j w' hj hk => ?_
          obtain ⟨p, hp, rfl⟩ := hmapget j w' hj
          rw [Nat.zero_add]
          rcases Nat.lt_trichotomy j i with hji | hji | hji
          · have := hbefore j p hp hji (by unfold clash; simp only [Bool.or_eq_true]; exact .inl (.inr (meets_of hk hn)))
            simp only [this, hji, decide_true]
          · subst hji; simp only [h0', Nat.lt_irrefl, decide_false]
          · have := hafter j p hp hji (by unfold clash; simp only [Bool.or_eq_true]; exact .inr (meets_of hn hk))
            simp only [this]; simp; omega
        -- what it leaves is what stands behind it and the others
        have hleaves : stL (done.map (·.1)) 0 (fun j => (listed.setIfInBounds i true).getD j false) σ = app wr (stL (done.map (·.1)) 0 (fun j => listed.getD j false) σ) := by
          have hset : ∀ j, (listed.setIfInBounds i true).getD j false = if j = i then true else listed.getD j false := by
            intro j
            simp only [Array.getD_eq_getD_getElem?, Array.getElem?_setIfInBounds]
            by_cases e : j = i
            · subst e; rw [if_pos rfl, if_pos (by omega), if_pos rfl]; rfl
            · rw [if_neg (fun h => e h.symm), if_neg e]
          funext n
          by_cases hk : n ∈ keys wr
          · have h1 : stL (done.map (·.1)) 0 (fun j => (listed.setIfInBounds i true).getD j false) σ n = stL (done.map (·.1)) 0 (fun j => (if j = i then true else listed.getD j false) && decide (j ≤ i)) σ n := by
              refine stL_loc rfl fun j w' hj hk' => ?_
              obtain ⟨p, hp, rfl⟩ := hmapget j w' hj
              rw [Nat.zero_add, hset]
              rcases Nat.lt_trichotomy j i with hji | hji | hji
              · simp [Nat.le_of_lt hji]
              · subst hji; simp
              · have := hafter j p hp hji (by unfold clash; simp only [Bool.or_eq_true]; exact .inl (.inl (meets_of hk hk')))
                rw [if_neg (by omega), this]; simp
            rw [h1, stL_last (i := i) (wr := wr) (by rw [List.getElem?_map, hd2]; rfl) (by simp) (fun j hj => by simp; omega)]
            exact app_key hk
          · rw [app_nkey hk]
            refine stL_loc rfl fun j w' hj hk' => ?_
            obtain ⟨p, hp, rfl⟩ := hmapget j w' hj
            rw [Nat.zero_add, hset]
            by_cases e : j = i
            · subst e; rw [hd2] at hp; cases hp; exact absurd hk' hk
            · rw [if_neg e]
        unfold wpOp
        simp only [ho]
        have hgo := hsk _ hreads η a w Q (wpAny P .any ops Q fuel (listed.setIfInBounds i true)) hr (fun η' a' w' hr' => ?_)
        · split
          · rename_i hw; rw [if_pos hw] at hgo; exact .inl hgo
          · rename_i hw; rw [if_neg hw] at hgo; exact hgo
        · refine ih _ η' a' w' (by simpa using hs) ?_ ?_ (by rw [hleaves]; exact hr')
          · have hf := filter_lt (p := fun j => !listed.getD j true) (List.range ops.size) (List.mem_range.2 hlt) (by simp [h0])
            have hcg : (List.range ops.size).filter (fun j => !(listed.setIfInBounds i true).getD j true) = (List.range ops.size).filter (fun j => !listed.getD j true && !Nat.beq j i) := by
              refine List.filter_congr fun j hj => ?_
              simp only [Array.getD_eq_getD_getElem?, Array.getElem?_setIfInBounds]
              by_cases e : j = i
              · subst e; rw [if_pos rfl, if_pos (by omega)]; simp [Nat.beq_refl]
              · have hb : Nat.beq j i = false := by cases hq : Nat.beq j i with | false => rfl | true => exact absurd (Nat.eq_of_beq_eq_true hq) e
                rw [if_neg (fun h => e h.symm), hb]; simp
            rw [hcg]
            omega
          · intro j oj hj hl e hm hb
            simp only [Array.getD_eq_getD_getElem?, Array.getElem?_setIfInBounds] at hl ⊢
            by_cases e1 : e.on = i
            · rw [e1, if_pos rfl, if_pos (by omega)]; rfl
            · rw [if_neg (fun h => e1 h.symm)]
              by_cases e2 : j = i
              · subst e2
                rw [ho] at hj
                cases hj
                have := hready e (by simpa using hm) hb
                rwa [Array.getD_eq_getD_getElem?] at this
              · rw [if_neg (fun h => e2 h.symm)] at hl
                have := hd j oj hj (by rw [Array.getD_eq_getD_getElem?]; exact hl) e hm hb
                rwa [Array.getD_eq_getD_getElem?] at this
  refine key ops.size _ η a w (by simp) ?_ ?_ ?_
  · exact Nat.le_trans (List.length_filter_le _ _) (by simp)
  · intro j oj hj hl
    simp only [Array.getD_eq_getD_getElem?, Array.getElem?_replicate] at hl
    split at hl <;> simp at hl
  · rw [stL_off]
    · exact hr
    · intro j _
      simp only [Array.getD_eq_getD_getElem?, Array.getElem?_replicate]
      split <;> rfl
end
end Go.Proofs.YtgjpphcbdbfhlaaGreat.L.EV
