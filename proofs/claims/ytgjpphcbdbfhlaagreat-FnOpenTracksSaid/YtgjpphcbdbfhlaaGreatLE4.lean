/- Regions that draw their order, appends, contracts in the print's words. Over any program. No condition. -/
import Derived.Test.YtgjpphcbdbfhlaaGreatLE3
set_option linter.unusedVariables false
set_option linter.unusedSimpArgs false
namespace Go.Proofs.YtgjpphcbdbfhlaaGreat.L.EV
open Go.RowKit Go.Proofs Go.Proofs.YtgjpphcbdbfhlaaGreatW.PrintWords Go.Proofs.YtgjpphcbdbfhlaaGreatW.PrintLast
universe u
inductive ResD : Type 1
  | got (rest : List Oper) (s : Wr) (pre : Option Prop) (recs : List (Wr × List Nat))
  | no
def runAD (I : Nat → Option TI) (N : Nat) (ops : Array Oper) (g : Option (Nat × Bool)) : List Oper → Wr → Option Prop → List (Wr × List Nat) → ResD
  | [], s, p, d => .got [] s p d
  | o :: r, s, p, d => match easy g o with
    | false => .got (o :: r) s p d
    | true => match stepA I N ops o (look s) with
      | none => .got (o :: r) s p d
      | some (⟨wr, q⟩, rd) => appK wr s fun s' => runAD I N ops g r s' (andO p q) (d ++ [(wr, rd)])
def runCD (I : Nat → Option TI) (N : Nat) (ops : Array Oper) (l : List Oper) (s : Wr) (d : List (Wr × List Nat)) : ResD :=
  match l with
  | [] => .no
  | o :: r => match stepA I N ops o (look s) with
    | none => .no
    | some (⟨wr, q⟩, rd) => appK wr s fun s' => runAD I N ops o.guard r s' q (d ++ [(wr, rd)])
def runBD (I : Nat → Option TI) (N : Nat) (ops : Array Oper) (l : List Oper) (s : Wr) (d : List (Wr × List Nat)) : ResD :=
  match l with
  | [] => .no
  | o :: r => match easy none o with
    | false => .no
    | true => runCD I N ops (o :: r) s d
section
variable {P : Program} {I : Nat → Option TI} {X : Nat → Prop} {Y : Came} {w0 w : World} {N : Nat} {η : Nat → Value} {σ : Nat → AV} {a : Act} {o : Oper} {fn : Func} {R : Value → World → Prop} {K : List Item} {s s0 : Wr} {ops : Array Oper} {l : List Oper} {d : List (Wr × List Nat)}
structure RegD (P : Program) (fn : Func) (X : Nat → Prop) (Y : Came) (w0 : World) (N : Nat) (R : Value → World → Prop) (K : List Item) (ops : Array Oper) (s0 : Wr) (d : List (Wr × List Nat)) (l : List Oper) (s : Wr) : Prop where
  mk :: (out : Valid P X Y w0 N ops (look s0) d → ops.toList.drop d.length = l → look s = stL (d.map (·.1)) 0 (fun _ => true) (look s0) →
    ∀ η a w, Rl X Y w0 N η (look s0) a w → wpAny P .any ops (fun e a' w' => e = .normal ∧ Go1 P fn R K a' w') ops.size (Array.replicate ops.size false) a w)
theorem Runs.regionD {id : Nat} (hm : P.follows .mixedOrders = true) (h : RegD P fn X Y w0 N R K ops s [] ops.toList s) : Runs P fn X Y w0 N R (.code (.region id ops true) :: K) s := ⟨fun η a w hr =>
  Go1.wp (wp_region_any hm (h.out (fun i o wr rd hd => by simp at hd) (by simp) rfl η a _ (hr.move ⟨rfl, rfl, rfl, Nat.le_refl _, fun _ _ => rfl⟩)))⟩
theorem stL_full {rs : List Wr} {wr : Wr} {σ : Nat → AV} : stL (rs ++ [wr]) 0 (fun _ => true) σ = app wr (stL rs 0 (fun _ => true) σ) := by
  rw [stL_append, stL_cons, if_pos rfl]; rfl
theorem stL_tail {rs ts : List Wr} {i : Nat} {σ : Nat → AV} (h : i ≤ rs.length) : stL (rs ++ ts) 0 (fun j => decide (j < i)) σ = stL rs 0 (fun j => decide (j < i)) σ := by
  rw [stL_append, stL_off]
  intro j hj
  simp only [decide_eq_false_iff_not]
  omega
theorem Valid.snoc {wr : Wr} {rd : List Nat} (h : Valid P X Y w0 N ops σ d) (ho : ops[d.length]? = some o) (hk : Sk P X Y w0 N ops o (stL (d.map (·.1)) 0 (fun _ => true) σ) wr rd) : Valid P X Y w0 N ops σ (d ++ [(wr, rd)]) := by
  intro i o' wr' rd' hd ho'
  rw [List.map_append]
  rcases Nat.lt_trichotomy i d.length with hlt | heq | hgt
  · rw [List.getElem?_append_left hlt] at hd
    rw [stL_tail (by rw [List.length_map]; omega)]
    exact h i o' wr' rd' hd ho'
  · subst heq
    rw [List.getElem?_append_right (Nat.le_refl _), Nat.sub_self] at hd
    simp at hd
    obtain ⟨rfl, rfl⟩ := hd
    rw [ho] at ho'
    cases ho'
    rw [stL_tail (by rw [List.length_map]; omega), stL_congr (L' := fun _ => true)]
    · exact hk
    · intro j hj
      rw [List.length_map] at hj
      simp [hj]
  · rw [List.getElem?_append_right (by omega)] at hd
    rw [List.getElem?_eq_none (by simp; omega)] at hd
    cases hd
theorem drop_head {l : List Oper} (h : ops.toList.drop d.length = o :: l) : ops[d.length]? = some o ∧ ∀ x, ops.toList.drop (d ++ [x]).length = l := by
  have h0 : (ops.toList.drop d.length)[0]? = some o := by rw [h]; rfl
  rw [List.getElem?_drop, Nat.add_zero, Array.getElem?_toList] at h0
  refine ⟨h0, fun x => ?_⟩
  rw [List.length_append, List.length_singleton, ← List.drop_drop, h]
  rfl
/-- One operation that has been taken. -/
theorem RegD.one {wr : Wr} {rd : List Nat} (hk : Sk P X Y w0 N ops o (look s) wr rd) (k : RegD P fn X Y w0 N R K ops s0 (d ++ [(wr, rd)]) l (wr ++ s)) : RegD P fn X Y w0 N R K ops s0 d (o :: l) s := by
  refine ⟨fun hv hd hs => ?_⟩
  obtain ⟨h1, h2⟩ := drop_head hd
  exact k.out (hv.snoc h1 (by rw [← hs]; exact hk)) (h2 _) (by rw [look_app, hs, List.map_append]; exact stL_full.symm)
theorem RegD.run (hI : ∀ t ti, I t = some ti → TiOk P t ti) {g : Option (Nat × Bool)} : ∀ {l : List Oper} {s : Wr} {p : Option Prop} {d : List (Wr × List Nat)} {l' : List Oper} {s' : Wr} {p' : Option Prop} {d' : List (Wr × List Nat)}, runAD I N ops g l s p d = .got l' s' p' d' → Ask p' →
    (Ask p → RegD P fn X Y w0 N R K ops s0 d' l' s') → Ask p ∧ RegD P fn X Y w0 N R K ops s0 d l s
  | [], s, p, d, l', s', p', d', h, hp, k => by cases h; exact ⟨hp, k hp⟩
  | o :: l, s, p, d, l', s', p', d', h, hp, k => by
    unfold runAD at h
    cases he : easy g o with
    | false => simp only [he] at h; cases h; exact ⟨hp, k hp⟩
    | true =>
      simp only [he] at h
      cases hs : stepA I N ops o (look s) with
      | none => simp only [hs] at h; cases h; exact ⟨hp, k hp⟩
      | some q =>
        obtain ⟨⟨wr, q⟩, r⟩ := q
        simp only [hs, appK_eq] at h
        have ih := RegD.run hI h hp fun hpq => k (andO_ask hpq).1
        obtain ⟨h1, h2⟩ := andO_ask ih.1
        exact ⟨h1, RegD.one (Sk.step hI hs h2) ih.2⟩
theorem RegD.goC (hI : ∀ t ti, I t = some ti → TiOk P t ti) {l' : List Oper} {s' : Wr} {p' : Option Prop} {d' : List (Wr × List Nat)} (h : runCD I N ops l s d = .got l' s' p' d') (hp : Ask p') (k : RegD P fn X Y w0 N R K ops s0 d' l' s') : RegD P fn X Y w0 N R K ops s0 d l s := by
  cases l with
  | nil => cases h
  | cons o l =>
    unfold runCD at h
    cases hs : stepA I N ops o (look s) with
    | none => simp only [hs] at h; cases h
    | some q =>
      obtain ⟨⟨wr, q⟩, r⟩ := q
      simp only [hs, appK_eq] at h
      have ih := RegD.run hI h hp fun _ => k
      exact RegD.one (Sk.step hI hs ih.1) ih.2
theorem RegD.go (hI : ∀ t ti, I t = some ti → TiOk P t ti) {l' : List Oper} {s' : Wr} {p' : Option Prop} {d' : List (Wr × List Nat)} (h : runBD I N ops l s d = .got l' s' p' d') (hp : Ask p') (k : RegD P fn X Y w0 N R K ops s0 d' l' s') : RegD P fn X Y w0 N R K ops s0 d l s := by
  cases l with
  | nil => cases h
  | cons o l =>
    unfold runBD at h
    cases he : easy none o with
    | false => simp only [he] at h; cases h
    | true => simp only [he] at h; exact RegD.goC hI h hp k
theorem RegD.fix {n : Nat} {b b' : Bool} (h : look s (2 * n) = .p (.c (.v (.bool b)))) (hb : b = b') (k : RegD P fn X Y w0 N R K ops s0 d l ((2 * n, .p (.c (.v (.bool b')))) :: s)) : RegD P fn X Y w0 N R K ops s0 d l s :=
  ⟨fun hv hd hs => k.out hv hd (by rw [look_fix h hb]; exact hs)⟩
theorem RegD.guard (hI : ∀ t ti, I t = some ti → TiOk P t ti) {o : Oper} {j t : Nat} {want b b' : Bool} {l' : List Oper} {s' : Wr} {p' : Option Prop} {d' : List (Wr × List Nat)} (hg : o.guard = some (j, want)) (hd : (ops[j]?).bind (·.dst) = some t) (h : look s (2 * t) = .p (.c (.v (.bool b)))) (hb : b = b')
    (hr : runCD I N ops (o :: l) ((2 * t, .p (.c (.v (.bool b')))) :: s) d = .got l' s' p' d') (hp : Ask p') (k : RegD P fn X Y w0 N R K ops s0 d' l' s') : RegD P fn X Y w0 N R K ops s0 d (o :: l) s := RegD.fix h hb (RegD.goC hI hr hp k)
theorem RegD.pick (hI : ∀ t ti, I t = some ti → TiOk P t ti) {dd : Option Nat} {ps : String} {tx t : Nat} {x y : Operand} {af : Array Edge} {b b' : Bool} {l' : List Oper} {s' : Wr} {p' : Option Prop} {d' : List (Wr × List Nat)} (h : look s (2 * t) = .p (.c (.v (.bool b)))) (hb : b = b')
    (hr : runCD I N ops (⟨dd, .pick (.tmp t) x y, tx, ps, af, none⟩ :: l) ((2 * t, .p (.c (.v (.bool b')))) :: s) d = .got l' s' p' d') (hp : Ask p') (k : RegD P fn X Y w0 N R K ops s0 d' l' s') : RegD P fn X Y w0 N R K ops s0 d (⟨dd, .pick (.tmp t) x y, tx, ps, af, none⟩ :: l) s := RegD.fix h hb (RegD.goC hI hr hp k)
theorem RegD.pickG (hI : ∀ t ti, I t = some ti → TiOk P t ti) {dd : Option Nat} {ps : String} {tx t : Nat} {x y : Operand} {af : Array Edge} {b b' : Bool} {j u : Nat} {want c : Bool} {l' : List Oper} {s' : Wr} {p' : Option Prop} {d' : List (Wr × List Nat)} (hd : (ops[j]?).bind (·.dst) = some u) (hc : look s (2 * u) = .p (.c (.v (.bool c)))) (hw : c = want) (h : look ((2 * u, .p (.c (.v (.bool want)))) :: s) (2 * t) = .p (.c (.v (.bool b)))) (hb : b = b')
    (hr : runCD I N ops (⟨dd, .pick (.tmp t) x y, tx, ps, af, some (j, want)⟩ :: l) ((2 * t, .p (.c (.v (.bool b')))) :: (2 * u, .p (.c (.v (.bool want)))) :: s) d = .got l' s' p' d') (hp : Ask p') (k : RegD P fn X Y w0 N R K ops s0 d' l' s') : RegD P fn X Y w0 N R K ops s0 d (⟨dd, .pick (.tmp t) x y, tx, ps, af, some (j, want)⟩ :: l) s := RegD.fix hc hw (RegD.fix h hb (RegD.goC hI hr hp k))
theorem RegD.guardU (hI : ∀ t ti, I t = some ti → TiOk P t ti) {o : Oper} {j t : Nat} {want : Bool} {u : Array Value} {l' : List Oper} {s' : Wr} {p' : Option Prop} {d' : List (Wr × List Nat)} (hg : o.guard = some (j, want)) (hd : (ops[j]?).bind (·.dst) = some t) (h : look s (2 * t) = .p (.c (.v (.tuple u))))
    (hr : runCD I N ops (o :: l) s d = .got l' s' p' d') (hp : Ask p') (k : RegD P fn X Y w0 N R K ops s0 d' l' s') : RegD P fn X Y w0 N R K ops s0 d (o :: l) s := RegD.goC hI hr hp k
theorem RegD.nil (hi : indepB ops (d.map fun p => (keys p.1, p.2)) = true) (h : Runs P fn X Y w0 N R K s) : RegD P fn X Y w0 N R K ops s0 d [] s := by
  refine ⟨fun hv hd hs η a w hr => ?_⟩
  refine any_order hv hi (fun η a w hr' => ⟨rfl, h.out η a w ?_⟩) hr
  rw [hs]
  exact hr'
/-! ### Calls -/
theorem Sk.call {f : Nat} {as : Array Operand} {ts : Array TypeId} {ps : String} {tx : Nat} {args : List AV} {r : AV} {out : Outs} {C : List (Option Nat)} {F wr : Wr} {dd : Option Nat} {g : Option (Nat × Bool)} {rd rd1 rd2 : List Nat} {af : Array Edge}
    (hg : guardA ops ⟨dd, .call { callee := .value (.func f), args := as, argTypes := ts }, tx, ps, #[], g⟩ σ = some (true, rd))
    (hc : Con P f args r out) (hv : argsA args as.toList σ = some ((args, C, F), rd1)) (hx : callX r out C F dd N σ = some (wr, rd2)) : Sk P X Y w0 N ops ⟨dd, .call { callee := .value (.func f), args := as, argTypes := ts }, tx, ps, af, g⟩ σ wr (rd ++ (rd1 ++ rd2)) := by
  intro σ' e η a w Q K hr hk
  have hg' := guardA_framed ops σ _ hg σ' (fun n hn => e n (List.mem_append_left _ hn))
  have hv' := argsA_framed args as.toList σ _ hv σ' (fun n hn => e n (List.mem_append_right _ (List.mem_append_left _ hn)))
  have hx' := callX_framed r out C F dd N σ _ hx σ' (fun n hn => e n (List.mem_append_right _ (List.mem_append_right _ hn)))
  have hw : Region.wanted ⟨dd, .call { callee := .value (.func f), args := as, argTypes := ts }, tx, ps, af, g⟩ (yielded ops a.tmps) = true := guardA_sound hr hg'
  rw [if_pos hw]
  unfold Oper.wp
  rw [call_run hc.call rfl]
  obtain ⟨gs, g1, g2⟩ := argsA_sound hr hv'
  have hcall := call_calls (dd := dd) hr g1 g2 hc hx'
  have ee : (as.toList.map a.eval).toArray = as.map a.eval := by rw [← Array.toList_map, Array.toArray_toList]
  rw [ee] at hcall
  refine hcall.mono ?_
  rintro e w' ⟨v, rfl, η', h1⟩
  exact hk η' _ w' h1
theorem guardA_none {o : Oper} (h : o.guard = none) : guardA ops o σ = some (true, []) := by unfold guardA; simp only [h]; rfl
theorem guardA_some {o : Oper} {j u : Nat} {want : Bool} (h : o.guard = some (j, want)) (hd : (ops[j]?).bind (·.dst) = some u) (hc : σ (2 * u) = .p (.c (.v (.bool want)))) : ∃ rd, guardA ops o σ = some (true, rd) ∧ rd = [2 * u] := by
  refine ⟨_, ?_, rfl⟩
  unfold guardA
  simp only [h, hd]
  unfold bnd get
  simp only [hc]
  cases want <;> rfl
/-- What a call writes, down to constructors. -/
def normK {γ : Type u} : Wr → Wr → (Wr → Wr → γ) → γ
  | [], s, k => k [] s
  | (n, v) :: r, s, k => fcps v fun v => normK r s fun a b => k ((n, v) :: a) ((n, v) :: b)
theorem normK_eq {γ : Type u} : ∀ (wr s : Wr) (k : Wr → Wr → γ), normK wr s k = k wr (wr ++ s)
  | [], _, _ => rfl
  | (n, v) :: r, s, k => by unfold normK; rw [fcps_eq, normK_eq r s]; rfl
theorem normK_inv {wr s wr' s' : Wr} (h : normK wr s (fun a b => some (a, b)) = some (wr', s')) : wr' = wr ∧ s' = wr ++ s := by
  rw [normK_eq] at h
  cases h
  exact ⟨rfl, rfl⟩
theorem RegD.call {f : Nat} {as : Array Operand} {ts : Array TypeId} {ps : String} {tx : Nat} {args : List AV} {r : AV} {out : Outs} {C : List (Option Nat)} {F wr wr' s' : Wr} {rd1 rd2 : List Nat} {dd : Option Nat} {af : Array Edge}
    (hc : Con P f args r out) (hv : argsA args as.toList (look s) = some ((args, C, F), rd1)) (hx : callX r out C F dd N (look s) = some (wr, rd2)) (hs : normK wr s (fun a b => some (a, b)) = some (wr', s')) (k : RegD P fn X Y w0 N R K ops s0 (d ++ [(wr', [] ++ (rd1 ++ rd2))]) l s') :
    RegD P fn X Y w0 N R K ops s0 d (⟨dd, .call { callee := .value (.func f), args := as, argTypes := ts }, tx, ps, af, none⟩ :: l) s := by
  obtain ⟨rfl, rfl⟩ := normK_inv hs
  exact RegD.one (Sk.call (guardA_none rfl) hc hv hx) k
theorem RegD.callG {f : Nat} {as : Array Operand} {ts : Array TypeId} {ps : String} {tx : Nat} {args : List AV} {r : AV} {out : Outs} {C : List (Option Nat)} {F wr wr' s' : Wr} {rd1 rd2 : List Nat} {dd : Option Nat} {af : Array Edge} {j u : Nat} {want b : Bool} (hu : (ops[j]?).bind (·.dst) = some u) (hb : look s (2 * u) = .p (.c (.v (.bool b)))) (hw : b = want)
    (hc : Con P f args r out) (hv : argsA args as.toList (look s) = some ((args, C, F), rd1)) (hx : callX r out C F dd N (look s) = some (wr, rd2)) (hs : normK wr s (fun a b => some (a, b)) = some (wr', s')) (k : RegD P fn X Y w0 N R K ops s0 (d ++ [(wr', [2 * u] ++ (rd1 ++ rd2))]) l s') :
    RegD P fn X Y w0 N R K ops s0 d (⟨dd, .call { callee := .value (.func f), args := as, argTypes := ts }, tx, ps, af, some (j, want)⟩ :: l) s := by
  obtain ⟨rfl, rfl⟩ := normK_inv hs
  subst hw
  obtain ⟨rd, h1, rfl⟩ := guardA_some (o := ⟨dd, .call { callee := .value (.func f), args := as, argTypes := ts }, tx, ps, #[], some (j, b)⟩) rfl hu hb
  exact RegD.one (Sk.call h1 hc hv hx) k
theorem RegL.one {wr : Wr} {rd : List Nat} (hk : Sk P X Y w0 N ops o (look s) wr rd) (k : RegL P fn X Y w0 N R K ops l (wr ++ s)) : RegL P fn X Y w0 N R K ops (o :: l) s := ⟨fun η a w hr => by
  have := hk (look s) (fun _ _ => rfl) η a w (fun e a' w' => e = .normal ∧ Go1 P fn R K a' w') (wpList P ops (fun e a' w' => e = .normal ∧ Go1 P fn R K a' w') l) hr (fun η' a' w' hr' => k.out η' a' w' (by rw [look_app]; exact hr'))
  unfold wpList
  split
  · rename_i hw; rw [if_pos hw] at this; exact .inl this
  · rename_i hw; rw [if_neg hw] at this; exact this⟩
theorem RegL.call {f : Nat} {as : Array Operand} {ts : Array TypeId} {ps : String} {tx : Nat} {args : List AV} {r : AV} {out : Outs} {C : List (Option Nat)} {F wr wr' s' : Wr} {rd1 rd2 : List Nat} {dd : Option Nat} {af : Array Edge}
    (hc : Con P f args r out) (hv : argsA args as.toList (look s) = some ((args, C, F), rd1)) (hx : callX r out C F dd N (look s) = some (wr, rd2)) (hs : normK wr s (fun a b => some (a, b)) = some (wr', s')) (k : RegL P fn X Y w0 N R K ops l s') :
    RegL P fn X Y w0 N R K ops (⟨dd, .call { callee := .value (.func f), args := as, argTypes := ts }, tx, ps, af, none⟩ :: l) s := by
  obtain ⟨rfl, rfl⟩ := normK_inv hs
  exact RegL.one (Sk.call (guardA_none rfl) hc hv hx) k
theorem RegL.callG {f : Nat} {as : Array Operand} {ts : Array TypeId} {ps : String} {tx : Nat} {args : List AV} {r : AV} {out : Outs} {C : List (Option Nat)} {F wr wr' s' : Wr} {rd1 rd2 : List Nat} {dd : Option Nat} {af : Array Edge} {j u : Nat} {want b : Bool} (hu : (ops[j]?).bind (·.dst) = some u) (hb : look s (2 * u) = .p (.c (.v (.bool b)))) (hw : b = want)
    (hc : Con P f args r out) (hv : argsA args as.toList (look s) = some ((args, C, F), rd1)) (hx : callX r out C F dd N (look s) = some (wr, rd2)) (hs : normK wr s (fun a b => some (a, b)) = some (wr', s')) (k : RegL P fn X Y w0 N R K ops l s') :
    RegL P fn X Y w0 N R K ops (⟨dd, .call { callee := .value (.func f), args := as, argTypes := ts }, tx, ps, af, some (j, want)⟩ :: l) s := by
  obtain ⟨rfl, rfl⟩ := normK_inv hs
  subst hw
  obtain ⟨rd, h1, rfl⟩ := guardA_some (o := ⟨dd, .call { callee := .value (.func f), args := as, argTypes := ts }, tx, ps, #[], some (j, b)⟩) rfl hu hb
  exact RegL.one (Sk.call h1 hc hv hx) k
end
/-! ### Small words for the walks -/
theorem iteE {α : Type u} {c : Prop} [Decidable c] {a b x : α} (h : (if c then a else b) = x) : (c ∧ a = x) ∨ (¬ c ∧ b = x) := by
  by_cases e : c
  · rw [if_pos e] at h; exact .inl ⟨e, h⟩
  · rw [if_neg e] at h; exact .inr ⟨e, h⟩
theorem bindE {α β : Type} {a : Option α} {f : α → Option β} {x : β} (h : a.bind f = some x) : ∃ y, a = some y ∧ f y = some x := Option.bind_eq_some_iff.1 h
theorem noneE {α : Type} {x : α} {p : Prop} (h : (none : Option α) = some x) : p := by cases h
theorem ask_mk {p : Prop} (h : p) : EV.Ask (some p) := h
theorem nT {b : Bool} (h : b = false) : (!b) = true := by rw [h]; rfl
theorem nF {b : Bool} (h : b = true) : (!b) = false := by rw [h]; rfl
theorem someE {α β : Type} {a : α} {f : α → Option β} {x : Option β} (h : (some a).bind f = x) : f a = x := h
theorem asIte {α : Type u} {c : Prop} [Decidable c] {a b x : α} (h : (if c then a else b) = x) : (if c then a else b) = x := h
theorem asBind {α β : Type} {a : Option α} {f : α → Option β} {x : Option β} (h : a.bind f = x) : a.bind f = x := h
theorem asSome {α : Type} {a x : α} (h : some a = some x) : some a = some x := h
class Ctr (h : Prop) (q : outParam Prop) : Prop where
  out : h → q
/-! ### Loops, what is kept found by itself -/
/-- One bit (in steps that Lean's own limit on exponents allows). -/
def bitN (n : Nat) : Nat := (1 <<< (n % 250)) * ((1 <<< 250) ^ (n / 250 % 250)) * (((1 <<< 250) ^ 250) ^ (n / 62500))
/-- Whether a bit is there (no shift: Lean's own takes a step for each place of a number that is written as a sum). -/
def tb (m n : Nat) : Bool := Nat.beq (m / bitN n % 2) 1
def both (m d : Nat) : Nat := m ||| bitN (2 * d) ||| bitN (2 * d + 1)
/-- A way of d's that comes from t. -/
def fromM (m : Nat) (dd : Option Nat) (t : Nat) : Nat := match dd with
  | some d => (match tb m (2 * d + 1) with
    | true => m ||| bitN (2 * d) ||| bitN (2 * t + 1)
    | false => m ||| bitN (2 * d))
  | none => m
def bothM (m : Nat) (dd : Option Nat) : Nat := match dd with
  | some d => both m d
  | none => m
def opM (m : Nat) (o : Oper) : Nat :=
  match o.op with
  | .store _ (.tmp t) _ => m ||| bitN (2 * t + 1)
  | .fieldAddr _ (.tmp t) _ => fromM m o.dst t
  | .indexAddr _ (.tmp t) _ => fromM m o.dst t
  | .move (.tmp t) => fromM m o.dst t
  | .assign (.tmp t) => fromM m o.dst t
  | .alloc _ => bothM m o.dst
  | .box _ _ => bothM m o.dst
  | .buildSlice _ _ _ => bothM m o.dst
  | .makeSlice _ _ _ => bothM m o.dst
  | .call _ => bothM m o.dst
  | .nilCheck (.tmp t) => fromM m o.dst t
  | .load _ _ => (match o.dst with
    | some d => (match tb m (2 * d + 1) with
      | true => m ||| bitN (2 * d) ||| bitN 8190
      | false => m ||| bitN (2 * d))
    | none => m)
  | _ => (match o.dst with | some d => m ||| bitN (2 * d) | none => m)
/-- What a piece of code may write (a store's way through fields and elements is followed backwards). -/
def wM : Code → Nat → Nat
  | .region _ ops _, m => ops.toList.reverse.foldl opM m
  | .seq a b, m => wM a (wM b m)
  | .cond _ a b, m => wM a (wM b m)
  | .block _ c, m => wM c m
  | .loop c, m => wM c m
  | _, m => m
/-- The slots that are handed to calls. -/
def argM : List Operand → Nat → Nat
  | [], m => m
  | .tmp t :: l, m => argM l (m ||| bitN t)
  | _ :: l, m => argM l m
/-- A slot that is handed to a call, and where it was moved from. -/
def movM (m : Nat) (dd : Option Nat) (t : Nat) : Nat := match dd with
  | some d => (match tb m d with
    | true => m ||| bitN t
    | false => m)
  | none => m
def callM (m : Nat) (o : Oper) : Nat :=
  match o.op with
  | .call c => argM c.args.toList m
  | .move (.tmp t) => movM m o.dst t
  | .assign (.tmp t) => movM m o.dst t
  | .nilCheck (.tmp t) => movM m o.dst t
  | _ => m
def cM : Code → Nat → Nat
  | .region _ ops _, m => ops.toList.reverse.foldl callM m
  | .seq a b, m => cM a (cM b m)
  | .cond _ a b, m => cM a (cM b m)
  | .block _ c, m => cM c m
  | .loop c, m => cM c m
  | _, m => m
/-- The rows and boxes that turn in the loop, and those used up. -/
def badK {γ : Type u} (m c : Nat) : Nat → Wr → (List Nat → γ) → γ
  | _, [], k => k []
  | d, (n, v) :: s, k => match tb d n with
    | true => badK m c d s k
    | false => match v with
      | .p (.c (.rp q)) => (match tb m n || tb m (n + 1) with
        | true => badK m c (d ||| bitN n) s fun l => k (q :: l)
        | false => badK m c (d ||| bitN n) s k)
      | .p (.c (.bx q _)) => (match tb m (n + 1) || tb c (n / 2) with
        | true => badK m c (d ||| bitN n) s fun l => k (q :: l)
        | false => badK m c (d ||| bitN n) s k)
      | .gone => badK m c (d ||| bitN n) s fun l => k (n / 2 :: l)
      | _ => badK m c (d ||| bitN n) s k
/-- Rows that lie in boxes' cells, where one that was loaded is written. -/
def rpsK {γ : Type u} : List CV → (List Nat → γ) → γ
  | [], k => k []
  | .rp q :: cs, k => rpsK cs fun l => k (q :: l)
  | _ :: cs, k => rpsK cs k
def rowsK {γ : Type u} (m : Nat) : Wr → (List Nat → γ) → γ
  | [], k => k []
  | (_, v) :: s, k => match v with
    | .mem _ cs => (match tb m 8190 with
      | true => rpsK cs fun l => rowsK m s fun l' => k (l ++ l')
      | false => rowsK m s k)
    | _ => rowsK m s k
def badM : List Nat → Nat → Nat
  | [], m => m
  | q :: l, m => badM l (m ||| bitN (2 * q + 1))
def keepM {γ : Type u} (bad : List Nat) : Nat → Wr → (Wr → γ) → γ
  | _, [], k => k []
  | m, (n, v) :: r, k => match tb m n || v.ids.any (fun q => bad.any (Nat.beq q)) with
    | true => keepM bad (m ||| bitN n) r k
    | false => (match v with
      | .any => keepM bad (m ||| bitN n) r k
      | v => fcps v fun v => keepM bad (m ||| bitN n) r fun t => k ((n, v) :: t))
/-- The slots that what is still to do may read; the others need not be kept. -/
def usM : List Operand → Nat
  | [] => 0
  | .tmp t :: l => bitN (2 * t) ||| usM l
  | _ :: l => usM l
def usO : Option Operand → Nat
  | some (.tmp t) => bitN (2 * t)
  | _ => 0
def useO (o : Oper) : Nat :=
  match o.op with
  | .pick a b c => usM [a, b, c]
  | .build _ ps => usM (ps.toList.map (·.2))
  | .buildSlice _ _ ps => usM (ps.toList.map (·.2))
  | .store _ a v => usM [a, v]
  | .binOp _ _ a v _ => usM [a, v]
  | .makeSlice _ a v => usM [a, v]
  | .indexAddr _ a v => usM [a, v]
  | .index _ a v => usM [a, v]
  | .makeFunc _ a b => usM a.toList ||| usM b.toList
  | .slice _ x l h a => usO l ||| usO h ||| usO a ||| usM [x]
  | .call c => (match c.callee with
    | .value f => usM (f :: c.args.toList)
    | .invoke r _ => usM (r :: c.args.toList)
    | .builtin _ => usM c.args.toList)
  | .move x => usM [x]
  | .assign x => usM [x]
  | .box _ x => usM [x]
  | .load _ x => usM [x]
  | .nilCheck x => usM [x]
  | .unOp _ _ x => usM [x]
  | .convert _ _ x => usM [x]
  | .fieldAddr _ x _ => usM [x]
  | .field _ x _ => usM [x]
  | .extract x _ => usM [x]
  | _ => 0
def useC : Code → Nat
  | .region _ ops _ => ops.toList.foldr (fun o m => useO o ||| m) 0
  | .seq a b => useC a ||| useC b
  | .cond c a b => usM [c] ||| (useC a ||| useC b)
  | .block _ c => useC c
  | .loop c => useC c
  | _ => 0
def useK : List Item → Nat
  | [] => 0
  | .code c :: l => useC c ||| useK l
  | .inLoop c :: l => useC c ||| useK l
  | _ :: l => useK l
def useR : List ResultVar → Nat
  | [] => 0
  | .tmp t :: l => bitN (2 * t) ||| useR l
  | .cell t _ :: l => bitN (2 * t) ||| useR l
def liveK {γ : Type u} (live : Nat) : Wr → (Wr → γ) → γ
  | [], k => k []
  | (n, v) :: s, k => match Nat.beq (n % 2) 1 || tb live n with
    | true => liveK live s fun t => k ((n, v) :: t)
    | false => liveK live s k
section
variable {P : Program} {X : Nat → Prop} {Y : Came} {w0 : World} {N : Nat} {fn : Func} {R : Value → World → Prop} {K : List Item} {s s1 : Wr}
theorem Runs.loopM {c : Code} {t : Wr} {bad rs : List Nat} (hl : liveK (useC c ||| (useK K ||| useR fn.results.toList)) s some = some s1) (hr : rowsK (wM c 0) s1 some = some rs) (hb : badK (wM c 0) (cM c 0) 0 s1 some = some bad) (ht : keepM bad (badM rs (badM bad (wM c 0))) s1 some = some t)
    (main : ∀ Q : Wr → Prop, (∀ u, Runs P fn X Y w0 N R (.code c :: .inLoop c :: K) (u ++ t) → Q u) → (∀ u s', Q u → Into N u t s' → Runs P fn X Y w0 N R (.inLoop c :: K) s') → ∃ u, Q u ∧ Into N u t s) :
    Runs P fn X Y w0 N R (.code (.loop c) :: K) s := by
  obtain ⟨u, hq, hu⟩ := main (fun u => Runs P fn X Y w0 N R (.code c :: .inLoop c :: K) (u ++ t)) (fun u h => h) (fun u s' hq hs => Runs.inLoop (Runs.into hs hq))
  exact Runs.loop (Runs.into hu hq)
end
/-- A loop of the print's: what holds at its head (J), its bound on rounds, and its slots. -/
class Lp (h : Prop) (Q : Wr → Prop) (J : outParam (Nat → Prop)) (k0 : outParam Nat) (u : outParam Wr) : Prop where
  out : J k0 → h → Q u
theorem lpI {J : Nat → Prop} (k0 : Nat) (h : ∀ k, k ≤ k0 → (∀ k', k' < k → J k') → J k) : J k0 := by
  have : ∀ k, k ≤ k0 → J k := by
    intro k
    induction k using Nat.strongRecOn with
    | _ k ih => exact fun hk => h k hk fun k' hk' => ih k' hk' (by omega)
  exact this k0 (Nat.le_refl _)
theorem sub_nil (s : Wr) : Sub [] s := .nil s
theorem sub_cons {n : Nat} {v : AV} {r s : Wr} (h : look s n = v) (k : Sub r s) : Sub ((n, v) :: r) s := .cons h k
end Go.Proofs.YtgjpphcbdbfhlaaGreat.L.EV
namespace Go.Proofs.YtgjpphcbdbfhlaaGreat.L.EV
open Go.RowKit Go.Proofs Go.Proofs.YtgjpphcbdbfhlaaGreatW.PrintWords Go.Proofs.YtgjpphcbdbfhlaaGreatW.PrintLast
universe u
section
variable {P : Program} {I : Nat → Option TI} {X : Nat → Prop} {Y : Came} {w0 w : World} {N : Nat} {η : Nat → Value} {σ : Nat → AV} {a : Act} {o : Oper} {fn : Func} {R : Value → World → Prop} {K : List Item} {s s0 : Wr} {ops : Array Oper} {l : List Oper} {d : List (Wr × List Nat)}
/-- The cells of a row that is read. -/
theorem row_news {α : Type} {Ra : α → List Value → Prop} {sz : Nat} {ad : Addr} : ∀ (ys : List α) (b : Nat), (∀ j p, ys[j]? = some p → ∃ c, c.length = sz ∧ Ra p c ∧ ∀ i u, c[i]? = some u → w.cell? (ad.add ((b + j) * sz + i)) = some u) →
    ∃ news : List Value, Reps Ra sz ys news ∧ ∀ t u, news[t]? = some u → w.cell? (ad.add (b * sz + t)) = some u
  | [], b, _ => ⟨[], ⟨by simp, fun j p hp => by simp at hp⟩, fun t u hu => by simp at hu⟩
  | y :: ys, b, h => by
    obtain ⟨c, c1, c2, c3⟩ := h 0 y rfl
    obtain ⟨news, n1, n2⟩ := row_news ys (b + 1) fun j p hp => by
      obtain ⟨c, d1, d2, d3⟩ := h (j + 1) p (by simpa using hp)
      exact ⟨c, d1, d2, fun i u hu => by rw [show b + 1 + j = b + (j + 1) from by omega]; exact d3 i u hu⟩
    refine ⟨c ++ news, ⟨by rw [List.length_append, c1, n1.1, List.length_cons, Nat.succ_mul]; omega, fun j p hp => ?_⟩, fun t u hu => ?_⟩
    · cases j with
      | zero =>
        simp at hp
        subst hp
        have : ((c ++ news).drop (0 * sz)).take sz = c := by rw [Nat.zero_mul, List.drop_zero, ← c1, List.take_left]
        rw [this]
        exact c2
      | succ j =>
        have : (c ++ news).drop ((j + 1) * sz) = news.drop (j * sz) := by
          rw [Nat.succ_mul, Nat.add_comm, ← c1, ← List.drop_drop, List.drop_left]
        rw [this]
        exact n1.2 j p (by simpa using hp)
    · by_cases ht : t < sz
      · rw [List.getElem?_append_left (by omega)] at hu
        exact c3 t u hu
      · rw [List.getElem?_append_right (by omega)] at hu
        have := n2 _ u hu
        rw [← this]
        congr 2
        rw [Nat.succ_mul, c1]
        omega
theorem append_run {t e ty : Nat} {te : TI} (hu : P.underlying t = some (.slice e)) (hte : TiOk P e te) {Z : Nat → Prop} {α : Type} {k : EK α} {v1 v2 : Value} {xs ys : List α} (hsz : te.size = k.sz) (hs0 : 1 ≤ k.sz) (hby : 1 ≤ te.bytes) (hzl : te.zero.length = te.size)
    (h1 : RowOwn Z w e k v1 xs) (h2 : ∃ A c, v2 = .slice A ys.length c ∧ ys.length ≤ c ∧ k.row Z w A ys) (hb : (xs.length + ys.length) * te.bytes ≤ 140737488355328) :
    ∃ v w1, (Builtin.append_ #[t, t] ty #[v1, v2]).run P w = .ok v w1 ∧ (∃ cs, w1.ownsRow 0 e k.sz v (xs ++ ys).length cs ∧ Reps (k.at_ Z w) k.sz (xs ++ ys) cs) ∧ w.grownBy w1 v1.ownBlock ∧ (v.ownBlock = v1.ownBlock ∨ v.ownBlock = some w.heap.size) := by
  obtain ⟨cs, c1, c2⟩ := h1
  obtain ⟨A, c, rfl, hc, hrow⟩ := h2
  obtain ⟨i, z, hi, hz, his, hib, hzc⟩ := ti_info hte
  have hzc := hzc (by intro e0; rw [e0] at hzl; simp at hzl; omega)
  have hn : xs.length + ys.length ≤ 140737488355328 := Nat.le_trans (Nat.le_mul_of_pos_right _ (by omega)) hb
  cases A with
  | some ad =>
    have hcell : ∀ j p, ys[j]? = some p → ∃ c, c.length = k.sz ∧ k.at_ Z w p c ∧ ∀ i u, c[i]? = some u → w.cell? (ad.add ((0 + j) * k.sz + i)) = some u := by
      intro j p hp
      obtain ⟨ad', q1, _, _, q4⟩ := hrow.2 (by have := (List.getElem?_eq_some_iff.1 hp).1; omega)
      cases q1
      rw [Nat.zero_add]
      exact q4 j p hp
    obtain ⟨news, n1, n2⟩ := row_news ys 0 hcell
    have hone : ∀ u ∈ news, u.oneCell' = true := by
      intro u hu
      obtain ⟨t, ht⟩ := List.getElem?_of_mem hu
      have htl := (List.getElem?_eq_some_iff.1 ht).1
      rw [n1.1] at htl
      have hj : t / k.sz < ys.length := Nat.div_lt_of_lt_mul (by rw [Nat.mul_comm]; exact htl)
      have hr := n1.2 (t / k.sz) _ (List.getElem?_eq_getElem hj)
      refine (EK.at_len k hr).2 u ?_
      refine List.mem_of_getElem? (i := t % k.sz) ?_
      rw [List.getElem?_take, if_pos (Nat.mod_lt _ (by omega)), List.getElem?_drop]
      rw [Nat.div_add_mod' t k.sz]
      exact ht
    obtain ⟨v', w', g1, g2, g3, _, g5⟩ := run_append_own_at (P := P) w 0 t ty e i z k.sz te.bytes hu hi hz (his.trans hsz) hib (by rw [hzc]; simp [hzl, hsz]) (by omega) v1 xs.length cs c1 ad ys.length c news n1.1 (fun j u hj => by have := n2 j u hj; rw [Nat.zero_mul, Nat.zero_add] at this; exact this) hone (by simp only [maxLen]; omega) hb (Nat.zero_le _)
    exact ⟨v', w', g1, ⟨cs ++ news, by rw [List.length_append]; exact g2, Kd.reps_append c2 n1⟩, g3, g5⟩
  | none =>
    have hy : ys = [] := by
      cases ys with
      | nil => rfl
      | cons y ys => obtain ⟨ad, q1, _⟩ := hrow.2 (by simp); cases q1
    subst hy
    refine ⟨v1, w, ?_, ⟨cs, by simpa using c1, by simpa using c2⟩, ⟨rfl, rfl, rfl, Nat.le_refl _, fun _ _ _ => rfl⟩, .inl rfl⟩
    rcases c1.2 with ⟨rfl, _⟩ | ⟨g, cap, cur, rfl, _, hg, hnc, _⟩
    · simp [Builtin.append_, run_underlying hu, sizeOf, typeInfo, hi, Builtin.lenOf, Builtin.firstCells, loadCells, loadCellsFrom]
    · simp [Builtin.append_, run_underlying hu, sizeOf, typeInfo, hi, Builtin.lenOf, Builtin.firstCells, loadCells, loadCellsFrom, hnc, storeCells]
theorem append_ret {Xc : Nat → Prop} {t e ty : Nat} {te : TI} (hu : P.underlying t = some (.slice e)) (hte : TiOk P e te) {α : Type} {k : EK α} {vs gs : List Value} {xs ys : List α} (hsz : te.size = k.sz) (hs0 : 1 ≤ k.sz) (hby : 1 ≤ te.bytes) (hzl : te.zero.length = te.size)
    (hA : ArgOk Xc w [.p (.c (.ow e k xs)), .p (.c (.sl k ys))] vs gs) (hb : (xs.length + ys.length) * te.bytes ≤ 140737488355328) :
    ∃ v w1, (Builtin.append_ #[t, t] ty vs.toArray).run P w = .ok v w1 ∧ RetOk Xc w [true, false] gs (.p (.c (.ow e k (xs ++ ys)))) [] v w1 := by
  have hrel := hA.rel
  match vs, hrel with
  | [v1, v2], hrel =>
    obtain ⟨g1, g2, rfl, ⟨rfl, h1⟩, g3, g4, rfl, ⟨rfl, h2⟩, g5⟩ := hrel
    have g5 : g4 = [] := g5
    subst g5
    have h1 : RowOwn (fun k => Xc k ∨ Zb [true, false] [v1, v2] k) w e k v1 xs := h1
    have h2 : ∃ A c, v2 = .slice A ys.length c ∧ ys.length ≤ c ∧ k.row (fun k => Xc k ∨ Zb [true, false] [v1, v2] k) w A ys := h2
    have hZ : ∀ b, v1.ownBlock = some b → Zb [true, false] [v1, v2] b := fun b hb => ⟨0, rfl, v1, rfl, by rw [h1.vb]; exact hb⟩
    obtain ⟨v, w1, g1, ⟨cs, g2, g3⟩, g4, g5⟩ := append_run (ty := ty) hu hte hsz hs0 hby hzl h1 h2 hb
    have hvb := owns_vb g2
    have hE : Ext (Zb [true, false] [v1, v2]) w w1 := ⟨g4.os, g4.tape, g4.output, g4.size, fun i hi hn => g4.block i hi (fun e => hn (hZ i e.symm))⟩
    have hW : ∀ b, vb v = some b → Zb [true, false] [v1, v2] b ∨ w.heap.size ≤ b := by
      intro b hb
      rw [hvb] at hb
      rcases g5 with g5 | g5
      · exact .inl (hZ b (by rw [← g5]; exact hb))
      · rw [g5] at hb; cases hb; exact .inr (Nat.le_refl _)
    refine ⟨v, w1, g1, fun i => match i with | 0 => vb v | _ => none, hE, fun i b hb => ?_, fun i j b hi hj => ?_, ⟨⟨cs, g2, g3.imp_ fun p c hp => EK.at_step hp (X := fun i => Xc i ∨ Zb [true, false] [v1, v2] i) ⟨hE.os, hE.tape, hE.output, hE.size, fun i hi hn => hE.block i hi fun h => hn (.inr h)⟩ ?_⟩, fun _ => rfl⟩, trivial⟩
    · cases i with
      | zero => exact hW b hb
      | succ i => cases hb
    · cases i <;> cases j <;> first | rfl | cases hi | cases hj
    · rintro i (hi | ⟨t, hi⟩) hlt
      · exact .inl hi
      · cases t with
        | zero =>
          rcases hW i hi with h | h
          · exact .inr h
          · omega
        | succ t => cases hi
theorem Sk.app (hI : ∀ t ti, I t = some ti → TiOk P t ti) {t : Nat} {as : Array Operand} {ps : String} {tx : Nat} {e : Nat} {ti te : TI} {α κ : Type} {k : EK α} {k0 : EK κ} {xs ys : List α} {C : List (Option Nat)} {F wr : Wr} {dd : Option Nat} {g : Option (Nat × Bool)} {rd rd1 rd2 : List Nat} {af : Array Edge}
    (hg : guardA ops ⟨dd, .call { callee := .builtin .append, args := as, argTypes := #[t, t] }, tx, ps, #[], g⟩ σ = some (true, rd))
    (ht : I t = some ti) (he : ti.elem = some e) (hte : I e = some te)
    (hv : argsA [.p (.c (.ow e k0 [])), .any] as.toList σ = some (([.p (.c (.ow e k xs)), .p (.c (.sl k ys))], C, F), rd1))
    (hk : (Nat.beq te.size k.sz && Nat.ble 1 k.sz && Nat.ble 1 te.bytes && Nat.beq te.zero.length te.size) = true) (hb : (xs.length + ys.length) * te.bytes ≤ 140737488355328)
    (hx : callX (.p (.c (.ow e k (xs ++ ys)))) [] C F dd N σ = some (wr, rd2)) : Sk P X Y w0 N ops ⟨dd, .call { callee := .builtin .append, args := as, argTypes := #[t, t] }, tx, ps, af, g⟩ σ wr (rd ++ (rd1 ++ rd2)) := by
  intro σ' ee η a w Q K hr hkk
  have hg' := guardA_framed ops σ _ hg σ' (fun n hn => ee n (List.mem_append_left _ hn))
  have hv' := argsA_framed _ as.toList σ _ hv σ' (fun n hn => ee n (List.mem_append_right _ (List.mem_append_left _ hn)))
  have hx' := callX_framed _ [] C F dd N σ _ hx σ' (fun n hn => ee n (List.mem_append_right _ (List.mem_append_right _ hn)))
  have hw : Region.wanted ⟨dd, .call { callee := .builtin .append, args := as, argTypes := #[t, t] }, tx, ps, af, g⟩ (yielded ops a.tmps) = true := guardA_sound hr hg'
  rw [if_pos hw]
  simp only [Bool.and_eq_true] at hk
  obtain ⟨⟨⟨k1, k2⟩, k3⟩, k4⟩ := hk
  have ho : okC C F = true := by
    cases ho : okC C F with
    | true => rfl
    | false => unfold callX at hx; rw [ho] at hx; cases hx
  obtain ⟨gs, a1, a2⟩ := argsA_sound hr hv'
  obtain ⟨v, w1, h1, h2⟩ := append_ret (ty := tx) (ti_elem (hI t ti ht) he) (hI e te hte) (Nat.eq_of_beq_eq_true k1) (Nat.le_of_ble_eq_true k2) (Nat.le_of_ble_eq_true k3) (Nat.eq_of_beq_eq_true k4) (args_ok hr a1 a2 ho) hb
  obtain ⟨η', h3⟩ := call_after (dd := dd) hr a1 hx' h2
  have hmap : as.map a.eval = (as.toList.map a.eval).toArray := by rw [← Array.toList_map, Array.toArray_toList]
  unfold Oper.wp execOp
  simp only [resolve, invoke, builtin, Sem.run_bind, Sem.run_pure, Result.andThen_ok, hmap, h1]
  exact hkk η' _ w1 h3
theorem RegL.app (hI : ∀ t ti, I t = some ti → TiOk P t ti) {t : Nat} {as : Array Operand} {ps : String} {tx : Nat} {e : Nat} {ti te : TI} {α κ : Type} {k : EK α} {k0 : EK κ} {xs ys : List α} {C : List (Option Nat)} {F wr wr' s' : Wr} {dd : Option Nat} {rd1 rd2 : List Nat} {af : Array Edge}
    (ht : I t = some ti) (he : ti.elem = some e) (hte : I e = some te) (hk0 : te.ek = some ⟨κ, k0⟩)
    (hv : argsA [.p (.c (.ow e k0 [])), .any] as.toList (look s) = some (([.p (.c (.ow e k xs)), .p (.c (.sl k ys))], C, F), rd1))
    (hk : (Nat.beq te.size k.sz && Nat.ble 1 k.sz && Nat.ble 1 te.bytes && Nat.beq te.zero.length te.size) = true) (hb : (xs.length + ys.length) * te.bytes ≤ 140737488355328)
    (hx : callX (.p (.c (.ow e k (xs ++ ys)))) [] C F dd N (look s) = some (wr, rd2)) (hs : normK wr s (fun a b => some (a, b)) = some (wr', s')) (kk : RegL P fn X Y w0 N R K ops l s') :
    RegL P fn X Y w0 N R K ops (⟨dd, .call { callee := .builtin .append, args := as, argTypes := #[t, t] }, tx, ps, af, none⟩ :: l) s := by
  obtain ⟨rfl, rfl⟩ := normK_inv hs
  exact RegL.one (Sk.app hI (guardA_none rfl) ht he hte hv hk hb hx) kk
theorem RegL.appG (hI : ∀ t ti, I t = some ti → TiOk P t ti) {t : Nat} {as : Array Operand} {ps : String} {tx : Nat} {e : Nat} {ti te : TI} {α κ : Type} {k : EK α} {k0 : EK κ} {xs ys : List α} {C : List (Option Nat)} {F wr wr' s' : Wr} {dd : Option Nat} {rd1 rd2 : List Nat} {af : Array Edge} {j u : Nat} {want b : Bool} (hu : (ops[j]?).bind (·.dst) = some u) (hbb : look s (2 * u) = .p (.c (.v (.bool b)))) (hw : b = want)
    (ht : I t = some ti) (he : ti.elem = some e) (hte : I e = some te) (hk0 : te.ek = some ⟨κ, k0⟩)
    (hv : argsA [.p (.c (.ow e k0 [])), .any] as.toList (look s) = some (([.p (.c (.ow e k xs)), .p (.c (.sl k ys))], C, F), rd1))
    (hk : (Nat.beq te.size k.sz && Nat.ble 1 k.sz && Nat.ble 1 te.bytes && Nat.beq te.zero.length te.size) = true) (hb : (xs.length + ys.length) * te.bytes ≤ 140737488355328)
    (hx : callX (.p (.c (.ow e k (xs ++ ys)))) [] C F dd N (look s) = some (wr, rd2)) (hs : normK wr s (fun a b => some (a, b)) = some (wr', s')) (kk : RegL P fn X Y w0 N R K ops l s') :
    RegL P fn X Y w0 N R K ops (⟨dd, .call { callee := .builtin .append, args := as, argTypes := #[t, t] }, tx, ps, af, some (j, want)⟩ :: l) s := by
  obtain ⟨rfl, rfl⟩ := normK_inv hs
  subst hw
  obtain ⟨rd, h1, rfl⟩ := guardA_some (o := ⟨dd, .call { callee := .builtin .append, args := as, argTypes := #[t, t] }, tx, ps, #[], some (j, b)⟩) rfl hu hbb
  exact RegL.one (Sk.app hI h1 ht he hte hv hk hb hx) kk
theorem RegD.app (hI : ∀ t ti, I t = some ti → TiOk P t ti) {t : Nat} {as : Array Operand} {ps : String} {tx : Nat} {e : Nat} {ti te : TI} {α κ : Type} {k : EK α} {k0 : EK κ} {xs ys : List α} {C : List (Option Nat)} {F wr wr' s' : Wr} {dd : Option Nat} {rd1 rd2 : List Nat} {af : Array Edge}
    (ht : I t = some ti) (he : ti.elem = some e) (hte : I e = some te) (hk0 : te.ek = some ⟨κ, k0⟩)
    (hv : argsA [.p (.c (.ow e k0 [])), .any] as.toList (look s) = some (([.p (.c (.ow e k xs)), .p (.c (.sl k ys))], C, F), rd1))
    (hk : (Nat.beq te.size k.sz && Nat.ble 1 k.sz && Nat.ble 1 te.bytes && Nat.beq te.zero.length te.size) = true) (hb : (xs.length + ys.length) * te.bytes ≤ 140737488355328)
    (hx : callX (.p (.c (.ow e k (xs ++ ys)))) [] C F dd N (look s) = some (wr, rd2)) (hs : normK wr s (fun a b => some (a, b)) = some (wr', s')) (kk : RegD P fn X Y w0 N R K ops s0 (d ++ [(wr', [] ++ (rd1 ++ rd2))]) l s') :
    RegD P fn X Y w0 N R K ops s0 d (⟨dd, .call { callee := .builtin .append, args := as, argTypes := #[t, t] }, tx, ps, af, none⟩ :: l) s := by
  obtain ⟨rfl, rfl⟩ := normK_inv hs
  exact RegD.one (Sk.app hI (guardA_none rfl) ht he hte hv hk hb hx) kk
theorem RegD.appG (hI : ∀ t ti, I t = some ti → TiOk P t ti) {t : Nat} {as : Array Operand} {ps : String} {tx : Nat} {e : Nat} {ti te : TI} {α κ : Type} {k : EK α} {k0 : EK κ} {xs ys : List α} {C : List (Option Nat)} {F wr wr' s' : Wr} {dd : Option Nat} {rd1 rd2 : List Nat} {af : Array Edge} {j u : Nat} {want b : Bool} (hu : (ops[j]?).bind (·.dst) = some u) (hbb : look s (2 * u) = .p (.c (.v (.bool b)))) (hw : b = want)
    (ht : I t = some ti) (he : ti.elem = some e) (hte : I e = some te) (hk0 : te.ek = some ⟨κ, k0⟩)
    (hv : argsA [.p (.c (.ow e k0 [])), .any] as.toList (look s) = some (([.p (.c (.ow e k xs)), .p (.c (.sl k ys))], C, F), rd1))
    (hk : (Nat.beq te.size k.sz && Nat.ble 1 k.sz && Nat.ble 1 te.bytes && Nat.beq te.zero.length te.size) = true) (hb : (xs.length + ys.length) * te.bytes ≤ 140737488355328)
    (hx : callX (.p (.c (.ow e k (xs ++ ys)))) [] C F dd N (look s) = some (wr, rd2)) (hs : normK wr s (fun a b => some (a, b)) = some (wr', s')) (kk : RegD P fn X Y w0 N R K ops s0 (d ++ [(wr', [2 * u] ++ (rd1 ++ rd2))]) l s') :
    RegD P fn X Y w0 N R K ops s0 d (⟨dd, .call { callee := .builtin .append, args := as, argTypes := #[t, t] }, tx, ps, af, some (j, want)⟩ :: l) s := by
  obtain ⟨rfl, rfl⟩ := normK_inv hs
  subst hw
  obtain ⟨rd, h1, rfl⟩ := guardA_some (o := ⟨dd, .call { callee := .builtin .append, args := as, argTypes := #[t, t] }, tx, ps, #[], some (j, b)⟩) rfl hu hbb
  exact RegD.one (Sk.app hI h1 ht he hte hv hk hb hx) kk
end
end Go.Proofs.YtgjpphcbdbfhlaaGreat.L.EV
namespace Go.Proofs.YtgjpphcbdbfhlaaGreat.L.EV
open Go.RowKit Go.Proofs Go.Proofs.YtgjpphcbdbfhlaaGreatW.PrintWords Go.Proofs.YtgjpphcbdbfhlaaGreatW.PrintLast
universe u
section
variable {P : Program} {I : Nat → Option TI} {X : Nat → Prop} {Y : Came} {w0 w : World} {N : Nat} {η : Nat → Value} {σ : Nat → AV} {a : Act} {o : Oper} {fn : Func} {R : Value → World → Prop} {K : List Item} {s s0 : Wr} {ops : Array Oper} {l : List Oper} {d : List (Wr × List Nat)}
/-- The slot's number is free. -/
def freeD (N d : Nat) : M Bool := bnd (get (2 * d + 1)) fun m => (match m.isMem || !Nat.blt d N with
  | true => fail
  | false => ret true)
theorem freeD_framed (d : Nat) : Framed (freeD N d) := (Framed.get _).bnd fun m => by split <;> first | exact Framed.fail | exact Framed.ret _
theorem freeD_sound {d : Nat} {b : Bool} {rd : List Nat} (h : freeD N d σ = some (b, rd)) : (σ (2 * d + 1)).isMem = false ∧ d < N := by
  obtain ⟨m, r1, r2, h1, h2, _⟩ := bnd_some h
  unfold get at h1
  injection h1 with h1
  injection h1 with h1 _
  cases hm : (m.isMem || !Nat.blt d N) with
  | true => simp only [hm] at h2; cases h2
  | false =>
    rw [Bool.or_eq_false_iff, Bool.not_eq_false'] at hm
    exact ⟨by rw [h1]; exact hm.1, Nat.le_of_ble_eq_true hm.2⟩
theorem Sk.lit (hI : ∀ t ti, I t = some ti → TiOk P t ti) {t e e2 : Nat} {ti te : TI} {κ : Type} {k : EK κ} {rdl : List (List κ) → Int → List κ} {hrl : ∀ xs i, 0 ≤ i → i < (xs.length : Int) → xs[i.toNat]? = some (rdl xs i)} {ys : List κ} {x : Operand} {ps : String} {tx : Nat} {dd : Nat} {g : Option (Nat × Bool)} {C : List (Option Nat)} {F : Wr} {b : Bool} {rd rd1 rd2 : List Nat} {af : Array Edge}
    (hg : guardA ops ⟨some dd, .buildSlice t 1 #[(0, x)], tx, ps, #[], g⟩ σ = some (true, rd))
    (ht : I t = some ti) (he : ti.elem = some e) (hte : I e = some te) (hc : Nat.beq te.size 1 = true)
    (hv : argO .any x σ = some ((.p (.c (.sl k ys)), C, F), rd1)) (hd : freeD N dd (EV.app F σ) = some (b, rd2)) :
    Sk P X Y w0 N ops ⟨some dd, .buildSlice t 1 #[(0, x)], tx, ps, af, g⟩ σ ([(2 * dd, .p (.c (.rp dd))), (2 * dd + 1, .row e (.sls e2 k rdl hrl) [ys])] ++ F) (rd ++ (rd1 ++ rd2)) := by
  intro σ' ee η a w Q K hr hkk
  have hg' := guardA_framed ops σ _ hg σ' (fun n hn => ee n (List.mem_append_left _ hn))
  have hv' := argO_framed .any x σ _ hv σ' (fun n hn => ee n (List.mem_append_right _ (List.mem_append_left _ hn)))
  have hd' := freeD_framed dd (EV.app F σ) _ hd (EV.app F σ') (fun n hn => app_same (ee n (List.mem_append_right _ (List.mem_append_right _ hn))))
  have hw : Region.wanted ⟨some dd, .buildSlice t 1 #[(0, x)], tx, ps, af, g⟩ (yielded ops a.tmps) = true := guardA_sound hr hg'
  rw [if_pos hw]
  obtain ⟨v0, r5, r6, h5, h6, _⟩ := bnd_some hv'
  obtain ⟨gs, g1, g2⟩ := argV_sound hr (evA_sound hr h5) h6
  obtain ⟨R1, f1, f2⟩ := frz_all hr g1.frz
  obtain ⟨h7, h8⟩ := freeD_sound hd'
  have hsub : ∀ i, Own X η (EV.app F σ') i → Own X η σ' i := by
    rintro i (hi | ⟨q, hq⟩)
    · exact .inl hi
    · exact .inr ⟨q, app_fzAll g1.frz hr hq⟩
  obtain ⟨_, A, c, u1, u2, u3⟩ := g2 (Own X η (EV.app F σ')) (fun i hi _ => hsub i hi) (fun q α k xs hp => R1.fz q k xs (f1 _ hp))
  have hcz := Nat.eq_of_beq_eq_true hc
  have hreps : Reps ((EK.sls e2 k rdl hrl).at_ (Own X η (EV.app F σ')) w) (EK.sls e2 k rdl hrl).sz [ys] [a.eval x] := by
    refine ⟨rfl, fun j p hp => ?_⟩
    cases j with
    | zero => simp at hp; subst hp; exact ⟨A, c, by rw [u1]; rfl, u2, u3⟩
    | succ j => simp at hp
  have hown : (w.alloc (.cells [a.eval x].toArray e)).ownsRow 0 e 1 (.slice (some ⟨w.heap.size, 0, none⟩) 1 1) 1 [a.eval x] := by
    have h2 := World.ownsRow_lit (base := 0) (e := e) (size := 1) w [a.eval x].toArray 1 (Nat.zero_le _) (by simp [maxLen]) (by simp)
    simpa using h2
  obtain ⟨η', hr'⟩ := R1.litRow h8 h7 hreps (ext_alloc w _) hown (fun b hb => Nat.le_of_eq (by simpa [Value.ownBlock] using hb))
  obtain ⟨z, hz, hzc⟩ := ti_zero (hI e te hte) w
  have hu := ti_elem (hI t ti ht) he
  have hsz := ti_size (hI e te hte) w
  have hone : (a.eval x).cells = [a.eval x].toArray := by rw [u1]; rfl
  have hfill : ∀ init : Array Value, init.size = 1 → Instr.fill (fun i => some (i * 1, 1)) init [(0, a.eval x)] = some [a.eval x].toArray := by
    intro init hi
    have h9 := fill_step (place := fun i => some (i * 1, 1)) (cells := init) (i := 0) (v := a.eval x) (rest := []) rfl hone rfl (by omega)
    rw [h9]
    have hil : init.toList.length = 1 := (Array.length_toList (xs := init)).trans hi
    unfold Instr.fill
    congr 2
    simp [List.drop_eq_nil_of_le (Nat.le_of_eq hil)]
  have hrun : (execOp a.eval ⟨some dd, .buildSlice t 1 #[(0, x)], tx, ps, af, g⟩).run P w = .ok (.value (.slice (some ⟨w.heap.size, 0, none⟩) 1 1)) (w.alloc (.cells [a.eval x].toArray e)) := by
    simp only [execOp, Instr.buildSlice, Sem.run_bind, run_underlying hu, hsz, Result.andThen_ok]
    rw [if_neg (by rw [hcz]; omega)]
    rw [if_neg (by rw [hcz]; omega)]
    simp only [Sem.run_bind, hz, Sem.run_pure, Result.andThen_ok]
    have h10 : ∀ init : Array Value, init.size = 1 → Instr.fill (fun i => some (i * te.size, te.size)) init (Array.map (fun p : Nat × Operand => (p.1, a.eval p.2)) #[(0, x)]).toList = some [a.eval x].toArray := by
      intro init hi
      rw [hcz]
      have := hfill init hi
      simpa using this
    rw [h10 _ (by simp [hcz])]
    simp only [newRow, Sem.run_bind, Sem.run_pure, Result.andThen_ok, run_newObj]
    rfl
  unfold Oper.wp
  rw [hrun]
  refine hkk η' _ _ ?_
  rw [app_append]
  exact hr'
theorem RegL.lit (hI : ∀ t ti, I t = some ti → TiOk P t ti) {t e e2 : Nat} {ti te : TI} {κ : Type} {k : EK κ} {rdl : List (List κ) → Int → List κ} {hrl : ∀ xs i, 0 ≤ i → i < (xs.length : Int) → xs[i.toNat]? = some (rdl xs i)} {ys : List κ} {x : Operand} {ps : String} {tx : Nat} {dd : Nat} {C : List (Option Nat)} {F : Wr} {b : Bool} {rd1 rd2 : List Nat} {af : Array Edge}
    (ht : I t = some ti) (he : ti.elem = some e) (hte : I e = some te) (hk : te.ek = some ⟨List κ, .sls e2 k rdl hrl⟩) (hc : Nat.beq te.size 1 = true)
    (hv : argO .any x (look s) = some ((.p (.c (.sl k ys)), C, F), rd1)) (hd : freeD N dd (EV.app F (look s)) = some (b, rd2)) (kk : RegL P fn X Y w0 N R K ops l (([(2 * dd, .p (.c (.rp dd))), (2 * dd + 1, .row e (.sls e2 k rdl hrl) [ys])] ++ F) ++ s)) :
    RegL P fn X Y w0 N R K ops (⟨some dd, .buildSlice t 1 #[(0, x)], tx, ps, af, none⟩ :: l) s := RegL.one (Sk.lit hI (guardA_none rfl) ht he hte hc hv hd) kk
theorem RegD.lit (hI : ∀ t ti, I t = some ti → TiOk P t ti) {t e e2 : Nat} {ti te : TI} {κ : Type} {k : EK κ} {rdl : List (List κ) → Int → List κ} {hrl : ∀ xs i, 0 ≤ i → i < (xs.length : Int) → xs[i.toNat]? = some (rdl xs i)} {ys : List κ} {x : Operand} {ps : String} {tx : Nat} {dd : Nat} {C : List (Option Nat)} {F : Wr} {b : Bool} {rd1 rd2 : List Nat} {af : Array Edge}
    (ht : I t = some ti) (he : ti.elem = some e) (hte : I e = some te) (hk : te.ek = some ⟨List κ, .sls e2 k rdl hrl⟩) (hc : Nat.beq te.size 1 = true)
    (hv : argO .any x (look s) = some ((.p (.c (.sl k ys)), C, F), rd1)) (hd : freeD N dd (EV.app F (look s)) = some (b, rd2)) (kk : RegD P fn X Y w0 N R K ops s0 (d ++ [([(2 * dd, .p (.c (.rp dd))), (2 * dd + 1, .row e (.sls e2 k rdl hrl) [ys])] ++ F, [] ++ (rd1 ++ rd2))]) l (([(2 * dd, .p (.c (.rp dd))), (2 * dd + 1, .row e (.sls e2 k rdl hrl) [ys])] ++ F) ++ s)) :
    RegD P fn X Y w0 N R K ops s0 d (⟨some dd, .buildSlice t 1 #[(0, x)], tx, ps, af, none⟩ :: l) s := RegD.one (Sk.lit hI (guardA_none rfl) ht he hte hc hv hd) kk
end
end Go.Proofs.YtgjpphcbdbfhlaaGreat.L.EV
namespace Go.Proofs.YtgjpphcbdbfhlaaGreat.L.EV
open Go.RowKit Go.Proofs Go.Proofs.YtgjpphcbdbfhlaaGreatW.PrintWords Go.Proofs.YtgjpphcbdbfhlaaGreatW.PrintLast
section
variable {P : Program} {X : Nat → Prop} {w : World} {α β : Type} {k : EK α} {k' : EK β}
/-- A kind whose elements are plain, and have cells. -/
def EK.ok {α : Type} (k : EK α) : Bool := k.flat && Nat.blt 0 k.sz && Nat.beq k.d.sz k.sz
theorem EK.at_K (hf : k.flat = true) {p : α} {cs : List Value} : k.at_ X w p cs ↔ k.d.K w p cs := by
  cases k with
  | int k => exact Iff.rfl
  | bool => exact Iff.rfl
  | str => exact Iff.rfl
  | st d fs rd hK h1 hr mk hm => exact (hK w p cs).symm
  | sls e k rd hr => cases hf
theorem EK.K_sz (hf : k.flat = true) {p : α} {cs : List Value} (h : k.d.K w p cs) : k.d.sz = k.sz := by
  have h1 := k.d.K_len h
  have h2 := (EK.at_len (Z := fun _ => False) k ((EK.at_K (X := fun _ => False) hf).2 h)).1
  omega
theorem row_of_C (ho : k.ok = true) (hX : ∀ i, ¬ X i) {A : Option Addr} {xs : List α} (h : k.d.C w A xs.length xs) : k.row X w A xs := by
  unfold EK.ok at ho
  rw [Bool.and_eq_true, Bool.and_eq_true] at ho
  obtain ⟨⟨hf, h0⟩, hsz0⟩ := ho
  have hsz0 := Nat.eq_of_beq_eq_true hsz0
  have h0 : 0 < k.sz := Nat.le_of_ble_eq_true h0
  obtain ⟨_, h1, h2⟩ := h
  refine ⟨h1, fun hn => ?_⟩
  obtain ⟨ad, e1, e2⟩ := h2 hn
  obtain ⟨c0, z1, z2, z3⟩ := e2 0 _ (List.getElem?_eq_getElem hn)
  have hsz := EK.K_sz hf z2
  refine ⟨ad, e1, ?_, hX _, fun j p hj => ?_⟩
  · have h3 := z3 0 c0[0] (List.getElem?_eq_getElem (by omega))
    rw [Nat.zero_mul, Nat.zero_add, Addr.add_zero'] at h3
    have hb : (World.cell? w ad).isSome := by rw [h3]; rfl
    unfold World.cell? at hb
    cases hq : w.heap[ad.block]? with
    | none => rw [hq] at hb; simp at hb
    | some o => exact (Array.getElem?_eq_some_iff.1 hq).1
  · obtain ⟨c, c1, c2, c3⟩ := e2 j p hj
    exact ⟨c, by rw [c1, hsz], (EK.at_K hf).2 c2, fun i u hu => by rw [← hsz]; exact c3 i u hu⟩
theorem C_of_row (hf : k.flat = true) {A : Option Addr} {xs : List α} (h : k.row X w A xs) : k.d.C w A xs.length xs := by
  refine ⟨rfl, h.1, fun hn => ?_⟩
  obtain ⟨ad, e1, _, _, e4⟩ := h.2 hn
  refine ⟨ad, e1, fun j p hj => ?_⟩
  obtain ⟨c, c1, c2, c3⟩ := e4 j p hj
  have hK := (EK.at_K (X := X) hf).1 c2
  have hsz := EK.K_sz hf hK
  exact ⟨c, by rw [c1, hsz], hK, fun i u hu => by rw [hsz]; exact c3 i u hu⟩
theorem own_of_R (ho : k.ok = true) {e : Nat} {base : Nat} {okk : Nat → Prop} {v : Value} {xs : List α} (h : k.d.R e w base okk v xs) : RowOwn X w e k v xs ∧ ∀ b, vb v = some b → base ≤ b := by
  unfold EK.ok at ho
  rw [Bool.and_eq_true, Bool.and_eq_true] at ho
  obtain ⟨⟨hf, h0⟩, hsz0⟩ := ho
  have hsz0 := Nat.eq_of_beq_eq_true hsz0
  obtain ⟨_, inner, h1, h2⟩ := h
  have hK : ∀ j p, xs[j]? = some p → k.d.K w p ((inner.drop (j * k.d.sz)).take k.d.sz) := fun j p hj => k.d.K_of_M (h2.2 j p hj)
  have hbase : ∀ b, vb v = some b → base ≤ b := by
    intro b hb
    rcases h1.2 with ⟨rfl, _⟩ | ⟨g, cap, cur, rfl, hg, _⟩
    · cases hb
    · cases hb; exact hg
  refine ⟨?_, hbase⟩
  rw [hsz0] at h1 h2 hK
  refine ⟨inner, ⟨h1.1, ?_⟩, h2.1, fun j p hj => (EK.at_K hf).2 (hK j p hj)⟩
  rcases h1.2 with h | ⟨g, cap, cur, e1, _, r⟩
  · exact .inl h
  · exact .inr ⟨g, cap, cur, e1, Nat.zero_le _, r⟩
theorem zb_none {fs : List Bool} {gs : List Value} (hf : fs.all (!·) = true) : ∀ i, ¬ Zb fs gs i := by
  rintro i ⟨j, h1, _⟩
  have := List.all_eq_true.1 hf true (List.mem_of_getElem? h1)
  cases this
/-- A call that reads alone: what it hands back, in a world that only grew. -/
theorem Con.reads {f : Nat} {args : List AV} {r : AV} {vs gs : List Value} (h : Con P f args r) (ho : (owFs args).all (!·) = true) (hr : Args.relg (fun _ => False) w args vs gs) :
    Calls P f vs.toArray w fun e w' => ∃ v, e = .returned v ∧ ∃ W : Nat → Option Nat, (∀ i b, W i = some b → w.heap.size ≤ b) ∧ r.relr (fun k => ∃ i, W i = some k) W w' v ∧ Below w.heap.size w w' := by
  have hz := zb_none (gs := gs) ho
  have hA : ArgOk (fun _ => False) w args vs gs := by
    refine ⟨?_, fun k hk => absurd hk (hz k), fun i j k hi _ => absurd ⟨i, hi⟩ (hz k)⟩
    have e : (fun k => False ∨ Zb (owFs args) gs k) = fun _ => False := by funext k; exact propext ⟨fun h => h.elim (fun h => h) (hz k), fun h => h.elim⟩
    rw [e]
    exact hr
  refine (h.run (fun _ => False) w vs gs (fun k hk => hk.elim) hA).mono ?_
  rintro e w' ⟨v, rfl, W, h1, h2, h3, h4, _⟩
  have e2 : (fun k => False ∨ ∃ i, W i = some k) = fun k => ∃ i, W i = some k := by funext k; exact propext ⟨fun h => h.elim (fun h => h.elim) (fun h => h), .inr⟩
  rw [e2] at h4
  exact ⟨v, rfl, W, fun i b hb => (h2 i b hb).elim (fun h => absurd h (hz b)) (fun h => h), h4, h1.below (Nat.le_refl _) fun k hk => absurd hk (hz k)⟩
theorem Con.val {f : Nat} {args : List AV} {x : Value} {vs gs : List Value} (h : Con P f args (.p (.c (.v x)))) (ho : (owFs args).all (!·) = true) (hr : Args.relg (fun _ => False) w args vs gs) :
    Calls P f vs.toArray w fun e w' => e = .returned x ∧ Below w.heap.size w w' := by
  refine (h.reads ho hr).mono ?_
  rintro e w' ⟨v, rfl, W, _, h1, h2⟩
  have h1 : v = x := h1.1
  exact ⟨by rw [h1], h2⟩
/-- A contract of the print's words. -/
theorem Con.of_row {f : Nat} {e : Nat} {l : List α} {r : List β} (hc : callable P f = true) (hk : k.ok = true) (hk' : k'.ok = true)
    (h : ∀ A c w, k.d.C w A l.length l → l.length ≤ c → Calls P f #[.slice A l.length c] w fun e' w' => ∃ v, e' = .returned v ∧ k'.d.R e w' w.heap.size (fun _ => True) v r ∧ Below w.heap.size w w') : Con P f [.p (.c (.sl k l))] (.p (.c (.ow e k' r))) := by
  refine ⟨hc, fun X w vs gs hX hA => ?_⟩
  obtain ⟨hrel, _, _⟩ := hA
  match vs, hrel with
  | [v1], hrel =>
    obtain ⟨g1, g2, rfl, ⟨rfl, A, c, rfl, h1, h2⟩, hg⟩ := hrel
    have hg : g2 = [] := hg
    subst hg
    have hf : k.flat = true := by unfold EK.ok at hk; rw [Bool.and_eq_true, Bool.and_eq_true] at hk; exact hk.1.1
    refine (h A c w (C_of_row hf h2) h1).mono ?_
    rintro e' w' ⟨v, rfl, h3, h4⟩
    obtain ⟨h5, h6⟩ := own_of_R (X := fun k => X k ∨ ∃ i, (match i with | 0 => vb v | _ + 1 => none) = some k) hk' h3
    refine ⟨v, rfl, fun i => match i with | 0 => vb v | _ + 1 => none, Ext.of_below h4, fun i b hb => ?_, fun i j b hi hj => ?_, ⟨h5, fun _ => rfl⟩, trivial⟩
    · cases i with
      | zero => exact .inr (h6 b hb)
      | succ i => cases hb
    · cases i <;> cases j <;> first | rfl | cases hi | cases hj
theorem Con.of_row_bool {f : Nat} {e : Nat} {l : List α} {r : List β} {b : Bool} (hc : callable P f = true) (hk : k.ok = true) (hk' : k'.ok = true)
    (h : ∀ A c w, k.d.C w A l.length l → l.length ≤ c → Calls P f #[.slice A l.length c] w fun e' w' => ∃ v, e' = .returned (.tuple #[v, .bool b]) ∧ k'.d.R e w' w.heap.size (fun _ => True) v r ∧ Below w.heap.size w w') : Con P f [.p (.c (.sl k l))] (.tp [.c (.ow e k' r), .c (.v (.bool b))]) := by
  refine ⟨hc, fun X w vs gs hX hA => ?_⟩
  obtain ⟨hrel, _, _⟩ := hA
  match vs, hrel with
  | [v1], hrel =>
    obtain ⟨g1, g2, rfl, ⟨rfl, A, c, rfl, h1, h2⟩, hg⟩ := hrel
    have hg : g2 = [] := hg
    subst hg
    have hf : k.flat = true := by unfold EK.ok at hk; rw [Bool.and_eq_true, Bool.and_eq_true] at hk; exact hk.1.1
    refine (h A c w (C_of_row hf h2) h1).mono ?_
    rintro e' w' ⟨v, rfl, h3, h4⟩
    obtain ⟨h5, h6⟩ := own_of_R (X := fun k => X k ∨ ∃ i, (match i with | 0 => vb v | _ + 1 => none) = some k) hk' h3
    refine ⟨_, rfl, fun i => match i with | 0 => vb v | _ + 1 => none, Ext.of_below h4, fun i b hb => ?_, fun i j b hi hj => ?_, ⟨[v, .bool b], rfl, ⟨h5, fun _ => rfl⟩, ⟨rfl, fun h => by cases h⟩, trivial⟩, trivial⟩
    · cases i with
      | zero => exact .inr (h6 b hb)
      | succ i => cases hb
    · cases i <;> cases j <;> first | rfl | cases hi | cases hj
end
end Go.Proofs.YtgjpphcbdbfhlaaGreat.L.EV
namespace Go.Proofs.YtgjpphcbdbfhlaaGreat.L.EV
open Go.RowKit Go.Proofs Go.Proofs.YtgjpphcbdbfhlaaGreatW.PrintWords Go.Proofs.YtgjpphcbdbfhlaaGreatW.PrintLast
universe u
section
variable {P : Program} {I : Nat → Option TI} {X : Nat → Prop} {Y : Came} {w0 w : World} {N : Nat} {η : Nat → Value} {σ : Nat → AV} {a : Act} {o : Oper} {fn : Func} {R : Value → World → Prop} {K : List Item} {s s0 : Wr} {ops : Array Oper} {l : List Oper} {d : List (Wr × List Nat)}
/-! ### Called through a slot -/
theorem call_runV {f : Nat} (h : callable P f = true) {x : Operand} {as : Array Operand} {ts : Array TypeId} {caps : Array Value} (ho : o.op = .call { callee := .value x, args := as, argTypes := ts }) (hx : a.eval x = .func (.func f) #[] caps) : (execOp a.eval o).run P w = .ok (.enter f (as.map a.eval ++ caps)) w := by
  have he := callable_run h (as.map a.eval ++ caps) w
  unfold execOp
  simp [ho, resolve, Deferred.ofValue, invoke, hx, he]
theorem Sk.callV {f : Nat} {x : Operand} {as : Array Operand} {ts : Array TypeId} {ps : String} {tx : Nat} {args cargs all : List AV} {caps : List PV} {r : AV} {out : Outs} {C1 C2 : List (Option Nat)} {F1 F2 wr : Wr} {dd : Option Nat} {g : Option (Nat × Bool)} {rd rd0 rd1 rd2 rd3 : List Nat} {af : Array Edge}
    (hg : guardA ops ⟨dd, .call { callee := .value x, args := as, argTypes := ts }, tx, ps, #[], g⟩ σ = some (true, rd))
    (hf : evA x σ = some (.fn f caps, rd0)) (hc : Con P f all r out) (hv : argsA args as.toList σ = some ((args, C1, F1), rd1)) (hv2 : capsA caps σ = some ((cargs, C2, F2), rd2)) (hall : args ++ cargs = all)
    (hx : callX r out (C1 ++ C2) (F1 ++ F2) dd N σ = some (wr, rd3)) : Sk P X Y w0 N ops ⟨dd, .call { callee := .value x, args := as, argTypes := ts }, tx, ps, af, g⟩ σ wr (rd ++ (rd0 ++ (rd1 ++ (rd2 ++ rd3)))) := by
  subst hall
  intro σ' e η a w Q K hr hk
  have hg' := guardA_framed ops σ _ hg σ' (fun n hn => e n (List.mem_append_left _ hn))
  have hf' := evA_framed x σ _ hf σ' (fun n hn => e n (List.mem_append_right _ (List.mem_append_left _ hn)))
  have hv' := argsA_framed args as.toList σ _ hv σ' (fun n hn => e n (List.mem_append_right _ (List.mem_append_right _ (List.mem_append_left _ hn))))
  have hw' := capsA_framed caps σ _ hv2 σ' (fun n hn => e n (List.mem_append_right _ (List.mem_append_right _ (List.mem_append_right _ (List.mem_append_left _ hn)))))
  have hx' := callX_framed r out (C1 ++ C2) (F1 ++ F2) dd N σ _ hx σ' (fun n hn => e n (List.mem_append_right _ (List.mem_append_right _ (List.mem_append_right _ (List.mem_append_right _ hn)))))
  have hw : Region.wanted ⟨dd, .call { callee := .value x, args := as, argTypes := ts }, tx, ps, af, g⟩ (yielded ops a.tmps) = true := guardA_sound hr hg'
  rw [if_pos hw]
  unfold Oper.wp
  obtain ⟨us, u1, u2⟩ := evA_sound hr hf'
  rw [call_runV hc.call rfl u1]
  obtain ⟨gs1, a1, a2⟩ := argsA_sound hr hv'
  obtain ⟨gs2, a3, a4⟩ := capsA_sound hr u2 hw'
  have hA : ArgF σ' η (owFs (args ++ cargs)) (C1 ++ C2) (F1 ++ F2) (gs1 ++ gs2) := by rw [owFs_append]; exact a1.append a3
  have hcall := call_calls (dd := dd) hr hA (fun Z hZ hF => Args.relg_append (a2 Z hZ hF.left) (a4 Z hZ hF.right)) hc hx'
  have ee : (as.toList.map a.eval ++ us).toArray = as.map a.eval ++ us.toArray := by
    rw [← Array.toList_map]; simp
  rw [ee] at hcall
  refine hcall.mono ?_
  rintro e w' ⟨v, rfl, η', h1⟩
  exact hk η' _ w' h1
theorem RegL.callV {f : Nat} {x : Operand} {as : Array Operand} {ts : Array TypeId} {ps : String} {tx : Nat} {args cargs all : List AV} {caps : List PV} {r : AV} {out : Outs} {C1 C2 : List (Option Nat)} {F1 F2 wr wr' s' : Wr} {dd : Option Nat} {rd0 rd1 rd2 rd3 : List Nat} {af : Array Edge}
    (hf : evA x (look s) = some (.fn f caps, rd0)) (hc : Con P f all r out) (hv2 : capsA caps (look s) = some ((cargs, C2, F2), rd2)) (hv : argsA (all.take as.toList.length) as.toList (look s) = some ((args, C1, F1), rd1)) (he : args = all.take as.toList.length) (hall : args ++ cargs = all)
    (hx : callX r out (C1 ++ C2) (F1 ++ F2) dd N (look s) = some (wr, rd3)) (hs : normK wr s (fun a b => some (a, b)) = some (wr', s')) (k : RegL P fn X Y w0 N R K ops l s') :
    RegL P fn X Y w0 N R K ops (⟨dd, .call { callee := .value x, args := as, argTypes := ts }, tx, ps, af, none⟩ :: l) s := by
  obtain ⟨rfl, rfl⟩ := normK_inv hs
  rw [← he] at hv
  exact RegL.one (Sk.callV (guardA_none rfl) hf hc hv hv2 hall hx) k
theorem RegD.callV {f : Nat} {x : Operand} {as : Array Operand} {ts : Array TypeId} {ps : String} {tx : Nat} {args cargs all : List AV} {caps : List PV} {r : AV} {out : Outs} {C1 C2 : List (Option Nat)} {F1 F2 wr wr' s' : Wr} {dd : Option Nat} {rd0 rd1 rd2 rd3 : List Nat} {af : Array Edge}
    (hf : evA x (look s) = some (.fn f caps, rd0)) (hc : Con P f all r out) (hv2 : capsA caps (look s) = some ((cargs, C2, F2), rd2)) (hv : argsA (all.take as.toList.length) as.toList (look s) = some ((args, C1, F1), rd1)) (he : args = all.take as.toList.length) (hall : args ++ cargs = all)
    (hx : callX r out (C1 ++ C2) (F1 ++ F2) dd N (look s) = some (wr, rd3)) (hs : normK wr s (fun a b => some (a, b)) = some (wr', s')) (k : RegD P fn X Y w0 N R K ops s0 (d ++ [(wr', [] ++ (rd0 ++ (rd1 ++ (rd2 ++ rd3))))]) l s') :
    RegD P fn X Y w0 N R K ops s0 d (⟨dd, .call { callee := .value x, args := as, argTypes := ts }, tx, ps, af, none⟩ :: l) s := by
  obtain ⟨rfl, rfl⟩ := normK_inv hs
  rw [← he] at hv
  exact RegD.one (Sk.callV (guardA_none rfl) hf hc hv hv2 hall hx) k
/-! ### Made -/
def fresh (n : Nat) (F : Wr) : Bool := F.all fun p => !Nat.beq p.1 n
theorem fresh_app {n : Nat} : ∀ {F : Wr}, fresh n F = true → app F σ n = σ n
  | [], _ => rfl
  | p :: F, h => by
    unfold fresh at h
    rw [List.all_cons, Bool.and_eq_true] at h
    have hp : p.1 ≠ n := fun e => by
      have := h.1
      rw [e] at this
      simp at this
    have ih := fresh_app (F := F) h.2
    obtain ⟨m, v⟩ := p
    show upd (app F σ) m v n = _
    unfold upd
    rw [if_neg (fun e => hp e.symm), ih]
def capM : List Operand → M (List PV × Wr)
  | [] => ret ([], [])
  | x :: xs => bnd (evA x) fun v => (match v with
    | .p (.c (.bx b off)) => (match Nat.beq off 0 with
      | true => bnd (get (2 * b + 1)) fun m => (match m with
        | .mem _ cs => bnd (capM xs) fun q => (match fresh (2 * b + 1) q.2 with
          | true => ret (.fb cs :: q.1, (2 * b + 1, .gone) :: q.2)
          | false => fail)
        | _ => fail)
      | false => fail)
    | _ => fail)
theorem capM_framed : ∀ (xs : List Operand), Framed (capM xs)
  | [] => Framed.ret _
  | x :: xs => (evA_framed x).bnd fun v => by
    split
    · split
      · refine (Framed.get _).bnd fun m => ?_
        split
        · refine (capM_framed xs).bnd fun q => ?_
          split
          · exact Framed.ret _
          · exact Framed.fail
        · exact Framed.fail
      · exact Framed.fail
    · exact Framed.fail
theorem capM_sound (R : Rl X Y w0 N η σ a w) : ∀ {xs : List Operand} {caps : List PV} {F : Wr} {rd : List Nat}, capM xs σ = some ((caps, F), rd) →
    Rl X Y w0 N η (app F σ) a w ∧ PVs.rel (Live (app F σ)) (Own X η (app F σ)) η w caps (xs.map a.eval)
  | [], caps, F, rd, h => by cases h; exact ⟨R, trivial⟩
  | x :: xs, caps, F, rd, h => by
    unfold capM at h
    obtain ⟨v, r1, r2, h1, h2, _⟩ := bnd_some h
    have e1 := evA_sound R h1
    split at h2
    · rename_i b off
      cases ho : Nat.beq off 0 with
      | false => rw [ho] at h2; cases h2
      | true =>
        rw [ho] at h2
        have ho := Nat.eq_of_beq_eq_true ho
        subst ho
        obtain ⟨m, r3, r4, h3, h4, _⟩ := bnd_some h2
        unfold get at h3
        injection h3 with h3
        injection h3 with h3 _
        split at h4
        · rename_i T cs
          obtain ⟨q, r5, r6, h5, h6, _⟩ := bnd_some h4
          obtain ⟨qc, qF⟩ := q
          cases hfr : fresh (2 * b + 1) qF with
          | false => simp only [hfr] at h6; cases h6
          | true =>
            simp only [hfr] at h6
            cases h6
            obtain ⟨R1, p1⟩ := capM_sound R h5
            have hm : app qF σ (2 * b + 1) = .mem T cs := by rw [fresh_app hfr, h3]
            have hown := R1.dropped (v := .gone) (d := b) (by rw [hm]; rfl) rfl
            obtain ⟨R2, g, g1, g2⟩ := R1.freezeB hm
            refine ⟨R2, ?_, PVs.rel_step (e := Ext.refl _ _) (fun i hi _ => (hown i hi).1) (Live.upd rfl) (fun _ _ => rfl) p1⟩
            have ex : a.eval x = .pointer (some ⟨g, 0, none⟩) := by
              have e2 : CV.rel (Live σ) (Own X η σ) η w (.bx b 0) (a.eval x) := e1
              unfold CV.rel at e2
              obtain ⟨_, g', h7, h8⟩ := e2
              rw [g1] at h7
              injection h7 with h7
              injection h7 with h7
              injection h7 with h7
              rw [h8, h7]
            rw [ex]
            exact g2
        · cases h4
    · cases h2
theorem Sk.mkf {f : Nat} {cs : Array Operand} {ps : String} {tx : Nat} {caps : List PV} {F : Wr} {dd : Nat} {g : Option (Nat × Bool)} {rd rd1 : List Nat} {af : Array Edge}
    (hg : guardA ops ⟨some dd, .makeFunc (.func f) #[] cs, tx, ps, #[], g⟩ σ = some (true, rd)) (hd : Nat.blt dd N = true) (hc : capM cs.toList σ = some ((caps, F), rd1)) :
    Sk P X Y w0 N ops ⟨some dd, .makeFunc (.func f) #[] cs, tx, ps, af, g⟩ σ ((2 * dd, .fn f caps) :: F) (rd ++ rd1) := by
  intro σ' e η a w Q K hr hk
  have hg' := guardA_framed ops σ _ hg σ' (fun n hn => e n (List.mem_append_left _ hn))
  have hc' := capM_framed cs.toList σ _ hc σ' (fun n hn => e n (List.mem_append_right _ hn))
  have hw : Region.wanted ⟨some dd, .makeFunc (.func f) #[] cs, tx, ps, af, g⟩ (yielded ops a.tmps) = true := guardA_sound hr hg'
  rw [if_pos hw]
  obtain ⟨R1, p1⟩ := capM_sound hr hc'
  have hrun : (execOp a.eval ⟨some dd, .makeFunc (.func f) #[] cs, tx, ps, af, g⟩).run P w = .ok (.value (.func (.func f) #[] (cs.map a.eval))) w := by
    simp [execOp, Instr.makeFunc]
  unfold Oper.wp
  rw [hrun]
  refine hk η _ _ ?_
  exact R1.put (Nat.le_of_ble_eq_true hd) (V := .fn f caps) ⟨cs.toList.map a.eval, by rw [← Array.toList_map, Array.toArray_toList], p1⟩
theorem RegL.mkf {f : Nat} {cs : Array Operand} {ps : String} {tx : Nat} {caps : List PV} {F wr' s' : Wr} {dd : Nat} {rd1 : List Nat} {af : Array Edge} (hd : Nat.blt dd N = true) (hc : capM cs.toList (look s) = some ((caps, F), rd1))
    (hs : normK ((2 * dd, .fn f caps) :: F) s (fun a b => some (a, b)) = some (wr', s')) (k : RegL P fn X Y w0 N R K ops l s') : RegL P fn X Y w0 N R K ops (⟨some dd, .makeFunc (.func f) #[] cs, tx, ps, af, none⟩ :: l) s := by
  obtain ⟨rfl, rfl⟩ := normK_inv hs
  exact RegL.one (Sk.mkf (guardA_none rfl) hd hc) k
theorem RegD.mkf {f : Nat} {cs : Array Operand} {ps : String} {tx : Nat} {caps : List PV} {F wr' s' : Wr} {dd : Nat} {rd1 : List Nat} {af : Array Edge} (hd : Nat.blt dd N = true) (hc : capM cs.toList (look s) = some ((caps, F), rd1))
    (hs : normK ((2 * dd, .fn f caps) :: F) s (fun a b => some (a, b)) = some (wr', s')) (k : RegD P fn X Y w0 N R K ops s0 (d ++ [(wr', [] ++ rd1)]) l s') : RegD P fn X Y w0 N R K ops s0 d (⟨some dd, .makeFunc (.func f) #[] cs, tx, ps, af, none⟩ :: l) s := by
  obtain ⟨rfl, rfl⟩ := normK_inv hs
  exact RegD.one (Sk.mkf (guardA_none rfl) hd hc) k
end
end Go.Proofs.YtgjpphcbdbfhlaaGreat.L.EV
namespace Go.Proofs.YtgjpphcbdbfhlaaGreat.L.EV
open Go.RowKit Go.Proofs Go.Proofs.YtgjpphcbdbfhlaaGreatW.PrintWords Go.Proofs.YtgjpphcbdbfhlaaGreatW.PrintLast
/-- A join (by its number) is come to in e; k0 its bound on rounds, p what stays. -/
class HasJ (tag : Nat) {β : Type} (e : Option β) (k0 : outParam Nat) (γ : outParam Type) (p : outParam γ) : Prop where
  out : True
instance HasJ.l {tag : Nat} {β : Type} {c : Prop} [Decidable c] {A B : Option β} {k0 : Nat} {γ : Type} {p : γ} [HasJ tag A k0 γ p] : HasJ tag (if c then A else B) k0 γ p := ⟨trivial⟩
instance (priority := low) HasJ.r {tag : Nat} {β : Type} {c : Prop} [Decidable c] {A B : Option β} {k0 : Nat} {γ : Type} {p : γ} [HasJ tag B k0 γ p] : HasJ tag (if c then A else B) k0 γ p := ⟨trivial⟩
instance HasJ.b {tag : Nat} {α β : Type} {a : Option α} {f : α → Option β} {k0 : Nat} {γ : Type} {p : γ} [∀ x, HasJ tag (f x) k0 γ p] : HasJ tag (a.bind f) k0 γ p := ⟨trivial⟩
/-- What is said of the state behind c, where its ways meet. -/
class Jn (c : Code) (h : Prop) (J : outParam ((Wr → Prop) → Nat → Prop)) (k0 : outParam Nat) : Prop where
  out : True
structure Went (p : Prop) : Prop where
  mk :: (out : p)
section
variable {P : Program} {X : Nat → Prop} {Y : Came} {w0 : World} {N : Nat} {fn : Func} {R : Value → World → Prop} {K : List Item} {s : Wr}
theorem Runs.cutJ {c : Code} {h : Prop} (H : h) {J : (Wr → Prop) → Nat → Prop} {k0 : Nat} (jn : Jn c h J k0) {s1 t : Wr} {bad rs : List Nat} (hl : liveK (useK K ||| useR fn.results.toList) s some = some s1) (hr : rowsK (wM c 0) s1 some = some rs) (hb : badK (wM c 0) (cM c 0) 0 s1 some = some bad) (ht : keepM bad (badM rs (badM bad (wM c 0))) s1 some = some t)
    (first : ∀ Q : Wr → Prop, (∀ u s', Q u → Into N u t s' → Runs P fn X Y w0 N R K s') → (∀ k, k ≤ k0 → J Q k) → Went (Runs P fn X Y w0 N R (.code c :: K) s))
    (rest : ∀ Q : Wr → Prop, (∀ u, Runs P fn X Y w0 N R K (u ++ t) → Q u) → ∀ k, k ≤ k0 → J Q k) : Runs P fn X Y w0 N R (.code c :: K) s :=
  (first (fun u => Runs P fn X Y w0 N R K (u ++ t)) (fun u s' hq hs => Runs.into hs hq) (rest (fun u => Runs P fn X Y w0 N R K (u ++ t)) fun u h => h)).out
theorem Went.condT {c : Operand} {x y : Code} {b : Bool} {r : List Nat} (hc : evA c (look s) = some (.p (.c (.v (.bool b))), r)) (hb : b = true) (h : Runs P fn X Y w0 N R (.code x :: K) s) : Went (Runs P fn X Y w0 N R (.code (.cond c x y) :: K) s) := ⟨Runs.condT hc hb h⟩
theorem Went.condF {c : Operand} {x y : Code} {b : Bool} {r : List Nat} (hc : evA c (look s) = some (.p (.c (.v (.bool b))), r)) (hb : b = false) (h : Runs P fn X Y w0 N R (.code y :: K) s) : Went (Runs P fn X Y w0 N R (.code (.cond c x y) :: K) s) := ⟨Runs.condF hc hb h⟩
theorem Went.block {id : Nat} {c : Code} (h : Runs P fn X Y w0 N R (.code c :: .inBlock id :: K) s) : Went (Runs P fn X Y w0 N R (.code (.block id c) :: K) s) := ⟨Runs.block h⟩
theorem Went.region {id : Nat} {ops : Array Oper} (h : RegL P fn X Y w0 N R K ops ops.toList s) : Went (Runs P fn X Y w0 N R (.code (.region id ops false) :: K) s) := ⟨Runs.region h⟩
theorem Went.regionD {id : Nat} {ops : Array Oper} (hm : P.follows .mixedOrders = true) (h : RegD P fn X Y w0 N R K ops s [] ops.toList s) : Went (Runs P fn X Y w0 N R (.code (.region id ops true) :: K) s) := ⟨Runs.regionD hm h⟩
end
end Go.Proofs.YtgjpphcbdbfhlaaGreat.L.EV
