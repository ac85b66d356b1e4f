/- BY EV: what the Go functions compute (read off the print), and that their calls come to it. No condition. -/
import Derived.Test.YtgjpphcbdbfhlaaGreatLEU
import Derived.Test.YtgjpphcbdbfhlaaGreatL7
import Derived.Test.YtgjpphcbdbfhlaaGreatL8
import Derived.Test.YtgjpphcbdbfhlaaGreatL15
import Derived.Test.YtgjpphcbdbfhlaaGreatL16
import Derived.Test.YtgjpphcbdbfhlaaGreatL17
import Derived.Test.YtgjpphcbdbfhlaaGreatL18
import Derived.Test.YtgjpphcbdbfhlaaGreatLDR
set_option linter.unusedVariables false
set_option linter.unusedSimpArgs false
namespace Go.Proofs.YtgjpphcbdbfhlaaGreat.L
open Go.RowKit Go.Proofs Go.Proofs.YtgjpphcbdbfhlaaGreatW.PrintWords Go.Proofs.YtgjpphcbdbfhlaaGreatW.PrintLast EV
namespace EV
universe u
section
variable {P : Program} {X : Nat → Prop} {Y : Came} {w0 : World} {N : Nat} {fn : Func} {R : Value → World → Prop} {K : List Item} {s : Wr}
/-- A region's list laid open (a long array's literal is an append of two lists). -/
def nfK {α : Type} {γ : Type 1} : List α → (List α → γ) → γ
  | [], k => k []
  | o :: r, k => nfK r fun r' => k (o :: r')
theorem nfK_eq {α : Type} {γ : Type 1} : ∀ (l : List α) (k : List α → γ), nfK l k = k l
  | [], _ => rfl
  | o :: r, k => by unfold nfK; rw [nfK_eq r]
structure LO : Type 1 where
  l : List Oper
theorem RegL.norm {ops : Array Oper} {l l' : List Oper} (hl : nfK l (fun l => LO.mk l) = ⟨l'⟩) (h : RegL P fn X Y w0 N R K ops l' s) : RegL P fn X Y w0 N R K ops l s := by
  rw [nfK_eq] at hl
  injection hl with hl
  rw [hl]; exact h
theorem RegL.isCons {ops : Array Oper} {o : Oper} {l : List Oper} (h : RegL P fn X Y w0 N R K ops (o :: l) s) : RegL P fn X Y w0 N R K ops (o :: l) s := h
theorem RegD.norm {ops : Array Oper} {s0 : Wr} {d : List (Wr × List Nat)} {l l' : List Oper} (hl : nfK l (fun l => LO.mk l) = ⟨l'⟩) (h : RegD P fn X Y w0 N R K ops s0 d l' s) : RegD P fn X Y w0 N R K ops s0 d l s := by
  rw [nfK_eq] at hl
  injection hl with hl
  rw [hl]; exact h
theorem RegD.isCons {ops : Array Oper} {s0 : Wr} {d : List (Wr × List Nat)} {o : Oper} {l : List Oper} (h : RegD P fn X Y w0 N R K ops s0 d (o :: l) s) : RegD P fn X Y w0 N R K ops s0 d (o :: l) s := h
end
end EV
theorem autoN {p : Prop} (h : p := by
  repeat' (first
    | (with_reducible exact noneE H)
    | ((with_reducible refine hjo7 _ _ (hj7 _ ?_ H) ?_); omega; exact intoT)
    | ((with_reducible refine hjo6 _ _ (hj6 _ ?_ H) ?_); omega; exact intoT)
    | ((with_reducible refine hjo5 _ _ (hj5 _ ?_ H) ?_); omega; exact intoT)
    | ((with_reducible refine hjo4 _ _ (hj4 _ ?_ H) ?_); omega; exact intoT)
    | ((with_reducible refine hjo3 _ _ (hj3 _ ?_ H) ?_); omega; exact intoT)
    | ((with_reducible refine hjo2 _ _ (hj2 _ ?_ H) ?_); omega; exact intoT)
    | ((with_reducible refine hjo1 _ _ (hj1 _ ?_ H) ?_); omega; exact intoT)
    | ((with_reducible refine hjo0 _ _ (hj0 _ ?_ H) ?_); omega; exact intoT)
    | (have q_ := @hj6; clear q_; (with_reducible apply Runs.cutJ H); (infer_instance); (exact rfl); (exact rfl); (exact rfl); (exact rfl); (intro Qj7 hjo7 hj7); rotate_left; (clear H; intro Qj hjin k hkj; intros; rename_i H; (rcases k with _ | k; exact noneE H; apply hjin; clear hjin; first | replace H := asIte H | replace H := asBind H | replace H := asSome H | skip)))
    | (have q_ := @hj5; clear q_; (with_reducible apply Runs.cutJ H); (infer_instance); (exact rfl); (exact rfl); (exact rfl); (exact rfl); (intro Qj6 hjo6 hj6); rotate_left; (clear H; intro Qj hjin k hkj; intros; rename_i H; (rcases k with _ | k; exact noneE H; apply hjin; clear hjin; first | replace H := asIte H | replace H := asBind H | replace H := asSome H | skip)))
    | (have q_ := @hj4; clear q_; (with_reducible apply Runs.cutJ H); (infer_instance); (exact rfl); (exact rfl); (exact rfl); (exact rfl); (intro Qj5 hjo5 hj5); rotate_left; (clear H; intro Qj hjin k hkj; intros; rename_i H; (rcases k with _ | k; exact noneE H; apply hjin; clear hjin; first | replace H := asIte H | replace H := asBind H | replace H := asSome H | skip)))
    | (have q_ := @hj3; clear q_; (with_reducible apply Runs.cutJ H); (infer_instance); (exact rfl); (exact rfl); (exact rfl); (exact rfl); (intro Qj4 hjo4 hj4); rotate_left; (clear H; intro Qj hjin k hkj; intros; rename_i H; (rcases k with _ | k; exact noneE H; apply hjin; clear hjin; first | replace H := asIte H | replace H := asBind H | replace H := asSome H | skip)))
    | (have q_ := @hj2; clear q_; (with_reducible apply Runs.cutJ H); (infer_instance); (exact rfl); (exact rfl); (exact rfl); (exact rfl); (intro Qj3 hjo3 hj3); rotate_left; (clear H; intro Qj hjin k hkj; intros; rename_i H; (rcases k with _ | k; exact noneE H; apply hjin; clear hjin; first | replace H := asIte H | replace H := asBind H | replace H := asSome H | skip)))
    | (have q_ := @hj1; clear q_; (with_reducible apply Runs.cutJ H); (infer_instance); (exact rfl); (exact rfl); (exact rfl); (exact rfl); (intro Qj2 hjo2 hj2); rotate_left; (clear H; intro Qj hjin k hkj; intros; rename_i H; (rcases k with _ | k; exact noneE H; apply hjin; clear hjin; first | replace H := asIte H | replace H := asBind H | replace H := asSome H | skip)))
    | (have q_ := @hj0; clear q_; (with_reducible apply Runs.cutJ H); (infer_instance); (exact rfl); (exact rfl); (exact rfl); (exact rfl); (intro Qj1 hjo1 hj1); rotate_left; (clear H; intro Qj hjin k hkj; intros; rename_i H; (rcases k with _ | k; exact noneE H; apply hjin; clear hjin; first | replace H := asIte H | replace H := asBind H | replace H := asSome H | skip)))
    | ((with_reducible apply Runs.cutJ H); (infer_instance); (exact rfl); (exact rfl); (exact rfl); (exact rfl); (intro Qj0 hjo0 hj0); rotate_left; (clear H; intro Qj hjin k hkj; intros; rename_i H; (rcases k with _ | k; exact noneE H; apply hjin; clear hjin; first | replace H := asIte H | replace H := asBind H | replace H := asSome H | skip)))
    | (with_reducible apply Went.block)
    | (with_reducible apply Went.region)
    | (with_reducible apply Went.regionD hM)
    | (with_reducible apply Runs.seq)
    | (with_reducible apply Runs.region)
    | (with_reducible apply Runs.regionD hM)
    | (with_reducible apply Runs.skip)
    | (with_reducible apply Runs.inBlock)
    | (with_reducible apply Runs.block)
    | (with_reducible apply RegL.nil)
    | ((with_reducible apply RegD.nil); (kernel_rfl))
    | ((fail_if_success (with_reducible apply RegL.isCons)); (with_reducible apply RegL.norm); exact rfl)
    | ((fail_if_success (with_reducible apply RegD.isCons)); (with_reducible apply RegD.norm); exact rfl)
    | ((with_reducible apply Runs.exit); exact rfl)
    | ((with_reducible apply RegL.go hI); exact rfl; exact pT)
    | ((with_reducible apply RegD.go hI); exact rfl; exact pT)
    | ((with_reducible apply Runs.condT); exact rfl; exact cT)
    | ((with_reducible apply Runs.condF); exact rfl; exact cT)
    | ((with_reducible apply Went.condT); exact rfl; exact cT)
    | ((with_reducible apply Went.condF); exact rfl; exact cT)
    | (have H_ := by with_reducible exact iteE H
       clear H; rcases H_ with ⟨c, H⟩ | ⟨c, H⟩ <;> (try simp only [Bool.not_eq_true, not_true_eq_false] at c) <;> (try first | exact bcT c (by with_reducible assumption) | exact bcF c (by with_reducible assumption) | exact ltge c (by with_reducible assumption) | exact gelt c (by with_reducible assumption) | exact nlng c (by with_reducible assumption) | exact ngnl c (by with_reducible assumption) | exact nonp c (by with_reducible assumption) | exact pnon c (by with_reducible assumption)))
    | ((with_reducible apply RegL.pickG hI (b' := true)); exact rfl; exact rfl; exact cT; exact rfl; exact cT; exact rfl; exact pT)
    | ((with_reducible apply RegL.pickG hI (b' := false)); exact rfl; exact rfl; exact cT; exact rfl; exact cT; exact rfl; exact pT)
    | ((with_reducible apply RegD.pickG hI (b' := true)); exact rfl; exact rfl; exact cT; exact rfl; exact cT; exact rfl; exact pT)
    | ((with_reducible apply RegD.pickG hI (b' := false)); exact rfl; exact rfl; exact cT; exact rfl; exact cT; exact rfl; exact pT)
    | ((with_reducible apply RegL.pick hI (b' := true)); exact rfl; exact cT; exact rfl; exact pT)
    | ((with_reducible apply RegL.pick hI (b' := false)); exact rfl; exact cT; exact rfl; exact pT)
    | ((with_reducible apply RegD.pick hI (b' := true)); exact rfl; exact cT; exact rfl; exact pT)
    | ((with_reducible apply RegD.pick hI (b' := false)); exact rfl; exact cT; exact rfl; exact pT)
    | (have H_ := by with_reducible exact bindE H
       clear H; obtain ⟨t, A, H⟩ := H_; (with_reducible apply RegL.callG); exact rfl; exact rfl; exact cT; exact Ctr.out A; exact rfl; exact rfl; exact rfl)
    | (have H_ := by with_reducible exact bindE H
       clear H; obtain ⟨t, A, H⟩ := H_; (with_reducible apply RegD.callG); exact rfl; exact rfl; exact cT; exact Ctr.out A; exact rfl; exact rfl; exact rfl)
    | ((with_reducible apply RegL.guard hI (b' := true)); exact rfl; exact rfl; exact rfl; exact cT; exact rfl; exact pT)
    | ((with_reducible apply RegL.guard hI (b' := false)); exact rfl; exact rfl; exact rfl; exact cT; exact rfl; exact pT)
    | ((with_reducible apply RegD.guard hI (b' := true)); exact rfl; exact rfl; exact rfl; exact cT; exact rfl; exact pT)
    | ((with_reducible apply RegD.guard hI (b' := false)); exact rfl; exact rfl; exact rfl; exact cT; exact rfl; exact pT)
    | ((with_reducible apply RegL.guardU hI); exact rfl; exact rfl; exact rfl; exact rfl; exact pT)
    | ((with_reducible apply RegD.guardU hI); exact rfl; exact rfl; exact rfl; exact rfl; exact pT)
    | ((with_reducible apply RegL.app hI); exact rfl; exact rfl; exact rfl; exact rfl; exact rfl; exact rfl; exact bndT; exact rfl; exact rfl)
    | ((with_reducible apply RegD.app hI); exact rfl; exact rfl; exact rfl; exact rfl; exact rfl; exact rfl; exact bndT; exact rfl; exact rfl)
    | ((with_reducible apply RegL.appG hI); exact rfl; exact rfl; exact cT; exact rfl; exact rfl; exact rfl; exact rfl; exact rfl; exact rfl; exact bndT; exact rfl; exact rfl)
    | ((with_reducible apply RegD.appG hI); exact rfl; exact rfl; exact cT; exact rfl; exact rfl; exact rfl; exact rfl; exact rfl; exact rfl; exact bndT; exact rfl; exact rfl)
    | ((with_reducible apply RegL.lit hI); exact rfl; exact rfl; exact rfl; exact rfl; exact rfl; exact rfl; exact rfl)
    | ((with_reducible apply RegD.lit hI); exact rfl; exact rfl; exact rfl; exact rfl; exact rfl; exact rfl; exact rfl)
    | ((with_reducible apply RegL.mkf); exact rfl; exact rfl; exact rfl)
    | ((with_reducible apply RegD.mkf); exact rfl; exact rfl; exact rfl)
    | (replace H := by with_reducible exact someE H)
    | (have H_ := by with_reducible exact bindE H
       clear H; obtain ⟨t, A, H⟩ := H_; (with_reducible apply RegL.call); exact Ctr.out A; exact rfl; exact rfl; exact rfl)
    | (have H_ := by with_reducible exact bindE H
       clear H; obtain ⟨t, A, H⟩ := H_; (with_reducible apply RegD.call); exact Ctr.out A; exact rfl; exact rfl; exact rfl)
    | (have H_ := by with_reducible exact bindE H
       clear H; obtain ⟨t, A, H⟩ := H_; (with_reducible apply RegL.callV); exact rfl; exact Ctr.out A; exact rfl; exact rfl; exact rfl; exact rfl; exact rfl; exact rfl)
    | (have H_ := by with_reducible exact bindE H
       clear H; obtain ⟨t, A, H⟩ := H_; (with_reducible apply RegD.callV); exact rfl; exact Ctr.out A; exact rfl; exact rfl; exact rfl; exact rfl; exact rfl; exact rfl)
    | ((with_reducible refine hout3 _ _ (ih3 _ ?_ H) ?_); omega; exact intoT)
    | ((with_reducible refine hout2 _ _ (ih2 _ ?_ H) ?_); omega; exact intoT)
    | ((with_reducible refine hout1 _ _ (ih1 _ ?_ H) ?_); omega; exact intoT)
    | ((with_reducible refine hout0 _ _ (ih0 _ ?_ H) ?_); omega; exact intoT)
    | (have q_ := @ih2; clear q_; (with_reducible apply Runs.loopM); (exact rfl); (exact rfl); (exact rfl); (exact rfl); refine fun Q hin3 hout3 => ⟨_, Lp.out (lpI _ ?_) H, ?_⟩; rotate_left; exact intoT; clear H; intro k hk3 ih3; intros; rename_i H; (rcases k with _ | k; exact noneE H); apply hin3; first | replace H := asIte H | replace H := asBind H | replace H := asSome H | skip)
    | (have q_ := @ih1; clear q_; (with_reducible apply Runs.loopM); (exact rfl); (exact rfl); (exact rfl); (exact rfl); refine fun Q hin2 hout2 => ⟨_, Lp.out (lpI _ ?_) H, ?_⟩; rotate_left; exact intoT; clear H; intro k hk2 ih2; intros; rename_i H; (rcases k with _ | k; exact noneE H); apply hin2; first | replace H := asIte H | replace H := asBind H | replace H := asSome H | skip)
    | (have q_ := @ih0; clear q_; (with_reducible apply Runs.loopM); (exact rfl); (exact rfl); (exact rfl); (exact rfl); refine fun Q hin1 hout1 => ⟨_, Lp.out (lpI _ ?_) H, ?_⟩; rotate_left; exact intoT; clear H; intro k hk1 ih1; intros; rename_i H; (rcases k with _ | k; exact noneE H); apply hin1; first | replace H := asIte H | replace H := asBind H | replace H := asSome H | skip)
    | ((with_reducible apply Runs.loopM); (exact rfl); (exact rfl); (exact rfl); (exact rfl); refine fun Q hin0 hout0 => ⟨_, Lp.out (lpI _ ?_) H, ?_⟩; rotate_left; exact intoT; clear H; intro k hk0 ih0; intros; rename_i H; (rcases k with _ | k; exact noneE H); apply hin0; first | replace H := asIte H | replace H := asBind H | replace H := asSome H | skip)
    | ((with_reducible apply Runs.ret hI); exact hF; exact rfl; (cases Option.some.inj H; exact leT); (cases Option.some.inj H; exact outT); exact rfl)
    | ((with_reducible apply Runs.fin hI); exact hF; exact rfl; (cases Option.some.inj H; exact leT); (cases Option.some.inj H; exact outT); exact rfl)
    | ((fail_if_success (have l_ := lpOf H)); rcases k with _ | k; exact noneE H; first | replace H := asIte H | replace H := asBind H | replace H := asSome H | (refine hout3 _ _ (ih3 _ ?_ H) ?_; omega; exact intoT) | (refine hout2 _ _ (ih2 _ ?_ H) ?_; omega; exact intoT) | (refine hout1 _ _ (ih1 _ ?_ H) ?_; omega; exact intoT) | (refine hout0 _ _ (ih0 _ ?_ H) ?_; omega; exact intoT) | skip)
    | (exfalso; omega))) : p := h

/-! ### laws_FnOpenTracks: function 4 -/
mutual
def laws_FnOpenTracks.j0 : Nat → List (S40) → List (S36) → Bool → List (S36) → Bool → Bool → Bool → List Int → Bool → List Int → List (S40) → Int → Bool → Int → Bool → List Int → Int → Option (Bool)
  | 0, _, _, _, _, _, _, _, _, _, _, _, _, _, _, _, _, _ => none
  | k + 1, x6, x7, x8, x9, x12, x13, x16, x17, x20, x21, x29, x30, x32, x33, x215, x1023000, x1023001 => if x215 = true then (some false) else (if x32 = true then (if x30 > 0 then ((impl_CrowdedSteps.f k x29 (wrap64 (x30 - 1))).bind fun bt1070 => (if bt1070.2 = true then (laws_FnOpenTracks.j1 k x6 x7 x8 x9 x12 x13 x16 x17 x20 x21 x29 (decide (bt1070.1 < x33)) x1023000 x1023001) else (laws_FnOpenTracks.j1 k x6 x7 x8 x9 x12 x13 x16 x17 x20 x21 x29 true x1023000 x1023001))) else ((impl_CrowdedSteps.f k x29 20).bind fun bt1074 => (if bt1074.2 = true then (if bt1074.1 = 0 then (laws_FnOpenTracks.j2 k x6 x7 x8 x9 x12 x13 x16 x17 x20 x21 x1023000 x1023001) else (some false)) else (some false)))) else (laws_FnOpenTracks.j2 k x6 x7 x8 x9 x12 x13 x16 x17 x20 x21 x1023000 x1023001))
def laws_FnOpenTracks.j2 : Nat → List (S40) → List (S36) → Bool → List (S36) → Bool → Bool → Bool → List Int → Bool → List Int → List Int → Int → Option (Bool)
  | 0, _, _, _, _, _, _, _, _, _, _, _, _ => none
  | k + 1, x6, x7, x8, x9, x12, x13, x16, x17, x20, x21, x1023000, x1023001 => if x20 = true then (laws_FnOpenTracks.l0 k x6 x7 x8 x9 x12 x13 x16 x17 x21 0 0 x1023000 x1023001) else (laws_FnOpenTracks.j5 k x6 x7 x8 x9 x12 x13 x16 x17 x21 x1023000 x1023001)
def laws_FnOpenTracks.j5 : Nat → List (S40) → List (S36) → Bool → List (S36) → Bool → Bool → Bool → List Int → List Int → List Int → Int → Option (Bool)
  | 0, _, _, _, _, _, _, _, _, _, _, _ => none
  | k + 1, x6, x7, x8, x9, x12, x13, x16, x17, x21, x1023000, x1023001 => if x16 = true then (laws_FnOpenTracks.l2 k x6 x7 x8 x9 x12 x13 x17 x21 (x1023000.length : Int) 0 x1023000 x1023001) else (laws_FnOpenTracks.j7 k x6 x7 x8 x9 x12 x13 x1023000 x1023001)
def laws_FnOpenTracks.j7 : Nat → List (S40) → List (S36) → Bool → List (S36) → Bool → Bool → List Int → Int → Option (Bool)
  | 0, _, _, _, _, _, _, _, _ => none
  | k + 1, x6, x7, x8, x9, x12, x13, x1023000, x1023001 => if x12 = true then (laws_FnOpenTracks.j8 k x6 x7 x8 x9 (!x13) x1023000 x1023001) else (laws_FnOpenTracks.j8 k x6 x7 x8 x9 true x1023000 x1023001)
def laws_FnOpenTracks.j8 : Nat → List (S40) → List (S36) → Bool → List (S36) → Bool → List Int → Int → Option (Bool)
  | 0, _, _, _, _, _, _, _ => none
  | k + 1, x6, x7, x8, x9, x319, x1023000, x1023001 => if x319 = true then (some true) else ((impl_LayOut.f k x1023000 x1023001 x7).bind fun bt1085 => ((spec_LayOut.f k x1023000 x1023001 x9).bind fun bt1089 => (if x8 = true then (if bt1085.2 = true then (if bt1089.2 = true then ((laws_qSheet.f k bt1085.1 bt1089.1).bind fun t1093 => (if t1093 = true then ((laws_qSheet.f k bt1089.1 x6).bind fun t1094 => (some t1094)) else (some false))) else (some false)) else (some false)) else (some false))))
def laws_FnOpenTracks.l2 : Nat → List (S40) → List (S36) → Bool → List (S36) → Bool → Bool → List Int → List Int → Int → Int → List Int → Int → Option (Bool)
  | 0, _, _, _, _, _, _, _, _, _, _, _, _ => none
  | k + 1, x6, x7, x8, x9, x12, x13, x17, x21, x302, x303, x1023000, x1023001 => if x303 < x302 then ((laws_qHas.f k x17 x303).bind fun t1083 => ((laws_qHas.f k x21 x303).bind fun t1084 => (if (t1083 == t1084) = true then (some false) else (laws_FnOpenTracks.l2 k x6 x7 x8 x9 x12 x13 x17 x21 x302 (wrap64 (x303 + 1)) x1023000 x1023001)))) else (laws_FnOpenTracks.j7 k x6 x7 x8 x9 x12 x13 x1023000 x1023001)
def laws_FnOpenTracks.l0 : Nat → List (S40) → List (S36) → Bool → List (S36) → Bool → Bool → Bool → List Int → List Int → Int → Int → List Int → Int → Option (Bool)
  | 0, _, _, _, _, _, _, _, _, _, _, _, _, _ => none
  | k + 1, x6, x7, x8, x9, x12, x13, x16, x17, x21, x39, x40, x1023000, x1023001 => if x40 < 20 then ((impl_OpenTime.f k x6 x40).bind fun bt1076 => ((spec_OpenTime.f k x6 x40).bind fun bt1078 => (if bt1076.2 = true then (if bt1078.2 = true then (if bt1076.1 = bt1078.1 then ((laws_qHas.f k x21 x40).bind fun t1080 => (if (t1080 != (decide (bt1078.1 > 0))) = true then (some false) else (laws_FnOpenTracks.l0 k x6 x7 x8 x9 x12 x13 x16 x17 x21 (wrap64 (x39 + bt1078.1)) (wrap64 (x40 + 1)) x1023000 x1023001))) else (some false)) else (some false)) else (some false)))) else (laws_FnOpenTracks.l1 k x6 x7 x8 x9 x12 x13 x16 x17 x21 x39 x6 (x6.length : Int) 0 x1023000 x1023001)
def laws_FnOpenTracks.l1 : Nat → List (S40) → List (S36) → Bool → List (S36) → Bool → Bool → Bool → List Int → List Int → Int → List (S40) → Int → Int → List Int → Int → Option (Bool)
  | 0, _, _, _, _, _, _, _, _, _, _, _, _, _, _, _ => none
  | k + 1, x6, x7, x8, x9, x12, x13, x16, x17, x21, x39, x283, x284, x285, x1023000, x1023001 => if x285 < x284 then (if 0 ≤ x285 then (if x285 < (x283.length : Int) then (laws_FnOpenTracks.l1 k x6 x7 x8 x9 x12 x13 x16 x17 x21 (wrap64 (x39 - (wrap64 (((rd_T40 x283 x285).f2) - ((rd_T40 x283 x285).f1))))) x283 x284 (wrap64 (x285 + 1)) x1023000 x1023001) else (none)) else (none)) else (if x39 = 0 then (laws_FnOpenTracks.j5 k x6 x7 x8 x9 x12 x13 x16 x17 x21 x1023000 x1023001) else (some false))
def laws_FnOpenTracks.j1 : Nat → List (S40) → List (S36) → Bool → List (S36) → Bool → Bool → Bool → List Int → Bool → List Int → List (S40) → Bool → List Int → Int → Option (Bool)
  | 0, _, _, _, _, _, _, _, _, _, _, _, _, _, _ => none
  | k + 1, x6, x7, x8, x9, x12, x13, x16, x17, x20, x21, x29, x232, x1023000, x1023001 => if x232 = true then (some false) else ((impl_CrowdedSteps.f k x29 20).bind fun bt1072 => (if bt1072.2 = true then (if bt1072.1 = 0 then (laws_FnOpenTracks.j2 k x6 x7 x8 x9 x12 x13 x16 x17 x20 x21 x1023000 x1023001) else (some false)) else (some false)))
end
def laws_FnOpenTracks.f (k : Nat) (l0 : List Int) (l1 : List Int) : Option (Bool) := if (wrap64 ((l0.length : Int) + (l1.length : Int))) > 1048576 then (some true) else ((spec_DrawReadBack.f k l0).bind fun bt1015 => ((impl_ReadBack.f k bt1015.1 bt1015.2.1 bt1015.2.2).bind fun bt1023 => ((spec_ReadBack.f k bt1015.1 bt1015.2.1 bt1015.2.2).bind fun bt1027 => ((impl_IsLayOut.f k bt1015.1 bt1015.2.1 bt1015.2.2).bind fun bt1031 => ((spec_IsLayOut.f k bt1015.1 bt1015.2.1 bt1015.2.2).bind fun bt1033 => ((impl_SpareTracks.f k bt1015.1 bt1015.2.1 bt1015.2.2).bind fun bt1035 => ((spec_SpareTracks.f k bt1015.1 bt1015.2.1 bt1015.2.2).bind fun bt1039 => ((impl_TracksUsed.f k bt1015.2.2).bind fun bt1043 => ((spec_TracksUsed.f k bt1015.2.2).bind fun bt1047 => ((spec_DrawOpenTime.f k l1).bind fun bt1051 => ((impl_OpenTime.f k bt1051.1 bt1051.2).bind fun bt1055 => ((spec_OpenTime.f k bt1051.1 bt1051.2).bind fun bt1057 => ((spec_DrawCrowdedSteps.f k l1).bind fun bt1059 => ((impl_CrowdedSteps.f k bt1059.1 bt1059.2).bind fun bt1063 => ((spec_CrowdedSteps.f k bt1059.1 bt1059.2).bind fun bt1065 => (if (bt1023.2 != bt1027.2) = true then (laws_FnOpenTracks.j0 k bt1015.2.2 bt1023.1 bt1023.2 bt1027.1 bt1031.2 bt1033.1 bt1035.2 bt1039.1 bt1043.2 bt1047.1 bt1059.1 bt1059.2 bt1063.2 bt1065.1 true bt1015.1 bt1015.2.1) else ((laws_qNotes.f k bt1023.1 bt1027.1).bind fun t1067 => (if t1067 = true then (if (bt1031.2 != bt1033.2) = true then (laws_FnOpenTracks.j0 k bt1015.2.2 bt1023.1 bt1023.2 bt1027.1 bt1031.2 bt1033.1 bt1035.2 bt1039.1 bt1043.2 bt1047.1 bt1059.1 bt1059.2 bt1063.2 bt1065.1 true bt1015.1 bt1015.2.1) else (if (bt1031.1 != bt1033.1) = true then (laws_FnOpenTracks.j0 k bt1015.2.2 bt1023.1 bt1023.2 bt1027.1 bt1031.2 bt1033.1 bt1035.2 bt1039.1 bt1043.2 bt1047.1 bt1059.1 bt1059.2 bt1063.2 bt1065.1 true bt1015.1 bt1015.2.1) else (if (bt1035.2 != bt1039.2) = true then (laws_FnOpenTracks.j0 k bt1015.2.2 bt1023.1 bt1023.2 bt1027.1 bt1031.2 bt1033.1 bt1035.2 bt1039.1 bt1043.2 bt1047.1 bt1059.1 bt1059.2 bt1063.2 bt1065.1 true bt1015.1 bt1015.2.1) else ((laws_qInts.f k bt1035.1 bt1039.1).bind fun t1068 => (if t1068 = true then (if (bt1043.2 != bt1047.2) = true then (laws_FnOpenTracks.j0 k bt1015.2.2 bt1023.1 bt1023.2 bt1027.1 bt1031.2 bt1033.1 bt1035.2 bt1039.1 bt1043.2 bt1047.1 bt1059.1 bt1059.2 bt1063.2 bt1065.1 true bt1015.1 bt1015.2.1) else ((laws_qInts.f k bt1043.1 bt1047.1).bind fun t1069 => (if t1069 = true then (if (bt1055.2 != bt1057.2) = true then (laws_FnOpenTracks.j0 k bt1015.2.2 bt1023.1 bt1023.2 bt1027.1 bt1031.2 bt1033.1 bt1035.2 bt1039.1 bt1043.2 bt1047.1 bt1059.1 bt1059.2 bt1063.2 bt1065.1 true bt1015.1 bt1015.2.1) else (if bt1055.1 = bt1057.1 then (if (bt1063.2 != bt1065.2) = true then (laws_FnOpenTracks.j0 k bt1015.2.2 bt1023.1 bt1023.2 bt1027.1 bt1031.2 bt1033.1 bt1035.2 bt1039.1 bt1043.2 bt1047.1 bt1059.1 bt1059.2 bt1063.2 bt1065.1 true bt1015.1 bt1015.2.1) else (if bt1063.1 = bt1065.1 then (if bt1023.2 = true then (if bt1031.2 = true then (laws_FnOpenTracks.j0 k bt1015.2.2 bt1023.1 bt1023.2 bt1027.1 bt1031.2 bt1033.1 bt1035.2 bt1039.1 bt1043.2 bt1047.1 bt1059.1 bt1059.2 bt1063.2 bt1065.1 (bt1035.2 != bt1031.2) bt1015.1 bt1015.2.1) else (laws_FnOpenTracks.j0 k bt1015.2.2 bt1023.1 bt1023.2 bt1027.1 bt1031.2 bt1033.1 bt1035.2 bt1039.1 bt1043.2 bt1047.1 bt1059.1 bt1059.2 bt1063.2 bt1065.1 true bt1015.1 bt1015.2.1)) else (laws_FnOpenTracks.j0 k bt1015.2.2 bt1023.1 bt1023.2 bt1027.1 bt1031.2 bt1033.1 bt1035.2 bt1039.1 bt1043.2 bt1047.1 bt1059.1 bt1059.2 bt1063.2 bt1065.1 (bt1035.2 != bt1031.2) bt1015.1 bt1015.2.1)) else (laws_FnOpenTracks.j0 k bt1015.2.2 bt1023.1 bt1023.2 bt1027.1 bt1031.2 bt1033.1 bt1035.2 bt1039.1 bt1043.2 bt1047.1 bt1059.1 bt1059.2 bt1063.2 bt1065.1 true bt1015.1 bt1015.2.1))) else (laws_FnOpenTracks.j0 k bt1015.2.2 bt1023.1 bt1023.2 bt1027.1 bt1031.2 bt1033.1 bt1035.2 bt1039.1 bt1043.2 bt1047.1 bt1059.1 bt1059.2 bt1063.2 bt1065.1 true bt1015.1 bt1015.2.1))) else (laws_FnOpenTracks.j0 k bt1015.2.2 bt1023.1 bt1023.2 bt1027.1 bt1031.2 bt1033.1 bt1035.2 bt1039.1 bt1043.2 bt1047.1 bt1059.1 bt1059.2 bt1063.2 bt1065.1 true bt1015.1 bt1015.2.1)))) else (laws_FnOpenTracks.j0 k bt1015.2.2 bt1023.1 bt1023.2 bt1027.1 bt1031.2 bt1033.1 bt1035.2 bt1039.1 bt1043.2 bt1047.1 bt1059.1 bt1059.2 bt1063.2 bt1065.1 true bt1015.1 bt1015.2.1)))))) else (laws_FnOpenTracks.j0 k bt1015.2.2 bt1023.1 bt1023.2 bt1027.1 bt1031.2 bt1033.1 bt1035.2 bt1039.1 bt1043.2 bt1047.1 bt1059.1 bt1059.2 bt1063.2 bt1065.1 true bt1015.1 bt1015.2.1)))))))))))))))))))
instance laws_FnOpenTracks.lp0 {k : Nat} {r : Bool} {Q : Wr → Prop} {p0 : List (S40)} {p1 : List (S36)} {p2 : Bool} {p3 : List (S36)} {p4 : Bool} {p5 : Bool} {p6 : Bool} {p7 : List Int} {p8 : List Int} {p11 : List Int} {p12 : Int} {x39_3 : Int} {x40_3 : Int} : Lp (laws_FnOpenTracks.l0 k p0 p1 p2 p3 p4 p5 p6 p7 p8 x39_3 x40_3 p11 p12 = some r) Q (fun k => ∀ {x39_3 : Int} {x40_3 : Int}, laws_FnOpenTracks.l0 k p0 p1 p2 p3 p4 p5 p6 p7 p8 x39_3 x40_3 p11 p12 = some r → Q [(78, .p (.c (.v (.int .i64 x39_3)))), (80, .p (.c (.v (.int .i64 x40_3))))]) k [(78, .p (.c (.v (.int .i64 x39_3)))), (80, .p (.c (.v (.int .i64 x40_3))))] := ⟨fun j h => j h⟩
instance laws_FnOpenTracks.lp1 {k : Nat} {r : Bool} {Q : Wr → Prop} {p0 : List (S40)} {p1 : List (S36)} {p2 : Bool} {p3 : List (S36)} {p4 : Bool} {p5 : Bool} {p6 : Bool} {p7 : List Int} {p8 : List Int} {p10 : List (S40)} {p11 : Int} {p13 : List Int} {p14 : Int} {x39_4 : Int} {x285_4 : Int} : Lp (laws_FnOpenTracks.l1 k p0 p1 p2 p3 p4 p5 p6 p7 p8 x39_4 p10 p11 x285_4 p13 p14 = some r) Q (fun k => ∀ {x39_4 : Int} {x285_4 : Int}, laws_FnOpenTracks.l1 k p0 p1 p2 p3 p4 p5 p6 p7 p8 x39_4 p10 p11 x285_4 p13 p14 = some r → Q [(78, .p (.c (.v (.int .i64 x39_4)))), (570, .p (.c (.v (.int .i64 x285_4))))]) k [(78, .p (.c (.v (.int .i64 x39_4)))), (570, .p (.c (.v (.int .i64 x285_4))))] := ⟨fun j h => j h⟩
instance laws_FnOpenTracks.lp2 {k : Nat} {r : Bool} {Q : Wr → Prop} {p0 : List (S40)} {p1 : List (S36)} {p2 : Bool} {p3 : List (S36)} {p4 : Bool} {p5 : Bool} {p6 : List Int} {p7 : List Int} {p8 : Int} {p10 : List Int} {p11 : Int} {x303_4 : Int} : Lp (laws_FnOpenTracks.l2 k p0 p1 p2 p3 p4 p5 p6 p7 p8 x303_4 p10 p11 = some r) Q (fun k => ∀ {x303_4 : Int}, laws_FnOpenTracks.l2 k p0 p1 p2 p3 p4 p5 p6 p7 p8 x303_4 p10 p11 = some r → Q [(606, .p (.c (.v (.int .i64 x303_4))))]) k [(606, .p (.c (.v (.int .i64 x303_4))))] := ⟨fun j h => j h⟩
instance {k : Nat} {p0 : List (S40)} {p1 : List (S36)} {p2 : Bool} {p3 : List (S36)} {p4 : Bool} {p5 : Bool} {p6 : Bool} {p7 : List Int} {p8 : Bool} {p9 : List Int} {p10 : List (S40)} {p11 : Int} {p12 : Bool} {p13 : Int} {p15 : List Int} {p16 : Int} {x215_18 : Bool} : HasJ 401 (laws_FnOpenTracks.j0 k p0 p1 p2 p3 p4 p5 p6 p7 p8 p9 p10 p11 p12 p13 x215_18 p15 p16) k ((List (S40)) × (List (S36)) × (Bool) × (List (S36)) × (Bool) × (Bool) × (Bool) × (List Int) × (Bool) × (List Int) × (List (S40)) × (Int) × (Bool) × (Int) × (List Int) × (Int)) (p0, p1, p2, p3, p4, p5, p6, p7, p8, p9, p10, p11, p12, p13, p15, p16) := ⟨trivial⟩
instance {ops_ : Array Oper} {d_ : Bool} {e_ : Option (Bool)} {k : Nat} {r : Bool} {p0 : List (S40)} {p1 : List (S36)} {p2 : Bool} {p3 : List (S36)} {p4 : Bool} {p5 : Bool} {p6 : Bool} {p7 : List Int} {p8 : Bool} {p9 : List Int} {p10 : List (S40)} {p11 : Int} {p12 : Bool} {p13 : Int} {p15 : List Int} {p16 : Int} [HasJ 401 e_ k ((List (S40)) × (List (S36)) × (Bool) × (List (S36)) × (Bool) × (Bool) × (Bool) × (List Int) × (Bool) × (List Int) × (List (S40)) × (Int) × (Bool) × (Int) × (List Int) × (Int)) (p0, p1, p2, p3, p4, p5, p6, p7, p8, p9, p10, p11, p12, p13, p15, p16)] : Jn (.region 18 ops_ d_) (e_ = some r) (fun Q k => ∀ {x215_18 : Bool}, laws_FnOpenTracks.j0 k p0 p1 p2 p3 p4 p5 p6 p7 p8 p9 p10 p11 p12 p13 x215_18 p15 p16 = some r → Q [(430, .p (.c (.v (.bool x215_18))))]) k := ⟨trivial⟩
instance {k : Nat} {p0 : List (S40)} {p1 : List (S36)} {p2 : Bool} {p3 : List (S36)} {p4 : Bool} {p5 : Bool} {p6 : Bool} {p7 : List Int} {p8 : Bool} {p9 : List Int} {p10 : List Int} {p11 : Int}  : HasJ 402 (laws_FnOpenTracks.j2 k p0 p1 p2 p3 p4 p5 p6 p7 p8 p9 p10 p11) k ((List (S40)) × (List (S36)) × (Bool) × (List (S36)) × (Bool) × (Bool) × (Bool) × (List Int) × (Bool) × (List Int) × (List Int) × (Int)) (p0, p1, p2, p3, p4, p5, p6, p7, p8, p9, p10, p11) := ⟨trivial⟩
instance (priority := low) {k : Nat} {y0 : List (S40)} {y1 : List (S36)} {y2 : Bool} {y3 : List (S36)} {y4 : Bool} {y5 : Bool} {y6 : Bool} {y7 : List Int} {y8 : Bool} {y9 : List Int} {y10 : List (S40)} {y11 : Int} {y12 : Bool} {y13 : Int} {y14 : Bool} {y15 : List Int} {y16 : Int} : HasJ 402 (laws_FnOpenTracks.j0 k y0 y1 y2 y3 y4 y5 y6 y7 y8 y9 y10 y11 y12 y13 y14 y15 y16) k ((List (S40)) × (List (S36)) × (Bool) × (List (S36)) × (Bool) × (Bool) × (Bool) × (List Int) × (Bool) × (List Int) × (List Int) × (Int)) (y0, y1, y2, y3, y4, y5, y6, y7, y8, y9, y15, y16) := ⟨trivial⟩
instance (priority := low) {k : Nat} {y0 : List (S40)} {y1 : List (S36)} {y2 : Bool} {y3 : List (S36)} {y4 : Bool} {y5 : Bool} {y6 : Bool} {y7 : List Int} {y8 : Bool} {y9 : List Int} {y10 : List (S40)} {y11 : Bool} {y12 : List Int} {y13 : Int} : HasJ 402 (laws_FnOpenTracks.j1 k y0 y1 y2 y3 y4 y5 y6 y7 y8 y9 y10 y11 y12 y13) k ((List (S40)) × (List (S36)) × (Bool) × (List (S36)) × (Bool) × (Bool) × (Bool) × (List Int) × (Bool) × (List Int) × (List Int) × (Int)) (y0, y1, y2, y3, y4, y5, y6, y7, y8, y9, y12, y13) := ⟨trivial⟩
instance {c_ d_ : Code} {e_ : Option (Bool)} {k : Nat} {r : Bool} {p0 : List (S40)} {p1 : List (S36)} {p2 : Bool} {p3 : List (S36)} {p4 : Bool} {p5 : Bool} {p6 : Bool} {p7 : List Int} {p8 : Bool} {p9 : List Int} {p10 : List Int} {p11 : Int} [HasJ 402 e_ k ((List (S40)) × (List (S36)) × (Bool) × (List (S36)) × (Bool) × (Bool) × (Bool) × (List Int) × (Bool) × (List Int) × (List Int) × (Int)) (p0, p1, p2, p3, p4, p5, p6, p7, p8, p9, p10, p11)] : Jn (.cond (.tmp 216) c_ d_) (e_ = some r) (fun Q k => laws_FnOpenTracks.j2 k p0 p1 p2 p3 p4 p5 p6 p7 p8 p9 p10 p11 = some r → Q []) k := ⟨trivial⟩
instance {k : Nat} {p0 : List (S40)} {p1 : List (S36)} {p2 : Bool} {p3 : List (S36)} {p4 : Bool} {p5 : Bool} {p6 : Bool} {p7 : List Int} {p8 : Bool} {p9 : List Int} {p10 : List (S40)} {p12 : List Int} {p13 : Int} {x232_131 : Bool} : HasJ 403 (laws_FnOpenTracks.j1 k p0 p1 p2 p3 p4 p5 p6 p7 p8 p9 p10 x232_131 p12 p13) k ((List (S40)) × (List (S36)) × (Bool) × (List (S36)) × (Bool) × (Bool) × (Bool) × (List Int) × (Bool) × (List Int) × (List (S40)) × (List Int) × (Int)) (p0, p1, p2, p3, p4, p5, p6, p7, p8, p9, p10, p12, p13) := ⟨trivial⟩
instance (priority := low) {k : Nat} {y0 : List (S40)} {y1 : List (S36)} {y2 : Bool} {y3 : List (S36)} {y4 : Bool} {y5 : Bool} {y6 : Bool} {y7 : List Int} {y8 : Bool} {y9 : List Int} {y10 : List (S40)} {y11 : Int} {y12 : Bool} {y13 : Int} {y14 : Bool} {y15 : List Int} {y16 : Int} : HasJ 403 (laws_FnOpenTracks.j0 k y0 y1 y2 y3 y4 y5 y6 y7 y8 y9 y10 y11 y12 y13 y14 y15 y16) k ((List (S40)) × (List (S36)) × (Bool) × (List (S36)) × (Bool) × (Bool) × (Bool) × (List Int) × (Bool) × (List Int) × (List (S40)) × (List Int) × (Int)) (y0, y1, y2, y3, y4, y5, y6, y7, y8, y9, y10, y15, y16) := ⟨trivial⟩
instance {ops_ : Array Oper} {d_ : Bool} {e_ : Option (Bool)} {k : Nat} {r : Bool} {p0 : List (S40)} {p1 : List (S36)} {p2 : Bool} {p3 : List (S36)} {p4 : Bool} {p5 : Bool} {p6 : Bool} {p7 : List Int} {p8 : Bool} {p9 : List Int} {p10 : List (S40)} {p12 : List Int} {p13 : Int} [HasJ 403 e_ k ((List (S40)) × (List (S36)) × (Bool) × (List (S36)) × (Bool) × (Bool) × (Bool) × (List Int) × (Bool) × (List Int) × (List (S40)) × (List Int) × (Int)) (p0, p1, p2, p3, p4, p5, p6, p7, p8, p9, p10, p12, p13)] : Jn (.region 23 ops_ d_) (e_ = some r) (fun Q k => ∀ {x232_131 : Bool}, laws_FnOpenTracks.j1 k p0 p1 p2 p3 p4 p5 p6 p7 p8 p9 p10 x232_131 p12 p13 = some r → Q [(464, .p (.c (.v (.bool x232_131))))]) k := ⟨trivial⟩
instance {k : Nat} {p0 : List (S40)} {p1 : List (S36)} {p2 : Bool} {p3 : List (S36)} {p4 : Bool} {p5 : Bool} {p6 : Bool} {p7 : List Int} {p8 : List Int} {p9 : List Int} {p10 : Int}  : HasJ 404 (laws_FnOpenTracks.j5 k p0 p1 p2 p3 p4 p5 p6 p7 p8 p9 p10) k ((List (S40)) × (List (S36)) × (Bool) × (List (S36)) × (Bool) × (Bool) × (Bool) × (List Int) × (List Int) × (List Int) × (Int)) (p0, p1, p2, p3, p4, p5, p6, p7, p8, p9, p10) := ⟨trivial⟩
instance (priority := low) {k : Nat} {y0 : List (S40)} {y1 : List (S36)} {y2 : Bool} {y3 : List (S36)} {y4 : Bool} {y5 : Bool} {y6 : Bool} {y7 : List Int} {y8 : Bool} {y9 : List Int} {y10 : List Int} {y11 : Int} : HasJ 404 (laws_FnOpenTracks.j2 k y0 y1 y2 y3 y4 y5 y6 y7 y8 y9 y10 y11) k ((List (S40)) × (List (S36)) × (Bool) × (List (S36)) × (Bool) × (Bool) × (Bool) × (List Int) × (List Int) × (List Int) × (Int)) (y0, y1, y2, y3, y4, y5, y6, y7, y9, y10, y11) := ⟨trivial⟩
instance (priority := low) {k : Nat} {y0 : List (S40)} {y1 : List (S36)} {y2 : Bool} {y3 : List (S36)} {y4 : Bool} {y5 : Bool} {y6 : Bool} {y7 : List Int} {y8 : List Int} {y9 : Int} {y10 : List (S40)} {y11 : Int} {y12 : Int} {y13 : List Int} {y14 : Int} : HasJ 404 (laws_FnOpenTracks.l1 k y0 y1 y2 y3 y4 y5 y6 y7 y8 y9 y10 y11 y12 y13 y14) k ((List (S40)) × (List (S36)) × (Bool) × (List (S36)) × (Bool) × (Bool) × (Bool) × (List Int) × (List Int) × (List Int) × (Int)) (y0, y1, y2, y3, y4, y5, y6, y7, y8, y13, y14) := ⟨trivial⟩
instance {c_ d_ : Code} {e_ : Option (Bool)} {k : Nat} {r : Bool} {p0 : List (S40)} {p1 : List (S36)} {p2 : Bool} {p3 : List (S36)} {p4 : Bool} {p5 : Bool} {p6 : Bool} {p7 : List Int} {p8 : List Int} {p9 : List Int} {p10 : Int} [HasJ 404 e_ k ((List (S40)) × (List (S36)) × (Bool) × (List (S36)) × (Bool) × (Bool) × (Bool) × (List Int) × (List Int) × (List Int) × (Int)) (p0, p1, p2, p3, p4, p5, p6, p7, p8, p9, p10)] : Jn (.cond (.tmp 244) c_ d_) (e_ = some r) (fun Q k => laws_FnOpenTracks.j5 k p0 p1 p2 p3 p4 p5 p6 p7 p8 p9 p10 = some r → Q []) k := ⟨trivial⟩
instance {k : Nat} {p0 : List (S40)} {p1 : List (S36)} {p2 : Bool} {p3 : List (S36)} {p4 : Bool} {p5 : Bool} {p6 : List Int} {p7 : Int}  : HasJ 405 (laws_FnOpenTracks.j7 k p0 p1 p2 p3 p4 p5 p6 p7) k ((List (S40)) × (List (S36)) × (Bool) × (List (S36)) × (Bool) × (Bool) × (List Int) × (Int)) (p0, p1, p2, p3, p4, p5, p6, p7) := ⟨trivial⟩
instance (priority := low) {k : Nat} {y0 : List (S40)} {y1 : List (S36)} {y2 : Bool} {y3 : List (S36)} {y4 : Bool} {y5 : Bool} {y6 : Bool} {y7 : List Int} {y8 : List Int} {y9 : List Int} {y10 : Int} : HasJ 405 (laws_FnOpenTracks.j5 k y0 y1 y2 y3 y4 y5 y6 y7 y8 y9 y10) k ((List (S40)) × (List (S36)) × (Bool) × (List (S36)) × (Bool) × (Bool) × (List Int) × (Int)) (y0, y1, y2, y3, y4, y5, y9, y10) := ⟨trivial⟩
instance (priority := low) {k : Nat} {y0 : List (S40)} {y1 : List (S36)} {y2 : Bool} {y3 : List (S36)} {y4 : Bool} {y5 : Bool} {y6 : List Int} {y7 : List Int} {y8 : Int} {y9 : Int} {y10 : List Int} {y11 : Int} : HasJ 405 (laws_FnOpenTracks.l2 k y0 y1 y2 y3 y4 y5 y6 y7 y8 y9 y10 y11) k ((List (S40)) × (List (S36)) × (Bool) × (List (S36)) × (Bool) × (Bool) × (List Int) × (Int)) (y0, y1, y2, y3, y4, y5, y10, y11) := ⟨trivial⟩
instance {c_ d_ : Code} {e_ : Option (Bool)} {k : Nat} {r : Bool} {p0 : List (S40)} {p1 : List (S36)} {p2 : Bool} {p3 : List (S36)} {p4 : Bool} {p5 : Bool} {p6 : List Int} {p7 : Int} [HasJ 405 e_ k ((List (S40)) × (List (S36)) × (Bool) × (List (S36)) × (Bool) × (Bool) × (List Int) × (Int)) (p0, p1, p2, p3, p4, p5, p6, p7)] : Jn (.cond (.tmp 299) c_ d_) (e_ = some r) (fun Q k => laws_FnOpenTracks.j7 k p0 p1 p2 p3 p4 p5 p6 p7 = some r → Q []) k := ⟨trivial⟩
instance {k : Nat} {p0 : List (S40)} {p1 : List (S36)} {p2 : Bool} {p3 : List (S36)} {p5 : List Int} {p6 : Int} {x319_187 : Bool} : HasJ 406 (laws_FnOpenTracks.j8 k p0 p1 p2 p3 x319_187 p5 p6) k ((List (S40)) × (List (S36)) × (Bool) × (List (S36)) × (List Int) × (Int)) (p0, p1, p2, p3, p5, p6) := ⟨trivial⟩
instance (priority := low) {k : Nat} {y0 : List (S40)} {y1 : List (S36)} {y2 : Bool} {y3 : List (S36)} {y4 : Bool} {y5 : Bool} {y6 : List Int} {y7 : Int} : HasJ 406 (laws_FnOpenTracks.j7 k y0 y1 y2 y3 y4 y5 y6 y7) k ((List (S40)) × (List (S36)) × (Bool) × (List (S36)) × (List Int) × (Int)) (y0, y1, y2, y3, y6, y7) := ⟨trivial⟩
instance {ops_ : Array Oper} {d_ : Bool} {e_ : Option (Bool)} {k : Nat} {r : Bool} {p0 : List (S40)} {p1 : List (S36)} {p2 : Bool} {p3 : List (S36)} {p5 : List Int} {p6 : Int} [HasJ 406 e_ k ((List (S40)) × (List (S36)) × (Bool) × (List (S36)) × (List Int) × (Int)) (p0, p1, p2, p3, p5, p6)] : Jn (.region 52 ops_ d_) (e_ = some r) (fun Q k => ∀ {x319_187 : Bool}, laws_FnOpenTracks.j8 k p0 p1 p2 p3 x319_187 p5 p6 = some r → Q [(638, .p (.c (.v (.bool x319_187))))]) k := ⟨trivial⟩
set_option maxRecDepth 100000 in
set_option maxHeartbeats 40000000 in
theorem laws_FnOpenTracks.con (k : Nat) (l0 : List Int) (l1 : List Int) (r : Bool) (H : laws_FnOpenTracks.f k l0 l1 = some r) : Con Tryz.prog 4 [.p (.c (.sl (.int .u8) l0)), .p (.c (.sl (.int .u8) l1))] (.p (.c (.v (.bool r)))) := by
  refine Con.mk' (fn := Tryz.f4) Tryz.func4 rfl (by kernel_rfl) rfl rfl rfl fun X w0 gs hF => ?_
  unfold laws_FnOpenTracks.f at H
  exact autoN
instance laws_FnOpenTracks.ctr {k : Nat} {l0 : List Int} {l1 : List Int} {r : Bool} : Ctr (laws_FnOpenTracks.f k l0 l1 = some r) (Con Tryz.prog 4 [.p (.c (.sl (.int .u8) l0)), .p (.c (.sl (.int .u8) l1))] (.p (.c (.v (.bool r))))) := ⟨laws_FnOpenTracks.con _ _ _ _⟩
theorem laws_FnOpenTracks.calls (k : Nat) (A0 : Option Addr) (c0 : Nat) (l0 : List Int) (A1 : Option Addr) (c1 : Nat) (l1 : List Int) (r : Bool) (w : World) (hr0 : Kd.C (Kd.int .u8) w A0 l0.length l0) (hc0 : l0.length ≤ c0) (hr1 : Kd.C (Kd.int .u8) w A1 l1.length l1) (hc1 : l1.length ≤ c1) (h : laws_FnOpenTracks.f k l0 l1 = some r) :
    Calls Tryz.prog 4 #[.slice A0 l0.length c0, .slice A1 l1.length c1] w fun e w' => e = .returned (.bool r) ∧ Below w.heap.size w w' :=
  (laws_FnOpenTracks.con k l0 l1 r h).val rfl (show Args.relg (fun _ => False) w _ [.slice A0 l0.length c0, .slice A1 l1.length c1] [.slice A0 l0.length c0, .slice A1 l1.length c1] from ⟨_, _, rfl, ⟨rfl, A0, c0, rfl, hc0, row_of_C rfl (fun _ h => h) hr0⟩, ⟨_, _, rfl, ⟨rfl, A1, c1, rfl, hc1, row_of_C rfl (fun _ h => h) hr1⟩, rfl⟩⟩)
end Go.Proofs.YtgjpphcbdbfhlaaGreat.L
