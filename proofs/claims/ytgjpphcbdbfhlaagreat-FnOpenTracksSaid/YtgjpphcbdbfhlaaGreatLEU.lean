/- The walk in one word. No condition. -/
import Derived.Test.YtgjpphcbdbfhlaaGreatLEZ
import Derived.Test.YtgjpphcbdbfhlaaGreatLE4
set_option linter.unusedVariables false
set_option linter.unusedSimpArgs false
namespace Go.Proofs.YtgjpphcbdbfhlaaGreat.L
open Go.RowKit Go.Proofs Go.Proofs.YtgjpphcbdbfhlaaGreatW.PrintWords Go.Proofs.YtgjpphcbdbfhlaaGreatW.PrintLast EV
theorem hM : Tryz.prog.follows .mixedOrders = true := by kernel_rfl
theorem subT {p : Prop} (h : p := by repeat (first | exact sub_nil _ | refine sub_cons rfl ?_)) : p := h
theorem intoT {p : Prop} (h : p := by
  apply Into.mk
  exact rfl
  exact rfl
  exact rfl
  exact subT
  exact rfl) : p := h
theorem cleT {p : Prop} (h : p := by first | exact CLe.same rfl | exact CLe.own rfl | exact CLe.rd rfl | exact CLe.fz rfl | exact CLe.nilS | exact CLe.nilO) : p := h
theorem clesT {p : Prop} (h : p := by
  repeat (first | exact CLes.nil | (apply CLes.cons; exact cleT))) : p := h
theorem leT {p : Prop} (h : p := by
  repeat (first
    | exact PLes.nil
    | (apply PLes.cons; first | exact PLe.c cleT | exact PLe.ag clesT | exact PLe.fb rfl | (apply PLe.ob; exact rfl; exact clesT)))) : p := h
theorem outT {p : Prop} (h : p := by
  repeat (first
    | exact OLes.nil
    | (apply OLes.row; exact rfl)
    | (apply OLes.box; exact rfl; exact clesT))) : p := h
theorem oT {p : Prop} (h : p := by first | (with_reducible assumption) | omega) : p := h
theorem bT {p : Prop} (h : p := by first
  | (with_reducible assumption)
  | ((with_reducible refine decide_eq_true ?_); exact oT)
  | ((with_reducible refine decide_eq_false ?_); exact oT)
  | ((with_reducible refine beq_iff_eq.mpr ?_); exact oT)
  | ((with_reducible refine beq_eq_false_iff_ne.mpr ?_); exact oT)
  | ((with_reducible refine bne_iff_ne.mpr ?_); exact oT)
  | ((with_reducible refine bne_eq_false_iff_eq.mpr ?_); exact oT)
  | (with_reducible exact rfl)) : p := h
theorem cT {p : Prop} (h : p := by first
  | exact bT
  | ((with_reducible refine nT ?_); exact bT)
  | ((with_reducible refine nF ?_); exact bT)) : p := h
theorem pT {p : Prop} (h : p := by first | exact trivial | exact ask_mk oT | (refine ask_mk ?_; dsimp only; omega) | (refine ask_mk ?_; simp only [List.length_set]; omega)) : p := h
theorem lpOf {h : Prop} {J : Nat → Prop} {k0 : Nat} {u : Wr} [Lp h (fun _ => True) J k0 u] (_ : h) : True := trivial
theorem bcT {b : Bool} {p : Prop} (h : b = true) (h' : b = false) : p := by rw [h] at h'; cases h'
theorem bcF {b : Bool} {p : Prop} (h : b = false) (h' : b = true) : p := by rw [h] at h'; cases h'
theorem ltge {a b : Int} {p : Prop} (h : a < b) (h' : a ≥ b) : p := absurd h (Int.not_lt.mpr h')
theorem gelt {a b : Int} {p : Prop} (h : a ≥ b) (h' : a < b) : p := absurd h' (Int.not_lt.mpr h)
theorem nlng {a b : Int} {p : Prop} (h : ¬ a < b) (h' : ¬ a ≥ b) : p := absurd (Int.not_lt.mp h) h'
theorem ngnl {a b : Int} {p : Prop} (h : ¬ a ≥ b) (h' : ¬ a < b) : p := absurd (Int.not_lt.mp h') h
theorem nonp {q p : Prop} (h : ¬ q) (h' : q) : p := absurd h' h
theorem pnon {q p : Prop} (h : q) (h' : ¬ q) : p := absurd h h'
theorem bndT {p : Prop} (h : p := by (try simp only [List.length_cons, List.length_nil, List.length_append] at *); omega) : p := h
theorem auto {p : Prop} (h : p := by
  repeat' (first
    | (with_reducible exact noneE H)
    | (have H_ := by with_reducible exact iteE H
       clear H; rcases H_ with ⟨c, H⟩ | ⟨c, H⟩ <;> (try simp only [Bool.not_eq_true, not_true_eq_false] at c) <;> (try first | exact bcT c (by with_reducible assumption) | exact bcF c (by with_reducible assumption) | exact ltge c (by with_reducible assumption) | exact gelt c (by with_reducible assumption) | exact nlng c (by with_reducible assumption) | exact ngnl c (by with_reducible assumption) | exact nonp c (by with_reducible assumption) | exact pnon c (by with_reducible assumption)))
    | (with_reducible apply Runs.seq)
    | (with_reducible apply Runs.region)
    | (with_reducible apply Runs.regionD hM)
    | (with_reducible apply Runs.skip)
    | (with_reducible apply Runs.inBlock)
    | (with_reducible apply Runs.block)
    | (with_reducible apply RegL.nil)
    | ((with_reducible apply RegD.nil); (kernel_rfl))
    | ((with_reducible apply Runs.exit); exact rfl)
    | ((with_reducible apply RegL.go hI); exact rfl; exact pT)
    | ((with_reducible apply RegD.go hI); exact rfl; exact pT)
    | ((with_reducible apply RegL.pickG hI (b' := true)); exact rfl; exact rfl; exact cT; exact rfl; exact cT; exact rfl; exact pT)
    | ((with_reducible apply RegL.pickG hI (b' := false)); exact rfl; exact rfl; exact cT; exact rfl; exact cT; exact rfl; exact pT)
    | ((with_reducible apply RegD.pickG hI (b' := true)); exact rfl; exact rfl; exact cT; exact rfl; exact cT; exact rfl; exact pT)
    | ((with_reducible apply RegD.pickG hI (b' := false)); exact rfl; exact rfl; exact cT; exact rfl; exact cT; exact rfl; exact pT)
    | ((with_reducible apply RegL.pick hI (b' := true)); exact rfl; exact cT; exact rfl; exact pT)
    | ((with_reducible apply RegL.pick hI (b' := false)); exact rfl; exact cT; exact rfl; exact pT)
    | ((with_reducible apply RegD.pick hI (b' := true)); exact rfl; exact cT; exact rfl; exact pT)
    | ((with_reducible apply RegD.pick hI (b' := false)); exact rfl; exact cT; exact rfl; exact pT)
    | (have H_ := by with_reducible exact bindE H
       clear H; obtain ⟨t, A, H⟩ := H_; (with_reducible apply RegL.callG); exact rfl; exact rfl; exact cT; exact Ctr.out A; exact rfl; exact rfl; exact rfl)
    | (have H_ := by with_reducible exact bindE H
       clear H; obtain ⟨t, A, H⟩ := H_; (with_reducible apply RegD.callG); exact rfl; exact rfl; exact cT; exact Ctr.out A; exact rfl; exact rfl; exact rfl)
    | ((with_reducible apply RegL.guard hI (b' := true)); exact rfl; exact rfl; exact rfl; exact cT; exact rfl; exact pT)
    | ((with_reducible apply RegL.guard hI (b' := false)); exact rfl; exact rfl; exact rfl; exact cT; exact rfl; exact pT)
    | ((with_reducible apply RegD.guard hI (b' := true)); exact rfl; exact rfl; exact rfl; exact cT; exact rfl; exact pT)
    | ((with_reducible apply RegD.guard hI (b' := false)); exact rfl; exact rfl; exact rfl; exact cT; exact rfl; exact pT)
    | ((with_reducible apply RegL.guardU hI); exact rfl; exact rfl; exact rfl; exact rfl; exact pT)
    | ((with_reducible apply RegD.guardU hI); exact rfl; exact rfl; exact rfl; exact rfl; exact pT)
    | ((with_reducible apply RegL.app hI); exact rfl; exact rfl; exact rfl; exact rfl; exact rfl; exact rfl; exact bndT; exact rfl; exact rfl)
    | ((with_reducible apply RegD.app hI); exact rfl; exact rfl; exact rfl; exact rfl; exact rfl; exact rfl; exact bndT; exact rfl; exact rfl)
    | ((with_reducible apply RegL.appG hI); exact rfl; exact rfl; exact cT; exact rfl; exact rfl; exact rfl; exact rfl; exact rfl; exact rfl; exact bndT; exact rfl; exact rfl)
    | ((with_reducible apply RegD.appG hI); exact rfl; exact rfl; exact cT; exact rfl; exact rfl; exact rfl; exact rfl; exact rfl; exact rfl; exact bndT; exact rfl; exact rfl)
    | ((with_reducible apply RegL.lit hI); exact rfl; exact rfl; exact rfl; exact rfl; exact rfl; exact rfl; exact rfl)
    | ((with_reducible apply RegD.lit hI); exact rfl; exact rfl; exact rfl; exact rfl; exact rfl; exact rfl; exact rfl)
    | ((with_reducible apply RegL.mkf); exact rfl; exact rfl; exact rfl)
    | ((with_reducible apply RegD.mkf); exact rfl; exact rfl; exact rfl)
    | ((with_reducible apply Runs.condT); exact rfl; exact cT)
    | ((with_reducible apply Runs.condF); exact rfl; exact cT)
    | (replace H := by with_reducible exact someE H)
    | (have H_ := by with_reducible exact bindE H
       clear H; obtain ⟨t, A, H⟩ := H_; (with_reducible apply RegL.call); exact Ctr.out A; exact rfl; exact rfl; exact rfl)
    | (have H_ := by with_reducible exact bindE H
       clear H; obtain ⟨t, A, H⟩ := H_; (with_reducible apply RegD.call); exact Ctr.out A; exact rfl; exact rfl; exact rfl)
    | (have H_ := by with_reducible exact bindE H
       clear H; obtain ⟨t, A, H⟩ := H_; (with_reducible apply RegL.callV); exact rfl; exact Ctr.out A; exact rfl; exact rfl; exact rfl; exact rfl; exact rfl; exact rfl)
    | (have H_ := by with_reducible exact bindE H
       clear H; obtain ⟨t, A, H⟩ := H_; (with_reducible apply RegD.callV); exact rfl; exact Ctr.out A; exact rfl; exact rfl; exact rfl; exact rfl; exact rfl; exact rfl)
    | ((with_reducible refine hout3 _ _ (ih3 _ ?_ H) ?_); omega; exact intoT)
    | ((with_reducible refine hout2 _ _ (ih2 _ ?_ H) ?_); omega; exact intoT)
    | ((with_reducible refine hout1 _ _ (ih1 _ ?_ H) ?_); omega; exact intoT)
    | ((with_reducible refine hout0 _ _ (ih0 _ ?_ H) ?_); omega; exact intoT)
    | (have q_ := @ih2; clear q_; (with_reducible apply Runs.loopM); (exact rfl); (exact rfl); (exact rfl); (exact rfl); refine fun Q hin3 hout3 => ⟨_, Lp.out (lpI _ ?_) H, ?_⟩; rotate_left; exact intoT; clear H; intro k hk3 ih3; intros; rename_i H; (rcases k with _ | k; exact noneE H); apply hin3; first | replace H := asIte H | replace H := asBind H | replace H := asSome H | skip)
    | (have q_ := @ih1; clear q_; (with_reducible apply Runs.loopM); (exact rfl); (exact rfl); (exact rfl); (exact rfl); refine fun Q hin2 hout2 => ⟨_, Lp.out (lpI _ ?_) H, ?_⟩; rotate_left; exact intoT; clear H; intro k hk2 ih2; intros; rename_i H; (rcases k with _ | k; exact noneE H); apply hin2; first | replace H := asIte H | replace H := asBind H | replace H := asSome H | skip)
    | (have q_ := @ih0; clear q_; (with_reducible apply Runs.loopM); (exact rfl); (exact rfl); (exact rfl); (exact rfl); refine fun Q hin1 hout1 => ⟨_, Lp.out (lpI _ ?_) H, ?_⟩; rotate_left; exact intoT; clear H; intro k hk1 ih1; intros; rename_i H; (rcases k with _ | k; exact noneE H); apply hin1; first | replace H := asIte H | replace H := asBind H | replace H := asSome H | skip)
    | ((with_reducible apply Runs.loopM); (exact rfl); (exact rfl); (exact rfl); (exact rfl); refine fun Q hin0 hout0 => ⟨_, Lp.out (lpI _ ?_) H, ?_⟩; rotate_left; exact intoT; clear H; intro k hk0 ih0; intros; rename_i H; (rcases k with _ | k; exact noneE H); apply hin0; first | replace H := asIte H | replace H := asBind H | replace H := asSome H | skip)
    | ((with_reducible apply Runs.ret hI); exact hF; exact rfl; (cases Option.some.inj H; exact leT); (cases Option.some.inj H; exact outT); exact rfl)
    | ((with_reducible apply Runs.fin hI); exact hF; exact rfl; (cases Option.some.inj H; exact leT); (cases Option.some.inj H; exact outT); exact rfl)
    | ((fail_if_success (have l_ := lpOf H)); rcases k with _ | k; exact noneE H; first | replace H := asIte H | replace H := asBind H | replace H := asSome H | (refine hout3 _ _ (ih3 _ ?_ H) ?_; omega; exact intoT) | (refine hout2 _ _ (ih2 _ ?_ H) ?_; omega; exact intoT) | (refine hout1 _ _ (ih1 _ ?_ H) ?_; omega; exact intoT) | (refine hout0 _ _ (ih0 _ ?_ H) ?_; omega; exact intoT) | skip)
    | (exfalso; omega))) : p := h
theorem autoJ {p : Prop} (h : p := by
  repeat' (first
    | (with_reducible exact noneE H)
    | ((with_reducible refine hjo7 _ _ (hj7 _ ?_ H) ?_); omega; exact intoT)
    | ((with_reducible refine hjo6 _ _ (hj6 _ ?_ H) ?_); omega; exact intoT)
    | ((with_reducible refine hjo5 _ _ (hj5 _ ?_ H) ?_); omega; exact intoT)
    | ((with_reducible refine hjo4 _ _ (hj4 _ ?_ H) ?_); omega; exact intoT)
    | ((with_reducible refine hjo3 _ _ (hj3 _ ?_ H) ?_); omega; exact intoT)
    | ((with_reducible refine hjo2 _ _ (hj2 _ ?_ H) ?_); omega; exact intoT)
    | ((with_reducible refine hjo1 _ _ (hj1 _ ?_ H) ?_); omega; exact intoT)
    | ((with_reducible refine hjo0 _ _ (hj0 _ ?_ H) ?_); omega; exact intoT)
    | (have q_ := @hj6; clear q_; (with_reducible apply Runs.cutJ H); (infer_instance); (exact rfl); (exact rfl); (exact rfl); (exact rfl); (intro Qj7 hjo7 hj7); rotate_left; (clear H; intro Qj hjin k hkj; intros; rename_i H; (rcases k with _ | k; exact noneE H; apply hjin; clear hjin; first | replace H := asIte H | replace H := asBind H | replace H := asSome H | skip)))
    | (have q_ := @hj5; clear q_; (with_reducible apply Runs.cutJ H); (infer_instance); (exact rfl); (exact rfl); (exact rfl); (exact rfl); (intro Qj6 hjo6 hj6); rotate_left; (clear H; intro Qj hjin k hkj; intros; rename_i H; (rcases k with _ | k; exact noneE H; apply hjin; clear hjin; first | replace H := asIte H | replace H := asBind H | replace H := asSome H | skip)))
    | (have q_ := @hj4; clear q_; (with_reducible apply Runs.cutJ H); (infer_instance); (exact rfl); (exact rfl); (exact rfl); (exact rfl); (intro Qj5 hjo5 hj5); rotate_left; (clear H; intro Qj hjin k hkj; intros; rename_i H; (rcases k with _ | k; exact noneE H; apply hjin; clear hjin; first | replace H := asIte H | replace H := asBind H | replace H := asSome H | skip)))
    | (have q_ := @hj3; clear q_; (with_reducible apply Runs.cutJ H); (infer_instance); (exact rfl); (exact rfl); (exact rfl); (exact rfl); (intro Qj4 hjo4 hj4); rotate_left; (clear H; intro Qj hjin k hkj; intros; rename_i H; (rcases k with _ | k; exact noneE H; apply hjin; clear hjin; first | replace H := asIte H | replace H := asBind H | replace H := asSome H | skip)))
    | (have q_ := @hj2; clear q_; (with_reducible apply Runs.cutJ H); (infer_instance); (exact rfl); (exact rfl); (exact rfl); (exact rfl); (intro Qj3 hjo3 hj3); rotate_left; (clear H; intro Qj hjin k hkj; intros; rename_i H; (rcases k with _ | k; exact noneE H; apply hjin; clear hjin; first | replace H := asIte H | replace H := asBind H | replace H := asSome H | skip)))
    | (have q_ := @hj1; clear q_; (with_reducible apply Runs.cutJ H); (infer_instance); (exact rfl); (exact rfl); (exact rfl); (exact rfl); (intro Qj2 hjo2 hj2); rotate_left; (clear H; intro Qj hjin k hkj; intros; rename_i H; (rcases k with _ | k; exact noneE H; apply hjin; clear hjin; first | replace H := asIte H | replace H := asBind H | replace H := asSome H | skip)))
    | (have q_ := @hj0; clear q_; (with_reducible apply Runs.cutJ H); (infer_instance); (exact rfl); (exact rfl); (exact rfl); (exact rfl); (intro Qj1 hjo1 hj1); rotate_left; (clear H; intro Qj hjin k hkj; intros; rename_i H; (rcases k with _ | k; exact noneE H; apply hjin; clear hjin; first | replace H := asIte H | replace H := asBind H | replace H := asSome H | skip)))
    | ((with_reducible apply Runs.cutJ H); (infer_instance); (exact rfl); (exact rfl); (exact rfl); (exact rfl); (intro Qj0 hjo0 hj0); rotate_left; (clear H; intro Qj hjin k hkj; intros; rename_i H; (rcases k with _ | k; exact noneE H; apply hjin; clear hjin; first | replace H := asIte H | replace H := asBind H | replace H := asSome H | skip)))
    | (with_reducible apply Went.block)
    | (with_reducible apply Went.region)
    | (with_reducible apply Went.regionD hM)
    | (with_reducible apply Runs.seq)
    | (with_reducible apply Runs.region)
    | (with_reducible apply Runs.regionD hM)
    | (with_reducible apply Runs.skip)
    | (with_reducible apply Runs.inBlock)
    | (with_reducible apply Runs.block)
    | (with_reducible apply RegL.nil)
    | ((with_reducible apply RegD.nil); (kernel_rfl))
    | ((with_reducible apply Runs.exit); exact rfl)
    | ((with_reducible apply RegL.go hI); exact rfl; exact pT)
    | ((with_reducible apply RegD.go hI); exact rfl; exact pT)
    | ((with_reducible apply Runs.condT); exact rfl; exact cT)
    | ((with_reducible apply Runs.condF); exact rfl; exact cT)
    | ((with_reducible apply Went.condT); exact rfl; exact cT)
    | ((with_reducible apply Went.condF); exact rfl; exact cT)
    | (have H_ := by with_reducible exact iteE H
       clear H; rcases H_ with ⟨c, H⟩ | ⟨c, H⟩ <;> (try simp only [Bool.not_eq_true, not_true_eq_false] at c) <;> (try first | exact bcT c (by with_reducible assumption) | exact bcF c (by with_reducible assumption) | exact ltge c (by with_reducible assumption) | exact gelt c (by with_reducible assumption) | exact nlng c (by with_reducible assumption) | exact ngnl c (by with_reducible assumption) | exact nonp c (by with_reducible assumption) | exact pnon c (by with_reducible assumption)))
    | ((with_reducible apply RegL.pickG hI (b' := true)); exact rfl; exact rfl; exact cT; exact rfl; exact cT; exact rfl; exact pT)
    | ((with_reducible apply RegL.pickG hI (b' := false)); exact rfl; exact rfl; exact cT; exact rfl; exact cT; exact rfl; exact pT)
    | ((with_reducible apply RegD.pickG hI (b' := true)); exact rfl; exact rfl; exact cT; exact rfl; exact cT; exact rfl; exact pT)
    | ((with_reducible apply RegD.pickG hI (b' := false)); exact rfl; exact rfl; exact cT; exact rfl; exact cT; exact rfl; exact pT)
    | ((with_reducible apply RegL.pick hI (b' := true)); exact rfl; exact cT; exact rfl; exact pT)
    | ((with_reducible apply RegL.pick hI (b' := false)); exact rfl; exact cT; exact rfl; exact pT)
    | ((with_reducible apply RegD.pick hI (b' := true)); exact rfl; exact cT; exact rfl; exact pT)
    | ((with_reducible apply RegD.pick hI (b' := false)); exact rfl; exact cT; exact rfl; exact pT)
    | (have H_ := by with_reducible exact bindE H
       clear H; obtain ⟨t, A, H⟩ := H_; (with_reducible apply RegL.callG); exact rfl; exact rfl; exact cT; exact Ctr.out A; exact rfl; exact rfl; exact rfl)
    | (have H_ := by with_reducible exact bindE H
       clear H; obtain ⟨t, A, H⟩ := H_; (with_reducible apply RegD.callG); exact rfl; exact rfl; exact cT; exact Ctr.out A; exact rfl; exact rfl; exact rfl)
    | ((with_reducible apply RegL.guard hI (b' := true)); exact rfl; exact rfl; exact rfl; exact cT; exact rfl; exact pT)
    | ((with_reducible apply RegL.guard hI (b' := false)); exact rfl; exact rfl; exact rfl; exact cT; exact rfl; exact pT)
    | ((with_reducible apply RegD.guard hI (b' := true)); exact rfl; exact rfl; exact rfl; exact cT; exact rfl; exact pT)
    | ((with_reducible apply RegD.guard hI (b' := false)); exact rfl; exact rfl; exact rfl; exact cT; exact rfl; exact pT)
    | ((with_reducible apply RegL.guardU hI); exact rfl; exact rfl; exact rfl; exact rfl; exact pT)
    | ((with_reducible apply RegD.guardU hI); exact rfl; exact rfl; exact rfl; exact rfl; exact pT)
    | ((with_reducible apply RegL.app hI); exact rfl; exact rfl; exact rfl; exact rfl; exact rfl; exact rfl; exact bndT; exact rfl; exact rfl)
    | ((with_reducible apply RegD.app hI); exact rfl; exact rfl; exact rfl; exact rfl; exact rfl; exact rfl; exact bndT; exact rfl; exact rfl)
    | ((with_reducible apply RegL.appG hI); exact rfl; exact rfl; exact cT; exact rfl; exact rfl; exact rfl; exact rfl; exact rfl; exact rfl; exact bndT; exact rfl; exact rfl)
    | ((with_reducible apply RegD.appG hI); exact rfl; exact rfl; exact cT; exact rfl; exact rfl; exact rfl; exact rfl; exact rfl; exact rfl; exact bndT; exact rfl; exact rfl)
    | ((with_reducible apply RegL.lit hI); exact rfl; exact rfl; exact rfl; exact rfl; exact rfl; exact rfl; exact rfl)
    | ((with_reducible apply RegD.lit hI); exact rfl; exact rfl; exact rfl; exact rfl; exact rfl; exact rfl; exact rfl)
    | ((with_reducible apply RegL.mkf); exact rfl; exact rfl; exact rfl)
    | ((with_reducible apply RegD.mkf); exact rfl; exact rfl; exact rfl)
    | (replace H := by with_reducible exact someE H)
    | (have H_ := by with_reducible exact bindE H
       clear H; obtain ⟨t, A, H⟩ := H_; (with_reducible apply RegL.call); exact Ctr.out A; exact rfl; exact rfl; exact rfl)
    | (have H_ := by with_reducible exact bindE H
       clear H; obtain ⟨t, A, H⟩ := H_; (with_reducible apply RegD.call); exact Ctr.out A; exact rfl; exact rfl; exact rfl)
    | (have H_ := by with_reducible exact bindE H
       clear H; obtain ⟨t, A, H⟩ := H_; (with_reducible apply RegL.callV); exact rfl; exact Ctr.out A; exact rfl; exact rfl; exact rfl; exact rfl; exact rfl; exact rfl)
    | (have H_ := by with_reducible exact bindE H
       clear H; obtain ⟨t, A, H⟩ := H_; (with_reducible apply RegD.callV); exact rfl; exact Ctr.out A; exact rfl; exact rfl; exact rfl; exact rfl; exact rfl; exact rfl)
    | ((with_reducible refine hout3 _ _ (ih3 _ ?_ H) ?_); omega; exact intoT)
    | ((with_reducible refine hout2 _ _ (ih2 _ ?_ H) ?_); omega; exact intoT)
    | ((with_reducible refine hout1 _ _ (ih1 _ ?_ H) ?_); omega; exact intoT)
    | ((with_reducible refine hout0 _ _ (ih0 _ ?_ H) ?_); omega; exact intoT)
    | (have q_ := @ih2; clear q_; (with_reducible apply Runs.loopM); (exact rfl); (exact rfl); (exact rfl); (exact rfl); refine fun Q hin3 hout3 => ⟨_, Lp.out (lpI _ ?_) H, ?_⟩; rotate_left; exact intoT; clear H; intro k hk3 ih3; intros; rename_i H; (rcases k with _ | k; exact noneE H); apply hin3; first | replace H := asIte H | replace H := asBind H | replace H := asSome H | skip)
    | (have q_ := @ih1; clear q_; (with_reducible apply Runs.loopM); (exact rfl); (exact rfl); (exact rfl); (exact rfl); refine fun Q hin2 hout2 => ⟨_, Lp.out (lpI _ ?_) H, ?_⟩; rotate_left; exact intoT; clear H; intro k hk2 ih2; intros; rename_i H; (rcases k with _ | k; exact noneE H); apply hin2; first | replace H := asIte H | replace H := asBind H | replace H := asSome H | skip)
    | (have q_ := @ih0; clear q_; (with_reducible apply Runs.loopM); (exact rfl); (exact rfl); (exact rfl); (exact rfl); refine fun Q hin1 hout1 => ⟨_, Lp.out (lpI _ ?_) H, ?_⟩; rotate_left; exact intoT; clear H; intro k hk1 ih1; intros; rename_i H; (rcases k with _ | k; exact noneE H); apply hin1; first | replace H := asIte H | replace H := asBind H | replace H := asSome H | skip)
    | ((with_reducible apply Runs.loopM); (exact rfl); (exact rfl); (exact rfl); (exact rfl); refine fun Q hin0 hout0 => ⟨_, Lp.out (lpI _ ?_) H, ?_⟩; rotate_left; exact intoT; clear H; intro k hk0 ih0; intros; rename_i H; (rcases k with _ | k; exact noneE H); apply hin0; first | replace H := asIte H | replace H := asBind H | replace H := asSome H | skip)
    | ((with_reducible apply Runs.ret hI); exact hF; exact rfl; (cases Option.some.inj H; exact leT); (cases Option.some.inj H; exact outT); exact rfl)
    | ((with_reducible apply Runs.fin hI); exact hF; exact rfl; (cases Option.some.inj H; exact leT); (cases Option.some.inj H; exact outT); exact rfl)
    | ((fail_if_success (have l_ := lpOf H)); rcases k with _ | k; exact noneE H; first | replace H := asIte H | replace H := asBind H | replace H := asSome H | (refine hout3 _ _ (ih3 _ ?_ H) ?_; omega; exact intoT) | (refine hout2 _ _ (ih2 _ ?_ H) ?_; omega; exact intoT) | (refine hout1 _ _ (ih1 _ ?_ H) ?_; omega; exact intoT) | (refine hout0 _ _ (ih0 _ ?_ H) ?_; omega; exact intoT) | skip)
    | (exfalso; omega))) : p := h
end Go.Proofs.YtgjpphcbdbfhlaaGreat.L
