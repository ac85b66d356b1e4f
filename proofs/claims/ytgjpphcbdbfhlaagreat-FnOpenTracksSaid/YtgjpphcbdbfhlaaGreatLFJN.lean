/- The reference's own sorting: what it hands back. No condition. -/
import Derived.Test.YtgjpphcbdbfhlaaGreatLFBN
import Derived.Test.YtgjpphcbdbfhlaaGreatLFQ
import Derived.Test.YtgjpphcbdbfhlaaGreatL0
import Derived.Test.YtgjpphcbdbfhlaaGreatL6
import Derived.Maps.AppendAt
import Derived.Laws.OwnMore
import Derived.Deep.AppendLies
import Derived.Deep.RegionHeld3
import Derived.Deep.DrawnRows
import Derived.Lib.Hide
set_option linter.unusedVariables false
set_option linter.unusedSimpArgs false
namespace Go.Proofs.YtgjpphcbdbfhlaaGreat.SNote
open Go.RowKit Go.Sort Go.Proofs Go.Proofs.YtgjpphcbdbfhlaaGreat.SA
attribute [local go_sem ↓] Go.wp_at_zero Go.wp_at_succ

section
variable {P : Program}
/-- append onto a row of one's own, at a step of a region that draws: the row that is appended may be nil. -/
theorem step_app {ops : Array Oper} {o : Oper} {a : Act} {w : World} {K : Act → World → Prop} {Q : Exit → Act → World → Prop} {E : Prop} (hgd : o.guard = none) (s x : Operand) (t : TypeId)
    (ho : o.op = .call { callee := .builtin .append, args := #[s, x], argTypes := #[t, t] }) (base : Nat) (e : TypeId) (i : TypeInfo) (z : Value) (size bytes : Nat) (ht : P.underlying t = some (.slice e)) (hi : P.info? e = some i) (hz : i.zero = some z)
    (hsize : i.size = size) (hby : i.bytes = bytes) (hzs : z.cells.size = size) (hsz : 0 < size) (v : Value) (n : Nat) (xs : List Value) (A : Option Addr) (m c : Nat) (news : List Value) (hs : a.eval s = v) (hx : a.eval x = .slice A m c)
    (hbytes : (n + m) * bytes ≤ 140737488355328) (hbb : 0 < bytes) (hl : news.length = m * size) (h1 : ∀ u ∈ news, u.oneCell' = true) (hnil : A = none → m = 0 ∧ c = 0)
    (hbase : base ≤ w.heap.size) (hown : w.ownsRow base e size v n xs) (hnews : ∀ ad, A = some ad → ∀ j u, news[j]? = some u → w.cell? (ad.add j) = some u)
    (h : ∀ v' w', w'.ownsRow base e size v' (n + m) (xs ++ news) → w.grownBy w' v.ownBlock → (v'.ownBlock = v.ownBlock ∨ v'.ownBlock = some w.heap.size) → K (a.put o.dst v') w') :
    if Region.wanted o (yielded ops a.tmps) = true then Oper.wp P o a w K Q else E := by
  have hw : Region.wanted o (yielded ops a.tmps) = true := by simp [Region.wanted, hgd]
  rw [if_pos hw]
  have hlen : n + m ≤ 140737488355328 := Nat.le_trans (Nat.le_mul_of_pos_right _ hbb) hbytes
  have hrun : ∃ v' w', (Builtin.append_ #[t, t] o.type #[v, .slice A m c]).run P w = .ok v' w' ∧ w'.ownsRow base e size v' (n + m) (xs ++ news) ∧ w.grownBy w' v.ownBlock ∧ (v'.ownBlock = v.ownBlock ∨ v'.ownBlock = some w.heap.size) := by
    cases A with
    | none =>
      obtain ⟨rfl, rfl⟩ := hnil rfl
      have hn : news = [] := List.eq_nil_of_length_eq_zero (by rw [hl]; simp)
      rw [hn]
      exact ⟨v, w, run_append_owned_none w base t o.type e i size ht hi v n xs hown, by simpa using hown, World.grownBy.refl w _, .inl rfl⟩
    | some ad =>
      obtain ⟨v', w', hr, h2, h3, _, h5⟩ := run_append_own_at (P := P) w base t o.type e i z size bytes ht hi hz hsize hby hzs hsz v n xs hown ad m c news hl (hnews ad rfl) h1 (by unfold maxLen; omega) hbytes hbase
      exact ⟨v', w', hr, h2, h3, h5⟩
  obtain ⟨v', w', hr, h2, h3, h4⟩ := hrun
  unfold Oper.wp execOp
  simp only [ho, resolve, invoke, builtin, Sem.run_bind, Sem.run_pure, Result.andThen_ok, List.map_toArray, List.map_cons, List.map_nil, hs, hx, hr]
  exact h v' w' h2 h3 h4
end

def sortedF (k : Nat) (l0 : List PN) : Option (List PN × Bool) :=
  if l0.length ≤ 1048576 then (Go.Proofs.YtgjpphcbdbfhlaaGreat.L.spec_ntGood.f k (isort ltB l0)).bind fun t => if t = true then some (isort ltB l0, true) else some ([], false) else none

noncomputable def inf : TypeInfo := (Tryz.prog.info? 36).get (by kernel_rfl)
/-- The same over what lay there when the region began: out of an older row. -/
theorem app_old {ops : Array Oper} {o : Oper} {a : Act} {w wz : World} {K : Act → World → Prop} {Q : Exit → Act → World → Prop} {E : Prop} (hgd : o.guard = none) (s x : Operand)
    (ho : o.op = .call { callee := .builtin .append, args := #[s, x], argTypes := #[26, 26] }) (v : Value) (n : Nat) (xs : List Value) (A : Option Addr) (m c : Nat) (l : List PN) (hs : a.eval s = v) (hx : a.eval x = .slice A m c)
    (hl : l.length = m) (hnm : n + m ≤ 2000000) (hnil : A = none → m = 0 ∧ c = 0) (hnews : ∀ ad, A = some ad → ∀ (i : Nat) (u : Value), (flat3 l)[i]? = some u → wz.cell? (ad.add i) = some u)
    (hb : Go.RowKit.Below wz.heap.size wz w) (hown : w.ownsRow wz.heap.size 36 3 v n xs)
    (h : ∀ v' w', w'.ownsRow wz.heap.size 36 3 v' (n + m) (xs ++ flat3 l) → Go.RowKit.Below wz.heap.size wz w' → (∀ b, b < w.heap.size → some b ≠ v.ownBlock → w'.heap[b]? = w.heap[b]?) → K (a.put o.dst v') w') :
    if Region.wanted o (yielded ops a.tmps) = true then Oper.wp Tryz.prog o a w K Q else E := by
  refine step_app hgd s x 26 ho wz.heap.size 36 inf (.agg #[.int .i64 0, .int .i64 0, .int .i64 0]) 3 24 Tryz.underlying26 (by kernel_rfl) (by kernel_rfl) (by kernel_rfl) (by kernel_rfl) (by kernel_rfl) (by omega) v n xs A m c (flat3 l) hs hx (by omega) (by omega) (by rw [flat3_len, hl]) (flat3_one_cell l) hnil hb.size hown ?_ ?_
  · intro ad he i u hu
    have := hnews ad he i u hu
    exact below_cell hb (World.block_lt_of_cell? _ _ this) this
  · intro v' w' h1 h2 _
    exact h v' w' h1 (hb.grown h2 hb.size (fun k hk => Go.Proofs.YtgjpphcbdbfhlaaGreatW.PrintWords.own_base hown k hk)) (fun b hb' hne => h2.block b hb' hne)
/-- The same out of a literal of one element. -/
theorem app_lit {ops : Array Oper} {o : Oper} {a : Act} {w wz : World} {K : Act → World → Prop} {Q : Exit → Act → World → Prop} {E : Prop} (hgd : o.guard = none) (s x : Operand)
    (ho : o.op = .call { callee := .builtin .append, args := #[s, x], argTypes := #[26, 26] }) (v : Value) (n : Nat) (xs : List Value) (g : Nat) (y : PN) (hs : a.eval s = v) (hx : a.eval x = .slice (some ⟨g, 0, none⟩) 1 1)
    (hnm : n + 1 ≤ 2000000) (hb : Go.RowKit.Below wz.heap.size wz w) (hown : w.ownsRow wz.heap.size 36 3 v n xs) (hg : w.heap[g]? = some (.cells #[.int .i64 y.f0, .int .i64 y.f1, .int .i64 y.f2] 36))
    (h : ∀ v' w', w'.ownsRow wz.heap.size 36 3 v' (n + 1) (xs ++ flat3 [y]) → Go.RowKit.Below wz.heap.size wz w' → K (a.put o.dst v') w') :
    if Region.wanted o (yielded ops a.tmps) = true then Oper.wp Tryz.prog o a w K Q else E := by
  refine step_app hgd s x 26 ho wz.heap.size 36 inf (.agg #[.int .i64 0, .int .i64 0, .int .i64 0]) 3 24 Tryz.underlying26 (by kernel_rfl) (by kernel_rfl) (by kernel_rfl) (by kernel_rfl) (by kernel_rfl) (by omega) v n xs (some ⟨g, 0, none⟩) 1 1 (flat3 [y]) hs hx (by omega) (by omega) (by rw [flat3_len]; rfl) (flat3_one_cell [y]) (fun e => by cases e) hb.size hown ?_ ?_
  · intro ad he i u hu
    cases he
    exact World.news_of_block hg i u (by rw [flat3_one] at hu; exact hu)
  · intro v' w' h1 h2 _
    exact h v' w' h1 (hb.grown h2 hb.size (fun k hk => Go.Proofs.YtgjpphcbdbfhlaaGreatW.PrintWords.own_base hown k hk))
/-- A row cut in two: the slices that the cuts yield, and what may be read of them. -/
theorem cuts (A : Option Addr) (j c k : Nat) (os : List PN) (hos : os.length = j) (hk : k ≤ j) (hj : j ≤ c) (hn : A = none → j = 0 ∧ c = 0) :
    ∃ A' : Option Addr, (∀ W : World, (Instr.slice 26 (.slice A j c) none (some (.int .i64 (k : Int))) none).run Tryz.prog W = .ok (.slice A k c) W) ∧
      (∀ W : World, (Instr.slice 26 (.slice A j c) (some (.int .i64 (k : Int))) none none).run Tryz.prog W = .ok (.slice A' (j - k) (c - k)) W) ∧ (A' = none → j - k = 0 ∧ c - k = 0) ∧
      ∀ (base : Nat) (W : World), W.ownsRow base 36 3 (.slice A j c) j (flat3 os) →
        (∀ ad, A = some ad → ∀ (i : Nat) (u : Value), (flat3 (os.take k))[i]? = some u → W.cell? (ad.add i) = some u) ∧ (∀ ad, A' = some ad → ∀ (i : Nat) (u : Value), (flat3 (os.drop k))[i]? = some u → W.cell? (ad.add i) = some u) := by
  refine ⟨if c = k then A else A.map (·.add (k * 3)), fun W => ?_, fun W => ?_, fun h => ?_, fun base W hO => ⟨fun ad he i u hu => ?_, fun ad he i u hu => ?_⟩⟩
  · have := Go.Proofs.YtgjpphcbdbfhlaaGreatW.PrintWords.cut_to (P := Tryz.prog) 26 36 .i64 Tryz.underlying26 (i := inf) (by kernel_rfl) A j c (k : Int) (by omega) (by omega) hj W
    simpa using this
  · have := Go.Proofs.YtgjpphcbdbfhlaaGreatW.PrintWords.cut_from (P := Tryz.prog) 26 36 .i64 Tryz.underlying26 (i := inf) (by kernel_rfl) 3 (by kernel_rfl) A j c (k : Int) (by omega) (by omega) W
    simpa using this
  · have hA : A = none := by
      split at h
      · exact h
      · cases A with
        | none => rfl
        | some ad => cases h
    obtain ⟨e1, e2⟩ := hn hA
    omega
  · subst he
    obtain ⟨g, rfl, _, _, hc⟩ := own_at hO
    have e : flat3 os = flat3 (os.take k) ++ flat3 (os.drop k) := by rw [← flat3_append, List.take_append_drop]
    have hi : i < (flat3 (os.take k)).length := (List.getElem?_eq_some_iff.mp hu).1
    have := hc i u (by rw [e, List.getElem?_append_left hi]; exact hu)
    rw [Go.Proofs.YtgjpphcbdbfhlaaGreatW.PrintWords.add_plain]; exact this
  · have hi : i < (flat3 (os.drop k)).length := (List.getElem?_eq_some_iff.mp hu).1
    have hl : (flat3 (os.take k)).length = k * 3 := by rw [flat3_len]; simp; omega
    have hd : k < j := by rw [flat3_len] at hi; simp at hi; omega
    rw [if_neg (by omega)] at he
    cases A with
    | none => cases he
    | some a0 =>
      simp only [Option.map_some, Option.some.injEq] at he
      subst he
      obtain ⟨g, rfl, _, _, hc⟩ := own_at hO
      have e : flat3 os = flat3 (os.take k) ++ flat3 (os.drop k) := by rw [← flat3_append, List.take_append_drop]
      have := hc (k * 3 + i) u (by rw [e, List.getElem?_append_right (by omega), hl, Nat.add_sub_cancel_left]; exact hu)
      rw [Go.Proofs.YtgjpphcbdbfhlaaGreatW.PrintWords.add_plain]
      have ea : (⟨g, k * 3, none⟩ : Addr).add i = ⟨g, k * 3 + i, none⟩ := by unfold Addr.add; split <;> simp_all
      rw [ea]; exact this

set_option maxHeartbeats 4000000 in
set_option maxRecDepth 100000 in
theorem sorted_calls (k : Nat) (A0 : Option Addr) (c0 : Nat) (l0 : List PN) (r0 : List PN) (r1 : Bool) (w : World) (hr0 : Go.Proofs.YtgjpphcbdbfhlaaGreatW.PrintWords.Kd.C Go.Proofs.YtgjpphcbdbfhlaaGreat.L.k36 w A0 l0.length l0) (hc0 : l0.length ≤ c0) (h : sortedF k l0 = some (r0, r1)) :
    Calls Tryz.prog 79 #[.slice A0 l0.length c0] w fun e w' => ∃ v0_, e = .returned (.tuple #[v0_, .bool r1]) ∧ Go.Proofs.YtgjpphcbdbfhlaaGreatW.PrintWords.Kd.R Go.Proofs.YtgjpphcbdbfhlaaGreat.L.k36 36 w' w.heap.size (fun _ => True) v0_ r0 ∧ Go.RowKit.Below w.heap.size w w' := by
  have mixed : Tryz.prog.follows .mixedOrders = true := by kernel_rfl
  unfold sortedF at h
  by_cases hb : l0.length ≤ 1048576
  · rw [if_pos hb] at h
    have H : Hid _ := h
    have R0 : Hid _ := hr0
    have hu : Tryz.prog.underlying 36 = _ := Tryz.underlying36
    clear h hr0
    go_enter Tryz.func79, Tryz.ntmps79
    go_wp2
    go_loopw [4, 10] (fun v i wr => ∃ j : Nat, i = .int .i64 j ∧ Hid (j ≤ l0.length ∧ wr.ownsRow w.heap.size 36 3 v j (flat3 (isort ltB (l0.take j))) ∧ Go.RowKit.Below w.heap.size w wr)) (fun _ i _ => l0.length - (intOf i).toNat)
    case atStart => exact ⟨0, rfl, Lib.hid ⟨Nat.zero_le _, ⟨rfl, .inl ⟨rfl, rfl⟩⟩, Go.RowKit.Below.refl _ _⟩⟩
    case round =>
      obtain ⟨j, rfl, HH⟩ := hrel
      by_cases hlt : j < l0.length
      · obtain ⟨x, hx⟩ : ∃ x, x = l0[j] := ⟨_, rfl⟩
        cases A0 with
        | none => exact absurd (C_none R0.out) (by intro e; rw [e] at hlt; simp at hlt)
        | some ad =>
          obtain ⟨ad', e', cx0, cx1, cx2⟩ := Go.Proofs.YtgjpphcbdbfhlaaGreat.L.at_T36 R0.out (j : Int) (by omega) (by omega)
          cases e'
          have hrd : Go.Proofs.YtgjpphcbdbfhlaaGreat.L.rd_T36 l0 (j : Int) = x := by rw [hx]; unfold Go.Proofs.YtgjpphcbdbfhlaaGreat.L.rd_T36; simp [hlt]
          rw [hrd] at cx0 cx1 cx2
          simp only [Int.toNat_natCast] at cx0 cx1 cx2
          have b3 := HH.out.2.2
          replace cx0 := (b3.cell (World.block_lt_of_cell? w _ cx0)).trans cx0
          replace cx1 := (b3.cell (World.block_lt_of_cell? w _ cx1)).trans cx1
          replace cx2 := (b3.cell (World.block_lt_of_cell? w _ cx2)).trans cx2
          have HX : Hid (l0[j]? = some x) := Lib.hid (by rw [hx]; exact List.getElem?_eq_getElem hlt)
          clear b3 hx hrd
          obtain ⟨os, hos⟩ : ∃ os, os = isort ltB (l0.take j) := ⟨_, rfl⟩
          obtain ⟨hj, hown, hbel⟩ := HH.out
          rw [← hos] at hown
          have hosl : os.length = j := by rw [hos, isort_length]; simp; omega
          obtain ⟨A4, c4, rfl, hc4, hm4, hn4, ha4⟩ := own_shape hown
          have HS : Hid _ := hos
          have HL : Hid _ := hosl
          have HN : Hid _ := hn4
          have HM : Hid _ := hm4
          clear hn4 ha4 hm4 HH hos hosl
          go_wp2
          have HO : Hid ((wr.alloc (.cells #[.int .i64 x.f0, .int .i64 x.f1, .int .i64 x.f2] 36)).ownsRow w.heap.size 36 3 (.slice A4 j c4) j (flat3 os)) := Lib.hid (hown.alloc _)
          have HB : Hid (Go.RowKit.Below w.heap.size w (wr.alloc (.cells #[.int .i64 x.f0, .int .i64 x.f1, .int .i64 x.f2] 36))) := Lib.hid (hbel.alloc hbel.size _)
          have HC : Hid ((wr.alloc (.cells #[.int .i64 x.f0, .int .i64 x.f1, .int .i64 x.f2] 36)).cell? ⟨wr.heap.size, 0, none⟩ = some (.int .i64 x.f0) ∧ (wr.alloc (.cells #[.int .i64 x.f0, .int .i64 x.f1, .int .i64 x.f2] 36)).cell? ⟨wr.heap.size, 1, none⟩ = some (.int .i64 x.f1) ∧ (wr.alloc (.cells #[.int .i64 x.f0, .int .i64 x.f1, .int .i64 x.f2] 36)).cell? ⟨wr.heap.size, 2, none⟩ = some (.int .i64 x.f2)) := Lib.hid ⟨by simp, by simp, by simp⟩
          clear hown hbel cx0 cx1 cx2
          generalize wr.alloc (.cells #[.int .i64 x.f0, .int .i64 x.f1, .int .i64 x.f2] 36) = wb at HO HB HC ⊢
          generalize wr.heap.size = Bx at HC ⊢
          clear hlt
          go_loopw [7] (fun kv wq => ∃ k : Nat, kv = .int .i64 k ∧ Hid (k ≤ j ∧ insPos ltB x os k = insPos ltB x os j ∧ Go.RowKit.Below wb.heap.size wb wq)) (fun kv _ => (intOf kv).toNat)
          case atStart => exact ⟨j, rfl, Lib.hid ⟨Nat.le_refl _, rfl, Go.RowKit.Below.refl _ _⟩⟩
          case round =>
            obtain ⟨k, rfl, HK⟩ := hrel
            have hkj := HK.out.1
            obtain ⟨A', hto, hfr, hni, hce⟩ := cuts A4 j c4 k os HL.out hkj hc4 HN.out
            have HTO : Hid _ := Lib.hid hto
            have HFR : Hid _ := Lib.hid hfr
            have HNI : Hid _ := Lib.hid hni
            have HCE : Hid _ := Lib.hid hce
            clear hto hfr hni hce
            by_cases hex : 0 < k ∧ ltB x (os.getD (k - 1) default) = true
            · obtain ⟨h0, hcmp⟩ := hex
              obtain ⟨u, hu1⟩ : ∃ u, k = u + 1 := ⟨k - 1, by omega⟩
              have hg : decide (0 < k) = true := by simp; omega
              have hosl := HL.out
              have huj : u < j := by omega
              obtain ⟨y, hy⟩ : ∃ y, os[u]? = some y := ⟨os[u]'(by omega), List.getElem?_eq_getElem (by omega)⟩
              have hyc : os.getD (k - 1) default = y := by rw [show k - 1 = u by omega, List.getD_eq_getElem?_getD, hy]; rfl
              have HCM : Hid _ := hcmp
              rw [hyc] at hcmp
              obtain ⟨a4, ha4⟩ : ∃ a4, A4 = some a4 := by
                cases A4 with
                | none => exact absurd (HN.out rfl).1 (by omega)
                | some a4 => exact ⟨a4, rfl⟩
              subst ha4
              obtain ⟨g, rfl, hgb, hgl, hgc⟩ := own_at HO.out
              have HG : Hid _ := hgc
              have HGL : Hid _ := hgl
              clear hgc hgl
              have y0 : (flat3 os)[u * 3 + 0]? = some (.int .i64 y.f0) := by rw [flat3_get os u 0 y hy (by omega)]; rfl
              have y1 : (flat3 os)[u * 3 + 1]? = some (.int .i64 y.f1) := by rw [flat3_get os u 1 y hy (by omega)]; rfl
              have y2 : (flat3 os)[u * 3 + 2]? = some (.int .i64 y.f2) := by rw [flat3_get os u 2 y hy (by omega)]; rfl
              obtain ⟨x0, x1, x2⟩ := HC.out
              have kb := HK.out.2.2
              have i0 := fun p : BelowW wr => p.cell (below_cell kb (World.block_lt_of_cell? wb _ x0) x0)
              have i1 := fun p : BelowW wr => p.cell (below_cell kb (World.block_lt_of_cell? wb _ x1) x1)
              have i2 := fun p : BelowW wr => p.cell (below_cell kb (World.block_lt_of_cell? wb _ x2) x2)
              have j0 := fun p : BelowW wr => p.cell (below_cell kb (HGL.out) (HG.out _ _ y0))
              have j1 := fun p : BelowW wr => p.cell (below_cell kb (HGL.out) (HG.out _ _ y1))
              have j2 := fun p : BelowW wr => p.cell (below_cell kb (HGL.out) (HG.out _ _ y2))
              simp only [Nat.add_zero] at j0
              have hc : ∀ p : BelowW wr, Calls Tryz.prog 89 #[.agg #[.int .i64 x.f0, .int .i64 x.f1, .int .i64 x.f2], .agg #[.int .i64 y.f0, .int .i64 y.f1, .int .i64 y.f2]] p.world fun e w'' => e = .returned (.bool true) ∧ ∃ q : BelowW wr, w'' = q.world := fun p => by
                refine (Go.Proofs.YtgjpphcbdbfhlaaGreat.L.spec_ntBefore.calls _ _ _ _ _ _ _ p.world ((before_lt x y).trans (by rw [hcmp]))).mono ?_
                rintro e w'' ⟨rfl, hb⟩
                exact ⟨rfl, ⟨w'', p.ok.trans (hb.mono p.ok.size)⟩, rfl⟩
              have hw : IntKind.i64.wrap ((k : Int) - 1) = (u : Int) := by rw [IntWalk.i64_in _ (by omega)]; omega
              have p1 : (0 : Int) ≤ (u : Int) := by omega
              have b1 : (u : Int) < (j : Int) := by omega
              have HU : Hid (k = u + 1) := Lib.hid hu1
              clear y0 y1 y2 x0 x1 x2 kb hosl hu1 hy h0 huj hcmp hyc
              go_wp2
              refine wp_region_quiet_below (by assumption) (by kernel_rfl) ?_
              repeat (quiet_step (exact hc _))
              refine wpQuiet_nil ?_
              intro _ hw'
              obtain ⟨pq, hw''⟩ := hw'
              subst hw''
              clear i0 i1 i2 j0 j1 j2 hc
              have hlt2 : insPos ltB x os u = insPos ltB x os j := by
                rw [← HK.out.2.1, HU.out, insPos, if_pos]
                have := HCM.out; rw [HU.out] at this; exact this
              go_wp2
              go_roundw
              case rel => exact ⟨u, rfl, Lib.hid ⟨by omega, hlt2, HK.out.2.2.trans (pq.ok.mono HK.out.2.2.size)⟩⟩
              case measure => have := HU.out; simp [intOf]; omega
            · have hk0 : Hid (insPos ltB x os j = k) := Lib.hid (by
                rw [← HK.out.2.1]
                rcases Nat.eq_zero_or_pos k with h0 | h0
                · rw [h0]; rfl
                · obtain ⟨u, rfl⟩ : ∃ u, k = u + 1 := ⟨k - 1, by omega⟩
                  exact if_neg (fun hh => hex ⟨by omega, hh⟩))
              by_cases h0 : 0 < k
              case' pos =>
                have hcmp : ltB x (os.getD (k - 1) default) = false := by
                  cases hh : ltB x (os.getD (k - 1) default) with
                  | false => rfl
                  | true => exact absurd ⟨h0, hh⟩ hex
                obtain ⟨u, hu1⟩ : ∃ u, k = u + 1 := ⟨k - 1, by omega⟩
                have hg : decide (0 < k) = true := by simp; omega
                have hosl := HL.out
                have huj : u < j := by omega
                obtain ⟨y, hy⟩ : ∃ y, os[u]? = some y := ⟨os[u]'(by omega), List.getElem?_eq_getElem (by omega)⟩
                have hyc : os.getD (k - 1) default = y := by rw [show k - 1 = u by omega, List.getD_eq_getElem?_getD, hy]; rfl
                have HCM : Hid _ := hcmp
                rw [hyc] at hcmp
                obtain ⟨a4, ha4⟩ : ∃ a4, A4 = some a4 := by
                  cases A4 with
                  | none => exact absurd (HN.out rfl).1 (by omega)
                  | some a4 => exact ⟨a4, rfl⟩
                subst ha4
                obtain ⟨g, rfl, hgb, hgl, hgc⟩ := own_at HO.out
                have HG : Hid _ := hgc
                have HGL : Hid _ := hgl
                clear hgc hgl
                have y0 : (flat3 os)[u * 3 + 0]? = some (.int .i64 y.f0) := by rw [flat3_get os u 0 y hy (by omega)]; rfl
                have y1 : (flat3 os)[u * 3 + 1]? = some (.int .i64 y.f1) := by rw [flat3_get os u 1 y hy (by omega)]; rfl
                have y2 : (flat3 os)[u * 3 + 2]? = some (.int .i64 y.f2) := by rw [flat3_get os u 2 y hy (by omega)]; rfl
                obtain ⟨x0, x1, x2⟩ := HC.out
                have kb := HK.out.2.2
                have i0 := fun p : BelowW wr => p.cell (below_cell kb (World.block_lt_of_cell? wb _ x0) x0)
                have i1 := fun p : BelowW wr => p.cell (below_cell kb (World.block_lt_of_cell? wb _ x1) x1)
                have i2 := fun p : BelowW wr => p.cell (below_cell kb (World.block_lt_of_cell? wb _ x2) x2)
                have j0 := fun p : BelowW wr => p.cell (below_cell kb (HGL.out) (HG.out _ _ y0))
                have j1 := fun p : BelowW wr => p.cell (below_cell kb (HGL.out) (HG.out _ _ y1))
                have j2 := fun p : BelowW wr => p.cell (below_cell kb (HGL.out) (HG.out _ _ y2))
                simp only [Nat.add_zero] at j0
                have hc : ∀ p : BelowW wr, Calls Tryz.prog 89 #[.agg #[.int .i64 x.f0, .int .i64 x.f1, .int .i64 x.f2], .agg #[.int .i64 y.f0, .int .i64 y.f1, .int .i64 y.f2]] p.world fun e w'' => e = .returned (.bool false) ∧ ∃ q : BelowW wr, w'' = q.world := fun p => by
                  refine (Go.Proofs.YtgjpphcbdbfhlaaGreat.L.spec_ntBefore.calls _ _ _ _ _ _ _ p.world ((before_lt x y).trans (by rw [hcmp]))).mono ?_
                  rintro e w'' ⟨rfl, hb⟩
                  exact ⟨rfl, ⟨w'', p.ok.trans (hb.mono p.ok.size)⟩, rfl⟩
                have hw : IntKind.i64.wrap ((k : Int) - 1) = (u : Int) := by rw [IntWalk.i64_in _ (by omega)]; omega
                have p1 : (0 : Int) ≤ (u : Int) := by omega
                have b1 : (u : Int) < (j : Int) := by omega
                have HU : Hid (k = u + 1) := Lib.hid hu1
                clear y0 y1 y2 x0 x1 x2 kb hosl hu1 hy h0 huj hcmp hyc
                go_wp2
                refine wp_region_quiet_below (by assumption) (by kernel_rfl) ?_
                repeat (quiet_step (exact hc _))
                refine wpQuiet_nil ?_
                intro _ hw'
                obtain ⟨pq, hw''⟩ := hw'
                subst hw''
                clear i0 i1 i2 j0 j1 j2 hc
              case' neg =>
                have hg : decide (0 < k) = false := by simp; omega
                go_wp2
                refine wp_region_quiet_below (by assumption) (by kernel_rfl) ?_
                repeat (quiet_step (fail))
                refine wpQuiet_nil ?_
                intro _ hw'
                obtain ⟨pq, hw''⟩ := hw'
                subst hw''
              all_goals
                have hbq : Go.RowKit.Below wb.heap.size wb pq.world := HK.out.2.2.trans (pq.ok.mono HK.out.2.2.size)
                have HBq : Hid (Go.RowKit.Below w.heap.size w pq.world) := Lib.hid (HB.out.trans (hbq.mono HB.out.size))
                have hoq := own_below HO.out hbq
                have hce := HCE.out _ _ hoq
                have hx0 := below_cell hbq (World.block_lt_of_cell? wb _ HC.out.1) HC.out.1
                have hx1 := below_cell hbq (World.block_lt_of_cell? wb _ HC.out.2.1) HC.out.2.1
                have hx2 := below_cell hbq (World.block_lt_of_cell? wb _ HC.out.2.2) HC.out.2.2
                have hbx := World.block_lt_of_cell? _ _ hx0
                generalize pq.world = wz at hx0 hx1 hx2 hbx hce hoq HBq ⊢
                have HX0 : Hid _ := Lib.hid hx0
                have HX1 : Hid _ := Lib.hid hx1
                have HX2 : Hid _ := Lib.hid hx2
                have HCZ : Hid _ := Lib.hid hce
                have hto := HTO.out
                have hfr := HFR.out
                clear hoq hce hbq hex HK HC HCE HO HB
                go_wp2
                have L1 : Hid ((os.take k).length = k) := Lib.hid (by have := HL.out; simp; omega)
                have L2 : Hid ((os.drop k).length = j - k) := Lib.hid (by have := HL.out; simp; omega)
                have hj6 : j ≤ 1048576 := by omega
                go_region_held3 (fun w' => w'.cell? ⟨Bx, 0, none⟩ = some (.int .i64 x.f0) ∧ w'.cell? ⟨Bx, 1, none⟩ = some (.int .i64 x.f1) ∧ w'.cell? ⟨Bx, 2, none⟩ = some (.int .i64 x.f2))
                  (first
                    | go_keep
                    | exact ⟨below_cell HB3.out hbx HX0.out, below_cell HB3.out hbx HX1.out, below_cell HB3.out hbx HX2.out⟩
                    | exact ⟨below_cell HB2.out hbx HX0.out, below_cell HB2.out hbx HX1.out, below_cell HB2.out hbx HX2.out⟩
                    | exact ⟨below_cell HB1.out hbx HX0.out, below_cell HB1.out hbx HX1.out, below_cell HB1.out hbx HX2.out⟩)
                  (first
                    | ((refine app_old (wz := wz) (by rfl) (.tmp 29) (.tmp 32) (by rfl) _ 0 [] _ k _ (os.take k) (by rfl) (by rfl) L1.out (by omega) (fun e => by have := HN.out e; omega) HCZ.out.1 (by repeat (first | exact Go.RowKit.Below.refl _ _ | refine Go.RowKit.Below.drew ?_ | refine Go.RowKit.Below.alloc ?_ (by simp) _))
                          (by first | exact lit_own _ #[] 0 _ (by simp) (by simp) (by omega) rfl | exact (lit_own _ #[] 0 _ (by simp) (by simp) (by omega) rfl).alloc _) ?_; intro v1 w1 hown1 hb1 hk1; have HO1 : Hid _ := Lib.hid hown1; have HB1 : Hid _ := Lib.hid hb1; have HK1 : Hid _ := Lib.hid hk1; clear hown1 hb1 hk1))
                    | ((refine app_lit (wz := wz) (by rfl) (.tmp 33) (.tmp 35) (by rfl) _ (0 + k) ([] ++ flat3 (os.take k)) _ x (by rfl) (by rfl) (by omega) (by first | exact HB1.out | exact Go.RowKit.Below.alloc HB1.out HB1.out.size _)
                          (by first | exact HO1.out | exact HO1.out.alloc _) (by first | exact blk_new _ _ _ (by simp) | exact (HK1.out _ (by first | (simp; done) | (simp; omega)) (by intro e; have e2 := Option.some.inj e; simp at e2)).trans (by first | exact blk_new _ _ _ (by simp) | exact (Go.RowKit.Below.heap_alloc _ _ _ (by first | (simp; done) | (simp; omega))).trans (blk_new _ _ _ (by simp)))) ?_; intro v2 w2 hown2 hb2; have HO2 : Hid _ := Lib.hid hown2; have HB2 : Hid _ := Lib.hid hb2; clear hown2 hb2))
                    | ((refine app_old (wz := wz) (by rfl) (.tmp 36) (.tmp 39) (by rfl) _ (0 + k + 1) _ _ (j - k) _ (os.drop k) (by rfl) (by rfl) L2.out (by omega) HNI.out HCZ.out.2 HB2.out HO2.out ?_; intro v3 w3 hown3 hb3 hk3; have HO3 : Hid _ := Lib.hid hown3; have HB3 : Hid _ := Lib.hid hb3; clear hown3 hb3 hk3)))
                all_goals
                  go_wp2
                  go_roundw
                  case rel =>
                    refine ⟨j + 1, by go_num, Lib.hid ⟨?_, ?_, ?_⟩⟩
                    · have := HX.out; have := (List.getElem?_eq_some_iff.mp this).1; omega
                    · have e1 : isort ltB (l0.take (j + 1)) = os.take k ++ ([x] ++ os.drop k) := by
                        have e2 : l0.take (j + 1) = l0.take j ++ [x] := by
                          have := (List.getElem?_eq_some_iff.mp HX.out)
                          obtain ⟨h1, h2⟩ := this
                          rw [List.take_succ_eq_append_getElem h1, h2]
                        rw [e2]; unfold isort; rw [isortFrom_snoc]
                        have e3 := HS.out; unfold isort at e3; rw [← e3]
                        unfold insL; rw [HL.out, hk0.out]
                      rw [e1, flat3_append, flat3_append]
                      have := Go.Proofs.YtgjpphcbdbfhlaaGreatW.PrintWords.own_weaken HO3.out HBq.out.size
                      rw [List.nil_append, List.append_assoc, show 0 + k + 1 + (j - k) = j + 1 by omega] at this
                      exact this
                    · exact HBq.out.trans (HB3.out.mono HBq.out.size)
                  case measure => have := (List.getElem?_eq_some_iff.mp HX.out).1; simp [intOf]; omega
      · obtain ⟨hj, hown, hbel⟩ := HH.out
        obtain rfl : j = l0.length := by omega
        rw [List.take_length] at hown
        have hz := isort_length ltB l0
        have HR := R_of_own (by rw [hz]; exact hown : wr.ownsRow w.heap.size 36 3 u4 (isort ltB l0).length (flat3 (isort ltB l0)))
        obtain ⟨A4, c4, rfl, _⟩ := own_shape hown
        obtain ⟨q1, q2, q3⟩ := Go.Proofs.YtgjpphcbdbfhlaaGreatW.PrintWords.Kd.R_reads' HR
        obtain ⟨t, hAt, hq⟩ := Option.bind_eq_some_iff.mp H.out
        have hg := Go.Proofs.YtgjpphcbdbfhlaaGreat.L.spec_ntGood.calls k A4 c4 (isort ltB l0) t wr q3 (by rw [hz]; exact q2) hAt
        rw [hz] at hg
        have HRR : Hid _ := Lib.hid HR
        have HBB : Hid _ := Lib.hid hbel
        clear HR hown hbel HH hAt H q1 q2 q3 hz hj
        cases t with
        | true =>
          simp only [↓reduceIte, Option.some.injEq, Prod.mk.injEq] at hq
          obtain ⟨rfl, rfl⟩ := hq
          go_wp2_with (go_at_call 48; refine hg.mono ?_; rintro e w4 ⟨rfl, hb4⟩; have HB4 : Hid _ := Lib.hid hb4; clear hb4 hg)
          go_ret2
          exact ⟨_, rfl, Go.Proofs.YtgjpphcbdbfhlaaGreatW.PrintWords.Kd.R_below HRR.out HB4.out, HBB.out.trans (HB4.out.mono HBB.out.size)⟩
        | false =>
          simp only [Bool.false_eq_true, ↓reduceIte, Option.some.injEq, Prod.mk.injEq] at hq
          obtain ⟨rfl, rfl⟩ := hq
          go_wp2_with (go_at_call 48; refine hg.mono ?_; rintro e w4 ⟨rfl, hb4⟩; have HB4 : Hid _ := Lib.hid hb4; clear hb4 hg)
          go_ret2
          exact ⟨_, rfl, Go.Proofs.YtgjpphcbdbfhlaaGreatW.PrintWords.Kd.R_nil _ _ _ _ _, HBB.out.trans (HB4.out.mono HBB.out.size)⟩
  · rw [if_neg hb] at h; cases h
end Go.Proofs.YtgjpphcbdbfhlaaGreat.SNote
