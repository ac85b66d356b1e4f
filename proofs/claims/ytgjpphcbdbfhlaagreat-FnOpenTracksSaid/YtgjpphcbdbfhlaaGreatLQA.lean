import Derived.Test.YtgjpphcbdbfhlaaGreatL0
import Derived.Test.YtgjpphcbdbfhlaaGreatL3
import Derived.Test.YtgjpphcbdbfhlaaGreatL4
import Derived.Test.YtgjpphcbdbfhlaaGreatL5
import Derived.Test.YtgjpphcbdbfhlaaGreatLQB
import Derived.Test.YtgjpphcbdbfhlaaGreatL2
import Derived.Test.YtgjpphcbdbfhlaaGreatLDF
import Derived.Test.YtgjpphcbdbfhlaaGreatL6
import Derived.Test.YtgjpphcbdbfhlaaGreatL8
import Derived.Test.YtgjpphcbdbfhlaaGreatL7
import Derived.Test.YtgjpphcbdbfhlaaGreatL17
import Derived.Test.YtgjpphcbdbfhlaaGreatL18
import Derived.Test.YtgjpphcbdbfhlaaGreatL19
import Derived.Test.YtgjpphcbdbfhlaaGreatL22
import Derived.Test.YtgjpphcbdbfhlaaGreatL14
import Derived.Test.YtgjpphcbdbfhlaaGreatLDR
import Derived.Test.YtgjpphcbdbfhlaaGreatL25
section
/- Plain facts on instruments: which are valid,where a pitch stands,the nearest and the folded pitch. No condition. -/
set_option linter.unusedVariables false
set_option linter.unusedSimpArgs false
namespace Go.Proofs.YtgjpphcbdbfhlaaGreat.L
open Go.RowKit Go.Proofs.YtgjpphcbdbfhlaaGreatW.PrintWords Go.Proofs.YtgjpphcbdbfhlaaGreatW.PrintLast Go.Proofs.YtgjpphcbdbfhlaaGreatW.PrintMore

theorem l1In_eq (a b c:Int):spec_l1In.f a b c=some (decide (b<=a/\a<=c)):=by
 unfold spec_l1In.f
 by_cases h:a >= b
 ·rw [if_pos h]; exact dec_eq (by omega)
 ·rw [if_neg h]; exact dec_f (by omega)
theorem ntPitch_eq (a:Int):spec_ntPitch.f a=some (decide (24<=a/\a<=96)):=by unfold spec_ntPitch.f; rw [l1In_eq]; rfl
theorem isPitch_eq (a:Int):impl_isPitch.f a=some (decide (24<=a/\a<=96)):=by
 unfold impl_isPitch.f
 split <;> (first | exact dec_eq (by omega) | exact dec_f (by omega))
def risFrom (lo hi:Int):Option Int->List Int->Bool
 | _,[]=>true
 | none,x :: xs=>decide (lo<=x/\x<=hi) && risFrom lo hi (some x) xs
 | some y,x :: xs=>decide (lo<=x/\x<=hi) && (decide (y < x) && risFrom lo hi (some x) xs)
theorem rising_l0 (l:List Int) (lo hi:Int) (hl:l.length<=1048576):∀ (suf pre:List Int),pre ++ suf=l ->
  Ev (fun k=>spec_l1Rising.l0 k l lo hi l l.length pre.length) (risFrom lo hi pre.getLast? suf):=by
 intro suf
 induction suf with
 | nil =>
  intro pre h
  have hn:¬ ((pre.length:Int) < (l.length:Int)):=by rw [<- h]; simp
  refine Ev.fuel ?_
  simp only [spec_l1Rising.l0,hn,↓reduceIte]
  refine Ev.const ?_
  cases pre.getLast? <;> rfl
 | cons x suf ih =>
  intro pre h
  have hlen:l.length=pre.length+(suf.length+1):=by rw [<- h]; simp
  have h1:(pre.length:Int) < (l.length:Int):=by omega
  have h2:(0:Int)<=(pre.length:Int):=by omega
  have h3:rd l (pre.length:Int)=x:=by rw [<- h]; exact getD_mid _ _ _ _
  have e':Ev (fun k=>spec_l1Rising.l0 k l lo hi l l.length ((pre.length+1:Nat):Int)) (risFrom lo hi (some x) suf):=by simpa using ih (pre ++ [x]) (by rw [<- h]; simp)
  refine Ev.fuel ?_
  simp only [spec_l1Rising.l0,h1,h2,h3,↓reduceIte,l1In_eq,Option.bind_some,decide_eq_true_eq,wn pre.length (by omega)]
  by_cases hx:lo<=x/\x<=hi
  ·simp only [hx,and_self,↓reduceIte]
   rcases nil_or_snoc pre with rfl | ⟨pre',y,rfl⟩
   ·simp only [List.length_nil,Int.natCast_zero,Int.lt_irrefl,gt_iff_lt,↓reduceIte,List.getLast?_nil,risFrom,hx,and_self,decide_true,Bool.true_and]
    exact e'
   ·have hc:(pre' ++ [y]).length=pre'.length+1:=by simp
    have g1:((pre' ++ [y]).length:Int) > 0:=by omega
    have g2:wrap64 (((pre' ++ [y]).length:Int) - 1)=(pre'.length:Int):=by rw [w_id (by omega) (by omega)]; omega
    have g3:(0:Int)<=(pre'.length:Int):=by omega
    have g4:(pre'.length:Int) < (l.length:Int):=by omega
    have g5:rd l (pre'.length:Int)=y:=by rw [<- h,List.append_assoc]; exact getD_mid _ _ _ _
    have gl:(pre' ++ [y]).getLast?=some y:=by simp
    rw [gl]
    simp only [g1,g2,g3,g4,g5,↓reduceIte,risFrom,hx,and_self,decide_true,Bool.true_and]
    by_cases hy:y < x
    ·simp only [hy,show ¬ y >= x from by omega,↓reduceIte,decide_true,Bool.true_and]; exact e'
    ·simp only [hy,show y >= x from by omega,↓reduceIte,decide_false,Bool.false_and]; exact Ev.now _
  ·simp only [hx,↓reduceIte]
   refine Ev.const ?_
   cases pre.getLast? <;> simp only [risFrom,hx,decide_false,Bool.false_and]
theorem rising_ev (l:List Int) (lo hi:Int) (hl:l.length<=1048576):Ev (fun k=>spec_l1Rising.f k l lo hi) (risFrom lo hi none l):=by
 unfold spec_l1Rising.f
 exact rising_l0 l lo hi hl l [] rfl
def goodIns (l:List Int) (r:Int):Bool:=decide (1<=l.length/\l.length<=20) && (risFrom 24 96 none l && decide (1<=r/\r<=20))
theorem inGood_ev (l:List Int) (r:Int) (hl:l.length<=1048576):Ev (fun k=>spec_inGood.f k l r) (goodIns l r):=by
 unfold spec_inGood.f goodIns
 simp only [l1In_eq,Option.bind_some,decide_eq_true_eq]
 by_cases h:(1:Int)<=(l.length:Int)/\(l.length:Int)<=20
 ·have h':1<=l.length/\l.length<=20:=by omega
  simp only [h,h',and_self,↓reduceIte,decide_true,Bool.true_and]
  refine Ev.bind (rising_ev l 24 96 hl) ?_
  by_cases hr:risFrom 24 96 none l=true
  ·simp only [hr,↓reduceIte,Bool.true_and]; exact Ev.now _
  ·simp only [hr,↓reduceIte,Bool.false_eq_true,Bool.false_and]; exact Ev.now _
 ·have h':¬ (1<=l.length/\l.length<=20):=by omega
  simp only [h,h',↓reduceIte,decide_false,Bool.false_and]; exact Ev.now _
theorem IsInstrument_l0 (l:List Int) (r:Int) (hl:l.length<=1048576):∀ (suf pre:List Int),pre ++ suf=l ->
  Ev (fun k=>impl_IsInstrument.l0 k l l.length pre.length l r) (risFrom 24 96 pre.getLast? suf):=by
 intro suf
 induction suf with
 | nil =>
  intro pre h
  have hn:¬ ((pre.length:Int) < (l.length:Int)):=by rw [<- h]; simp
  refine Ev.fuel ?_
  simp only [impl_IsInstrument.l0,hn,↓reduceIte]
  refine Ev.const ?_
  cases pre.getLast? <;> rfl
 | cons x suf ih =>
  intro pre h
  have hlen:l.length=pre.length+(suf.length+1):=by rw [<- h]; simp
  have h1:(pre.length:Int) < (l.length:Int):=by omega
  have h2:(0:Int)<=(pre.length:Int):=by omega
  have h3:rd l (pre.length:Int)=x:=by rw [<- h]; exact getD_mid _ _ _ _
  have e':Ev (fun k=>impl_IsInstrument.l0 k l l.length ((pre.length+1:Nat):Int) l r) (risFrom 24 96 (some x) suf):=by simpa using ih (pre ++ [x]) (by rw [<- h]; simp)
  refine Ev.fuel ?_
  simp only [impl_IsInstrument.l0,h1,h2,h3,↓reduceIte,isPitch_eq,Option.bind_some,decide_eq_true_eq,wn pre.length (by omega)]
  by_cases hx:24<=x/\x<=96
  ·simp only [hx,and_self,↓reduceIte]
   rcases nil_or_snoc pre with rfl | ⟨pre',y,rfl⟩
   ·simp only [List.length_nil,Int.natCast_zero,Int.lt_irrefl,gt_iff_lt,↓reduceIte,List.getLast?_nil,risFrom,hx,and_self,decide_true,Bool.true_and]
    exact e'
   ·have hc:(pre' ++ [y]).length=pre'.length+1:=by simp
    have g1:((pre' ++ [y]).length:Int) > 0:=by omega
    have g2:wrap64 (((pre' ++ [y]).length:Int) - 1)=(pre'.length:Int):=by rw [w_id (by omega) (by omega)]; omega
    have g3:(0:Int)<=(pre'.length:Int):=by omega
    have g4:(pre'.length:Int) < (l.length:Int):=by omega
    have g5:rd l (pre'.length:Int)=y:=by rw [<- h,List.append_assoc]; exact getD_mid _ _ _ _
    have gl:(pre' ++ [y]).getLast?=some y:=by simp
    rw [gl]
    simp only [g1,g2,g3,g4,g5,↓reduceIte,risFrom,hx,and_self,decide_true,Bool.true_and]
    by_cases hy:y < x
    ·simp only [hy,show ¬ x<=y from by omega,↓reduceIte,decide_true,Bool.true_and]; exact e'
    ·simp only [hy,show x<=y from by omega,↓reduceIte,decide_false,Bool.false_and]; exact Ev.now _
  ·simp only [hx,↓reduceIte]
   refine Ev.const ?_
   cases pre.getLast? <;> simp only [risFrom,hx,decide_false,Bool.false_and]
theorem IsInstrument_ev (l:List Int) (r:Int) (hl:l.length<=1048576):Ev (fun k=>impl_IsInstrument.f k l r) (goodIns l r):=by
 have jT:Ev (fun k=>impl_IsInstrument.j0 k true l r) false:=by
  refine Ev.fuel ?_; simp only [impl_IsInstrument.j0,↓reduceIte]; exact Ev.now _
 unfold impl_IsInstrument.f goodIns
 by_cases h1:(l.length:Int) < 1
 ·simp only [h1,↓reduceIte,show ¬ (1<=l.length/\l.length<=20) from by omega,decide_false,Bool.false_and]; exact jT
 ·by_cases h2:(l.length:Int) > 20
  ·simp only [h1,h2,↓reduceIte,show ¬ (1<=l.length/\l.length<=20) from by omega,decide_false,Bool.false_and]; exact jT
  ·by_cases h3:r < 1
   ·simp only [h1,h2,h3,↓reduceIte,show ¬ (1<=r/\r<=20) from by omega,decide_false,Bool.and_false]; exact jT
   ·by_cases h4:r > 20
    ·simp only [h1,h2,h3,h4,↓reduceIte,show ¬ (1<=r/\r<=20) from by omega,decide_false,decide_true,Bool.and_false]; exact jT
    ·simp only [h1,h2,h3,h4,↓reduceIte,show (1<=r/\r<=20) from by omega,show (1<=l.length/\l.length<=20) from by omega,and_self,decide_true,decide_false,Bool.and_true,Bool.true_and]
     refine Ev.fuel ?_
     simp only [impl_IsInstrument.j0,Bool.false_eq_true,↓reduceIte]
     exact IsInstrument_l0 l r hl l [] rfl
theorem goodIns_iff (l:List Int) (r:Int):goodIns l r=true ↔ (1<=l.length/\l.length<=20)/\risFrom 24 96 none l=true/\1<=r/\r<=20:=by
 simp only [goodIns,Bool.and_eq_true,decide_eq_true_eq]
def idxFrom (v:Int):List Int->Int->Int
 | [],_=>-1
 | x :: xs,i=>if x=v then i else idxFrom v xs (i+1)
theorem idxFrom_neg (v:Int):∀ (l:List Int) (i:Int),0<=i->(idxFrom v l i < 0 ↔ v ∉ l):=by
 intro l
 induction l with
 | nil=>intro i h; simp [idxFrom]
 | cons x xs ih =>
  intro i h
  simp only [idxFrom,List.mem_cons,not_or]
  by_cases hx:x=v
  ·subst hx; simp; omega
  ·rw [if_neg hx,ih (i+1) (by omega)]
   exact ⟨fun q=>⟨fun e=>hx e.symm,q⟩,fun q=>q.2⟩
theorem Index_l0 (l:List Int) (v:Int) (hl:l.length<=1048576):∀ (suf pre:List Int),pre ++ suf=l ->
  Ev (fun k=>slices_Index_int_int.l0 k l v l.length pre.length) (idxFrom v suf pre.length):=by
 intro suf
 induction suf with
 | nil =>
  intro pre h
  have hn:¬ ((pre.length:Int) < (l.length:Int)):=by rw [<- h]; simp
  refine Ev.fuel ?_
  simp only [slices_Index_int_int.l0,hn,↓reduceIte,idxFrom]
  exact Ev.now _
 | cons x suf ih =>
  intro pre h
  have hlen:l.length=pre.length+(suf.length+1):=by rw [<- h]; simp
  have h1:(pre.length:Int) < (l.length:Int):=by omega
  have h2:(0:Int)<=(pre.length:Int):=by omega
  have h3:rd l (pre.length:Int)=x:=by rw [<- h]; exact getD_mid _ _ _ _
  refine Ev.fuel ?_
  by_cases hx:x=v
  ·subst hx
   simp only [slices_Index_int_int.l0,h1,h2,h3,↓reduceIte,idxFrom]; exact Ev.now _
  ·have hx':¬ v=x:=fun e=>hx e.symm
   simp only [slices_Index_int_int.l0,h1,h2,h3,↓reduceIte,idxFrom,hx,hx',wn pre.length (by omega)]
   simpa using ih (pre ++ [x]) (by rw [<- h]; simp)
theorem Index_ev (l:List Int) (v:Int) (hl:l.length<=1048576):Ev (fun k=>slices_Index_int_int.f k l v) (idxFrom v l 0):=by
 unfold slices_Index_int_int.f
 exact Index_l0 l v hl l [] rfl
theorem Contains_ev (l:List Int) (v:Int) (hl:l.length<=1048576):Ev (fun k=>slices_Contains_int_int.f k l v) (decide (v∈l)):=by
 unfold slices_Contains_int_int.f
 refine Ev.bind (Index_ev l v hl) (Ev.const ?_)
 have:=idxFrom_neg v l 0 (by omega)
 exact dec_eq ⟨fun h=>by by_cases q:v∈l; exact q; exact absurd (this.2 q) (by omega),fun h=>by by_cases q:idxFrom v l 0 < 0; exact absurd h (this.1 q); omega⟩
theorem inTrack_l0 (l:List Int) (v:Int) (hl:l.length<=1048576):∀ (suf pre:List Int),pre ++ suf=l ->
  Ev (fun k=>spec_inTrack.l0 k v l l.length pre.length) (idxFrom v suf pre.length):=by
 intro suf
 induction suf with
 | nil =>
  intro pre h
  have hn:¬ ((pre.length:Int) < (l.length:Int)):=by rw [<- h]; simp
  refine Ev.fuel ?_
  simp only [spec_inTrack.l0,hn,↓reduceIte,idxFrom]
  exact Ev.now _
 | cons x suf ih =>
  intro pre h
  have hlen:l.length=pre.length+(suf.length+1):=by rw [<- h]; simp
  have h1:(pre.length:Int) < (l.length:Int):=by omega
  have h2:(0:Int)<=(pre.length:Int):=by omega
  have h3:rd l (pre.length:Int)=x:=by rw [<- h]; exact getD_mid _ _ _ _
  refine Ev.fuel ?_
  by_cases hx:x=v
  ·simp only [spec_inTrack.l0,h1,h2,h3,↓reduceIte,idxFrom,hx]; exact Ev.now _
  ·simp only [spec_inTrack.l0,h1,h2,h3,↓reduceIte,idxFrom,hx,wn pre.length (by omega)]
   simpa using ih (pre ++ [x]) (by rw [<- h]; simp)
theorem inTrack_ev (l:List Int) (r v:Int) (hl:l.length<=1048576):Ev (fun k=>spec_inTrack.f k l r v) (idxFrom v l 0):=by
 unfold spec_inTrack.f
 exact inTrack_l0 l v hl l [] rfl
end Go.Proofs.YtgjpphcbdbfhlaaGreat.L
end
section
/- Plain facts on scores: which notes are a score,for the reference and for the program. No condition. -/
set_option linter.unusedVariables false
set_option linter.unusedSimpArgs false
namespace Go.Proofs.YtgjpphcbdbfhlaaGreat.L
open Go.RowKit Go.Proofs.YtgjpphcbdbfhlaaGreatW.PrintWords Go.Proofs.YtgjpphcbdbfhlaaGreatW.PrintLast Go.Proofs.YtgjpphcbdbfhlaaGreatW.PrintMore

def noteB (x:S36):Bool:=decide (24<=x.f0/\x.f0<=96/\0<=x.f1/\x.f1<=999/\1<=x.f2/\x.f2<=99)
def noteLt (a b:S36):Bool:=decide (a.f1 < b.f1 \/ a.f1=b.f1/\a.f0 < b.f0)
def meetB (a b:S36):Bool:=decide (a.f0=b.f0/\a.f1 < b.f1+b.f2/\b.f1 < a.f1+a.f2)
def meetI (x y:S36):Bool:=decide (y.f0=x.f0/\y.f1+y.f2 > x.f1)
theorem noteB_iff (x:S36):noteB x=true ↔ (24<=x.f0/\x.f0<=96/\0<=x.f1/\x.f1<=999/\1<=x.f2/\x.f2<=99):=by simp [noteB]
theorem noteLt_iff (a b:S36):noteLt a b=true ↔ (a.f1 < b.f1 \/ a.f1=b.f1/\a.f0 < b.f0):=by simp [noteLt]
theorem ntNote_eq (x:S36):spec_ntNote.f x.f0 x.f1 x.f2=some (noteB x):=by
 unfold spec_ntNote.f noteB
 simp only [ntPitch_eq,l1In_eq,Option.bind_some,decide_eq_true_eq]
 (repeat' split) <;> (first | exact dec_eq (by omega) | exact dec_f (by omega))
theorem IsNote_eq (x:S36):impl_IsNote.f x.f0 x.f1 x.f2=some (noteB x):=by
 unfold impl_IsNote.f noteB
 (repeat' split) <;> (first | exact dec_eq (by omega) | exact dec_f (by omega))
theorem ntBefore_eq (a b:S36):spec_ntBefore.f a.f0 a.f1 a.f2 b.f0 b.f1 b.f2=some (noteLt a b):=by
 unfold spec_ntBefore.f noteLt
 (repeat' split) <;> (first | exact dec_eq (by omega) | exact dec_f (by omega) | exact dec_t (by omega))
theorem noteLess_eq (a b:S36):impl_noteLess.f a.f0 a.f1 a.f2 b.f0 b.f1 b.f2=some (noteLt a b):=by
 unfold impl_noteLess.f noteLt
 (repeat' split) <;> (first | exact dec_eq (by omega) | exact dec_f (by omega) | exact dec_t (by omega))
theorem ntMeet_eq {a b:S36} (ha:noteB a=true) (hb:noteB b=true):spec_ntMeet.f a.f0 a.f1 a.f2 b.f0 b.f1 b.f2=some (meetB a b):=by
 have h1:=(noteB_iff a).1 ha
 have h2:=(noteB_iff b).1 hb
 unfold spec_ntMeet.f meetB
 rw [w_id (x:=b.f1+b.f2) (by omega) (by omega),w_id (x:=a.f1+a.f2) (by omega) (by omega)]
 (repeat' split) <;> (first | exact dec_eq (by omega) | exact dec_f (by omega) | exact dec_t (by omega))
theorem noteEnd_eq {y:S36} (hy:noteB y=true):impl_noteEnd.f y.f0 y.f1 y.f2=some (y.f1+y.f2):=by
 have h2:=(noteB_iff y).1 hy
 unfold impl_noteEnd.f
 rw [w_id (by omega) (by omega)]

def scoreFrom (m:S36->S36->Bool):List S36->List S36->Bool
 | _,[]=>true
 | pre,x :: xs=>noteB x && ((match pre.getLast? with | none=>true | some y=>noteLt y x) && (!(pre.any (m x)) && scoreFrom m (pre ++ [x]) xs))
def goodScore (l:List S36):Bool:=scoreFrom meetB [] l && decide (l.length<=30)

def InOrder (pre:List S36):Prop:=(∀ y∈pre,noteB y=true)/\∀ z,pre.getLast?=some z->∀ y∈pre,y.f1<=z.f1
theorem InOrder.nil:InOrder []:=⟨by simp,by simp⟩
theorem InOrder.snoc {pre:List S36} (h:InOrder pre) {x:S36} (hx:noteB x=true) (hl:∀ z,pre.getLast?=some z->noteLt z x=true):InOrder (pre ++ [x]):=by
 refine ⟨fun y hy=>?_,fun z hz y hy=>?_⟩
 ·rcases List.mem_append.1 hy with hy | hy
  ·exact h.1 y hy
  ·rw [List.mem_singleton.1 hy]; exact hx
 ·have:z=x:=by simpa using hz.symm
  subst this
  rcases List.mem_append.1 hy with hy | hy
  ·rcases nil_or_snoc pre with rfl | ⟨p,q,rfl⟩
   ·simp at hy
   ·have h1:=h.2 q (by simp) y hy
    have h2:=(noteLt_iff q z).1 (hl q (by simp))
    omega
  ·rw [List.mem_singleton.1 hy]; exact Int.le_refl _
theorem meet_same {pre:List S36} (h:InOrder pre) {x:S36} (hx:noteB x=true) (hl:∀ z,pre.getLast?=some z->noteLt z x=true):pre.any (meetI x)=pre.any (meetB x):=by
 rw [Bool.eq_iff_iff,List.any_eq_true,List.any_eq_true]
 refine ⟨fun ⟨y,hy,hm⟩=>⟨y,hy,?_⟩,fun ⟨y,hy,hm⟩=>⟨y,hy,?_⟩⟩
 ·have h1:=(noteB_iff x).1 hx
  have h3:=(h.snoc hx hl).2 x (by simp) y (by simp [hy])
  simp only [meetI,meetB,decide_eq_true_eq] at hm ⊢
  omega
 ·simp only [meetI,meetB,decide_eq_true_eq] at hm ⊢
  omega
theorem scoreFrom_same:∀ (suf pre:List S36),InOrder pre->scoreFrom meetI pre suf=scoreFrom meetB pre suf:=by
 intro suf
 induction suf with
 | nil=>intro pre _; rfl
 | cons x xs ih =>
  intro pre h
  simp only [scoreFrom]
  by_cases hx:noteB x=true
  ·by_cases hl:∀ z,pre.getLast?=some z->noteLt z x=true
   ·rw [meet_same h hx hl,ih _ (h.snoc hx hl)]
   ·have:(match pre.getLast? with | none=>true | some y=>noteLt y x)=false:=by
     cases hp:pre.getLast? with
     | none=>exact absurd (fun z hz=>by rw [hp] at hz; cases hz) hl
     | some z =>
      cases hq:noteLt z x with
      | false=>exact hq
      | true=>exact absurd (fun w hw=>by rw [hp] at hw; cases hw; exact hq) hl
    rw [this]; simp
  ·simp [Bool.eq_false_iff.mpr hx]

theorem ntGood_l1 (l:List S36) (hl:l.length<=1048576) (x:S36) (hx:noteB x=true) (ni:Int) (p:List S36) (hp:∀ y∈p,noteB y=true) (hpl:p.length<=1048576) (r:Bool)
  (hr:Ev (fun k=>spec_ntGood.l0 k l l l.length (wrap64 (ni+1))) r):∀ (suf pre:List S36),pre ++ suf=p ->
  Ev (fun k=>spec_ntGood.l1 k l l l.length ni p p.length pre.length x.f0 x.f1 x.f2) (!(suf.any (meetB x)) && r):=by
 intro suf
 induction suf with
 | nil =>
  intro pre h
  have hn:¬ ((pre.length:Int) < (p.length:Int)):=by rw [<- h]; simp
  refine Ev.fuel ?_
  simp only [spec_ntGood.l1,hn,↓reduceIte,List.any_nil,Bool.not_false,Bool.true_and]
  exact hr
 | cons y suf ih =>
  intro pre h
  have hlen:p.length=pre.length+(suf.length+1):=by rw [<- h]; simp
  have h1:(pre.length:Int) < (p.length:Int):=by omega
  have h2:(0:Int)<=(pre.length:Int):=by omega
  have h3:rd_T36 p (pre.length:Int)=y:=by rw [<- h]; exact getD_mid _ _ _ _
  have hy:noteB y=true:=hp y (by rw [<- h]; simp)
  refine Ev.fuel ?_
  simp only [spec_ntGood.l1,h1,h2,h3,↓reduceIte,ntMeet_eq hx hy,Option.bind_some,wn pre.length (by omega),List.any_cons]
  by_cases hm:meetB x y=true
  ·simp only [hm,↓reduceIte,Bool.true_or,Bool.not_true,Bool.false_and]; exact Ev.now _
  ·simp only [hm,↓reduceIte,Bool.false_or,Bool.false_eq_true]
   simpa using ih (pre ++ [y]) (by rw [<- h]; simp)
theorem ntGood_l0 (l:List S36) (hl:l.length<=1048576):∀ (suf pre:List S36),pre ++ suf=l->(∀ y∈pre,noteB y=true) ->
  Ev (fun k=>spec_ntGood.l0 k l l l.length pre.length) (scoreFrom meetB pre suf && decide (l.length<=30)):=by
 intro suf
 induction suf with
 | nil =>
  intro pre h _
  have hn:¬ ((pre.length:Int) < (l.length:Int)):=by rw [<- h]; simp
  refine Ev.fuel ?_
  simp only [spec_ntGood.l0,hn,↓reduceIte,scoreFrom,Bool.true_and]
  exact Ev.const (dec_eq (by omega))
 | cons x suf ih =>
  intro pre h hpre
  have hlen:l.length=pre.length+(suf.length+1):=by rw [<- h]; simp
  have h1:(pre.length:Int) < (l.length:Int):=by omega
  have h2:(0:Int)<=(pre.length:Int):=by omega
  have h3:rd_T36 l (pre.length:Int)=x:=by rw [<- h]; exact getD_mid _ _ _ _
  have jT:Ev (fun k=>spec_ntGood.j1 k l pre.length l l.length pre.length true x.f0 x.f1 x.f2) false:=by
   refine Ev.fuel ?_; simp only [spec_ntGood.j1,↓reduceIte]; exact Ev.now _
  refine Ev.fuel ?_
  simp only [spec_ntGood.l0,h1,h2,h3,↓reduceIte,ntNote_eq,Option.bind_some,scoreFrom]
  by_cases hx:noteB x=true
  ·have jF:Ev (fun k=>spec_ntGood.j1 k l pre.length l l.length pre.length false x.f0 x.f1 x.f2) (!(pre.any (meetB x)) && (scoreFrom meetB (pre ++ [x]) suf && decide (l.length<=30))):=by
    have c1:(pre.length:Int)<=(l.length:Int):=by omega
    have tk:l.take ((pre.length:Int)).toNat=pre:=by rw [<- h]; simp
    refine Ev.fuel ?_
    simp only [spec_ntGood.j1,Bool.false_eq_true,↓reduceIte,h2,c1,tk,Option.bind_some]
    have e:=ih (pre ++ [x]) (by rw [<- h]; simp) (fun y hy=>by
     rcases List.mem_append.1 hy with hy | hy
     ·exact hpre y hy
     ·rw [List.mem_singleton.1 hy]; exact hx)
    refine ntGood_l1 l hl x hx _ pre hpre (by omega) _ ?_ pre [] rfl
    rw [wn pre.length (by omega)]
    simpa using e
   simp only [hx,↓reduceIte,Bool.true_and]
   rcases nil_or_snoc pre with rfl | ⟨pre',y,rfl⟩
   ·simp only [List.length_nil,Int.natCast_zero,Int.lt_irrefl,gt_iff_lt,↓reduceIte,List.getLast?_nil,Bool.true_and]
    simpa using jF
   ·have hc:(pre' ++ [y]).length=pre'.length+1:=by simp
    have g1:((pre' ++ [y]).length:Int) > 0:=by omega
    have g2:wrap64 (((pre' ++ [y]).length:Int) - 1)=(pre'.length:Int):=by rw [w_id (by omega) (by omega)]; omega
    have g3:(0:Int)<=(pre'.length:Int):=by omega
    have g4:(pre'.length:Int) < (l.length:Int):=by omega
    have g5:rd_T36 l (pre'.length:Int)=y:=by rw [<- h,List.append_assoc]; exact getD_mid _ _ _ _
    have gl:(pre' ++ [y]).getLast?=some y:=by simp
    simp only [g1,g2,g3,g4,g5,gl,↓reduceIte,ntBefore_eq,Option.bind_some]
    by_cases hy:noteLt y x=true
    ·simp only [hy,Bool.not_true,Bool.true_and,Bool.and_assoc]; exact jF
    ·simp only [Bool.eq_false_iff.mpr hy,Bool.not_false,Bool.false_and]; exact jT
  ·simp only [Bool.eq_false_iff.mpr hx,Bool.false_eq_true,↓reduceIte,Bool.false_and]; exact jT
theorem ntGood_ev (l:List S36) (hl:l.length<=1048576):Ev (fun k=>spec_ntGood.f k l) (goodScore l):=by
 unfold spec_ntGood.f
 exact ntGood_l0 l hl l [] rfl (by simp)

theorem IsScore_l1 (l:List S36) (hl:l.length<=1048576) (x:S36) (ni:Int) (p:List S36) (hp:∀ y∈p,noteB y=true) (hpl:p.length<=1048576) (r:Bool)
  (hr:Ev (fun k=>impl_IsScore.l0 k l l l.length (wrap64 (ni+1))) r):∀ (suf pre:List S36),pre ++ suf=p ->
  Ev (fun k=>impl_IsScore.l1 k l l l.length ni p p.length pre.length x.f0 x.f1 x.f2) (!(suf.any (meetI x)) && r):=by
 intro suf
 induction suf with
 | nil =>
  intro pre h
  have hn:¬ ((pre.length:Int) < (p.length:Int)):=by rw [<- h]; simp
  refine Ev.fuel ?_
  simp only [impl_IsScore.l1,hn,↓reduceIte,List.any_nil,Bool.not_false,Bool.true_and]
  exact hr
 | cons y suf ih =>
  intro pre h
  have hlen:p.length=pre.length+(suf.length+1):=by rw [<- h]; simp
  have h1:(pre.length:Int) < (p.length:Int):=by omega
  have h2:(0:Int)<=(pre.length:Int):=by omega
  have h3:rd_T36 p (pre.length:Int)=y:=by rw [<- h]; exact getD_mid _ _ _ _
  have hy:noteB y=true:=hp y (by rw [<- h]; simp)
  have e:Ev (fun k=>impl_IsScore.l1 k l l l.length ni p p.length ((pre.length+1:Nat):Int) x.f0 x.f1 x.f2) (!(suf.any (meetI x)) && r):=by simpa using ih (pre ++ [y]) (by rw [<- h]; simp)
  refine Ev.fuel ?_
  simp only [impl_IsScore.l1,h1,h2,h3,↓reduceIte,noteEnd_eq hy,Option.bind_some,wn pre.length (by omega),List.any_cons]
  by_cases hm:y.f0=x.f0
  ·by_cases hq:y.f1+y.f2 > x.f1
   ·simp only [hm,hq,↓reduceIte,show meetI x y=true from by simp only [meetI,decide_eq_true_eq]; omega,Bool.true_or,Bool.not_true,Bool.false_and]; exact Ev.now _
   ·simp only [hm,hq,↓reduceIte,show meetI x y=false from by simp only [meetI,decide_eq_false_iff_not]; omega,Bool.false_or]; exact e
  ·simp only [hm,↓reduceIte,show meetI x y=false from by simp only [meetI,decide_eq_false_iff_not]; omega,Bool.false_or]; exact e
theorem IsScore_l0 (l:List S36) (hl:l.length<=1048576):∀ (suf pre:List S36),pre ++ suf=l->(∀ y∈pre,noteB y=true) ->
  Ev (fun k=>impl_IsScore.l0 k l l l.length pre.length) (scoreFrom meetI pre suf):=by
 intro suf
 induction suf with
 | nil =>
  intro pre h _
  have hn:¬ ((pre.length:Int) < (l.length:Int)):=by rw [<- h]; simp
  refine Ev.fuel ?_
  simp only [impl_IsScore.l0,hn,↓reduceIte,scoreFrom]
  exact Ev.now _
 | cons x suf ih =>
  intro pre h hpre
  have hlen:l.length=pre.length+(suf.length+1):=by rw [<- h]; simp
  have h1:(pre.length:Int) < (l.length:Int):=by omega
  have h2:(0:Int)<=(pre.length:Int):=by omega
  have h3:rd_T36 l (pre.length:Int)=x:=by rw [<- h]; exact getD_mid _ _ _ _
  have jT:Ev (fun k=>impl_IsScore.j1 k l pre.length l l.length pre.length true x.f0 x.f1 x.f2) false:=by
   refine Ev.fuel ?_; simp only [impl_IsScore.j1,↓reduceIte]; exact Ev.now _
  refine Ev.fuel ?_
  simp only [impl_IsScore.l0,h1,h2,h3,↓reduceIte,IsNote_eq,Option.bind_some,scoreFrom]
  by_cases hx:noteB x=true
  ·have jF:Ev (fun k=>impl_IsScore.j1 k l pre.length l l.length pre.length false x.f0 x.f1 x.f2) (!(pre.any (meetI x)) && scoreFrom meetI (pre ++ [x]) suf):=by
    have c1:(pre.length:Int)<=(l.length:Int):=by omega
    have tk:l.take ((pre.length:Int)).toNat=pre:=by rw [<- h]; simp
    refine Ev.fuel ?_
    simp only [impl_IsScore.j1,Bool.false_eq_true,↓reduceIte,h2,c1,tk,Option.bind_some]
    have e:=ih (pre ++ [x]) (by rw [<- h]; simp) (fun y hy=>by
     rcases List.mem_append.1 hy with hy | hy
     ·exact hpre y hy
     ·rw [List.mem_singleton.1 hy]; exact hx)
    refine IsScore_l1 l hl x _ pre hpre (by omega) _ ?_ pre [] rfl
    rw [wn pre.length (by omega)]
    simpa using e
   simp only [hx,↓reduceIte,Bool.true_and]
   rcases nil_or_snoc pre with rfl | ⟨pre',y,rfl⟩
   ·simp only [List.length_nil,Int.natCast_zero,Int.lt_irrefl,gt_iff_lt,↓reduceIte,List.getLast?_nil,Bool.true_and]
    simpa using jF
   ·have hc:(pre' ++ [y]).length=pre'.length+1:=by simp
    have g1:((pre' ++ [y]).length:Int) > 0:=by omega
    have g2:wrap64 (((pre' ++ [y]).length:Int) - 1)=(pre'.length:Int):=by rw [w_id (by omega) (by omega)]; omega
    have g3:(0:Int)<=(pre'.length:Int):=by omega
    have g4:(pre'.length:Int) < (l.length:Int):=by omega
    have g5:rd_T36 l (pre'.length:Int)=y:=by rw [<- h,List.append_assoc]; exact getD_mid _ _ _ _
    have gl:(pre' ++ [y]).getLast?=some y:=by simp
    simp only [g1,g2,g3,g4,g5,gl,↓reduceIte,noteLess_eq,Option.bind_some]
    by_cases hy:noteLt y x=true
    ·simp only [hy,Bool.not_true,Bool.true_and]; exact jF
    ·simp only [Bool.eq_false_iff.mpr hy,Bool.not_false,Bool.false_and]; exact jT
  ·simp only [Bool.eq_false_iff.mpr hx,Bool.false_eq_true,↓reduceIte,Bool.false_and]; exact jT
theorem IsScore_ev (l:List S36) (hl:l.length<=1048576):Ev (fun k=>impl_IsScore.f k l) (goodScore l):=by
 unfold impl_IsScore.f goodScore
 by_cases h:(l.length:Int) > 30
 ·simp only [h,↓reduceIte,show ¬ l.length<=30 from by omega,decide_false,Bool.and_false]; exact Ev.now _
 ·simp only [h,↓reduceIte,show l.length<=30 from by omega,decide_true,Bool.and_true]
  rw [<- scoreFrom_same l [] InOrder.nil]
  exact IsScore_l0 l hl l [] rfl (by simp)
theorem scoreFrom_all (m:S36->S36->Bool):∀ (l pre:List S36),scoreFrom m pre l=true->∀ x∈l,noteB x=true:=by
 intro l
 induction l with
 | nil=>intro pre _ x hx; simp at hx
 | cons y l ih =>
  intro pre h x hx
  simp only [scoreFrom,Bool.and_eq_true] at h
  rcases List.mem_cons.1 hx with rfl | hx
  ·exact h.1
  ·exact ih _ h.2.2.2 x hx
theorem goodScore_all {l:List S36} (h:goodScore l=true):∀ x∈l,noteB x=true:=by
 simp only [goodScore,Bool.and_eq_true] at h
 exact scoreFrom_all _ l _ h.1
theorem goodScore_len {l:List S36} (h:goodScore l=true):l.length<=30:=by
 simp only [goodScore,Bool.and_eq_true,decide_eq_true_eq] at h
 exact h.2
theorem inAsked_ev (l:List Int) (r:Int) (s:List S36) (hl:l.length<=1048576) (hs:s.length<=1048576):Ev (fun k=>spec_inAsked.f k l r s) (goodIns l r && goodScore s):=by
 unfold spec_inAsked.f
 refine Ev.bind (inGood_ev l r hl) ?_
 by_cases h:goodIns l r=true
 ·simp only [h,↓reduceIte,Bool.true_and]; exact Ev.bind (ntGood_ev s hs) (Ev.now _)
 ·simp only [Bool.eq_false_iff.mpr h,Bool.false_eq_true,↓reduceIte,Bool.false_and]; exact Ev.now _
end Go.Proofs.YtgjpphcbdbfhlaaGreat.L
end
section
/- Plain facts on scores: notes put in order,by the program and by the reference. No condition. -/
set_option linter.unusedVariables false
set_option linter.unusedSimpArgs false
namespace Go.Proofs.YtgjpphcbdbfhlaaGreat.L
open Go.RowKit Go.Proofs.YtgjpphcbdbfhlaaGreatW.PrintWords Go.Proofs.YtgjpphcbdbfhlaaGreatW.PrintLast Go.Proofs.YtgjpphcbdbfhlaaGreatW.PrintMore

theorem noteLt_ltB (a b:S36):noteLt a b=SNote.ltB a b:=by
 unfold noteLt SNote.ltB
 split
 ·rw [decide_eq_decide]; omega
 ·rw [decide_eq_decide]; omega
theorem nltB_iff (a b:S36):SNote.ltB a b=true ↔ (a.f1 < b.f1 \/ a.f1=b.f1/\a.f0 < b.f0):=by rw [<- noteLt_ltB]; exact noteLt_iff a b
theorem scoreFrom_iff:∀ (l pre:List S36),scoreFrom meetB pre l=true ↔
  ((∀ x∈l,noteB x=true)/\SA.Rising SNote.ltB l/\(∀ y,pre.getLast?=some y->∀ x∈l,SNote.ltB y x=true)/\l.Pairwise (fun y x=>meetB x y=false)/\∀ y∈pre,∀ x∈l,meetB x y=false):=by
 intro l
 induction l with
 | nil =>
  intro pre
  simp [scoreFrom,SA.Rising]
 | cons x xs ih =>
  intro pre
  have hlast:(pre ++ [x]).getLast?=some x:=by simp
  simp only [scoreFrom,Bool.and_eq_true,ih (pre ++ [x]),hlast,Bool.not_eq_true',List.any_eq_false]
  constructor
  ·rintro ⟨h1,h2,h3,h4,h5,h6,h7,h8⟩
   have h3':∀ y∈pre,meetB x y=false:=fun y hy=>by simpa using h3 y hy
   have h6':∀ z∈xs,SNote.ltB x z=true:=h6 x rfl
   refine ⟨fun z hz=>?_,List.pairwise_cons.2 ⟨h6',h5⟩,fun y hy z hz=>?_,List.pairwise_cons.2 ⟨fun z hz=>h8 x (by simp) z hz,h7⟩,fun y hy z hz=>?_⟩
   ·rcases List.mem_cons.1 hz with rfl | hz
    ·exact h1
    ·exact h4 z hz
   ·rw [hy] at h2
    have hyx:SNote.ltB y x=true:=by rw [<- noteLt_ltB]; exact h2
    rcases List.mem_cons.1 hz with rfl | hz
    ·exact hyx
    ·exact SNote.swo.trans _ _ _ hyx (h6' z hz)
   ·rcases List.mem_cons.1 hz with rfl | hz
    ·exact h3' y hy
    ·exact h8 y (by simp [hy]) z hz
  ·rintro ⟨h1,h2,h3,h4,h5⟩
   obtain ⟨q1,q2⟩:=List.pairwise_cons.1 h2
   obtain ⟨q3,q4⟩:=List.pairwise_cons.1 h4
   refine ⟨h1 x List.mem_cons_self,?_,fun y hy=>?_,fun z hz=>h1 z (List.mem_cons_of_mem _ hz),q2,fun y hy z hz=>?_,q4,fun y hy z hz=>?_⟩
   ·cases hp:pre.getLast? with
    | none=>rfl
    | some y =>
     show noteLt y x=true
     rw [noteLt_ltB]; exact h3 y hp x List.mem_cons_self
   ·simpa using h5 y hy x List.mem_cons_self
   ·cases hy; exact q1 z hz
   ·rcases List.mem_append.1 hy with hy | hy
    ·exact h5 y hy z (List.mem_cons_of_mem _ hz)
    ·simp only [List.mem_singleton] at hy; subst hy; exact q3 z hz
theorem goodScore_iff (l:List S36):goodScore l=true ↔ ((∀ x∈l,noteB x=true)/\SA.Rising SNote.ltB l/\l.Pairwise (fun y x=>meetB x y=false)/\l.length<=30):=by
 unfold goodScore
 rw [Bool.and_eq_true,scoreFrom_iff,decide_eq_true_eq]
 constructor
 ·rintro ⟨⟨h1,h2,_,h4,_⟩,h5⟩
  exact ⟨h1,h2,h4,h5⟩
 ·rintro ⟨h1,h2,h3,h4⟩
  exact ⟨⟨h1,h2,fun y hy=>by simp at hy,h3,fun y hy=>by cases hy⟩,h4⟩
def scoreRes (l:List S36):List S36 × Bool:=if goodScore (SA.isort SNote.ltB l)=true then (SA.isort SNote.ltB l,true) else ([],false)
theorem scoreRes_len (l:List S36):(scoreRes l).1.length<=1048576:=by
 unfold scoreRes
 split
 ·rename_i h
  have:=((goodScore_iff _).1 h).2.2.2
  show (SA.isort SNote.ltB l).length<=_
  omega
 ·simp
theorem scoreRes_good (l:List S36):goodScore (scoreRes l).1=true:=by
 unfold scoreRes
 split
 ·assumption
 ·rfl
theorem srt_good (l:List S36):goodScore (SNote.srt l)=goodScore (SA.isort SNote.ltB l):=by
 by_cases h:goodScore (SA.isort SNote.ltB l)=true
 ·have e:SNote.srt l=SA.isort SNote.ltB l:=SA.srt_isort_rising SNote.ltB SNote.swo l (.inr ((goodScore_iff _).1 h).2.1)
  rw [e]
 ·by_cases h':goodScore (SNote.srt l)=true
  ·have e:SNote.srt l=SA.isort SNote.ltB l:=SA.srt_isort_rising SNote.ltB SNote.swo l (.inl ((goodScore_iff _).1 h').2.1)
   rw [e]
  ·rw [Bool.eq_false_iff.2 h,Bool.eq_false_iff.2 h']
theorem srt_of_good (l:List S36) (h:goodScore (SNote.srt l)=true):SNote.srt l=SA.isort SNote.ltB l:=SA.srt_isort_rising SNote.ltB SNote.swo l (.inl ((goodScore_iff _).1 h).2.1)
theorem scoreRes_srt (l:List S36):scoreRes l=if goodScore (SNote.srt l)=true then (SNote.srt l,true) else ([],false):=by
 unfold scoreRes
 rw [<- srt_good]
 by_cases h:goodScore (SNote.srt l)=true
 ·rw [if_pos h,if_pos h,srt_of_good l h]
 ·rw [if_neg h,if_neg h]
theorem nisort_rising (l:List S36) (h:SA.Rising SNote.ltB l):SA.isort SNote.ltB l=l :=
 (SA.asc_rising SNote.ltB SNote.swo _ _ (SA.isort_perm SNote.ltB l).symm h (SA.isort_asc SNote.ltB SNote.swo l)).symm
theorem ntSorted_ev (l:List S36) (hl:l.length<=1048576):Ev (fun k=>spec_ntSorted.f k l) (scoreRes l):=by
 unfold spec_ntSorted.f SNote.sortedF
 simp only [hl,↓reduceIte]
 refine Ev.bind (ntGood_ev _ (by rw [SA.isort_length]; exact hl)) ?_
 unfold scoreRes
 by_cases hg:goodScore (SA.isort SNote.ltB l)=true
 ·simp only [hg,↓reduceIte]; exact Ev.now _
 ·simp only [hg,Bool.false_eq_true,↓reduceIte]; exact Ev.now _
theorem srtN_len (l:List S36):(SNote.srt l).length=l.length:=SA.srtL_length SNote.ltB SNote.swo l
theorem sortedNotes_eq (l:List S36) (hl:l.length<=1048576):impl_sortedNotes.f l=some (SNote.srt l):=by
 unfold impl_sortedNotes.f SNote.ofF
 rw [if_pos hl]
end Go.Proofs.YtgjpphcbdbfhlaaGreat.L
end
section
/- Plain facts on sets of numbers in order,notes that sound at a step,and the most voices. No condition. -/
set_option linter.unusedVariables false
set_option linter.unusedSimpArgs false
namespace Go.Proofs.YtgjpphcbdbfhlaaGreat.L
open Go.RowKit Go.Proofs.YtgjpphcbdbfhlaaGreatW.PrintWords Go.Proofs.YtgjpphcbdbfhlaaGreatW.PrintLast Go.Proofs.YtgjpphcbdbfhlaaGreatW.PrintMore

def put (n:Int):List Int->List Int
 | []=>[n]
 | x :: xs=>if x < n then x :: put n xs else if x=n then x :: xs else n :: x :: xs
theorem put_len (n:Int):∀ l:List Int,(put n l).length<=l.length+1:=by
 intro l
 induction l with
 | nil=>simp [put]
 | cons x xs ih=>simp only [put]; (repeat' split) <;> simp <;> omega
theorem put_mem (n y:Int):∀ l:List Int,y∈put n l ↔ y=n \/ y∈l:=by
 intro l
 induction l with
 | nil=>simp [put]
 | cons x xs ih =>
  simp only [put]
  split
  ·simp only [List.mem_cons,ih]; exact ⟨fun h=>by rcases h with h | h | h; exact Or.inr (Or.inl h); exact Or.inl h; exact Or.inr (Or.inr h),fun h=>by rcases h with h | h | h; exact Or.inr (Or.inl h); exact Or.inl h; exact Or.inr (Or.inr h)⟩
  ·split
   ·rename_i h; subst h; simp
   ·simp
theorem l1Put_l0 (l:List Int) (n:Int) (hl:l.length<=1048576):∀ (suf pre:List Int),pre ++ suf=l->Ev (fun k=>spec_l1Put.l0 k l n pre.length) (pre ++ put n suf):=by
 intro suf
 induction suf with
 | nil =>
  intro pre h
  have hp:pre=l:=by simpa using h
  have hn:¬ ((pre.length:Int) < (l.length:Int)):=by rw [hp]; omega
  have h2:(0:Int)<=(pre.length:Int):=by omega
  have h3:(pre.length:Int)<=(l.length:Int):=by rw [hp]; omega
  have tk:l.take ((pre.length:Int)).toNat=pre:=by rw [<- hp]; simp
  have dr:l.drop ((pre.length:Int)).toNat=[]:=by rw [<- hp]; simp
  have hpl:pre.length<=1048576:=by rw [hp]; exact hl
  have q1:0+pre.length < 17592186044416:=by omega
  have q2:pre.length < 17592186044416:=by omega
  have q3:pre.length+1+0 < 17592186044416:=by omega
  refine Ev.fuel ?_
  simp only [spec_l1Put.l0,hn,h2,h3,tk,dr,↓reduceIte,Option.bind_some,List.length_nil,List.nil_append,List.length_append,List.length_singleton,q1,q2,q3]
  refine Ev.const ?_
  simp [put]
  omega
 | cons x suf ih =>
  intro pre h
  have hlen:l.length=pre.length+(suf.length+1):=by rw [<- h]; simp
  have h1:(pre.length:Int) < (l.length:Int):=by omega
  have h2:(0:Int)<=(pre.length:Int):=by omega
  have h4:rd l (pre.length:Int)=x:=by rw [<- h]; exact getD_mid _ _ _ _
  have h3:(pre.length:Int)<=(l.length:Int):=by omega
  have tk:l.take ((pre.length:Int)).toNat=pre:=by rw [<- h]; simp
  have dr:l.drop ((pre.length:Int)).toNat=x :: suf:=by rw [<- h]; simp
  have q1:0+pre.length < 17592186044416:=by omega
  have q2:pre.length < 17592186044416:=by omega
  have q3:pre.length+1+(suf.length+1) < 17592186044416:=by omega
  refine Ev.fuel ?_
  by_cases hx:x < n
  ·simp only [spec_l1Put.l0,h1,h2,h4,hx,↓reduceIte,wn pre.length (by omega),put]
   simpa using ih (pre ++ [x]) (by rw [<- h]; simp)
  ·by_cases he:x=n
   ·subst he
    simp only [spec_l1Put.l0,h1,h2,h4,hx,↓reduceIte,put]
    exact Ev.const (by rw [h])
   ·simp only [spec_l1Put.l0,h1,h2,h3,h4,hx,he,tk,dr,↓reduceIte,Option.bind_some,List.length_nil,List.nil_append,List.length_append,List.length_singleton,List.length_cons,q1,q2,q3,put]
    exact Ev.const (by simp; omega)
theorem l1Put_ev (l:List Int) (n:Int) (hl:l.length<=1048576):Ev (fun k=>spec_l1Put.f k l n) (put n l):=by
 unfold spec_l1Put.f
 exact l1Put_l0 l n hl l [] rfl

end Go.Proofs.YtgjpphcbdbfhlaaGreat.L
end
section
/- Plain facts on fast repeats,and on what an instrument can play of a score. No condition. -/
set_option linter.unusedVariables false
set_option linter.unusedSimpArgs false
namespace Go.Proofs.YtgjpphcbdbfhlaaGreat.L
open Go.RowKit Go.Proofs.YtgjpphcbdbfhlaaGreatW.PrintWords Go.Proofs.YtgjpphcbdbfhlaaGreatW.PrintLast Go.Proofs.YtgjpphcbdbfhlaaGreatW.PrintMore

theorem getD_app {α:Type} (l t:List α) (z:α) (n:Nat) (h:n < l.length):(l ++ t).getD n z=l.getD n z:=by
 rw [List.getD_eq_getElem?_getD,List.getD_eq_getElem?_getD,List.getElem?_append_left h]
def lastR (p:Int):List S36->Option (Nat × Int)
 | []=>none
 | y :: ys=>if y.f0=p then some (ys.length,y.f1) else lastR p ys
theorem lastR_some (p:Int):∀ (r:List S36) (i:Nat) (t:Int),lastR p r=some (i,t)->i < r.length/\(rd_T36 r.reverse (i:Int)).f1=t/\(rd_T36 r.reverse (i:Int)).f0=p:=by
 intro r
 induction r with
 | nil=>intro i t h; simp [lastR] at h
 | cons y ys ih =>
  intro i t h
  simp only [lastR] at h
  by_cases hy:y.f0=p
  ·rw [if_pos hy] at h
   simp only [Option.some.injEq,Prod.mk.injEq] at h
   obtain ⟨rfl,rfl⟩:=h
   have e:rd_T36 (y :: ys).reverse ((ys.length:Nat):Int)=y:=by
    rw [List.reverse_cons,show ys.length=ys.reverse.length by simp]
    exact getD_mid _ _ _ _
   rw [e]
   exact ⟨by simp,rfl,hy⟩
  ·rw [if_neg hy] at h
   obtain ⟨h1,h2,h3⟩:=ih i t h
   have e:rd_T36 (y :: ys).reverse (i:Int)=rd_T36 ys.reverse (i:Int):=by
    unfold rd_T36
    rw [List.reverse_cons,getD_app _ _ _ _ (by simpa using h1)]
   rw [e]
   exact ⟨by simp only [List.length_cons]; omega,h2,h3⟩
def fastOne (rep:Int) (r:List S36) (x:S36):List (List Int) :=
 match lastR x.f0 r with
 | none=>[]
 | some (i,t)=>if x.f1 - t < rep then [[(i:Int),(r.length:Int)]] else []
def fastFrom (rep:Int):List S36->List S36->List (List Int)
 | _,[]=>[]
 | r,x :: xs=>fastOne rep r x ++ fastFrom rep (x :: r) xs
theorem fastOne_len (rep:Int) (r:List S36) (x:S36):(fastOne rep r x).length<=1:=by
 unfold fastOne
 split
 ·simp
 ·split <;> simp
def idxOr (o:Option (Nat × Int)):Int:=match o with | none=>-1 | some (i,_)=>(i:Int)
theorem inLast_l0 (s:List S36) (hs:s.length<=1000) (i:Nat) (hi:i < s.length) (p:Int) (hp:(rd_T36 s (i:Int)).f0=p):∀ (r:List S36) (t:List S36),r.reverse ++ t=s ->
  Ev (fun k=>spec_inLast.l0 k s (i:Int) ((r.length:Int) - 1)) (idxOr (lastR p r)):=by
 intro r
 induction r with
 | nil =>
  intro t h
  refine Ev.fuel ?_
  simp only [spec_inLast.l0,List.length_nil,Int.natCast_zero,Int.zero_sub,show ¬ ((-1:Int) >= 0) from by decide,↓reduceIte,lastR,idxOr]
  exact Ev.now _
 | cons y ys ih =>
  intro t h
  have hlen:s.length=ys.length+1+t.length:=by rw [<- h]; simp; omega
  have e1:(((y :: ys).length:Nat):Int) - 1=(ys.length:Int):=by simp only [List.length_cons]; omega
  have h1:(ys.length:Int) >= 0:=by omega
  have h1':(0:Int)<=(ys.length:Int):=by omega
  have h2:(ys.length:Int) < (s.length:Int):=by omega
  have h3:(0:Int)<=(i:Int):=by omega
  have h4:(i:Int) < (s.length:Int):=by omega
  have h5:rd_T36 s (ys.length:Int)=y:=by
   rw [<- h,List.reverse_cons,List.append_assoc,show ys.length=ys.reverse.length by simp]
   exact getD_mid _ _ _ _
  refine Ev.fuel ?_
  rw [e1]
  simp only [spec_inLast.l0,h1,h1',h2,h3,h4,h5,hp,↓reduceIte,lastR]
  by_cases hy:y.f0=p
  ·simp only [hy,↓reduceIte,idxOr]; exact Ev.now _
  ·simp only [hy,↓reduceIte]
   rw [w_id (x:=(ys.length:Int) - 1) (by omega) (by omega)]
   exact ih (y :: t) (by rw [<- h]; simp)
theorem inFast_l0 (s:List S36) (rep:Int) (hs:s.length<=1000) (hn:∀ x∈s,noteB x=true):∀ (suf r:List S36) (acc:List (List Int)),r.reverse ++ suf=s->acc.length<=r.length ->
  Ev (fun k=>spec_inFast.l0 k s rep acc s s.length r.length) (acc ++ fastFrom rep r suf):=by
 intro suf
 induction suf with
 | nil =>
  intro r acc h ha
  have hn:¬ ((r.length:Int) < (s.length:Int)):=by rw [<- h]; simp
  refine Ev.fuel ?_
  simp only [spec_inFast.l0,hn,↓reduceIte]
  exact Ev.const (by simp [fastFrom])
 | cons x suf ih =>
  intro r acc h ha
  have hlen:s.length=r.length+(suf.length+1):=by rw [<- h]; simp
  have h1:(r.length:Int) < (s.length:Int):=by omega
  have h2:(0:Int)<=(r.length:Int):=by omega
  have h3:rd_T36 s (r.length:Int)=x:=by rw [<- h,show r.length=r.reverse.length by simp]; exact getD_mid _ _ _ _
  have hx:=(noteB_iff x).1 (hn x (by rw [<- h]; simp))
  have h4:acc.length < 5864062014805:=by omega
  have e:∀ acc,acc.length<=r.length+1->Ev (fun k=>spec_inFast.l0 k s rep acc s s.length ((r.length+1:Nat):Int)) (acc ++ fastFrom rep (x :: r) suf):=fun acc ha=>by
   simpa using ih (x :: r) acc (by rw [<- h]; simp) (by simpa using ha)
  refine Ev.fuel ?_
  simp only [spec_inFast.l0,h1,h2,h3,↓reduceIte,wn r.length (by omega),fastFrom]
  have el:Ev (fun k=>spec_inLast.f k s (r.length:Int)) (idxOr (lastR x.f0 r)):=by
   unfold spec_inLast.f
   rw [w_id (x:=(r.length:Int) - 1) (by omega) (by omega)]
   exact inLast_l0 s hs r.length (by omega) x.f0 (by rw [h3]) r (x :: suf) h
  refine Ev.bind el ?_
  cases hq:lastR x.f0 r with
  | none =>
   simp only [idxOr,show ¬ ((-1:Int) >= 0) from by decide,↓reduceIte,fastOne,hq,List.nil_append]
   exact e acc (by omega)
  | some it =>
   obtain ⟨i,t⟩:=it
   obtain ⟨q1,q2,q3⟩:=lastR_some x.f0 r i t hq
   have g1:(i:Int) >= 0:=by omega
   have g1':(0:Int)<=(i:Int):=by omega
   have g2:(i:Int) < (s.length:Int):=by omega
   have g3:rd_T36 s (i:Int)=rd_T36 r.reverse (i:Int):=by
    unfold rd_T36
    rw [<- h,getD_app _ _ _ _ (by simpa using q1)]
   have hin:rd_T36 r.reverse (i:Int)∈s:=by
    rw [<- g3]
    unfold rd_T36
    rw [List.getD_eq_getElem?_getD,List.getElem?_eq_getElem (by omega)]
    exact List.getElem_mem _
   have hy:=(noteB_iff _).1 (hn _ hin)
   rw [q2] at hy
   simp only [idxOr,g1,g1',g2,g3,q2,↓reduceIte,w_id (x:=x.f1 - t) (by omega) (by omega),fastOne,hq]
   by_cases hf:x.f1 - t < rep
   ·simp only [hf,h4,↓reduceIte]
    have e2:=e (acc ++ [[(i:Int),(r.length:Int)]]) (by simp; omega)
    simpa using e2
   ·simp only [hf,↓reduceIte,List.nil_append]
    exact e acc (by omega)
theorem inFast_ev (s:List S36) (rep:Int) (hs:s.length<=1000) (hn:∀ x∈s,noteB x=true):Ev (fun k=>spec_inFast.f k s rep) (fastFrom rep [] s):=by
 unfold spec_inFast.f
 exact inFast_l0 s rep hs hn s [] [] rfl (Nat.le_refl _)
theorem fast_l1 (s:List S36) (rep:Int) (hs:s.length<=1000) (hn:∀ x∈s,noteB x=true) (x:S36) (hx:noteB x=true) (n:Nat) (R:List S36) (hR:n=R.length) (acc:List (List Int)) (hacc:acc.length < 100000) (res:List (List Int))
  (hres:Ev (fun k=>impl_fastRepeats.l0 k s rep (acc ++ fastOne rep R x) s s.length (wrap64 ((n:Int)+1))) res):∀ (r t:List S36),r.reverse ++ t=s->lastR x.f0 r=lastR x.f0 R ->
  Ev (fun k=>impl_fastRepeats.l1 k s rep acc (n:Int) ((r.length:Int) - 1) s s.length (n:Int) x.f0 x.f1 x.f2) res:=by
 intro r
 induction r with
 | nil =>
  intro t h hq
  refine Ev.fuel ?_
  simp only [impl_fastRepeats.l1,List.length_nil,Int.natCast_zero,Int.zero_sub,show ¬ ((-1:Int) >= 0) from by decide,↓reduceIte]
  simp only [lastR] at hq
  simpa [fastOne,<- hq] using hres
 | cons y ys ih =>
  intro t h hq
  have hlen:s.length=ys.length+1+t.length:=by rw [<- h]; simp; omega
  have e1:(((y :: ys).length:Nat):Int) - 1=(ys.length:Int):=by simp only [List.length_cons]; omega
  have h1:(ys.length:Int) >= 0:=by omega
  have h1':(0:Int)<=(ys.length:Int):=by omega
  have h2:(ys.length:Int) < (s.length:Int):=by omega
  have h5:rd_T36 s (ys.length:Int)=y:=by
   rw [<- h,List.reverse_cons,List.append_assoc,show ys.length=ys.reverse.length by simp]
   exact getD_mid _ _ _ _
  have hyb:=(noteB_iff y).1 (hn y (by rw [<- h]; simp))
  have hxb:=(noteB_iff x).1 hx
  have h4:acc.length < 5864062014805:=by omega
  refine Ev.fuel ?_
  rw [e1]
  simp only [impl_fastRepeats.l1,h1,h1',h2,h5,↓reduceIte,w_id (x:=x.f1 - y.f1) (by omega) (by omega)]
  simp only [lastR] at hq
  by_cases hy:y.f0=x.f0
  ·simp only [hy,↓reduceIte] at hq ⊢
   by_cases hf:x.f1 - y.f1 < rep
   ·simp only [hf,h4,↓reduceIte]
    simpa [fastOne,<- hq,hf,hR] using hres
   ·simp only [hf,↓reduceIte]
    simpa [fastOne,<- hq,hf,hR] using hres
  ·simp only [hy,↓reduceIte] at hq ⊢
   rw [w_id (x:=(ys.length:Int) - 1) (by omega) (by omega)]
   exact ih (y :: t) (by rw [<- h]; simp) hq
theorem fastRepeats_l0 (s:List S36) (rep:Int) (hs:s.length<=1000) (hn:∀ x∈s,noteB x=true):∀ (suf r:List S36) (acc:List (List Int)),r.reverse ++ suf=s->acc.length<=r.length ->
  Ev (fun k=>impl_fastRepeats.l0 k s rep acc s s.length r.length) (acc ++ fastFrom rep r suf):=by
 intro suf
 induction suf with
 | nil =>
  intro r acc h ha
  have hn:¬ ((r.length:Int) < (s.length:Int)):=by rw [<- h]; simp
  refine Ev.fuel ?_
  simp only [impl_fastRepeats.l0,hn,↓reduceIte]
  exact Ev.const (by simp [fastFrom])
 | cons x suf ih =>
  intro r acc h ha
  have hlen:s.length=r.length+(suf.length+1):=by rw [<- h]; simp
  have h1:(r.length:Int) < (s.length:Int):=by omega
  have h2:(0:Int)<=(r.length:Int):=by omega
  have h3:rd_T36 s (r.length:Int)=x:=by rw [<- h,show r.length=r.reverse.length by simp]; exact getD_mid _ _ _ _
  have hx:=hn x (by rw [<- h]; simp)
  have h5:=fastOne_len rep r x
  have ec:(((x :: r).length:Nat):Int)=((r.length+1:Nat):Int):=by simp
  refine Ev.fuel ?_
  simp only [impl_fastRepeats.l0,h1,h2,h3,↓reduceIte,fastFrom]
  rw [w_id (x:=(r.length:Int) - 1) (by omega) (by omega)]
  refine fast_l1 s rep hs hn x hx r.length r rfl acc (by omega) _ ?_ r (x :: suf) h rfl
  rw [wn r.length (by omega),<- List.append_assoc,<- ec]
  exact ih (x :: r) (acc ++ fastOne rep r x) (by rw [<- h]; simp) (by simp only [List.length_append,List.length_cons]; omega)
theorem fastRepeats_ev (s:List S36) (rep:Int) (hs:s.length<=1000) (hn:∀ x∈s,noteB x=true):Ev (fun k=>impl_fastRepeats.f k s rep) (fastFrom rep [] s):=by
 unfold impl_fastRepeats.f
 exact fastRepeats_l0 s rep hs hn s [] [] rfl (Nat.le_refl _)
def missOf (l:List Int):List S36->List Int->List Int
 | [],acc=>acc
 | y :: ys,acc=>missOf l ys (if y.f0∈l then acc else put y.f0 acc)
theorem missOf_nil (l:List Int):∀ (s:List S36) (acc:List Int),missOf l s acc=[] ↔ acc=[]/\∀ y∈s,y.f0∈l:=by
 intro s
 induction s with
 | nil=>intro acc; simp [missOf]
 | cons y ys ih =>
  intro acc
  simp only [missOf,ih,List.mem_cons,forall_eq_or_imp]
  by_cases hy:y.f0∈l
  ·simp [hy]
  ·simp only [hy,↓reduceIte,false_and,and_false,iff_false,not_and]
   intro hp
   exfalso
   have:y.f0∈put y.f0 acc:=(put_mem _ _ _).2 (Or.inl rfl)
   rw [hp] at this
   simp at this
theorem inMissing_l0 (l:List Int) (r:Int) (s:List S36) (hl:l.length<=1048576) (hs:s.length<=1000):∀ (suf pre:List S36) (acc:List Int),pre ++ suf=s->acc.length<=pre.length ->
  Ev (fun k=>spec_inMissing.l0 k acc s s.length pre.length l r) (missOf l suf acc):=by
 intro suf
 induction suf with
 | nil =>
  intro pre acc h ha
  have hn:¬ ((pre.length:Int) < (s.length:Int)):=by rw [<- h]; simp
  refine Ev.fuel ?_
  simp only [spec_inMissing.l0,hn,↓reduceIte,missOf]
  exact Ev.now _
 | cons x suf ih =>
  intro pre acc h ha
  have hlen:s.length=pre.length+(suf.length+1):=by rw [<- h]; simp
  have h1:(pre.length:Int) < (s.length:Int):=by omega
  have h2:(0:Int)<=(pre.length:Int):=by omega
  have h3:rd_T36 s (pre.length:Int)=x:=by rw [<- h]; exact getD_mid _ _ _ _
  have iff:=idxFrom_neg x.f0 l 0 (by omega)
  have e:∀ acc,acc.length<=pre.length+1->Ev (fun k=>spec_inMissing.l0 k acc s s.length ((pre.length+1:Nat):Int) l r) (missOf l suf acc):=fun acc ha=>by simpa using ih (pre ++ [x]) acc (by rw [<- h]; simp) (by simpa using ha)
  refine Ev.fuel ?_
  simp only [spec_inMissing.l0,h1,h2,h3,↓reduceIte,wn pre.length (by omega),missOf]
  refine Ev.bind (inTrack_ev l r x.f0 hl) ?_
  by_cases hm:x.f0∈l
  ·have:¬ idxFrom x.f0 l 0 < 0:=fun q=>iff.1 q hm
   simp only [this,hm,↓reduceIte]
   exact e acc (by omega)
  ·have:idxFrom x.f0 l 0 < 0:=iff.2 hm
   simp only [this,hm,↓reduceIte]
   refine Ev.bind (l1Put_ev acc x.f0 (by omega)) ?_
   have:=put_len x.f0 acc
   exact e _ (by omega)
theorem inMissing_ev (l:List Int) (r:Int) (s:List S36) (hl:l.length<=1048576) (hs:s.length<=1000):Ev (fun k=>spec_inMissing.f k l r s) (missOf l s []):=by
 unfold spec_inMissing.f
 exact inMissing_l0 l r s hl hs s [] [] rfl (Nat.le_refl _)
def playsB (l:List Int) (rep:Int) (s:List S36):Bool:=(s.all fun y=>decide (y.f0∈l)) && decide (fastFrom rep [] s=[])
theorem len0 {α:Type} (l:List α):((l.length:Int) == 0)=decide (l=[]):=by
 cases l with
 | nil=>rfl
 | cons x xs =>
  have:(((x :: xs).length:Nat):Int) ≠ 0:=by simp only [List.length_cons]; omega
  rw [beq_eq_false_iff_ne.2 this]
  simp
theorem inPlays_ev (l:List Int) (r:Int) (s:List S36) (hl:l.length<=1048576) (hs:s.length<=1000) (hn:∀ x∈s,noteB x=true):Ev (fun k=>spec_inPlays.f k l r s) (playsB l r s):=by
 unfold spec_inPlays.f
 refine Ev.bind (inMissing_ev l r s hl hs) ?_
 have hm:=missOf_nil l s []
 by_cases h:missOf l s []=[]
 ·have ha:(s.all fun y=>decide (y.f0∈l))=true:=by simpa using (hm.1 h).2
  simp only [h,List.length_nil,Int.natCast_zero,↓reduceIte,playsB,ha,Bool.true_and]
  exact Ev.bind (inFast_ev s r hs hn) (Ev.const (by rw [len0]))
 ·have ha:(s.all fun y=>decide (y.f0∈l))=false:=by
   cases hq:(s.all fun y=>decide (y.f0∈l)) with
   | false=>rfl
   | true=>exact absurd (hm.2 ⟨rfl,by simpa using hq⟩) h
  have h0:¬ (((missOf l s []).length:Int)=0):=by
   have:=List.length_pos_iff.2 h
   omega
  simp only [h0,↓reduceIte,playsB,ha,Bool.false_and]
  exact Ev.now _
theorem canPlay_l0 (l:List Int) (r:Int) (s:List S36) (hl:l.length<=1048576) (hs:s.length<=1000) (hn:∀ x∈s,noteB x=true):∀ (suf pre:List S36),pre ++ suf=s ->
  Ev (fun k=>impl_canPlay.l0 k s s s.length pre.length l r) ((suf.all fun y=>decide (y.f0∈l)) && decide (fastFrom r [] s=[])):=by
 intro suf
 induction suf with
 | nil =>
  intro pre h
  have hn':¬ ((pre.length:Int) < (s.length:Int)):=by rw [<- h]; simp
  refine Ev.fuel ?_
  simp only [impl_canPlay.l0,hn',↓reduceIte,List.all_nil,Bool.true_and]
  exact Ev.bind (fastRepeats_ev s r hs hn) (Ev.const (by rw [len0]))
 | cons x suf ih =>
  intro pre h
  have hlen:s.length=pre.length+(suf.length+1):=by rw [<- h]; simp
  have h1:(pre.length:Int) < (s.length:Int):=by omega
  have h2:(0:Int)<=(pre.length:Int):=by omega
  have h3:rd_T36 s (pre.length:Int)=x:=by rw [<- h]; exact getD_mid _ _ _ _
  refine Ev.fuel ?_
  simp only [impl_canPlay.l0,h1,h2,h3,↓reduceIte,wn pre.length (by omega),List.all_cons]
  refine Ev.bind (Contains_ev l x.f0 hl) ?_
  by_cases hm:x.f0∈l
  ·simp only [hm,decide_true,↓reduceIte,Bool.true_and]
   simpa using ih (pre ++ [x]) (by rw [<- h]; simp)
  ·simp only [hm,decide_false,Bool.false_eq_true,↓reduceIte,Bool.false_and]
   exact Ev.now _
theorem canPlay_ev (l:List Int) (r:Int) (s:List S36) (hl:l.length<=1048576) (hs:s.length<=1000) (hn:∀ x∈s,noteB x=true):Ev (fun k=>impl_canPlay.f k l r s) (playsB l r s):=by
 unfold impl_canPlay.f
 exact canPlay_l0 l r s hl hs hn s [] rfl
end Go.Proofs.YtgjpphcbdbfhlaaGreat.L
end
section
/- Plain facts on sheets: which holes are a sheet,and how long a track is open. No condition. -/
set_option linter.unusedVariables false
set_option linter.unusedSimpArgs false
namespace Go.Proofs.YtgjpphcbdbfhlaaGreat.L
open Go.RowKit Go.Proofs.YtgjpphcbdbfhlaaGreatW.PrintWords Go.Proofs.YtgjpphcbdbfhlaaGreatW.PrintLast Go.Proofs.YtgjpphcbdbfhlaaGreatW.PrintMore

def holeB (x:S40):Bool:=decide (0<=x.f0/\x.f0<=19/\0<=x.f1/\x.f1 < x.f2/\x.f2<=2000)
def holeLt (a b:S40):Bool:=decide (a.f1 < b.f1 \/ a.f1=b.f1/\a.f0 < b.f0)
def touchB (x y:S40):Bool:=decide (x.f0=y.f0/\y.f2 >= x.f1)
theorem holeB_iff (x:S40):holeB x=true ↔ (0<=x.f0/\x.f0<=19/\0<=x.f1/\x.f1 < x.f2/\x.f2<=2000):=by simp [holeB]
theorem holeLt_iff (a b:S40):holeLt a b=true ↔ (a.f1 < b.f1 \/ a.f1=b.f1/\a.f0 < b.f0):=by simp [holeLt]
theorem l1In_h (a b c:Int):spec_l1In.f a b c=some (decide (b<=a/\a<=c)):=by
 unfold spec_l1In.f
 by_cases h:a >= b
 ·rw [if_pos h]; exact dec_eq (by omega)
 ·rw [if_neg h]; exact dec_f (by omega)
theorem shHole_eq (t a b:Int):spec_shHole.f t a b=some (holeB ⟨t,a,b⟩):=by
 unfold spec_shHole.f holeB
 simp only [l1In_h,Option.bind_some,decide_eq_true_eq]
 by_cases h1:0<=t/\t<=19
 ·by_cases h2:0<=a/\a<=1999
  ·simp only [h1.1,h1.2,h2.1,h2.2,and_self,↓reduceIte,w_id (x:=a+1) (by omega) (by omega),true_and]
   exact dec_eq (by omega)
  ·simp only [h1,h2,and_self,↓reduceIte]; exact dec_f (by omega)
 ·simp only [h1,↓reduceIte]; exact dec_f (by omega)
theorem isTrackH_eq (a:Int):impl_isTrack.f a=some (decide (0<=a/\a<=19)):=by
 unfold impl_isTrack.f
 split <;> (first | exact dec_eq (by omega) | exact dec_f (by omega))
theorem IsHole_eq (t a b:Int):impl_IsHole.f t a b=some (holeB ⟨t,a,b⟩):=by
 unfold impl_IsHole.f holeB
 simp only [isTrackH_eq,Option.bind_some,decide_eq_true_eq]
 (repeat' split) <;> (first | exact dec_eq (by omega) | exact dec_f (by omega))
theorem shBefore_eq (a b:S40):spec_shBefore.f a.f0 a.f1 a.f2 b.f0 b.f1 b.f2=some (holeLt a b):=by
 unfold spec_shBefore.f holeLt
 (repeat' split) <;> (first | exact dec_eq (by omega) | exact dec_f (by omega) | exact dec_t (by omega))
theorem holeLess_eq (a b:S40):impl_holeLess.f a.f0 a.f1 a.f2 b.f0 b.f1 b.f2=some (holeLt a b):=by
 unfold impl_holeLess.f holeLt
 (repeat' split) <;> (first | exact dec_eq (by omega) | exact dec_f (by omega) | exact dec_t (by omega))
def sheetFrom:List S40->List S40->Bool
 | _,[]=>true
 | pre,x :: xs=>holeB x && ((match pre.getLast? with | none=>true | some y=>holeLt y x) && (!(pre.any (touchB x)) && sheetFrom (pre ++ [x]) xs))
def goodSheet (l:List S40):Bool:=sheetFrom [] l && decide (l.length<=60)
theorem shGood_l1 (l:List S40) (hl:l.length<=1048576) (x:S40) (ni:Int) (p:List S40) (hpl:p.length<=1048576) (r:Bool)
  (hr:Ev (fun k=>spec_shGood.l0 k l l l.length (wrap64 (ni+1))) r):∀ (suf pre:List S40),pre ++ suf=p ->
  Ev (fun k=>spec_shGood.l1 k l l l.length ni p p.length pre.length x.f0 x.f1 x.f2) (!(suf.any (touchB x)) && r):=by
 intro suf
 induction suf with
 | nil =>
  intro pre h
  have hn:¬ ((pre.length:Int) < (p.length:Int)):=by rw [<- h]; simp
  refine Ev.fuel ?_
  simp only [spec_shGood.l1,hn,↓reduceIte,List.any_nil,Bool.not_false,Bool.true_and]
  exact hr
 | cons y suf ih =>
  intro pre h
  have hlen:p.length=pre.length+(suf.length+1):=by rw [<- h]; simp
  have h1:(pre.length:Int) < (p.length:Int):=by omega
  have h2:(0:Int)<=(pre.length:Int):=by omega
  have h3:rd_T40 p (pre.length:Int)=y:=by rw [<- h]; exact getD_mid _ _ _ _
  have e:Ev (fun k=>spec_shGood.l1 k l l l.length ni p p.length ((pre.length+1:Nat):Int) x.f0 x.f1 x.f2) (!(suf.any (touchB x)) && r):=by simpa using ih (pre ++ [y]) (by rw [<- h]; simp)
  refine Ev.fuel ?_
  simp only [spec_shGood.l1,h1,h2,h3,↓reduceIte,wn pre.length (by omega),List.any_cons]
  by_cases hm:x.f0=y.f0
  ·by_cases hq:y.f2 >= x.f1
   ·rw [show touchB x y=true from by simp only [touchB,decide_eq_true_eq]; exact ⟨hm,hq⟩]
    simp only [hm,hq,↓reduceIte,Bool.true_or,Bool.not_true,Bool.false_and]; exact Ev.now _
   ·rw [show touchB x y=false from by simp only [touchB,decide_eq_false_iff_not]; omega]
    rw [hm] at e ⊢
    simp only [hq,↓reduceIte,Bool.false_or]; exact e
  ·rw [show touchB x y=false from by simp only [touchB,decide_eq_false_iff_not]; omega]
   simp only [hm,↓reduceIte,Bool.false_or]; exact e
theorem shGood_l0 (l:List S40) (hl:l.length<=1048576):∀ (suf pre:List S40),pre ++ suf=l ->
  Ev (fun k=>spec_shGood.l0 k l l l.length pre.length) (sheetFrom pre suf && decide (l.length<=60)):=by
 intro suf
 induction suf with
 | nil =>
  intro pre h
  have hn:¬ ((pre.length:Int) < (l.length:Int)):=by rw [<- h]; simp
  refine Ev.fuel ?_
  simp only [spec_shGood.l0,hn,↓reduceIte,sheetFrom,Bool.true_and]
  exact Ev.const (dec_eq (by omega))
 | cons x suf ih =>
  intro pre h
  have hlen:l.length=pre.length+(suf.length+1):=by rw [<- h]; simp
  have h1:(pre.length:Int) < (l.length:Int):=by omega
  have h2:(0:Int)<=(pre.length:Int):=by omega
  have h3:rd_T40 l (pre.length:Int)=x:=by rw [<- h]; exact getD_mid _ _ _ _
  have jT:Ev (fun k=>spec_shGood.j1 k l pre.length l l.length pre.length true x.f0 x.f1 x.f2) false:=by
   refine Ev.fuel ?_; simp only [spec_shGood.j1,↓reduceIte]; exact Ev.now _
  refine Ev.fuel ?_
  simp only [spec_shGood.l0,h1,h2,h3,↓reduceIte,shHole_eq,Option.bind_some,sheetFrom]
  by_cases hx:holeB x=true
  ·have jF:Ev (fun k=>spec_shGood.j1 k l pre.length l l.length pre.length false x.f0 x.f1 x.f2) (!(pre.any (touchB x)) && (sheetFrom (pre ++ [x]) suf && decide (l.length<=60))):=by
    have c1:(pre.length:Int)<=(l.length:Int):=by omega
    have tk:l.take ((pre.length:Int)).toNat=pre:=by rw [<- h]; simp
    refine Ev.fuel ?_
    simp only [spec_shGood.j1,Bool.false_eq_true,↓reduceIte,h2,c1,tk,Option.bind_some]
    have e:=ih (pre ++ [x]) (by rw [<- h]; simp)
    refine shGood_l1 l hl x _ pre (by omega) _ ?_ pre [] rfl
    rw [wn pre.length (by omega)]
    simpa using e
   simp only [hx,↓reduceIte,Bool.true_and]
   rcases nil_or_snoc pre with rfl | ⟨pre',y,rfl⟩
   ·simp only [List.length_nil,Int.natCast_zero,Int.lt_irrefl,gt_iff_lt,↓reduceIte,List.getLast?_nil,Bool.true_and]
    simpa using jF
   ·have hc:(pre' ++ [y]).length=pre'.length+1:=by simp
    have g1:((pre' ++ [y]).length:Int) > 0:=by omega
    have g2:wrap64 (((pre' ++ [y]).length:Int) - 1)=(pre'.length:Int):=by rw [w_id (by omega) (by omega)]; omega
    have g3:(0:Int)<=(pre'.length:Int):=by omega
    have g4:(pre'.length:Int) < (l.length:Int):=by omega
    have g5:rd_T40 l (pre'.length:Int)=y:=by rw [<- h,List.append_assoc]; exact getD_mid _ _ _ _
    have gl:(pre' ++ [y]).getLast?=some y:=by simp
    simp only [g1,g2,g3,g4,g5,gl,↓reduceIte,shBefore_eq,Option.bind_some]
    by_cases hy:holeLt y x=true
    ·simp only [hy,Bool.not_true,Bool.true_and,Bool.and_assoc]; exact jF
    ·simp only [Bool.eq_false_iff.mpr hy,Bool.not_false,Bool.false_and]; exact jT
  ·simp only [Bool.eq_false_iff.mpr hx,Bool.false_eq_true,↓reduceIte,Bool.false_and]; exact jT
theorem shGood_ev (l:List S40) (hl:l.length<=1048576):Ev (fun k=>spec_shGood.f k l) (goodSheet l):=by
 unfold spec_shGood.f
 exact shGood_l0 l hl l [] rfl
theorem IsSheet_l1 (l:List S40) (hl:l.length<=1048576) (x:S40) (ni:Int) (p:List S40) (hpl:p.length<=1048576) (r:Bool)
  (hr:Ev (fun k=>impl_IsSheet.l0 k l l l.length (wrap64 (ni+1))) r):∀ (suf pre:List S40),pre ++ suf=p ->
  Ev (fun k=>impl_IsSheet.l1 k l l l.length ni p p.length pre.length x.f0 x.f1 x.f2) (!(suf.any (touchB x)) && r):=by
 intro suf
 induction suf with
 | nil =>
  intro pre h
  have hn:¬ ((pre.length:Int) < (p.length:Int)):=by rw [<- h]; simp
  refine Ev.fuel ?_
  simp only [impl_IsSheet.l1,hn,↓reduceIte,List.any_nil,Bool.not_false,Bool.true_and]
  exact hr
 | cons y suf ih =>
  intro pre h
  have hlen:p.length=pre.length+(suf.length+1):=by rw [<- h]; simp
  have h1:(pre.length:Int) < (p.length:Int):=by omega
  have h2:(0:Int)<=(pre.length:Int):=by omega
  have h3:rd_T40 p (pre.length:Int)=y:=by rw [<- h]; exact getD_mid _ _ _ _
  have e:Ev (fun k=>impl_IsSheet.l1 k l l l.length ni p p.length ((pre.length+1:Nat):Int) x.f0 x.f1 x.f2) (!(suf.any (touchB x)) && r):=by simpa using ih (pre ++ [y]) (by rw [<- h]; simp)
  refine Ev.fuel ?_
  simp only [impl_IsSheet.l1,h1,h2,h3,↓reduceIte,wn pre.length (by omega),List.any_cons]
  by_cases hm:y.f0=x.f0
  ·by_cases hq:y.f2 >= x.f1
   ·rw [show touchB x y=true from by simp only [touchB,decide_eq_true_eq]; exact ⟨hm.symm,hq⟩]
    simp only [hm,hq,↓reduceIte,Bool.true_or,Bool.not_true,Bool.false_and]; exact Ev.now _
   ·rw [show touchB x y=false from by simp only [touchB,decide_eq_false_iff_not]; omega]
    simp only [hm,hq,↓reduceIte,Bool.false_or]; exact e
  ·rw [show touchB x y=false from by simp only [touchB,decide_eq_false_iff_not]; omega]
   simp only [hm,↓reduceIte,Bool.false_or]; exact e
theorem IsSheet_l0 (l:List S40) (hl:l.length<=1048576):∀ (suf pre:List S40),pre ++ suf=l ->
  Ev (fun k=>impl_IsSheet.l0 k l l l.length pre.length) (sheetFrom pre suf):=by
 intro suf
 induction suf with
 | nil =>
  intro pre h
  have hn:¬ ((pre.length:Int) < (l.length:Int)):=by rw [<- h]; simp
  refine Ev.fuel ?_
  simp only [impl_IsSheet.l0,hn,↓reduceIte,sheetFrom]
  exact Ev.now _
 | cons x suf ih =>
  intro pre h
  have hlen:l.length=pre.length+(suf.length+1):=by rw [<- h]; simp
  have h1:(pre.length:Int) < (l.length:Int):=by omega
  have h2:(0:Int)<=(pre.length:Int):=by omega
  have h3:rd_T40 l (pre.length:Int)=x:=by rw [<- h]; exact getD_mid _ _ _ _
  have jT:Ev (fun k=>impl_IsSheet.j1 k l pre.length l l.length pre.length true x.f0 x.f1 x.f2) false:=by
   refine Ev.fuel ?_; simp only [impl_IsSheet.j1,↓reduceIte]; exact Ev.now _
  refine Ev.fuel ?_
  simp only [impl_IsSheet.l0,h1,h2,h3,↓reduceIte,IsHole_eq,Option.bind_some,sheetFrom]
  by_cases hx:holeB x=true
  ·have jF:Ev (fun k=>impl_IsSheet.j1 k l pre.length l l.length pre.length false x.f0 x.f1 x.f2) (!(pre.any (touchB x)) && sheetFrom (pre ++ [x]) suf):=by
    have c1:(pre.length:Int)<=(l.length:Int):=by omega
    have tk:l.take ((pre.length:Int)).toNat=pre:=by rw [<- h]; simp
    refine Ev.fuel ?_
    simp only [impl_IsSheet.j1,Bool.false_eq_true,↓reduceIte,h2,c1,tk,Option.bind_some]
    have e:=ih (pre ++ [x]) (by rw [<- h]; simp)
    refine IsSheet_l1 l hl x _ pre (by omega) _ ?_ pre [] rfl
    rw [wn pre.length (by omega)]
    simpa using e
   simp only [hx,↓reduceIte,Bool.true_and]
   rcases nil_or_snoc pre with rfl | ⟨pre',y,rfl⟩
   ·simp only [List.length_nil,Int.natCast_zero,Int.lt_irrefl,gt_iff_lt,↓reduceIte,List.getLast?_nil,Bool.true_and]
    simpa using jF
   ·have hc:(pre' ++ [y]).length=pre'.length+1:=by simp
    have g1:((pre' ++ [y]).length:Int) > 0:=by omega
    have g2:wrap64 (((pre' ++ [y]).length:Int) - 1)=(pre'.length:Int):=by rw [w_id (by omega) (by omega)]; omega
    have g3:(0:Int)<=(pre'.length:Int):=by omega
    have g4:(pre'.length:Int) < (l.length:Int):=by omega
    have g5:rd_T40 l (pre'.length:Int)=y:=by rw [<- h,List.append_assoc]; exact getD_mid _ _ _ _
    have gl:(pre' ++ [y]).getLast?=some y:=by simp
    simp only [g1,g2,g3,g4,g5,gl,↓reduceIte,holeLess_eq,Option.bind_some]
    by_cases hy:holeLt y x=true
    ·simp only [hy,Bool.not_true,Bool.true_and]; exact jF
    ·simp only [Bool.eq_false_iff.mpr hy,Bool.not_false,Bool.false_and]; exact jT
  ·simp only [Bool.eq_false_iff.mpr hx,Bool.false_eq_true,↓reduceIte,Bool.false_and]; exact jT
theorem IsSheet_ev (l:List S40) (hl:l.length<=1048576):Ev (fun k=>impl_IsSheet.f k l) (goodSheet l):=by
 unfold impl_IsSheet.f goodSheet
 by_cases h:(l.length:Int) > 60
 ·simp only [h,↓reduceIte,show ¬ l.length<=60 from by omega,decide_false,Bool.and_false]; exact Ev.now _
 ·simp only [h,↓reduceIte,show l.length<=60 from by omega,decide_true,Bool.and_true]
  exact IsSheet_l0 l hl l [] rfl
theorem sheetFrom_all:∀ (l pre:List S40),sheetFrom pre l=true->∀ x∈l,holeB x=true:=by
 intro l
 induction l with
 | nil=>intro pre _ x hx; simp at hx
 | cons y l ih =>
  intro pre h x hx
  simp only [sheetFrom,Bool.and_eq_true] at h
  rcases List.mem_cons.1 hx with rfl | hx
  ·exact h.1
  ·exact ih _ h.2.2.2 x hx
theorem goodSheet_all {l:List S40} (h:goodSheet l=true):∀ x∈l,holeB x=true:=by
 simp only [goodSheet,Bool.and_eq_true] at h
 exact sheetFrom_all l _ h.1
theorem goodSheet_len {l:List S40} (h:goodSheet l=true):l.length<=60:=by
 simp only [goodSheet,Bool.and_eq_true,decide_eq_true_eq] at h
 exact h.2
def openSum (t:Int):List S40->Int
 | []=>0
 | x :: xs=>(if x.f0=t then x.f2 - x.f1 else 0)+openSum t xs
theorem openTime_l0 (l:List S40) (t:Int) (hl:l.length<=60) (hn:∀ x∈l,holeB x=true):∀ (suf pre:List S40) (m:Int),pre ++ suf=l->0<=m->m<=2000 * pre.length ->
  Ev (fun k=>spec_OpenTime.l0 k t m l l.length pre.length) (m+openSum t suf,true):=by
 intro suf
 induction suf with
 | nil =>
  intro pre m h h0 h1
  have hn:¬ ((pre.length:Int) < (l.length:Int)):=by rw [<- h]; simp
  refine Ev.fuel ?_
  simp only [spec_OpenTime.l0,hn,↓reduceIte,openSum,Int.add_zero]
  exact Ev.now _
 | cons x suf ih =>
  intro pre m h h0 h1
  have hlen:l.length=pre.length+(suf.length+1):=by rw [<- h]; simp
  have c1:(pre.length:Int) < (l.length:Int):=by omega
  have c2:(0:Int)<=(pre.length:Int):=by omega
  have c3:rd_T40 l (pre.length:Int)=x:=by rw [<- h]; exact getD_mid _ _ _ _
  have hx:=(holeB_iff x).1 (hn x (by rw [<- h]; simp))
  refine Ev.fuel ?_
  simp only [spec_OpenTime.l0,c1,c2,c3,↓reduceIte,wn pre.length (by omega),w_id (x:=x.f2 - x.f1) (by omega) (by omega),w_id (x:=m+(x.f2 - x.f1)) (by omega) (by omega),openSum]
  by_cases ht:x.f0=t
  ·simp only [ht,↓reduceIte]
   have e:=ih (pre ++ [x]) (m+(x.f2 - x.f1)) (by rw [<- h]; simp) (by omega) (by simp; omega)
   rw [<- Int.add_assoc]
   simpa using e
  ·simp only [ht,↓reduceIte,Int.zero_add]
   simpa using ih (pre ++ [x]) m (by rw [<- h]; simp) h0 (by simp; omega)
theorem OpenTime_l0:∀ (k:Nat) (a b:Int) (c:List S40) (d e:Int),impl_OpenTime.l0 k a b c d e=spec_OpenTime.l0 k a b c d e:=by
 intro k
 induction k with
 | zero=>intros; rfl
 | succ k ih=>intros; simp only [impl_OpenTime.l0,spec_OpenTime.l0,ih]
theorem openTimeLaw_ev (l:List S40) (t:Int) (hl:l.length<=1048576):∃ r0 r1,Ev (fun k=>spec_OpenTime.f k l t) (r0,r1)/\Ev (fun k=>impl_OpenTime.f k l t) (r0,r1):=by
 unfold spec_OpenTime.f impl_OpenTime.f
 have jS:∀ g:Bool,g=true->Ev (fun k=>spec_OpenTime.j0 k l t g) (0,false):=fun g hg=>by
  refine Ev.fuel ?_; simp only [spec_OpenTime.j0,hg,↓reduceIte]; exact Ev.now _
 have jI:∀ g:Bool,g=true->Ev (fun k=>impl_OpenTime.j0 k l t g) (0,false):=fun g hg=>by
  refine Ev.fuel ?_; simp only [impl_OpenTime.j0,hg,↓reduceIte]; exact Ev.now _
 by_cases hg:goodSheet l=true
 ·by_cases ht:0<=t/\t<=19
  ·have e:=openTime_l0 l t (goodSheet_len hg) (goodSheet_all hg) l [] 0 rfl (by omega) (by simp)
   refine ⟨0+openSum t l,true,?_,?_⟩
   ·refine Ev.bind (shGood_ev l hl) ?_
    simp only [hg,↓reduceIte,l1In_h,Option.bind_some,ht,and_self,decide_true,Bool.not_true]
    refine Ev.fuel ?_
    simp only [spec_OpenTime.j0,Bool.false_eq_true,↓reduceIte]
    exact e
   ·refine Ev.bind (IsSheet_ev l hl) ?_
    simp only [hg,↓reduceIte,isTrackH_eq,Option.bind_some,ht,and_self,decide_true,Bool.not_true]
    refine Ev.fuel ?_
    simp only [impl_OpenTime.j0,Bool.false_eq_true,↓reduceIte,OpenTime_l0]
    exact e
  ·refine ⟨0,false,?_,?_⟩
   ·refine Ev.bind (shGood_ev l hl) ?_
    simp only [hg,↓reduceIte,l1In_h,Option.bind_some,ht,decide_false,Bool.not_false]
    exact jS _ rfl
   ·refine Ev.bind (IsSheet_ev l hl) ?_
    simp only [hg,↓reduceIte,isTrackH_eq,Option.bind_some,ht,decide_false,Bool.not_false]
    exact jI _ rfl
 ·refine ⟨0,false,?_,?_⟩
  ·refine Ev.bind (shGood_ev l hl) ?_
   simp only [hg,Bool.false_eq_true,↓reduceIte]; exact jS _ rfl
  ·refine Ev.bind (IsSheet_ev l hl) ?_
   simp only [hg,Bool.false_eq_true,↓reduceIte]; exact jI _ rfl
end Go.Proofs.YtgjpphcbdbfhlaaGreat.L
end
section
/- Plain facts on sheets: holes put in order,by the program and by the reference. No condition. -/
set_option linter.unusedVariables false
set_option linter.unusedSimpArgs false
namespace Go.Proofs.YtgjpphcbdbfhlaaGreat.L
open Go.RowKit Go.Proofs.YtgjpphcbdbfhlaaGreatW.PrintWords Go.Proofs.YtgjpphcbdbfhlaaGreatW.PrintLast Go.Proofs.YtgjpphcbdbfhlaaGreatW.PrintMore

theorem holeLt_ltB (a b:S40):holeLt a b=SHole.ltB a b:=by
 unfold holeLt SHole.ltB
 split
 ·rw [decide_eq_decide]; omega
 ·rw [decide_eq_decide]; omega
theorem ltB_iff (a b:S40):SHole.ltB a b=true ↔ (a.f1 < b.f1 \/ a.f1=b.f1/\a.f0 < b.f0):=by rw [<- holeLt_ltB]; exact holeLt_iff a b
theorem sheetFrom_iff:∀ (l pre:List S40),sheetFrom pre l=true ↔
  ((∀ x∈l,holeB x=true)/\SA.Rising SHole.ltB l/\(∀ y,pre.getLast?=some y->∀ x∈l,SHole.ltB y x=true)/\l.Pairwise (fun y x=>touchB x y=false)/\∀ y∈pre,∀ x∈l,touchB x y=false):=by
 intro l
 induction l with
 | nil =>
  intro pre
  simp [sheetFrom,SA.Rising]
 | cons x xs ih =>
  intro pre
  have hlast:(pre ++ [x]).getLast?=some x:=by simp
  simp only [sheetFrom,Bool.and_eq_true,ih (pre ++ [x]),hlast,Bool.not_eq_true',List.any_eq_false]
  constructor
  ·rintro ⟨h1,h2,h3,h4,h5,h6,h7,h8⟩
   have h3':∀ y∈pre,touchB x y=false:=fun y hy=>by simpa using h3 y hy
   have h6':∀ z∈xs,SHole.ltB x z=true:=h6 x rfl
   refine ⟨fun z hz=>?_,List.pairwise_cons.2 ⟨h6',h5⟩,fun y hy z hz=>?_,List.pairwise_cons.2 ⟨fun z hz=>h8 x (by simp) z hz,h7⟩,fun y hy z hz=>?_⟩
   ·rcases List.mem_cons.1 hz with rfl | hz
    ·exact h1
    ·exact h4 z hz
   ·rw [hy] at h2
    have hyx:SHole.ltB y x=true:=by rw [<- holeLt_ltB]; exact h2
    rcases List.mem_cons.1 hz with rfl | hz
    ·exact hyx
    ·exact SHole.swo.trans _ _ _ hyx (h6' z hz)
   ·rcases List.mem_cons.1 hz with rfl | hz
    ·exact h3' y hy
    ·exact h8 y (by simp [hy]) z hz
  ·rintro ⟨h1,h2,h3,h4,h5⟩
   obtain ⟨q1,q2⟩:=List.pairwise_cons.1 h2
   obtain ⟨q3,q4⟩:=List.pairwise_cons.1 h4
   refine ⟨h1 x List.mem_cons_self,?_,fun y hy=>?_,fun z hz=>h1 z (List.mem_cons_of_mem _ hz),q2,fun y hy z hz=>?_,q4,fun y hy z hz=>?_⟩
   ·cases hp:pre.getLast? with
    | none=>rfl
    | some y =>
     show holeLt y x=true
     rw [holeLt_ltB]; exact h3 y hp x List.mem_cons_self
   ·simpa using h5 y hy x List.mem_cons_self
   ·cases hy; exact q1 z hz
   ·rcases List.mem_append.1 hy with hy | hy
    ·exact h5 y hy z (List.mem_cons_of_mem _ hz)
    ·simp only [List.mem_singleton] at hy; subst hy; exact q3 z hz
theorem goodSheet_iff (l:List S40):goodSheet l=true ↔ ((∀ x∈l,holeB x=true)/\SA.Rising SHole.ltB l/\l.Pairwise (fun y x=>touchB x y=false)/\l.length<=60):=by
 unfold goodSheet
 rw [Bool.and_eq_true,sheetFrom_iff,decide_eq_true_eq]
 constructor
 ·rintro ⟨⟨h1,h2,_,h4,_⟩,h5⟩
  exact ⟨h1,h2,h4,h5⟩
 ·rintro ⟨h1,h2,h3,h4⟩
  exact ⟨⟨h1,h2,fun y hy=>by simp at hy,h3,fun y hy=>by cases hy⟩,h4⟩
def sheetRes (l:List S40):List S40 × Bool:=if goodSheet (SA.isort SHole.ltB l)=true then (SA.isort SHole.ltB l,true) else ([],false)
theorem sheetRes_len (l:List S40):(sheetRes l).1.length<=1048576:=by
 unfold sheetRes
 split
 ·rename_i h
  have:=((goodSheet_iff _).1 h).2.2.2
  show (SA.isort SHole.ltB l).length<=_
  omega
 ·simp
theorem sheetRes_good (l:List S40):goodSheet (sheetRes l).1=true:=by
 unfold sheetRes
 split
 ·assumption
 ·rfl
theorem sheetRes_srt (l:List S40):sheetRes l=if goodSheet (SHole.srt l)=true then (SHole.srt l,true) else ([],false):=by
 unfold sheetRes
 by_cases h:goodSheet (SA.isort SHole.ltB l)=true
 ·have e:SHole.srt l=SA.isort SHole.ltB l:=SA.srt_isort_rising SHole.ltB SHole.swo l (.inr ((goodSheet_iff _).1 h).2.1)
  rw [e]
 ·by_cases h':goodSheet (SHole.srt l)=true
  ·have e:SHole.srt l=SA.isort SHole.ltB l:=SA.srt_isort_rising SHole.ltB SHole.swo l (.inl ((goodSheet_iff _).1 h').2.1)
   rw [e]
  ·rw [if_neg h,if_neg h']
theorem isort_rising (l:List S40) (h:SA.Rising SHole.ltB l):SA.isort SHole.ltB l=l :=
 (SA.asc_rising SHole.ltB SHole.swo _ _ (SA.isort_perm SHole.ltB l).symm h (SA.isort_asc SHole.ltB SHole.swo l)).symm
theorem shSorted_ev (l:List S40) (hl:l.length<=1048576):Ev (fun k=>spec_shSorted.f k l) (sheetRes l):=by
 unfold spec_shSorted.f SHole.sortedF
 simp only [hl,↓reduceIte]
 refine Ev.bind (shGood_ev _ (by rw [SA.isort_length]; exact hl)) ?_
 unfold sheetRes
 by_cases hg:goodSheet (SA.isort SHole.ltB l)=true
 ·simp only [hg,↓reduceIte]; exact Ev.now _
 ·simp only [hg,Bool.false_eq_true,↓reduceIte]; exact Ev.now _
theorem sheetOf_ev (l:List S40) (hl:l.length<=1048576):Ev (fun k=>impl_sheetOf.f k l) (sheetRes l):=by
 unfold impl_sheetOf.f SHole.ofF
 have hz:(SHole.srt l).length=l.length:=SA.srtL_length SHole.ltB SHole.swo l
 rw [sheetRes_srt]
 by_cases h60:l.length<=60
 ·simp only [h60,↓reduceIte]
  refine Ev.bind (IsSheet_ev _ (by omega)) ?_
  by_cases hg:goodSheet (SHole.srt l)=true
  ·simp only [hg,↓reduceIte]; exact Ev.now _
  ·simp only [hg,Bool.false_eq_true,↓reduceIte]; exact Ev.now _
 ·simp only [h60,↓reduceIte]
  have hg:¬ goodSheet (SHole.srt l)=true:=fun h=>h60 (by have:=((goodSheet_iff _).1 h).2.2.2; omega)
  simp only [hg,↓reduceIte]
  exact Ev.now _
end Go.Proofs.YtgjpphcbdbfhlaaGreat.L
end
section
/- Plain facts on notes laid out as holes. No condition. -/
set_option linter.unusedVariables false
set_option linter.unusedSimpArgs false
namespace Go.Proofs.YtgjpphcbdbfhlaaGreat.L
open Go.RowKit Go.Proofs.YtgjpphcbdbfhlaaGreatW.PrintWords Go.Proofs.YtgjpphcbdbfhlaaGreatW.PrintLast Go.Proofs.YtgjpphcbdbfhlaaGreatW.PrintMore

def holeOf (l:List Int) (x:S36):Int × Int × Int × Bool :=
 if holeB ⟨idxFrom x.f0 l 0,2 * x.f1,2 * (x.f1+x.f2) - 1⟩=true then (idxFrom x.f0 l 0,2 * x.f1,2 * (x.f1+x.f2) - 1,true) else (0,0,0,false)
theorem laHole_ev (l:List Int) (r:Int) (x:S36) (hl:l.length<=1048576) (hx:noteB x=true):Ev (fun k=>spec_laHole.f k l r x.f0 x.f1 x.f2) (holeOf l x):=by
 have h:=(noteB_iff x).1 hx
 unfold spec_laHole.f holeOf
 refine Ev.bind (inTrack_ev l r x.f0 hl) ?_
 simp only [w_id (x:=x.f1+x.f2) (by omega) (by omega),w_id (x:=2 * x.f1) (by omega) (by omega),w_id (x:=2 * (x.f1+x.f2)) (by omega) (by omega),w_id (x:=2 * (x.f1+x.f2) - 1) (by omega) (by omega),shHole_eq,Option.bind_some]
 split <;> exact Ev.now _
theorem holeFor_ev (l:List Int) (r:Int) (x:S36) (hl:l.length<=1048576) (hx:noteB x=true):Ev (fun k=>impl_holeFor.f k l r x.f0 x.f1 x.f2) (holeOf l x):=by
 have h:=(noteB_iff x).1 hx
 unfold impl_holeFor.f holeOf
 refine Ev.bind (Index_ev l x.f0 hl) ?_
 simp only [noteEnd_eq hx,Option.bind_some,w_id (x:=2 * x.f1) (by omega) (by omega),w_id (x:=2 * (x.f1+x.f2)) (by omega) (by omega),w_id (x:=2 * (x.f1+x.f2) - 1) (by omega) (by omega),IsHole_eq]
 by_cases hi:idxFrom x.f0 l 0 < 0
 ·have:holeB ⟨idxFrom x.f0 l 0,2 * x.f1,2 * (x.f1+x.f2) - 1⟩=false:=by
   cases hq:holeB ⟨idxFrom x.f0 l 0,2 * x.f1,2 * (x.f1+x.f2) - 1⟩ with
   | false=>rfl
   | true=>have:=(holeB_iff _).1 hq; simp only at this; omega
  simp only [hi,↓reduceIte,this,Bool.false_eq_true]; exact Ev.now _
 ·simp only [hi,↓reduceIte]
  split <;> exact Ev.now _
theorem laNote_same (k:Nat) (l:List Int) (r a b c:Int):impl_noteFor.f k l r a b c=spec_laNote.f k l r a b c:=by
 have j:∀ k g (l:List Int) r a b c,impl_noteFor.j0 k g l r a b c=spec_laNote.j0 k g l r a b c:=by
  intro k g l r a b c
  cases k with
  | zero=>rfl
  | succ k =>
   have eN:=fun x y z=>ntNote_eq ⟨x,y,z⟩
   have eI:=fun x y z=>IsNote_eq ⟨x,y,z⟩
   simp only at eN eI
   simp only [impl_noteFor.j0,spec_laNote.j0,eN,eI]
 unfold impl_noteFor.f spec_laNote.f
 simp only [j]
theorem laNote_ev (l:List Int) (r:Int) (a b c:Int) (ha:0<=a):∃ r0,Ev (fun k=>spec_laNote.f k l r a b c) r0:=by
 have jT:∀ g:Bool,∃ r0,Ev (fun k=>spec_laNote.j0 k g l r a b c) r0 \/ ¬ a < (l.length:Int):=fun g=>by
  by_cases hlt:a < (l.length:Int)
  ·by_cases hg:g=true
   ·exact ⟨(0,0,0,false),Or.inl (by refine Ev.fuel ?_; simp only [spec_laNote.j0,hg,↓reduceIte]; exact Ev.now _)⟩
   ·have eN:=fun x y z=>ntNote_eq ⟨x,y,z⟩
    simp only at eN
    by_cases hn:noteB ⟨rd l a,wrap64 (Int.tdiv b 2),wrap64 (wrap64 (Int.tdiv (wrap64 (c+1)) 2) - wrap64 (Int.tdiv b 2))⟩=true
    ·exact ⟨(rd l a,wrap64 (Int.tdiv b 2),wrap64 (wrap64 (Int.tdiv (wrap64 (c+1)) 2) - wrap64 (Int.tdiv b 2)),true),Or.inl (by refine Ev.fuel ?_; simp only [spec_laNote.j0,hg,ha,hlt,eN,hn,Option.bind_some,↓reduceIte,Bool.false_eq_true]; exact Ev.now _)⟩
    ·exact ⟨(0,0,0,false),Or.inl (by refine Ev.fuel ?_; simp only [spec_laNote.j0,hg,ha,hlt,eN,hn,Option.bind_some,↓reduceIte,Bool.false_eq_true]; exact Ev.now _)⟩
  ·exact ⟨(0,0,0,false),Or.inr hlt⟩
 have jF:Ev (fun k=>spec_laNote.j0 k true l r a b c) (0,0,0,false):=by refine Ev.fuel ?_; simp only [spec_laNote.j0,↓reduceIte]; exact Ev.now _
 unfold spec_laNote.f
 by_cases h1:a >= (l.length:Int)
 ·exact ⟨(0,0,0,false),by simp only [h1,↓reduceIte]; exact jF⟩
 ·by_cases h2:Int.tmod b 2=0
  ·obtain ⟨r0,h | h⟩:=jT (Int.tmod c 2 != 1)
   ·exact ⟨r0,by simp only [h1,h2,↓reduceIte]; exact h⟩
   ·omega
  ·exact ⟨(0,0,0,false),by simp only [h1,h2,↓reduceIte]; exact jF⟩
end Go.Proofs.YtgjpphcbdbfhlaaGreat.L
end
section
/- Plain facts on sheets: a sheet that is put in order and moved is one that is moved and put in order. No condition. -/
set_option linter.unusedVariables false
set_option linter.unusedSimpArgs false
namespace Go.Proofs.YtgjpphcbdbfhlaaGreat.L
open Go.RowKit Go.Proofs.YtgjpphcbdbfhlaaGreatW.PrintWords Go.Proofs.YtgjpphcbdbfhlaaGreatW.PrintLast Go.Proofs.YtgjpphcbdbfhlaaGreatW.PrintMore

def shiftH (b:Int) (x:S40):S40:=⟨x.f0,wrap64 (x.f1+b),wrap64 (x.f2+b)⟩
theorem shiftH_eq {b:Int} {x:S40} (hb:0<=b/\b<=1000000) (hx:holeB x=true):(shiftH b x).f0=x.f0/\(shiftH b x).f1=x.f1+b/\(shiftH b x).f2=x.f2+b:=by
 have h:=(holeB_iff x).1 hx
 unfold shiftH
 exact ⟨rfl,w_id (by omega) (by omega),w_id (by omega) (by omega)⟩
theorem shift_zero {l:List S40} (hl:∀ x∈l,holeB x=true):l.map (shiftH 0)=l:=by
 have:∀ x∈l,shiftH 0 x=x:=by
  intro x hx
  obtain ⟨a0,a1,a2⟩:=shiftH_eq (b:=0) (by omega) (hl x hx)
  rw [Int.add_zero] at a1 a2
  generalize shiftH 0 x=y at a0 a1 a2
  cases x; cases y; simp_all
 rw [List.map_congr_left this,List.map_id']
end Go.Proofs.YtgjpphcbdbfhlaaGreat.L
end
section
/- Plain facts on layouts: the reference's and the program's. No condition. -/
set_option linter.unusedVariables false
set_option linter.unusedSimpArgs false
namespace Go.Proofs.YtgjpphcbdbfhlaaGreat.L
open Go.RowKit Go.Proofs.YtgjpphcbdbfhlaaGreatW.PrintWords Go.Proofs.YtgjpphcbdbfhlaaGreatW.PrintLast Go.Proofs.YtgjpphcbdbfhlaaGreatW.PrintMore

def layH (l:List Int) (x:S36):S40:=⟨(holeOf l x).1,(holeOf l x).2.1,(holeOf l x).2.2.1⟩
def layAll (l:List Int) (s:List S36):Bool:=s.all fun x=>(holeOf l x).2.2.2
theorem layH_good {l:List Int} {x:S36} (h:(holeOf l x).2.2.2=true):holeB (layH l x)=true:=by
 unfold layH
 unfold holeOf at h ⊢
 split at h
 ·rename_i hb; rw [if_pos hb]; exact hb
 ·cases h
theorem layAll_good {l:List Int} {s:List S36} (h:layAll l s=true):∀ y∈s.map (layH l),holeB y=true:=by
 intro y hy
 obtain ⟨x,hx,rfl⟩:=List.mem_map.1 hy
 exact layH_good (List.all_eq_true.1 h x hx)
theorem laHoles_l0 (l:List Int) (r b:Int) (s:List S36) (hl:l.length<=1048576) (hs:s.length<=1000) (hn:∀ x∈s,noteB x=true):∀ (suf pre:List S36),pre ++ suf=s ->
  Ev (fun k=>spec_laHoles.l0 k b (pre.map fun x=>shiftH b (layH l x)) s s.length pre.length l r) (if layAll l suf=true then sheetRes (s.map fun x=>shiftH b (layH l x)) else ([],false)):=by
 intro suf
 induction suf with
 | nil =>
  intro pre h
  have hc:¬ ((pre.length:Int) < (s.length:Int)):=by rw [<- h]; simp
  refine Ev.fuel ?_
  simp only [spec_laHoles.l0,hc,↓reduceIte]
  have e:pre=s:=by rw [<- h]; simp
  rw [e]
  exact Ev.bind (shSorted_ev _ (by simp; omega)) (Ev.now _)
 | cons x suf ih =>
  intro pre h
  have hlen:s.length=pre.length+(suf.length+1):=by rw [<- h]; simp
  have c1:(pre.length:Int) < (s.length:Int):=by omega
  have c2:(0:Int)<=(pre.length:Int):=by omega
  have c3:rd_T36 s (pre.length:Int)=x:=by rw [<- h]; exact getD_mid _ _ _ _
  have c4:(pre.map fun x=>shiftH b (layH l x)).length < 5864062014805:=by simp; omega
  have hx:=hn x (by rw [<- h]; simp)
  refine Ev.fuel ?_
  simp only [spec_laHoles.l0,c1,c2,c3,↓reduceIte]
  refine Ev.bind (laHole_ev l r x hl hx) ?_
  by_cases ht:(holeOf l x).2.2.2=true
  ·have e:=ih (pre ++ [x]) (by rw [<- h]; simp)
   have e2:layAll l (x :: suf)=layAll l suf:=by unfold layAll; simp [ht]
   rw [e2]
   simp only [ht,↓reduceIte,c4,wn pre.length (by omega)]
   have e':Ev (fun k=>spec_laHoles.l0 k b ((pre.map fun x=>shiftH b (layH l x)) ++ [shiftH b (layH l x)]) s s.length ((pre.length+1:Nat):Int) l r) (if layAll l suf=true then sheetRes (s.map fun x=>shiftH b (layH l x)) else ([],false)):=by simpa using e
   exact e'
  ·have e2:layAll l (x :: suf)=false:=by unfold layAll; simp [ht]
   rw [e2]
   simp only [ht,Bool.false_eq_true,↓reduceIte]
   exact Ev.now _
theorem laHoles_ev (l:List Int) (r b:Int) (s:List S36) (hl:l.length<=1048576) (hs:s.length<=1000) (hn:∀ x∈s,noteB x=true) :
  Ev (fun k=>spec_laHoles.f k l r s b) (if playsB l r s=true then (if layAll l s=true then sheetRes (s.map fun x=>shiftH b (layH l x)) else ([],false)) else ([],false)):=by
 unfold spec_laHoles.f
 refine Ev.bind (inPlays_ev l r s hl hs hn) ?_
 by_cases hp:playsB l r s=true
 ·simp only [hp,↓reduceIte]
  exact laHoles_l0 l r b s hl hs hn s [] rfl
 ·simp only [hp,Bool.false_eq_true,↓reduceIte]
  exact Ev.now _
theorem layOut_l0 (l:List Int) (r:Int) (s:List S36) (hl:l.length<=1048576) (hs:s.length<=1000) (hn:∀ x∈s,noteB x=true):∀ (suf pre:List S36),pre ++ suf=s ->
  Ev (fun k=>impl_layOut.l0 k (pre.map (layH l)) s s.length pre.length l r) (if layAll l suf=true then sheetRes (s.map (layH l)) else ([],false)):=by
 intro suf
 induction suf with
 | nil =>
  intro pre h
  have hc:¬ ((pre.length:Int) < (s.length:Int)):=by rw [<- h]; simp
  refine Ev.fuel ?_
  simp only [impl_layOut.l0,hc,↓reduceIte]
  have e:pre=s:=by rw [<- h]; simp
  rw [e]
  exact Ev.bind (sheetOf_ev _ (by simp; omega)) (Ev.now _)
 | cons x suf ih =>
  intro pre h
  have hlen:s.length=pre.length+(suf.length+1):=by rw [<- h]; simp
  have c1:(pre.length:Int) < (s.length:Int):=by omega
  have c2:(0:Int)<=(pre.length:Int):=by omega
  have c3:rd_T36 s (pre.length:Int)=x:=by rw [<- h]; exact getD_mid _ _ _ _
  have c4:(pre.map (layH l)).length < 5864062014805:=by simp; omega
  have hx:=hn x (by rw [<- h]; simp)
  refine Ev.fuel ?_
  simp only [impl_layOut.l0,c1,c2,c3,↓reduceIte]
  refine Ev.bind (holeFor_ev l r x hl hx) ?_
  by_cases ht:(holeOf l x).2.2.2=true
  ·have e:=ih (pre ++ [x]) (by rw [<- h]; simp)
   have e2:layAll l (x :: suf)=layAll l suf:=by unfold layAll; simp [ht]
   rw [e2]
   simp only [ht,↓reduceIte,c4,wn pre.length (by omega)]
   have e':Ev (fun k=>impl_layOut.l0 k ((pre.map (layH l)) ++ [layH l x]) s s.length ((pre.length+1:Nat):Int) l r) (if layAll l suf=true then sheetRes (s.map (layH l)) else ([],false)):=by simpa using e
   exact e'
  ·have e2:layAll l (x :: suf)=false:=by unfold layAll; simp [ht]
   rw [e2]
   simp only [ht,Bool.false_eq_true,↓reduceIte]
   exact Ev.now _
def layRes (l:List Int) (r:Int) (s:List S36):List S40 × Bool:=if playsB l r s=true then (if layAll l s=true then sheetRes (s.map (layH l)) else ([],false)) else ([],false)
theorem layRes_len (l:List Int) (r:Int) (s:List S36):(layRes l r s).1.length<=1048576:=by
 unfold layRes
 split
 ·split
  ·exact sheetRes_len _
  ·simp
 ·simp
theorem layOut_ev (l:List Int) (r:Int) (s:List S36) (hl:l.length<=1048576) (hs:s.length<=1000) (hn:∀ x∈s,noteB x=true) :
  Ev (fun k=>impl_layOut.f k l r s) (layRes l r s):=by
 unfold impl_layOut.f layRes
 refine Ev.bind (canPlay_ev l r s hl hs hn) ?_
 by_cases hp:playsB l r s=true
 ·simp only [hp,↓reduceIte]
  exact layOut_l0 l r s hl hs hn s [] rfl
 ·simp only [hp,Bool.false_eq_true,↓reduceIte]
  exact Ev.now _
theorem layRes_zero (l:List Int) (r:Int) (s:List S36) :
  (if playsB l r s=true then (if layAll l s=true then sheetRes (s.map fun x=>shiftH 0 (layH l x)) else ([],false)) else ([],false))=layRes l r s:=by
 unfold layRes
 by_cases ha:layAll l s=true
 ·have:=shift_zero (layAll_good ha)
  rw [List.map_map] at this
  have e:(s.map fun x=>shiftH 0 (layH l x))=s.map (layH l):=this
  rw [e]
 ·simp only [ha,Bool.false_eq_true,↓reduceIte]
theorem layOutLaw_ev (l:List Int) (r:Int) (s:List S36) (hl:l.length<=1048576) (hs:s.length<=1048576):∃ r0 r1,r0.length<=1048576/\Ev (fun k=>spec_LayOut.f k l r s) (r0,r1)/\Ev (fun k=>impl_LayOut.f k l r s) (r0,r1):=by
 unfold spec_LayOut.f impl_LayOut.f
 by_cases hg:goodIns l r=true
 ·by_cases hx:goodScore s=true
  ·have hn:=goodScore_all hx
   have h30:=goodScore_len hx
   refine ⟨(layRes l r s).1,(layRes l r s).2,layRes_len l r s,?_,?_⟩
   ·refine Ev.bind (inAsked_ev l r s hl hs) ?_
    simp only [hg,hx,Bool.and_self,↓reduceIte]
    have:=laHoles_ev l r 0 s hl (by omega) hn
    rw [layRes_zero] at this
    exact Ev.bind this (Ev.now _)
   ·refine Ev.bind (IsInstrument_ev l r hl) ?_
    simp only [hg,↓reduceIte]
    refine Ev.bind (IsScore_ev s hs) ?_
    simp only [hx,↓reduceIte]
    exact Ev.bind (layOut_ev l r s hl (by omega) hn) (Ev.now _)
  ·refine ⟨[],false,by simp,?_,?_⟩
   ·refine Ev.bind (inAsked_ev l r s hl hs) ?_
    simp only [hg,hx,Bool.and_false,Bool.false_eq_true,↓reduceIte]; exact Ev.now _
   ·refine Ev.bind (IsInstrument_ev l r hl) ?_
    simp only [hg,↓reduceIte]
    refine Ev.bind (IsScore_ev s hs) ?_
    simp only [hx,Bool.false_eq_true,↓reduceIte]; exact Ev.now _
 ·refine ⟨[],false,by simp,?_,?_⟩
  ·refine Ev.bind (inAsked_ev l r s hl hs) ?_
   simp only [hg,Bool.false_and,Bool.false_eq_true,↓reduceIte]; exact Ev.now _
  ·refine Ev.bind (IsInstrument_ev l r hl) ?_
   simp only [hg,Bool.false_eq_true,↓reduceIte]; exact Ev.now _
end Go.Proofs.YtgjpphcbdbfhlaaGreat.L
end
section
/- Plain facts on sheets: a hole added,sheets moved,mirrored,reversed and cut. No condition. -/
set_option linter.unusedVariables false
set_option linter.unusedSimpArgs false
namespace Go.Proofs.YtgjpphcbdbfhlaaGreat.L
open Go.RowKit Go.Proofs.YtgjpphcbdbfhlaaGreatW.PrintWords Go.Proofs.YtgjpphcbdbfhlaaGreatW.PrintLast Go.Proofs.YtgjpphcbdbfhlaaGreatW.PrintMore

end Go.Proofs.YtgjpphcbdbfhlaaGreat.L
end
section
/- Plain facts on a sheet read back. No condition. -/
set_option linter.unusedVariables false
set_option linter.unusedSimpArgs false
namespace Go.Proofs.YtgjpphcbdbfhlaaGreat.L
open Go.RowKit Go.Proofs.YtgjpphcbdbfhlaaGreatW.PrintWords Go.Proofs.YtgjpphcbdbfhlaaGreatW.PrintLast Go.Proofs.YtgjpphcbdbfhlaaGreatW.PrintMore

theorem scoreOf_ev (o:List S36) (h:o.length<=1048576):Ev (fun k=>impl_scoreOf.f k (SNote.srt o)) (scoreRes o):=by
 unfold impl_scoreOf.f
 refine Ev.bind (IsScore_ev _ (by rw [srtN_len]; exact h)) ?_
 rw [scoreRes_srt]
 by_cases hg:goodScore (SNote.srt o)=true
 ·simp only [hg,↓reduceIte]; exact Ev.now _
 ·simp only [hg,Bool.false_eq_true,↓reduceIte]; exact Ev.now _
theorem read_l0 (l:List Int) (r:Int) (s:List S40) (hl:l.length<=1048576) (hs:s.length<=60) (hn:∀ x∈s,holeB x=true):∀ (suf pre:List S40) (o:List S36),pre ++ suf=s->o.length<=pre.length ->
  ∃ r0 r1,r0.length<=1048576/\Ev (fun k=>spec_laNotes.l0 k o s s.length pre.length l r) (r0,r1)/\Ev (fun k=>impl_readBack.l0 k o s s.length pre.length l r) (r0,r1):=by
 intro suf
 induction suf with
 | nil =>
  intro pre o h ho
  have hn:¬ ((pre.length:Int) < (s.length:Int)):=by rw [<- h]; simp
  have he:s.length=pre.length:=by rw [<- h]; simp
  have hp:pre.length<=60:=by omega
  refine ⟨(scoreRes o).1,(scoreRes o).2,scoreRes_len o,Ev.fuel ?_,Ev.fuel ?_⟩
  ·simp only [spec_laNotes.l0,hn,↓reduceIte]
   exact Ev.bind (ntSorted_ev o (by omega)) (Ev.now _)
  ·simp only [impl_readBack.l0,hn,↓reduceIte,sortedNotes_eq o (by omega),Option.bind_some]
   exact Ev.bind (scoreOf_ev o (by omega)) (Ev.now _)
 | cons x suf ih =>
  intro pre o h ho
  have hlen:s.length=pre.length+(suf.length+1):=by rw [<- h]; simp
  have c1:(pre.length:Int) < (s.length:Int):=by omega
  have c2:(0:Int)<=(pre.length:Int):=by omega
  have c3:rd_T40 s (pre.length:Int)=x:=by rw [<- h]; exact getD_mid _ _ _ _
  have hx:=(holeB_iff x).1 (hn x (by rw [<- h]; simp))
  have q1:o.length < 5864062014805:=by omega
  obtain ⟨t,et⟩:=laNote_ev l r x.f0 x.f1 x.f2 hx.1
  by_cases ht:t.2.2.2=true
  ·obtain ⟨r0,r1,b0,e1,e2⟩:=ih (pre ++ [x]) (o ++ [⟨t.1,t.2.1,t.2.2.1⟩]) (by rw [<- h]; simp) (by simp; omega)
   have ec:((pre ++ [x]).length:Int)=((pre.length+1:Nat):Int):=by simp
   rw [ec] at e1 e2
   refine ⟨r0,r1,b0,Ev.fuel ?_,Ev.fuel ?_⟩
   ·simp only [spec_laNotes.l0,c1,c2,c3,q1,↓reduceIte,wn pre.length (by omega)]
    refine Ev.bind et ?_
    simp only [ht,↓reduceIte]
    exact e1
   ·simp only [impl_readBack.l0,c1,c2,c3,q1,↓reduceIte,wn pre.length (by omega),laNote_same]
    refine Ev.bind et ?_
    simp only [ht,↓reduceIte]
    exact e2
  ·refine ⟨[],false,by simp,Ev.fuel ?_,Ev.fuel ?_⟩
   ·simp only [spec_laNotes.l0,c1,c2,c3,q1,↓reduceIte,wn pre.length (by omega)]
    refine Ev.bind et ?_
    simp only [ht,Bool.false_eq_true,↓reduceIte]; exact Ev.now _
   ·simp only [impl_readBack.l0,c1,c2,c3,q1,↓reduceIte,wn pre.length (by omega),laNote_same]
    refine Ev.bind et ?_
    simp only [ht,Bool.false_eq_true,↓reduceIte]; exact Ev.now _
theorem laAsked_ev (l:List Int) (r:Int) (s:List S40) (hl:l.length<=1048576) (hs:s.length<=1048576):Ev (fun k=>spec_laAsked.f k l r s) (goodIns l r && goodSheet s):=by
 unfold spec_laAsked.f
 refine Ev.bind (inGood_ev l r hl) ?_
 by_cases h:goodIns l r=true
 ·simp only [h,↓reduceIte,Bool.true_and]
  exact Ev.bind (shGood_ev s hs) (Ev.now _)
 ·simp only [Bool.eq_false_iff.mpr h,Bool.false_eq_true,↓reduceIte,Bool.false_and]; exact Ev.now _
theorem readLaw_ev (l:List Int) (r:Int) (s:List S40) (hl:l.length<=1048576) (hs:s.length<=1048576):∃ r0 r1,r0.length<=1048576/\Ev (fun k=>spec_ReadBack.f k l r s) (r0,r1)/\Ev (fun k=>impl_ReadBack.f k l r s) (r0,r1):=by
 unfold spec_ReadBack.f impl_ReadBack.f spec_laNotes.f impl_readBack.f
 have ea:=laAsked_ev l r s hl hs
 have e1:=IsInstrument_ev l r hl
 have e2:=IsSheet_ev s hs
 by_cases h1:goodIns l r=true
 ·by_cases h2:goodSheet s=true
  ·simp only [h1,h2,Bool.true_and] at ea e1 e2
   obtain ⟨r0,r1,b0,c1,c2⟩:=read_l0 l r s hl (goodSheet_len h2) (goodSheet_all h2) s [] [] rfl (by simp)
   refine ⟨r0,r1,b0,?_,?_⟩
   ·refine Ev.bind ea ?_
    simp only [↓reduceIte]
    exact Ev.bind c1 (Ev.now _)
   ·refine Ev.bind e1 ?_
    simp only [↓reduceIte]
    refine Ev.bind e2 ?_
    simp only [↓reduceIte]
    exact Ev.bind c2 (Ev.now _)
  ·simp only [h1,Bool.eq_false_iff.mpr h2,Bool.true_and] at ea e1 e2
   refine ⟨[],false,by simp,?_,?_⟩
   ·refine Ev.bind ea ?_
    simp only [Bool.false_eq_true,↓reduceIte]; exact Ev.now _
   ·refine Ev.bind e1 ?_
    simp only [↓reduceIte]
    refine Ev.bind e2 ?_
    simp only [Bool.false_eq_true,↓reduceIte]; exact Ev.now _
 ·simp only [Bool.eq_false_iff.mpr h1,Bool.false_and] at ea e1
  refine ⟨[],false,by simp,?_,?_⟩
  ·refine Ev.bind ea ?_
   simp only [Bool.false_eq_true,↓reduceIte]; exact Ev.now _
  ·refine Ev.bind e1 ?_
   simp only [Bool.false_eq_true,↓reduceIte]; exact Ev.now _
end Go.Proofs.YtgjpphcbdbfhlaaGreat.L
end
section
/- The plain law of layouts from a step on. No condition. -/
set_option linter.unusedVariables false
set_option linter.unusedSimpArgs false
namespace Go.Proofs.YtgjpphcbdbfhlaaGreat.L
open Go.RowKit Go.Proofs.YtgjpphcbdbfhlaaGreatW.PrintWords Go.Proofs.YtgjpphcbdbfhlaaGreatW.PrintLast Go.Proofs.YtgjpphcbdbfhlaaGreatW.PrintMore

end Go.Proofs.YtgjpphcbdbfhlaaGreat.L
end
section
/- The plain law of sheets that are layouts. No condition. -/
set_option linter.unusedVariables false
set_option linter.unusedSimpArgs false
namespace Go.Proofs.YtgjpphcbdbfhlaaGreat.L
open Go.RowKit Go.Proofs.YtgjpphcbdbfhlaaGreatW.PrintWords Go.Proofs.YtgjpphcbdbfhlaaGreatW.PrintLast Go.Proofs.YtgjpphcbdbfhlaaGreatW.PrintMore

theorem ris_pair (lo hi:Int):∀ (l:List Int) (p:Option Int),risFrom lo hi p l=true->l.Pairwise (· < ·)/\∀ y,p=some y->∀ x∈l,y < x:=by
 intro l
 induction l with
 | nil=>intro p _; exact ⟨List.Pairwise.nil,fun y _ x hx=>by simp at hx⟩
 | cons z l ih =>
  intro p h
  have h':risFrom lo hi (some z) l=true/\∀ y,p=some y->y < z:=by
   cases p with
   | none=>simp only [risFrom,Bool.and_eq_true,decide_eq_true_eq] at h; exact ⟨h.2,fun y e=>by cases e⟩
   | some q=>simp only [risFrom,Bool.and_eq_true,decide_eq_true_eq] at h; exact ⟨h.2.2,fun y e=>by cases e; exact h.2.1⟩
  obtain ⟨i1,i2⟩:=ih _ h'.1
  refine ⟨List.pairwise_cons.2 ⟨i2 z rfl,i1⟩,fun y e x hx=>?_⟩
  have:=h'.2 y e
  rcases List.mem_cons.1 hx with rfl | hx
  ·exact this
  ·exact Int.lt_trans this (i2 z rfl x hx)
theorem idx_at:∀ (l:List Int) (i:Int) (j:Nat),l.Pairwise (· < ·)->j < l.length->idxFrom (l.getD j 0) l i=i+j:=by
 intro l
 induction l with
 | nil=>intro i j _ h; simp at h
 | cons x xs ih =>
  intro i j hp hj
  obtain ⟨p1,p2⟩:=List.pairwise_cons.1 hp
  cases j with
  | zero=>simp [idxFrom]
  | succ j =>
   simp only [List.length_cons] at hj
   have hj':j < xs.length:=by omega
   have e:(x :: xs).getD (j+1) 0=xs.getD j 0:=rfl
   have hm:xs.getD j 0∈xs:=by rw [List.getD_eq_getElem?_getD,List.getElem?_eq_getElem hj']; exact List.getElem_mem hj'
   have hne:¬ x=xs.getD j 0:=fun h=>by have:=p1 _ hm; omega
   rw [e]
   unfold idxFrom
   rw [if_neg hne,ih (i+1) j p2 hj']
   push_cast
   omega
theorem get_lt (l:List Int) (i j:Nat) (hp:l.Pairwise (· < ·)) (h:i < j) (hj:j < l.length):l.getD i 0 < l.getD j 0:=by
 have:=List.pairwise_iff_getElem.1 hp i j (by omega) hj h
 rw [List.getD_eq_getElem?_getD,List.getD_eq_getElem?_getD,List.getElem?_eq_getElem hj,List.getElem?_eq_getElem (by omega:i < l.length)]
 exact this
def noteH (l:List Int) (h:S40):S36:=⟨rd l h.f0,h.f1 / 2,(h.f2+1) / 2 - h.f1 / 2⟩
def noteOk (l:List Int) (h:S40):Bool:=decide (h.f0 < (l.length:Int)/\h.f1 % 2=0/\h.f2 % 2=1) && noteB (noteH l h)
def noteR (l:List Int) (h:S40):Int × Int × Int × Bool:=if noteOk l h=true then ((noteH l h).f0,(noteH l h).f1,(noteH l h).f2,true) else (0,0,0,false)
theorem noteOk_iff (l:List Int) (h:S40):noteOk l h=true ↔ ((h.f0 < (l.length:Int)/\h.f1 % 2=0/\h.f2 % 2=1)/\noteB (noteH l h)=true):=by
 unfold noteOk; rw [Bool.and_eq_true,decide_eq_true_eq]
theorem laNoteR_ev (l:List Int) (r:Int) (h:S40) (hh:holeB h=true):Ev (fun k=>spec_laNote.f k l r h.f0 h.f1 h.f2) (noteR l h):=by
 have b:=(holeB_iff h).1 hh
 have d1:Int.tdiv h.f1 2=h.f1 / 2:=Int.tdiv_eq_ediv_of_nonneg (by omega)
 have d2:Int.tdiv (h.f2+1) 2=(h.f2+1) / 2:=Int.tdiv_eq_ediv_of_nonneg (by omega)
 have m1:Int.tmod h.f1 2=h.f1 % 2:=Int.tmod_eq_emod_of_nonneg (by omega)
 have m2:Int.tmod h.f2 2=h.f2 % 2:=Int.tmod_eq_emod_of_nonneg (by omega)
 have w1:wrap64 (h.f1 / 2)=h.f1 / 2:=w_id (by omega) (by omega)
 have w2:wrap64 (h.f2+1)=h.f2+1:=w_id (by omega) (by omega)
 have w3:wrap64 ((h.f2+1) / 2)=(h.f2+1) / 2:=w_id (by omega) (by omega)
 have w4:wrap64 ((h.f2+1) / 2 - h.f1 / 2)=(h.f2+1) / 2 - h.f1 / 2:=w_id (by omega) (by omega)
 have jF:Ev (fun k=>spec_laNote.j0 k true l r h.f0 h.f1 h.f2) (0,0,0,false):=by refine Ev.fuel ?_; simp only [spec_laNote.j0,↓reduceIte]; exact Ev.now _
 have bad:noteOk l h=false->noteR l h=(0,0,0,false):=fun e=>by unfold noteR; rw [e]; rfl
 unfold spec_laNote.f
 by_cases c1:h.f0 >= (l.length:Int)
 ·rw [bad (by cases e:noteOk l h with | false=>rfl | true=>have:=((noteOk_iff l h).1 e).1.1; omega)]
  simp only [c1,↓reduceIte]; exact jF
 ·have c1':h.f0 < (l.length:Int):=by omega
  by_cases c2:h.f1 % 2=0
  ·by_cases c3:h.f2 % 2=1
   ·simp only [c1,m1,c2,m2,c3,↓reduceIte,bne_self_eq_false]
    refine Ev.fuel ?_
    have eN:=ntNote_eq (noteH l h)
    simp only [noteH] at eN
    simp only [spec_laNote.j0,Bool.false_eq_true,↓reduceIte,b.1,c1',d1,w2,d2,w1,w3,w4,eN,Option.bind_some]
    unfold noteR noteOk
    simp only [c1',c2,c3,and_self,decide_true,Bool.true_and,noteH]
    split <;> exact Ev.now _
   ·rw [bad (by cases e:noteOk l h with | false=>rfl | true=>have:=((noteOk_iff l h).1 e).1.2.2; omega)]
    have:(h.f2 % 2 != 1)=true:=by simp; omega
    simp only [c1,m1,c2,m2,this,↓reduceIte]; exact jF
  ·rw [bad (by cases e:noteOk l h with | false=>rfl | true=>have:=((noteOk_iff l h).1 e).1.2.1; omega)]
   simp only [c1,m1,c2,↓reduceIte]; exact jF
def readRes (l:List Int) (s:List S40):List S36 × Bool:=if s.all (noteOk l)=true then scoreRes (s.map (noteH l)) else ([],false)
theorem laNotes_l0 (l:List Int) (r:Int) (s:List S40) (hs:s.length<=60) (hn:∀ x∈s,holeB x=true):∀ (suf pre:List S40),pre ++ suf=s ->
  Ev (fun k=>spec_laNotes.l0 k (pre.map (noteH l)) s s.length pre.length l r) (if suf.all (noteOk l)=true then scoreRes (s.map (noteH l)) else ([],false)) /\
  Ev (fun k=>impl_readBack.l0 k (pre.map (noteH l)) s s.length pre.length l r) (if suf.all (noteOk l)=true then scoreRes (s.map (noteH l)) else ([],false)):=by
 intro suf
 induction suf with
 | nil =>
  intro pre h
  have hc:¬ ((pre.length:Int) < (s.length:Int)):=by rw [<- h]; simp
  have e:pre=s:=by rw [<- h]; simp
  have hz:(s.map (noteH l)).length<=1048576:=by simp; omega
  refine ⟨Ev.fuel ?_,Ev.fuel ?_⟩
  ·simp only [spec_laNotes.l0,hc,↓reduceIte,List.all_nil]
   rw [e]
   exact Ev.bind (ntSorted_ev _ hz) (Ev.now _)
  ·simp only [impl_readBack.l0,hc,↓reduceIte,List.all_nil]
   rw [e]
   simp only [sortedNotes_eq _ hz,Option.bind_some]
   exact Ev.bind (scoreOf_ev _ hz) (Ev.now _)
 | cons x suf ih =>
  intro pre h
  have hlen:s.length=pre.length+(suf.length+1):=by rw [<- h]; simp
  have c1:(pre.length:Int) < (s.length:Int):=by omega
  have c2:(0:Int)<=(pre.length:Int):=by omega
  have c3:rd_T40 s (pre.length:Int)=x:=by rw [<- h]; exact getD_mid _ _ _ _
  have q1:(pre.map (noteH l)).length < 5864062014805:=by simp; omega
  have et:=laNoteR_ev l r x (hn x (by rw [<- h]; simp))
  by_cases ht:noteOk l x=true
  ·obtain ⟨e1,e2⟩:=ih (pre ++ [x]) (by rw [<- h]; simp)
   have ea:(x :: suf).all (noteOk l)=suf.all (noteOk l):=by simp [ht]
   have em:(pre ++ [x]).map (noteH l)=pre.map (noteH l) ++ [noteH l x]:=by simp
   have ec:((pre ++ [x]).length:Int)=((pre.length+1:Nat):Int):=by simp
   rw [ec,em] at e1 e2
   have er:noteR l x=((noteH l x).f0,(noteH l x).f1,(noteH l x).f2,true):=by unfold noteR; rw [if_pos ht]
   rw [er] at et
   rw [ea]
   refine ⟨Ev.fuel ?_,Ev.fuel ?_⟩
   ·simp only [spec_laNotes.l0,c1,c2,c3,q1,↓reduceIte,wn pre.length (by omega)]
    refine Ev.bind et ?_
    simp only [↓reduceIte]
    exact e1
   ·simp only [impl_readBack.l0,c1,c2,c3,q1,↓reduceIte,wn pre.length (by omega),laNote_same]
    refine Ev.bind et ?_
    simp only [↓reduceIte]
    exact e2
  ·have ea:(x :: suf).all (noteOk l)=false:=by simp [ht]
   have er:noteR l x=(0,0,0,false):=by unfold noteR; rw [if_neg ht]
   rw [er] at et
   rw [ea]
   refine ⟨Ev.fuel ?_,Ev.fuel ?_⟩
   ·simp only [spec_laNotes.l0,c1,c2,c3,q1,↓reduceIte,wn pre.length (by omega),Bool.false_eq_true]
    refine Ev.bind et ?_
    simp only [Bool.false_eq_true,↓reduceIte]; exact Ev.now _
   ·simp only [impl_readBack.l0,c1,c2,c3,q1,↓reduceIte,wn pre.length (by omega),laNote_same,Bool.false_eq_true]
    refine Ev.bind et ?_
    simp only [Bool.false_eq_true,↓reduceIte]; exact Ev.now _
theorem hole_back {l:List Int} {h:S40} (hp:l.Pairwise (· < ·)) (hh:holeB h=true) (ho:noteOk l h=true):holeOf l (noteH l h)=(h.f0,h.f1,h.f2,true):=by
 have b:=(holeB_iff h).1 hh
 obtain ⟨⟨c1,c2,c3⟩,c4⟩:=(noteOk_iff l h).1 ho
 have i1:idxFrom (rd l h.f0) l 0=h.f0:=by
  have:=idx_at l 0 h.f0.toNat hp (by omega)
  unfold rd
  rw [this]
  omega
 have e1:2 * (h.f1 / 2)=h.f1:=by omega
 have e2:2 * (h.f1 / 2+((h.f2+1) / 2 - h.f1 / 2)) - 1=h.f2:=by omega
 unfold holeOf noteH
 simp only [i1,e1,e2]
 have:holeB ⟨h.f0,h.f1,h.f2⟩=true:=hh
 rw [if_pos this]
theorem read_rising {l:List Int} {s:List S40} (hp:l.Pairwise (· < ·)) (hs:goodSheet s=true) (ho:s.all (noteOk l)=true):SA.Rising SNote.ltB (s.map (noteH l)):=by
 have hr:=((goodSheet_iff s).1 hs).2.1
 have hall:=goodSheet_all hs
 unfold SA.Rising
 rw [List.pairwise_map]
 refine List.Pairwise.imp_of_mem (R:=fun a b=>SHole.ltB a b=true) ?_ hr
 intro x y hx hy hxy
 have bx:=(holeB_iff x).1 (hall x hx)
 have by_:=(holeB_iff y).1 (hall y hy)
 have ox:=((noteOk_iff l x).1 (List.all_eq_true.1 ho x hx)).1
 have oy:=((noteOk_iff l y).1 (List.all_eq_true.1 ho y hy)).1
 rw [ltB_iff] at hxy
 rw [nltB_iff]
 simp only [noteH]
 rcases hxy with h | ⟨h1,h2⟩
 ·left; omega
 ·right
  refine ⟨by rw [h1],?_⟩
  unfold rd
  exact get_lt l x.f0.toNat y.f0.toNat hp (by omega) (by omega)
theorem read_lay {l:List Int} {s:List S40} (hp:l.Pairwise (· < ·)) (hs:goodSheet s=true) (ho:s.all (noteOk l)=true):(s.map (noteH l)).map (layH l)=s/\layAll l (s.map (noteH l))=true:=by
 have hall:=goodSheet_all hs
 constructor
 ·rw [List.map_map]
  have:∀ x∈s,(layH l ∘ noteH l) x=x:=by
   intro x hx
   simp only [Function.comp,layH,hole_back hp (hall x hx) (List.all_eq_true.1 ho x hx)]
  conv=>rhs; rw [<- List.map_id s]
  exact List.map_congr_left this
 ·unfold layAll
  rw [List.all_map,List.all_eq_true]
  intro x hx
  simp only [Function.comp,hole_back hp (hall x hx) (List.all_eq_true.1 ho x hx)]
theorem eqSheet_l0 (s:List S40) (hs:s.length<=1048576):∀ (suf pre:List S40),pre ++ suf=s->Ev (fun k=>impl_Hole_66.l0 k s s s.length pre.length) true:=by
 intro suf
 induction suf with
 | nil =>
  intro pre h
  have hc:¬ ((pre.length:Int) < (s.length:Int)):=by rw [<- h]; simp
  refine Ev.fuel ?_
  simp only [impl_Hole_66.l0,hc,↓reduceIte]; exact Ev.now _
 | cons x suf ih =>
  intro pre h
  have hlen:s.length=pre.length+(suf.length+1):=by rw [<- h]; simp
  have c1:(pre.length:Int) < (s.length:Int):=by omega
  have c2:(0:Int)<=(pre.length:Int):=by omega
  have e:=ih (pre ++ [x]) (by rw [<- h]; simp)
  have ec:((pre ++ [x]).length:Int)=((pre.length+1:Nat):Int):=by simp
  rw [ec] at e
  refine Ev.fuel ?_
  simp only [impl_Hole_66.l0,c1,c2,↓reduceIte,beq_self_eq_true,Bool.not_true,Bool.or_self,Bool.false_eq_true,wn pre.length (by omega)]
  exact e
theorem implIs_bad (l:List Int) (r:Int) (s:List S40):Ev (fun k=>impl_IsLayOut.j0 k s true l r) (false,false):=by
 refine Ev.fuel ?_
 simp only [impl_IsLayOut.j0,↓reduceIte]; exact Ev.now _
theorem isLaw_ev (l:List Int) (r:Int) (s:List S40) (hl:l.length<=1048576) (hs:s.length<=1048576):∃ r0 r1,Ev (fun k=>spec_IsLayOut.f k l r s) (r0,r1)/\Ev (fun k=>impl_IsLayOut.f k l r s) (r0,r1):=by
 unfold spec_IsLayOut.f impl_IsLayOut.f
 have ea:=laAsked_ev l r s hl hs
 have e1:=IsInstrument_ev l r hl
 have e2:=IsSheet_ev s hs
 by_cases h1:goodIns l r=true
 ·by_cases h2:goodSheet s=true
  ·simp only [h1,h2,Bool.true_and] at ea e1 e2
   have hp:=(ris_pair 24 96 l none ((goodIns_iff l r).1 h1).2.1).1
   obtain ⟨c1,c2⟩:=laNotes_l0 l r s (goodSheet_len h2) (goodSheet_all h2) s [] rfl
   have rs:Ev (fun k=>spec_laNotes.f k l r s) (if s.all (noteOk l)=true then scoreRes (s.map (noteH l)) else ([],false)):=c1
   have ri:Ev (fun k=>impl_readBack.f k l r s) (if s.all (noteOk l)=true then scoreRes (s.map (noteH l)) else ([],false)):=c2
   have fin:∀ (b:Bool) {R:List S36 × Bool},Ev (fun k=>spec_laNotes.f k l r s) R->Ev (fun k=>impl_readBack.f k l r s) R->R.2=false->∃ r0 r1,Ev (fun k=>(spec_laAsked.f k l r s).bind fun t=>(if t=true then ((spec_laNotes.f k l r s).bind fun bt=>(if bt.2=true then ((spec_inPlays.f k l r bt.1).bind fun t285=>(some (t285,true))) else (some (false,true)))) else (some (false,false)))) (r0,r1) /\
     Ev (fun k=>(impl_IsInstrument.f k l r).bind fun t=>(if t=true then ((impl_IsSheet.f k s).bind fun t=>(impl_IsLayOut.j0 k s (!t) l r)) else (impl_IsLayOut.j0 k s true l r))) (r0,r1):=by
    intro b R hR1 hR2 hR
    refine ⟨false,true,?_,?_⟩
    ·refine Ev.bind ea ?_
     simp only [↓reduceIte]
     refine Ev.bind hR1 ?_
     simp only [hR,Bool.false_eq_true,↓reduceIte]; exact Ev.now _
    ·refine Ev.bind e1 ?_
     simp only [↓reduceIte]
     refine Ev.bind e2 ?_
     simp only [Bool.not_true]
     refine Ev.fuel ?_
     simp only [impl_IsLayOut.j0,Bool.false_eq_true,↓reduceIte]
     refine Ev.bind hR2 ?_
     simp only [hR,Bool.false_eq_true,↓reduceIte]; exact Ev.now _
   by_cases ho:s.all (noteOk l)=true
   ·simp only [ho,↓reduceIte] at rs ri
    have hris:=read_rising hp h2 ho
    have hsort:=nisort_rising _ hris
    by_cases hg:goodScore (s.map (noteH l))=true
    ·have eR:scoreRes (s.map (noteH l))=(s.map (noteH l),true):=by unfold scoreRes; rw [hsort,if_pos hg]
     rw [eR] at rs ri
     obtain ⟨b1,b2⟩:=read_lay hp h2 ho
     have hn:=goodScore_all hg
     have h30:=goodScore_len hg
     have eL:layRes l r (s.map (noteH l))=if playsB l r (s.map (noteH l))=true then (s,true) else ([],false):=by
      unfold layRes
      rw [b2,b1]
      unfold sheetRes
      rw [isort_rising _ ((goodSheet_iff s).1 h2).2.1,if_pos h2]
      simp
     refine ⟨playsB l r (s.map (noteH l)),true,?_,?_⟩
     ·refine Ev.bind ea ?_
      simp only [↓reduceIte]
      refine Ev.bind rs ?_
      simp only [↓reduceIte]
      exact Ev.bind (inPlays_ev l r _ hl (by omega) hn) (Ev.now _)
     ·refine Ev.bind e1 ?_
      simp only [↓reduceIte]
      refine Ev.bind e2 ?_
      simp only [Bool.not_true]
      refine Ev.fuel ?_
      simp only [impl_IsLayOut.j0,Bool.false_eq_true,↓reduceIte]
      refine Ev.bind ri ?_
      simp only [↓reduceIte]
      have elay:=layOut_ev l r (s.map (noteH l)) hl (by omega) hn
      rw [eL] at elay
      by_cases hpl:playsB l r (s.map (noteH l))=true
      ·simp only [hpl,↓reduceIte] at elay ⊢
       refine Ev.bind elay ?_
       simp only [↓reduceIte]
       unfold impl_Hole_66.f
       simp only [↓reduceIte]
       exact Ev.bind (eqSheet_l0 s hs s [] rfl) (Ev.now _)
      ·simp only [hpl,Bool.false_eq_true,↓reduceIte] at elay ⊢
       refine Ev.bind elay ?_
       simp only [Bool.false_eq_true,↓reduceIte]
       exact Ev.now _
    ·have eR:scoreRes (s.map (noteH l))=([],false):=by unfold scoreRes; rw [hsort,if_neg hg]
     rw [eR] at rs ri
     exact fin true rs ri rfl
   ·simp only [ho,Bool.false_eq_true,↓reduceIte] at rs ri
    exact fin true rs ri rfl
  ·simp only [h1,Bool.eq_false_iff.mpr h2,Bool.true_and] at ea e1 e2
   refine ⟨false,false,?_,?_⟩
   ·refine Ev.bind ea ?_
    simp only [Bool.false_eq_true,↓reduceIte]; exact Ev.now _
   ·refine Ev.bind e1 ?_
    simp only [↓reduceIte]
    refine Ev.bind e2 ?_
    simp only [Bool.not_false]
    exact implIs_bad l r s
 ·simp only [Bool.eq_false_iff.mpr h1,Bool.false_and] at ea e1
  refine ⟨false,false,?_,?_⟩
  ·refine Ev.bind ea ?_
   simp only [Bool.false_eq_true,↓reduceIte]; exact Ev.now _
  ·refine Ev.bind e1 ?_
   simp only [Bool.false_eq_true,↓reduceIte]
   exact implIs_bad l r s
end Go.Proofs.YtgjpphcbdbfhlaaGreat.L
end
section
/- Plain facts on drawn numbers. No condition. -/
set_option linter.unusedVariables false
set_option linter.unusedSimpArgs false
namespace Go.Proofs.YtgjpphcbdbfhlaaGreat.L
open Go.RowKit Go.Proofs.YtgjpphcbdbfhlaaGreatW.PrintWords Go.Proofs.YtgjpphcbdbfhlaaGreatW.PrintLast Go.Proofs.YtgjpphcbdbfhlaaGreatW.PrintMore

theorem bits255 (x:Int):0<=bits .and .u64 x 255/\bits .and .u64 x 255<=255:=by
 unfold bits
 have h2:(BitVec.ofInt (IntKind.bits .u64) x &&& BitVec.ofInt (IntKind.bits .u64) 255).toNat<=255:=by
  rw [BitVec.toNat_and]
  refine Nat.le_trans Nat.and_le_right ?_
  rw [BitVec.toNat_ofInt]
  decide
 simp only
 generalize (BitVec.ofInt (IntKind.bits .u64) x &&& BitVec.ofInt (IntKind.bits .u64) 255).toNat=n at h2 ⊢
 have h3:IntKind.u64.wrap (n:Int)=(n:Int):=by
  simp [IntKind.wrap,IntKind.bits,IntKind.signed]
  omega
 show 0<=IntKind.u64.wrap (n:Int)/\IntKind.u64.wrap (n:Int)<=255
 rw [h3]
 omega
def Bytes (c:List Int):Prop:=c.length<=9223372036854775807/\∀ x∈c,0<=x/\x<=255
theorem next_at {c:List Int} (hc:Bytes c) (a s:Int) (h0:0<=a) (h1:a<=1000000000000):∃ r s',spec_l1Cur_next.f c a s=some (r,a+1,s')/\0<=r/\r<=255:=by
 have hw:wrap64 (a+1)=a+1:=w_id (by omega) (by omega)
 have hb:∀ x:Int,wrap64 (bits .and .u64 x 255)=bits .and .u64 x 255:=fun x=>by have:=bits255 x; exact w_id (by omega) (by omega)
 unfold spec_l1Cur_next.f
 simp only [hw,hb]
 by_cases g:a < (c.length:Int)
 ·simp only [g,h0,↓reduceIte,show a+1<=(c.length:Int) from by omega]
  have hr:0<=rd c a/\rd c a<=255:=by
   unfold rd
   rw [List.getD_eq_getElem?_getD,List.getElem?_eq_getElem (by omega)]
   exact hc.2 _ (List.getElem_mem _)
  rw [w_id (x:=rd c a) (by omega) (by omega)]
  exact ⟨_,_,rfl,hr⟩
 ·simp only [g,↓reduceIte,show ¬ (a+1<=(c.length:Int)) from by omega]
  exact ⟨_,_,rfl,bits255 _⟩
theorem pick_at {c:List Int} (hc:Bytes c) (a s n:Int) (h0:0<=a) (h1:a<=100000000000) (hn:n<=100000):∃ r a' s',spec_l1Cur_pick.f c a s n=some (r,a',s')/\a<=a'/\a'<=a+2/\0<=r/\(1<=n->r < n):=by
 unfold spec_l1Cur_pick.f
 by_cases g:n<=1
 ·simp only [g,↓reduceIte]
  exact ⟨0,a,s,rfl,by omega,by omega,by omega,by omega⟩
 ·obtain ⟨x,s1,e1,x0,x1⟩:=next_at hc a s h0 (by omega)
  simp only [g,↓reduceIte,e1,Option.bind_some]
  by_cases g2:n > 200
  ·obtain ⟨y,s2,e2,y0,y1⟩:=next_at hc (a+1) s1 (by omega) (by omega)
   simp only [g2,↓reduceIte,e2,Option.bind_some,show ¬ n=0 from by omega]
   rw [w_id (x:=x * 256) (by omega) (by omega),w_id (x:=x * 256+y) (by omega) (by omega)]
   exact ⟨_,_,_,rfl,by omega,by omega,Int.tmod_nonneg _ (by omega),fun _=>Int.tmod_lt_of_pos _ (by omega)⟩
  ·simp only [g2,↓reduceIte,show ¬ n=0 from by omega]
   exact ⟨_,_,_,rfl,by omega,by omega,Int.tmod_nonneg _ (by omega),fun _=>Int.tmod_lt_of_pos _ (by omega)⟩
theorem one_at {c:List Int} (hc:Bytes c) (a s n:Int) (h0:0<=a) (h1:a<=100000000000) (hn:n<=100000):∃ b a' s',spec_l1Cur_one.f c a s n=some (b,a',s')/\a<=a'/\a'<=a+2:=by
 obtain ⟨r,a',s',e,h2,h3,_⟩:=pick_at hc a s n h0 h1 hn
 unfold spec_l1Cur_one.f
 simp only [e,Option.bind_some]
 exact ⟨_,_,_,rfl,h2,h3⟩
theorem among_at {c:List Int} (hc:Bytes c) (a s:Int) (l:List Int) (h0:0<=a) (h1:a<=100000000000) (hl:1<=l.length) (hl2:l.length<=1000):∃ r a' s',spec_l1Cur_among.f c a s l=some (r,a',s')/\a<=a'/\a'<=a+2/\r∈l:=by
 obtain ⟨r,a',s',e,h2,h3,h4,h5⟩:=pick_at hc a s l.length h0 h1 (by omega)
 have h5:=h5 (by omega)
 unfold spec_l1Cur_among.f
 simp only [e,Option.bind_some,h4,h5,↓reduceIte]
 refine ⟨_,_,_,rfl,h2,h3,?_⟩
 unfold rd
 rw [List.getD_eq_getElem?_getD,List.getElem?_eq_getElem (by omega)]
 exact List.getElem_mem _
end Go.Proofs.YtgjpphcbdbfhlaaGreat.L
end
section
/- Plain facts on drawn instruments and scores. No condition. -/
set_option linter.unusedVariables false
set_option linter.unusedSimpArgs false
namespace Go.Proofs.YtgjpphcbdbfhlaaGreat.L
open Go.RowKit Go.Proofs.YtgjpphcbdbfhlaaGreatW.PrintWords Go.Proofs.YtgjpphcbdbfhlaaGreatW.PrintLast Go.Proofs.YtgjpphcbdbfhlaaGreatW.PrintMore

theorem Ev.uniq {α:Type} {g:Nat->Option α} {a b:α} (h:Ev g a) (k:Ev g b):a=b:=by
 obtain ⟨K,h⟩:=h
 obtain ⟨J,k⟩:=k
 have h1:=h (max K J) (by omega)
 have h2:=k (max K J) (by omega)
 rw [h1] at h2
 injection h2
theorem Ev.ifT {α:Type} {C:Prop} [Decidable C] {a:α} (h:C):Ev (fun _=>if C then some a else none) a:=by simp only [h,↓reduceIte]; exact Ev.now _
theorem insPut_l0 (l:List Int) (v:Int) (hl:l.length<=1000):∀ (m i:Nat),i+m=l.length->∃ r:List Int,Ev (fun k=>spec_l1Put.l0 k l v i) r/\1<=r.length/\r.length<=l.length+1:=by
 have fin:∀ i:Nat,i<=l.length->(l.take i ++ [v] ++ l.drop i).length=l.length+1:=by
  intro i hi
  simp
  omega
 intro m
 induction m with
 | zero =>
  intro i h
  have hi:i=l.length:=by omega
  subst hi
  refine ⟨l.take l.length ++ [v] ++ l.drop l.length,Ev.fuel ?_,by rw [fin _ (Nat.le_refl _)]; omega,by rw [fin _ (Nat.le_refl _)]; omega⟩
  simp only [spec_l1Put.l0,Int.lt_irrefl,↓reduceIte,Option.bind_some,show (0:Int)<=(l.length:Int) from by omega,Int.le_refl,Int.toNat_natCast,List.length_nil,List.nil_append,List.length_append,List.length_cons,List.length_take,List.length_drop,
   show (0+min l.length l.length < 17592186044416)=True from eq_true (by omega),show (min l.length l.length < 17592186044416)=True from eq_true (by omega),show (min l.length l.length+(0+1)+(l.length - l.length) < 17592186044416)=True from eq_true (by omega)]
  exact Ev.ifT (by omega)
 | succ m ih =>
  intro i h
  have c1:(i:Int) < (l.length:Int):=by omega
  have c2:(0:Int)<=(i:Int):=by omega
  by_cases g:rd l (i:Int) < v
  ·obtain ⟨r,hr,q⟩:=ih (i+1) (by omega)
   refine ⟨r,Ev.fuel ?_,q⟩
   simp only [spec_l1Put.l0,c1,c2,g,↓reduceIte,wn i (by omega)]
   exact hr
  ·by_cases g2:rd l (i:Int)=v
   ·refine ⟨l,Ev.fuel ?_,by omega,by omega⟩
    simp only [spec_l1Put.l0,c1,c2,g,g2,Int.lt_irrefl,↓reduceIte]
    exact Ev.now _
   ·refine ⟨l.take i ++ [v] ++ l.drop i,Ev.fuel ?_,by rw [fin _ (by omega)]; omega,by rw [fin _ (by omega)]; omega⟩
    simp only [spec_l1Put.l0,c1,c2,g,g2,↓reduceIte,Option.bind_some,show (i:Int)<=(l.length:Int) from by omega,Int.toNat_natCast,List.length_nil,List.nil_append,List.length_append,List.length_cons,List.length_take,List.length_drop,
     show (0+min i l.length < 17592186044416)=True from eq_true (by omega),show (min i l.length < 17592186044416)=True from eq_true (by omega),show (min i l.length+(0+1)+(l.length - i) < 17592186044416)=True from eq_true (by omega)]
    exact Ev.ifT (by omega)
theorem insPut_ev (l:List Int) (v:Int) (hl:l.length<=1000):∃ r:List Int,Ev (fun k=>spec_l1Put.f k l v) r/\1<=r.length/\r.length<=l.length+1:=insPut_l0 l v hl l.length 0 (by omega)
theorem ins_l1 (c:List Int) (a s rep:Int):∀ (m:Nat) (l:List Int),20<=l.length+m->l.length<=20->∃ r:List Int,Ev (fun k=>spec_l1Cur_instrument.l1 k c a s l rep) (r,rep,a,s)/\1<=r.length/\r.length<=20:=by
 intro m
 induction m with
 | zero =>
  intro l h h2
  refine ⟨l,Ev.fuel ?_,by omega,h2⟩
  simp only [spec_l1Cur_instrument.l1,show ¬ ((l.length:Int) < 20) from by omega,↓reduceIte]
  exact Ev.now _
 | succ m ih =>
  intro l h h2
  by_cases g:(l.length:Int) < 20
  ·obtain ⟨r,hr,q⟩:=ih (l ++ [wrap64 (48+(l.length:Int))]) (by simp; omega) (by simp; omega)
   refine ⟨r,Ev.fuel ?_,q⟩
   simp only [spec_l1Cur_instrument.l1,g,↓reduceIte,show l.length < 17592186044416 from by omega]
   exact hr
  ·refine ⟨l,Ev.fuel ?_,by omega,h2⟩
   simp only [spec_l1Cur_instrument.l1,g,↓reduceIte]
   exact Ev.now _
def InsOk (r:List Int) (a' lo hi:Int):Prop:=lo<=a'/\a'<=hi/\1<=r.length/\r.length<=60
theorem ins_j3 {c:List Int} (hc:Bytes c) (a s rep:Int) (l:List Int) (h0:0<=a) (h1:a<=1000000) (hl:1<=l.length/\l.length<=60):∃ r a' s',Ev (fun k=>spec_l1Cur_instrument.j3 k c a s l rep) (r,rep,a',s')/\InsOk r a' a (a+2):=by
 obtain ⟨b,a1,s1,e1,b1,c1⟩:=one_at hc a s 20 h0 (by omega) (by omega)
 cases b with
 | true =>
  obtain ⟨r,hr,q1,q2⟩:=ins_l1 c a1 s1 rep 20 [] (by simp) (by simp)
  refine ⟨r,a1,s1,Ev.fuel ?_,by omega,by omega,q1,by omega⟩
  simp only [spec_l1Cur_instrument.j3,e1,Option.bind_some,↓reduceIte]
  exact hr
 | false =>
  refine ⟨l,a1,s1,Ev.fuel ?_,by omega,by omega,hl.1,hl.2⟩
  simp only [spec_l1Cur_instrument.j3,e1,Option.bind_some,Bool.false_eq_true,↓reduceIte]
  exact Ev.now _
theorem ins_j2 {c:List Int} (hc:Bytes c) (a s rep:Int) (l:List Int) (h0:0<=a) (h1:a<=100000) (hl:1<=l.length/\l.length<=60):∃ r a' s',Ev (fun k=>spec_l1Cur_instrument.j2 k c a s l rep) (r,rep,a',s')/\InsOk r a' a (a+4):=by
 obtain ⟨b,a1,s1,e1,b1,c1⟩:=one_at hc a s 12 h0 (by omega) (by omega)
 cases b with
 | true =>
  obtain ⟨r,a2,s2,hr,q1,q2,q3,q4⟩:=ins_j3 hc a1 s1 rep [60] (by omega) (by omega) (by simp)
  refine ⟨r,a2,s2,Ev.fuel ?_,by omega,by omega,q3,q4⟩
  simp only [spec_l1Cur_instrument.j2,e1,Option.bind_some,↓reduceIte]
  exact hr
 | false =>
  obtain ⟨r,a2,s2,hr,q1,q2,q3,q4⟩:=ins_j3 hc a1 s1 rep l (by omega) (by omega) hl
  refine ⟨r,a2,s2,Ev.fuel ?_,by omega,by omega,q3,q4⟩
  simp only [spec_l1Cur_instrument.j2,e1,Option.bind_some,Bool.false_eq_true,↓reduceIte]
  exact hr
theorem ins_j1 {c:List Int} (hc:Bytes c) (b:Bool) (a s rep:Int) (l:List Int) (h0:0<=a) (h1:a<=10000) (hl:l.length<=50) (hb:b=false->1<=l.length):∃ r a' s',Ev (fun k=>spec_l1Cur_instrument.j1 k b c a s l rep) (r,rep,a',s')/\InsOk r a' a (a+8):=by
 cases b with
 | true =>
  obtain ⟨v,a1,s1,e1,b1,c1,_⟩:=pick_at hc a s 73 h0 (by omega) (by omega)
  obtain ⟨v2,a2,s2,e2,b2,c2,_⟩:=among_at hc a1 s1 [24,96,wrap64 (24+v)] (by omega) (by omega) (by simp) (by simp)
  obtain ⟨p,hp,p1,p2⟩:=insPut_ev l v2 (by omega)
  obtain ⟨r,a3,s3,hr,q1,q2,q3,q4⟩:=ins_j2 hc a2 s2 rep p (by omega) (by omega) ⟨p1,by omega⟩
  refine ⟨r,a3,s3,Ev.fuel ?_,by omega,by omega,q3,q4⟩
  simp only [spec_l1Cur_instrument.j1,e1,e2,Option.bind_some,↓reduceIte]
  exact Ev.bind hp hr
 | false =>
  obtain ⟨r,a3,s3,hr,q1,q2,q3,q4⟩:=ins_j2 hc a s rep l (by omega) (by omega) ⟨hb rfl,by omega⟩
  refine ⟨r,a3,s3,Ev.fuel ?_,by omega,by omega,q3,q4⟩
  simp only [spec_l1Cur_instrument.j1,Bool.false_eq_true,↓reduceIte]
  exact hr
theorem ins_l0 {c:List Int} (hc:Bytes c) (y:List Int) (hy:y.length=15) (rep:Int):∀ (m i:Nat) (a s:Int) (l:List Int),i+m=15->0<=a->a<=100+2 * i->l.length<=i->∃ r a' s',Ev (fun k=>spec_l1Cur_instrument.l0 k y (y.length:Int) i c a s l rep) (r,rep,a',s')/\InsOk r a' 0 300:=by
 intro m
 induction m with
 | zero =>
  intro i a s l h h0 h1 h2
  obtain ⟨b,a1,s1,e1,b1,c1⟩:=one_at hc a s 4 h0 (by omega) (by omega)
  cases b with
  | true =>
   obtain ⟨r,a2,s2,hr,q1,q2,q3,q4⟩:=ins_j1 hc true a1 s1 rep l (by omega) (by omega) (by omega) (by simp)
   refine ⟨r,a2,s2,Ev.fuel ?_,by omega,by omega,q3,q4⟩
   simp only [spec_l1Cur_instrument.l0,show ¬ ((i:Int) < (y.length:Int)) from by omega,e1,Option.bind_some,↓reduceIte]
   exact hr
  | false =>
   obtain ⟨r,a2,s2,hr,q1,q2,q3,q4⟩:=ins_j1 hc ((l.length:Int) == 0) a1 s1 rep l (by omega) (by omega) (by omega) (by simp; intro h3; cases l with | nil=>simp at h3 | cons x xs=>simp)
   refine ⟨r,a2,s2,Ev.fuel ?_,by omega,by omega,q3,q4⟩
   simp only [spec_l1Cur_instrument.l0,show ¬ ((i:Int) < (y.length:Int)) from by omega,e1,Option.bind_some,Bool.false_eq_true,↓reduceIte]
   exact hr
 | succ m ih =>
  intro i a s l h h0 h1 h2
  obtain ⟨b,a1,s1,e1,b1,c1⟩:=one_at hc a s 4 h0 (by omega) (by omega)
  cases b with
  | true =>
   obtain ⟨r,a2,s2,hr,q⟩:=ih (i+1) a1 s1 l (by omega) (by omega) (by omega) (by omega)
   refine ⟨r,a2,s2,Ev.fuel ?_,q⟩
   simp only [spec_l1Cur_instrument.l0,show (i:Int) < (y.length:Int) from by omega,show (0:Int)<=(i:Int) from by omega,e1,Option.bind_some,↓reduceIte,wn i (by omega)]
   exact hr
  | false =>
   obtain ⟨r,a2,s2,hr,q⟩:=ih (i+1) a1 s1 (l ++ [rd y i]) (by omega) (by omega) (by omega) (by simp; omega)
   refine ⟨r,a2,s2,Ev.fuel ?_,q⟩
   simp only [spec_l1Cur_instrument.l0,show (i:Int) < (y.length:Int) from by omega,show (0:Int)<=(i:Int) from by omega,e1,Option.bind_some,Bool.false_eq_true,↓reduceIte,wn i (by omega),show l.length < 17592186044416 from by omega]
   exact hr
theorem instrument_ev {c:List Int} (hc:Bytes c):∃ r rep a' s',Ev (fun k=>spec_l1Cur_instrument.f k c 0 0) (r,rep,a',s')/\InsOk r a' 0 300:=by
 obtain ⟨v,a1,s1,e1,b1,c1,_⟩:=among_at hc 0 0 [1,1,2,3,4,8,20] (by omega) (by omega) (by simp) (by simp)
 obtain ⟨r,a2,s2,hr,q⟩:=ins_l0 hc [48,50,52,53,55,57,59,60,62,64,65,67,69,71,72] rfl v 15 0 a1 s1 [] (by omega) (by omega) (by omega) (by simp)
 refine ⟨r,v,a2,s2,?_,q⟩
 unfold spec_l1Cur_instrument.f
 simp only [e1,Option.bind_some]
 exact hr
theorem anyIns_l0 (c:List Int) (a s rep:Int):∀ (m:Nat) (l:List Int),21<=l.length+m->l.length<=21->∃ r:List Int,Ev (fun k=>spec_l1Cur_anyInstrument.l0 k c a s l rep) (r,rep,a,s)/\r.length<=60:=by
 intro m
 induction m with
 | zero =>
  intro l h h2
  refine ⟨l,Ev.fuel ?_,by omega⟩
  simp only [spec_l1Cur_anyInstrument.l0,show ¬ ((l.length:Int) < 21) from by omega,↓reduceIte]
  exact Ev.now _
 | succ m ih =>
  intro l h h2
  by_cases g:(l.length:Int) < 21
  ·obtain ⟨r,hr,q⟩:=ih (l ++ [wrap64 (48+(l.length:Int))]) (by simp; omega) (by simp; omega)
   refine ⟨r,Ev.fuel ?_,q⟩
   simp only [spec_l1Cur_anyInstrument.l0,g,↓reduceIte,show l.length < 17592186044416 from by omega]
   exact hr
  ·refine ⟨l,Ev.fuel ?_,by omega⟩
   simp only [spec_l1Cur_anyInstrument.l0,g,↓reduceIte]
   exact Ev.now _
theorem anyInstrument_ev {c:List Int} (hc:Bytes c):∃ r rep a' s',Ev (fun k=>spec_l1Cur_anyInstrument.f k c 0 0) (r,rep,a',s')/\0<=a'/\a'<=1000/\r.length<=60:=by
 obtain ⟨p,rep,a,s,e0,q1,q2,q3,q4⟩:=instrument_ev hc
 obtain ⟨v,a1,s1,e1,b1,c1,_⟩:=pick_at hc a s 30 q1 (by omega) (by omega)
 by_cases g0:v=0
 ·obtain ⟨u,a2,s2,e2,b2,c2,_⟩:=among_at hc a1 s1 [0,21] (by omega) (by omega) (by simp) (by simp)
  refine ⟨p,u,a2,s2,?_,by omega,by omega,q4⟩
  unfold spec_l1Cur_anyInstrument.f
  refine Ev.bind e0 ?_
  simp only [e1,e2,g0,Option.bind_some,↓reduceIte]
  exact Ev.now _
 ·by_cases g1:v=1
  ·obtain ⟨i,a2,s2,e2,b2,c2,d2,f2⟩:=pick_at hc a1 s1 p.length (by omega) (by omega) (by omega)
   obtain ⟨u,a3,s3,e3,b3,c3,_⟩:=among_at hc a2 s2 [23,60,97] (by omega) (by omega) (by simp) (by simp)
   refine ⟨p.set i.toNat u,rep,a3,s3,?_,by omega,by omega,by rw [List.length_set]; exact q4⟩
   unfold spec_l1Cur_anyInstrument.f
   refine Ev.bind e0 ?_
   simp only [e1,e2,e3,g1,Option.bind_some,↓reduceIte,d2,f2 (by omega),show ¬ ((1:Int)=0) from by omega]
   exact Ev.now _
  ·by_cases g2:v=2
   ·refine ⟨[],rep,a1,s1,?_,by omega,by omega,by simp⟩
    unfold spec_l1Cur_anyInstrument.f
    refine Ev.bind e0 ?_
    simp only [e1,g2,Option.bind_some,↓reduceIte,show ¬ ((2:Int)=0) from by omega,show ¬ ((2:Int)=1) from by omega]
    exact Ev.now _
   ·by_cases g3:v=3
    ·obtain ⟨r,hr,q⟩:=anyIns_l0 c a1 s1 rep 21 [] (by simp) (by simp)
     refine ⟨r,rep,a1,s1,?_,by omega,by omega,q⟩
     unfold spec_l1Cur_anyInstrument.f
     refine Ev.bind e0 ?_
     simp only [e1,g3,Option.bind_some,↓reduceIte,show ¬ ((3:Int)=0) from by omega,show ¬ ((3:Int)=1) from by omega,show ¬ ((3:Int)=2) from by omega]
     exact hr
    ·refine ⟨p,rep,a1,s1,?_,by omega,by omega,q4⟩
     unfold spec_l1Cur_anyInstrument.f
     refine Ev.bind e0 ?_
     simp only [e1,g0,g1,g2,g3,Option.bind_some,↓reduceIte]
     exact Ev.now _
theorem note_at {c:List Int} (hc:Bytes c) (a s:Int) (h0:0<=a) (h1:a<=10000000000):∃ x y z a' s',spec_l1Cur_note.f c a s=some (x,y,z,a',s')/\a<=a'/\a'<=a+12:=by
 obtain ⟨r1,a1,s1,e1,b1,c1,_⟩:=pick_at hc a s 73 h0 (by omega) (by omega)
 obtain ⟨r2,a2,s2,e2,b2,c2,_⟩:=among_at hc a1 s1 [48,50,52,55,60,60,62,64,67,72,wrap64 (24+r1)] (by omega) (by omega) (by simp) (by simp)
 obtain ⟨r3,a3,s3,e3,b3,c3,_⟩:=pick_at hc a2 s2 40 (by omega) (by omega) (by omega)
 obtain ⟨r4,a4,s4,e4,b4,c4,_⟩:=pick_at hc a3 s3 40 (by omega) (by omega) (by omega)
 obtain ⟨r5,a5,s5,e5,b5,c5,_⟩:=among_at hc a4 s4 [0,2,4,8,r3,r4,999] (by omega) (by omega) (by simp) (by simp)
 obtain ⟨r6,a6,s6,e6,b6,c6,_⟩:=among_at hc a5 s5 [1,2,2,4,8,99] (by omega) (by omega) (by simp) (by simp)
 unfold spec_l1Cur_note.f
 simp only [e1,e2,e3,e4,e5,e6,Option.bind_some]
 exact ⟨_,_,_,_,_,rfl,by omega,by omega⟩
theorem scoreRes_30 {l:List S36} (h:(scoreRes l).2=true):(scoreRes l).1.length<=30:=goodScore_len (scoreRes_good l)
theorem score_l0 {c:List Int} (hc:Bytes c) (n:Int):∀ (m:Nat) (i a s:Int) (l:List S36),i+m=90->0<=i->0<=a->a<=2000+20 * i->l.length<=30->∃ r a' s',Ev (fun k=>spec_l1Cur_score.l0 k l n i c a s) (r,a',s')/\0<=a'/\a'<=10000/\r.length<=30:=by
 intro m
 induction m with
 | zero =>
  intro i a s l h hi h0 h1 hl
  refine ⟨l,a,s,Ev.fuel ?_,h0,by omega,hl⟩
  have e:∀ b:Bool,b=false->Ev (fun k=>spec_l1Cur_score.j2 k l n i b c a s) (l,a,s):=by
   intro b hb
   subst hb
   refine Ev.fuel ?_
   simp only [spec_l1Cur_score.j2,Bool.false_eq_true,↓reduceIte]
   exact Ev.now _
  simp only [spec_l1Cur_score.l0]
  split
  ·exact e _ (by simp; omega)
  ·exact e _ rfl
 | succ m ih =>
  intro i a s l h hi h0 h1 hl
  by_cases g:(l.length:Int) < n
  ·have key:∀ x y z a1 s1:Int,0<=a1->a1<=2000+20 * (i+1)->∃ r a' s',Ev (fun k=>(spec_ntSorted.f k (l ++ [(⟨x,y,z⟩:S36)])).bind fun bt=>(if bt.2=true then (spec_l1Cur_score.l0 k bt.1 n (wrap64 (i+1)) c a1 s1) else (spec_l1Cur_score.l0 k l n (wrap64 (i+1)) c a1 s1))) (r,a',s')/\0<=a'/\a'<=10000/\r.length<=30:=by
    intro x y z a1 s1 h2 h3
    have hs:=ntSorted_ev (l ++ [(⟨x,y,z⟩:S36)]) (by simp; omega)
    rw [w_id (x:=i+1) (by omega) (by omega)]
    cases hb:(scoreRes (l ++ [(⟨x,y,z⟩:S36)])).2 with
    | true =>
     obtain ⟨r,a',s',e,q⟩:=ih (i+1) a1 s1 (scoreRes (l ++ [(⟨x,y,z⟩:S36)])).1 (by omega) (by omega) h2 h3 (scoreRes_30 hb)
     refine ⟨r,a',s',Ev.bind hs ?_,q⟩
     simp only [hb,↓reduceIte]
     exact e
    | false =>
     obtain ⟨r,a',s',e,q⟩:=ih (i+1) a1 s1 l (by omega) (by omega) h2 h3 hl
     refine ⟨r,a',s',Ev.bind hs ?_,q⟩
     simp only [hb,Bool.false_eq_true,↓reduceIte]
     exact e
   obtain ⟨x,y,z,a1,s1,e1,b1,c1⟩:=note_at hc a s h0 (by omega)
   by_cases g2:n=30
   ·obtain ⟨v,a2,s2,e2,b2,c2,_⟩:=pick_at hc a1 s1 9 (by omega) (by omega) (by omega)
    obtain ⟨r,a',s',e,q⟩:=key (wrap64 (48+wrap64 (2 * Int.tmod (l.length:Int) 10))) (wrap64 (3 * (l.length:Int))) (wrap64 (1+v)) a2 s2 (by omega) (by omega)
    refine ⟨r,a',s',Ev.fuel ?_,q⟩
    simp only [spec_l1Cur_score.l0,g,show i < 90 from by omega,decide_true,↓reduceIte]
    refine Ev.fuel ?_
    simp only [spec_l1Cur_score.j2,↓reduceIte,e1,e2,Option.bind_some,if_pos g2,List.length_nil,List.nil_append,Nat.zero_add,List.length_cons,show (l.length < 5864062014805)=True from eq_true (by omega),show (l.length+1 < 5864062014805)=True from eq_true (by omega)]
    exact e
   ·obtain ⟨r,a',s',e,q⟩:=key x y z a1 s1 (by omega) (by omega)
    refine ⟨r,a',s',Ev.fuel ?_,q⟩
    simp only [spec_l1Cur_score.l0,g,show i < 90 from by omega,decide_true,↓reduceIte]
    refine Ev.fuel ?_
    simp only [spec_l1Cur_score.j2,↓reduceIte,e1,Option.bind_some,if_neg g2,List.length_nil,List.nil_append,Nat.zero_add,List.length_cons,show (l.length < 5864062014805)=True from eq_true (by omega),show (l.length+1 < 5864062014805)=True from eq_true (by omega)]
    exact e
  ·refine ⟨l,a,s,Ev.fuel ?_,h0,by omega,hl⟩
   simp only [spec_l1Cur_score.l0,g,↓reduceIte]
   refine Ev.fuel ?_
   simp only [spec_l1Cur_score.j2,Bool.false_eq_true,↓reduceIte]
   exact Ev.now _
theorem score_ev {c:List Int} (hc:Bytes c) (a s:Int) (h0:0<=a) (h1:a<=1500):∃ r a' s',Ev (fun k=>spec_l1Cur_score.f k c a s) (r,a',s')/\0<=a'/\a'<=10000/\r.length<=30:=by
 obtain ⟨v,a1,s1,e1,b1,c1,_⟩:=pick_at hc a s 9 h0 (by omega) (by omega)
 obtain ⟨b,a2,s2,e2,b2,c2⟩:=one_at hc a1 s1 20 (by omega) (by omega) (by omega)
 have key:∀ n:Int,∃ r a' s',Ev (fun k=>spec_l1Cur_score.l0 k ([]:List S36) n 0 c a2 s2) (r,a',s')/\0<=a'/\a'<=10000/\r.length<=30:=fun n=>score_l0 hc n 90 0 a2 s2 [] (by omega) (by omega) (by omega) (by omega) (by simp)
 cases b with
 | true =>
  obtain ⟨r,a',s',e,q⟩:=key 30
  refine ⟨r,a',s',?_,q⟩
  unfold spec_l1Cur_score.f
  simp only [e1,e2,Option.bind_some,↓reduceIte]
  exact e
 | false =>
  obtain ⟨r,a',s',e,q⟩:=key v
  refine ⟨r,a',s',?_,q⟩
  unfold spec_l1Cur_score.f
  simp only [e1,e2,Option.bind_some,Bool.false_eq_true,↓reduceIte]
  exact e
theorem anyScore_l0 (a s:Int):∀ (m:Nat) (l:List S36),31<=l.length+m->l.length<=31->∃ r:List S36,Ev (fun k=>spec_l1Cur_anyScore.l0 k a s l) (r,a,s)/\r.length<=31:=by
 intro m
 induction m with
 | zero =>
  intro l h h2
  refine ⟨l,Ev.fuel ?_,h2⟩
  simp only [spec_l1Cur_anyScore.l0,show ¬ ((l.length:Int) < 31) from by omega,↓reduceIte]
  exact Ev.now _
 | succ m ih =>
  intro l h h2
  by_cases g:(l.length:Int) < 31
  ·obtain ⟨r,hr,q⟩:=ih (l ++ [⟨60,wrap64 (2 * (l.length:Int)),1⟩]) (by simp; omega) (by simp; omega)
   refine ⟨r,Ev.fuel ?_,q⟩
   simp only [spec_l1Cur_anyScore.l0,g,↓reduceIte,show l.length < 5864062014805 from by omega]
   exact hr
  ·refine ⟨l,Ev.fuel ?_,h2⟩
   simp only [spec_l1Cur_anyScore.l0,g,↓reduceIte]
   exact Ev.now _
theorem anyScore_ev {c:List Int} (hc:Bytes c) (a s:Int) (h0:0<=a) (h1:a<=1500):∃ r a' s',Ev (fun k=>spec_l1Cur_anyScore.f k c a s) (r,a',s')/\0<=a'/\a'<=20000/\r.length<=31:=by
 obtain ⟨l,a0,s0,e0,q0,q1,q2⟩:=score_ev hc a s h0 h1
 by_cases g:(l.length:Int) > 0
 ·obtain ⟨r1,a1,s1,e1,b1,c1,d1,f1⟩:=pick_at hc a0 s0 l.length q0 (by omega) (by omega)
  have f1:=f1 (by omega)
  obtain ⟨r2,a2,s2,e2,b2,c2,d2,f2⟩:=pick_at hc a1 s1 36 (by omega) (by omega) (by omega)
  by_cases g0:r2=0
  ·obtain ⟨r3,a3,s3,e3,b3,c3,_⟩:=among_at hc a2 s2 [23,24,96,97] (by omega) (by omega) (by simp) (by simp)
   refine ⟨l.set r1.toNat ⟨r3,(rd_T36 l r1).f1,(rd_T36 l r1).f2⟩,a3,s3,?_,by omega,by omega,by rw [List.length_set]; omega⟩
   unfold spec_l1Cur_anyScore.f
   refine Ev.bind e0 ?_
   simp only [g,e1,e2,e3,d1,f1,g0,↓reduceIte,Option.bind_some]
   exact Ev.now _
  ·by_cases g1:r2=1
   ·obtain ⟨r3,a3,s3,e3,b3,c3,_⟩:=among_at hc a2 s2 [-1,0,999,1000] (by omega) (by omega) (by simp) (by simp)
    refine ⟨l.set r1.toNat ⟨(rd_T36 l r1).f0,r3,(rd_T36 l r1).f2⟩,a3,s3,?_,by omega,by omega,by rw [List.length_set]; omega⟩
    unfold spec_l1Cur_anyScore.f
    refine Ev.bind e0 ?_
    simp only [g,e1,e2,e3,d1,f1,g0,g1,↓reduceIte,Option.bind_some,show ¬ ((1:Int)=0) from by omega]
    exact Ev.now _
   ·by_cases g2:r2=2
    ·obtain ⟨r3,a3,s3,e3,b3,c3,_⟩:=among_at hc a2 s2 [0,99,100] (by omega) (by omega) (by simp) (by simp)
     refine ⟨l.set r1.toNat ⟨(rd_T36 l r1).f0,(rd_T36 l r1).f1,r3⟩,a3,s3,?_,by omega,by omega,by rw [List.length_set]; omega⟩
     unfold spec_l1Cur_anyScore.f
     refine Ev.bind e0 ?_
     simp only [g,e1,e2,e3,d1,f1,g0,g1,g2,↓reduceIte,Option.bind_some,show ¬ ((2:Int)=0) from by omega,show ¬ ((2:Int)=1) from by omega]
     exact Ev.now _
    ·by_cases g3:r2=3
     ·refine ⟨l ++ [⟨(rd_T36 l 0).f0,(rd_T36 l 0).f1,(rd_T36 l 0).f2⟩],a2,s2,?_,by omega,by omega,by simp; omega⟩
      unfold spec_l1Cur_anyScore.f
      refine Ev.bind e0 ?_
      simp only [g,e1,e2,d1,f1,g3,↓reduceIte,Option.bind_some,show ¬ ((3:Int)=0) from by omega,show ¬ ((3:Int)=1) from by omega,show ¬ ((3:Int)=2) from by omega,show l.length < 5864062014805 from by omega]
      exact Ev.now _
     ·by_cases g4:r2=4
      ·obtain ⟨r,hr,hl'⟩:=anyScore_l0 a2 s2 31 [] (by simp) (by simp)
       refine ⟨r,a2,s2,?_,by omega,by omega,hl'⟩
       unfold spec_l1Cur_anyScore.f
       refine Ev.bind e0 ?_
       simp only [g,e1,e2,d1,f1,g4,↓reduceIte,Option.bind_some,show ¬ ((4:Int)=0) from by omega,show ¬ ((4:Int)=1) from by omega,show ¬ ((4:Int)=2) from by omega,show ¬ ((4:Int)=3) from by omega]
       exact hr
      ·refine ⟨l,a2,s2,?_,by omega,by omega,by omega⟩
       unfold spec_l1Cur_anyScore.f
       refine Ev.bind e0 ?_
       simp only [g,e1,e2,d1,f1,g0,g1,g2,g3,g4,↓reduceIte,Option.bind_some]
       exact Ev.now _
 ·refine ⟨l,a0,s0,?_,by omega,by omega,by omega⟩
  unfold spec_l1Cur_anyScore.f
  refine Ev.bind e0 ?_
  simp only [g,↓reduceIte]
  exact Ev.now _
theorem scoreFor_l0 {c:List Int} (hc:Bytes c) (x:List S36) (hx:x.length<=31) (ps:List Int) (rep:Int) (hp:1<=ps.length) (hp2:ps.length<=60):∀ (m i:Nat) (a s:Int) (mv:List S36),i+m=x.length->0<=a->a<=30000+4 * i->mv.length<=30->∃ r a' s',Ev (fun k=>spec_l1Cur_scoreFor.l0 k x (x.length:Int) i ps rep c a s mv) (ps,rep,r,a',s')/\0<=a'/\a'<=40000/\r.length<=30:=by
 intro m
 induction m with
 | zero =>
  intro i a s mv h h0 h1 hl
  refine ⟨mv,a,s,Ev.fuel ?_,h0,by omega,hl⟩
  simp only [spec_l1Cur_scoreFor.l0,show ¬ ((i:Int) < (x.length:Int)) from by omega,↓reduceIte]
  exact Ev.now _
 | succ m ih =>
  intro i a s mv h h0 h1 hl
  have key:∀ u v w a1 s1:Int,0<=a1->a1<=30000+4 * (i+1)->∃ r a' s',Ev (fun k=>spec_l1Cur_scoreFor.j1 k x (x.length:Int) i ps rep c a1 s1 mv u v w) (ps,rep,r,a',s')/\0<=a'/\a'<=40000/\r.length<=30:=by
   intro u v w a1 s1 h2 h3
   have hs:=ntSorted_ev ([] ++ mv ++ [(⟨u,v,w⟩:S36)]) (by simp; omega)
   cases hb:(scoreRes ([] ++ mv ++ [(⟨u,v,w⟩:S36)])).2 with
   | true =>
    obtain ⟨r,a',s',e,q⟩:=ih (i+1) a1 s1 (scoreRes ([] ++ mv ++ [(⟨u,v,w⟩:S36)])).1 (by omega) h2 (by omega) (scoreRes_30 hb)
    refine ⟨r,a',s',Ev.fuel ?_,q⟩
    simp only [spec_l1Cur_scoreFor.j1,show ([]:List S36).length+mv.length < 5864062014805 from by simp; omega,show (([]:List S36) ++ mv).length < 5864062014805 from by simp; omega,↓reduceIte,wn i (by omega)]
    refine Ev.bind hs ?_
    simp only [hb,↓reduceIte]
    exact e
   | false =>
    obtain ⟨r,a',s',e,q⟩:=ih (i+1) a1 s1 mv (by omega) h2 (by omega) hl
    refine ⟨r,a',s',Ev.fuel ?_,q⟩
    simp only [spec_l1Cur_scoreFor.j1,show ([]:List S36).length+mv.length < 5864062014805 from by simp; omega,show (([]:List S36) ++ mv).length < 5864062014805 from by simp; omega,↓reduceIte,wn i (by omega)]
    refine Ev.bind hs ?_
    simp only [hb,Bool.false_eq_true,↓reduceIte]
    exact e
  obtain ⟨b,a1,s1,e1,b1,c1⟩:=one_at hc a s 6 h0 (by omega) (by omega)
  cases b with
  | true =>
   obtain ⟨r,a',s',e,q⟩:=key _ _ _ a1 s1 (by omega) (by omega)
   refine ⟨r,a',s',Ev.fuel ?_,q⟩
   simp only [spec_l1Cur_scoreFor.l0,show (i:Int) < (x.length:Int) from by omega,show (0:Int)<=(i:Int) from by omega,e1,Option.bind_some,↓reduceIte]
   exact e
  | false =>
   obtain ⟨v,a2,s2,e2,b2,c2,d2,f2⟩:=pick_at hc a1 s1 ps.length (by omega) (by omega) (by omega)
   obtain ⟨r,a',s',e,q⟩:=key _ _ _ a2 s2 (by omega) (by omega)
   refine ⟨r,a',s',Ev.fuel ?_,q⟩
   simp only [spec_l1Cur_scoreFor.l0,show (i:Int) < (x.length:Int) from by omega,show (0:Int)<=(i:Int) from by omega,e1,e2,d2,f2 (by omega),Option.bind_some,Bool.false_eq_true,↓reduceIte]
   exact e
theorem scoreFor_ev {c:List Int} (hc:Bytes c):∃ p rep l a' s',Ev (fun k=>spec_l1Cur_scoreFor.f k c 0 0) (p,rep,l,a',s')/\0<=a'/\a'<=40000/\p.length<=60/\l.length<=31:=by
 obtain ⟨p,rep,a0,s0,e0,q1,q2,q3⟩:=anyInstrument_ev hc
 obtain ⟨l,a1,s1,e1,u1,u2,u3⟩:=anyScore_ev hc a0 s0 q1 (by omega)
 have ea:=inAsked_ev p rep l (by omega) (by omega)
 cases hg:goodIns p rep && goodScore l with
 | false =>
  rw [hg] at ea
  refine ⟨p,rep,l,a1,s1,?_,by omega,by omega,q3,u3⟩
  unfold spec_l1Cur_scoreFor.f
  refine Ev.bind e0 (Ev.bind e1 (Ev.bind ea ?_))
  simp only [Bool.false_eq_true,↓reduceIte]
  exact Ev.now _
 | true =>
  rw [hg] at ea
  rw [Bool.and_eq_true] at hg
  have hp:=((goodIns_iff p rep).1 hg.1).1
  obtain ⟨b,a2,s2,e2,b2,c2⟩:=one_at hc a1 s1 4 u1 (by omega) (by omega)
  cases b with
  | true =>
   refine ⟨p,rep,l,a2,s2,?_,by omega,by omega,q3,u3⟩
   unfold spec_l1Cur_scoreFor.f
   refine Ev.bind e0 (Ev.bind e1 (Ev.bind ea ?_))
   simp only [e2,Option.bind_some,↓reduceIte]
   exact Ev.now _
  | false =>
   obtain ⟨r,a3,s3,e3,v1,v2,v3⟩:=scoreFor_l0 hc l u3 p rep hp.1 (by omega) l.length 0 a2 s2 [] (by omega) (by omega) (by omega) (by simp)
   refine ⟨p,rep,r,a3,s3,?_,by omega,by omega,q3,by omega⟩
   unfold spec_l1Cur_scoreFor.f
   refine Ev.bind e0 (Ev.bind e1 (Ev.bind ea ?_))
   simp only [e2,Option.bind_some,Bool.false_eq_true,↓reduceIte]
   exact e3
end Go.Proofs.YtgjpphcbdbfhlaaGreat.L
end
section
/- Plain facts on drawn sheets and layouts. No condition. -/
set_option linter.unusedVariables false
set_option linter.unusedSimpArgs false
namespace Go.Proofs.YtgjpphcbdbfhlaaGreat.L
open Go.RowKit Go.Proofs.YtgjpphcbdbfhlaaGreatW.PrintWords Go.Proofs.YtgjpphcbdbfhlaaGreatW.PrintLast Go.Proofs.YtgjpphcbdbfhlaaGreatW.PrintMore

theorem hole_at {c:List Int} (hc:Bytes c) (a s:Int) (h0:0<=a) (h1:a<=10000000000):∃ x y z a' s',spec_l1Cur_hole.f c a s=some (x,y,z,a',s')/\a<=a'/\a'<=a+12:=by
 obtain ⟨r1,a1,s1,e1,b1,c1,_⟩:=pick_at hc a s 40 h0 (by omega) (by omega)
 obtain ⟨r2,a2,s2,e2,b2,c2,_⟩:=pick_at hc a1 s1 60 (by omega) (by omega) (by omega)
 obtain ⟨r3,a3,s3,e3,b3,c3,_⟩:=among_at hc a2 s2 [0,2,5,r1,r2,1990] (by omega) (by omega) (by simp) (by simp)
 obtain ⟨r4,a4,s4,e4,b4,c4,_⟩:=pick_at hc a3 s3 20 (by omega) (by omega) (by omega)
 obtain ⟨r5,a5,s5,e5,b5,c5,_⟩:=among_at hc a4 s4 [0,1,2,3,5,r4] (by omega) (by omega) (by simp) (by simp)
 obtain ⟨r6,a6,s6,e6,b6,c6,_⟩:=among_at hc a5 s5 [1,2,3,4,10] (by omega) (by omega) (by simp) (by simp)
 unfold spec_l1Cur_hole.f
 simp only [e1,e2,e3,e4,e5,e6,Option.bind_some]
 exact ⟨_,_,_,_,_,rfl,by omega,by omega⟩
theorem anyHole_at {c:List Int} (hc:Bytes c) (a s:Int) (h0:0<=a) (h1:a<=1000000000):∃ x y z a' s',spec_l1Cur_anyHole.f c a s=some (x,y,z,a',s')/\a<=a'/\a'<=a+16:=by
 obtain ⟨x,y,z,a1,s1,e1,b1,c1⟩:=hole_at hc a s h0 (by omega)
 obtain ⟨r,a2,s2,e2,b2,c2,_⟩:=pick_at hc a1 s1 24 (by omega) (by omega) (by omega)
 obtain ⟨u,a3,s3,e3,b3,c3,_⟩:=among_at hc a2 s2 [-1,19,20] (by omega) (by omega) (by simp) (by simp)
 obtain ⟨v,a4,s4,e4,b4,c4,_⟩:=among_at hc a2 s2 [-1,z] (by omega) (by omega) (by simp) (by simp)
 obtain ⟨t,a5,s5,e5,b5,c5,_⟩:=among_at hc a2 s2 [y,2000,2001] (by omega) (by omega) (by simp) (by simp)
 unfold spec_l1Cur_anyHole.f
 simp only [e1,e2,e3,e4,e5,Option.bind_some]
 split
 ·exact ⟨_,_,_,_,_,rfl,by omega,by omega⟩
 ·split
  ·exact ⟨_,_,_,_,_,rfl,by omega,by omega⟩
  ·split
   ·exact ⟨_,_,_,_,_,rfl,by omega,by omega⟩
   ·exact ⟨_,_,_,_,_,rfl,by omega,by omega⟩
theorem sheetRes_60 (l:List S40):(sheetRes l).1.length<=60:=goodSheet_len (sheetRes_good l)
theorem shWith_ev (l:List S40) (x y z:Int) (hl:l.length<=1000):Ev (fun k=>spec_shWith.f k l x y z) (sheetRes (l ++ [⟨x,y,z⟩])):=by
 unfold spec_shWith.f
 simp only [Option.bind_some,List.length_nil,Nat.zero_add,List.nil_append,List.length_cons,show l.length < 5864062014805 from by omega,show l.length+1 < 5864062014805 from by omega,↓reduceIte]
 exact Ev.bind (shSorted_ev (l ++ [⟨x,y,z⟩]) (by simp; omega)) (Ev.now _)
theorem sheet_l0 {c:List Int} (hc:Bytes c):∀ (m:Nat) (a s:Int) (l:List S40),l.length+m=60->0<=a->a<=1000000+2 * l.length->∃ r a' s',Ev (fun k=>spec_l1Cur_sheet.l0 k l c a s) (r,a',s')/\a<=a'/\a'<=a+2 * m/\r.length<=60:=by
 intro m
 induction m with
 | zero =>
  intro a s l h h0 h1
  refine ⟨l,a,s,Ev.fuel ?_,by omega,by omega,by omega⟩
  simp only [spec_l1Cur_sheet.l0,show ¬ ((l.length:Int) < 60) from by omega,↓reduceIte]
  exact Ev.now _
 | succ m ih =>
  intro a s l h h0 h1
  obtain ⟨v,a1,s1,e1,b1,c1,_⟩:=pick_at hc a s 5 h0 (by omega) (by omega)
  obtain ⟨r,a',s',e,q1,q2,q3⟩:=ih a1 s1 (l ++ [⟨wrap64 (3 * Int.tmod (l.length:Int) 5),wrap64 (6 * (wrap64 (Int.tdiv (l.length:Int) 5))),wrap64 ((wrap64 ((wrap64 (6 * (wrap64 (Int.tdiv (l.length:Int) 5))))+1))+v)⟩]) (by simp; omega) (by omega) (by simp; omega)
  refine ⟨r,a',s',Ev.fuel ?_,by omega,by omega,q3⟩
  simp only [spec_l1Cur_sheet.l0,show (l.length:Int) < 60 from by omega,show l.length < 5864062014805 from by omega,e1,Option.bind_some,↓reduceIte]
  exact e
theorem sheet_l1 {c:List Int} (hc:Bytes c) (n:Int):∀ (m:Nat) (i a s:Int) (l:List S40),i+m=60->0<=i->0<=a->a<=1000000+12 * i->l.length<=60->∃ r a' s',Ev (fun k=>spec_l1Cur_sheet.l1 k l n i c a s) (r,a',s')/\a<=a'/\a'<=a+12 * m/\r.length<=60:=by
 intro m
 induction m with
 | zero =>
  intro i a s l h hi h0 h1 hl
  refine ⟨l,a,s,Ev.fuel ?_,by omega,by omega,hl⟩
  have e:∀ b:Bool,b=false->Ev (fun k=>spec_l1Cur_sheet.j2 k l n i b c a s) (l,a,s):=by
   intro b hb
   subst hb
   refine Ev.fuel ?_
   simp only [spec_l1Cur_sheet.j2,Bool.false_eq_true,↓reduceIte]
   exact Ev.now _
  simp only [spec_l1Cur_sheet.l1]
  split
  ·exact e _ (by simp; omega)
  ·exact e _ rfl
 | succ m ih =>
  intro i a s l h hi h0 h1 hl
  by_cases g:(l.length:Int) < n
  ·obtain ⟨x,y,z,a1,s1,e1,b1,c1⟩:=hole_at hc a s h0 (by omega)
   have hs:=shWith_ev l x y z (by omega)
   cases hb:(sheetRes (l ++ [(⟨x,y,z⟩:S40)])).2 with
   | true =>
    obtain ⟨r,a',s',e,q1,q2,q3⟩:=ih (i+1) a1 s1 (sheetRes (l ++ [(⟨x,y,z⟩:S40)])).1 (by omega) (by omega) (by omega) (by omega) (sheetRes_60 _)
    refine ⟨r,a',s',Ev.fuel ?_,by omega,by omega,q3⟩
    simp only [spec_l1Cur_sheet.l1,g,show i < 60 from by omega,decide_true,↓reduceIte]
    refine Ev.fuel ?_
    simp only [spec_l1Cur_sheet.j2,↓reduceIte,e1,Option.bind_some,w_id (x:=i+1) (by omega) (by omega)]
    refine Ev.bind hs ?_
    simp only [hb,↓reduceIte]
    exact e
   | false =>
    obtain ⟨r,a',s',e,q1,q2,q3⟩:=ih (i+1) a1 s1 l (by omega) (by omega) (by omega) (by omega) hl
    refine ⟨r,a',s',Ev.fuel ?_,by omega,by omega,q3⟩
    simp only [spec_l1Cur_sheet.l1,g,show i < 60 from by omega,decide_true,↓reduceIte]
    refine Ev.fuel ?_
    simp only [spec_l1Cur_sheet.j2,↓reduceIte,e1,Option.bind_some,w_id (x:=i+1) (by omega) (by omega)]
    refine Ev.bind hs ?_
    simp only [hb,Bool.false_eq_true,↓reduceIte]
    exact e
  ·refine ⟨l,a,s,Ev.fuel ?_,by omega,by omega,hl⟩
   simp only [spec_l1Cur_sheet.l1,g,↓reduceIte]
   refine Ev.fuel ?_
   simp only [spec_l1Cur_sheet.j2,Bool.false_eq_true,↓reduceIte]
   exact Ev.now _
theorem sheet_ev {c:List Int} (hc:Bytes c) (a s:Int) (h0:0<=a) (h1:a<=100000):∃ r a' s',Ev (fun k=>spec_l1Cur_sheet.f k c a s) (r,a',s')/\a<=a'/\a'<=a+1000/\r.length<=60:=by
 obtain ⟨b,a1,s1,e1,b1,c1⟩:=one_at hc a s 24 h0 (by omega) (by omega)
 cases b with
 | true =>
  obtain ⟨r,a',s',e,q1,q2,q3⟩:=sheet_l0 hc 60 a1 s1 [] (by simp) (by omega) (by simp; omega)
  refine ⟨r,a',s',?_,by omega,by omega,q3⟩
  unfold spec_l1Cur_sheet.f
  simp only [e1,Option.bind_some,↓reduceIte]
  exact e
 | false =>
  obtain ⟨v,a2,s2,e2,b2,c2,_⟩:=pick_at hc a1 s1 9 (by omega) (by omega) (by omega)
  obtain ⟨r,a',s',e,q1,q2,q3⟩:=sheet_l1 hc v 60 0 a2 s2 [] (by omega) (by omega) (by omega) (by omega) (by simp)
  refine ⟨r,a',s',?_,by omega,by omega,q3⟩
  unfold spec_l1Cur_sheet.f
  simp only [e1,e2,Option.bind_some,Bool.false_eq_true,↓reduceIte]
  exact e
theorem anySheet_l0 (c:List Int) (a s:Int):∀ (m:Nat) (l:List S40),61<=l.length+m->l.length<=61->∃ r:List S40,Ev (fun k=>spec_l1Cur_anySheet.l0 k l c a s) (r,a,s)/\r.length<=61:=by
 intro m
 induction m with
 | zero =>
  intro l h h2
  refine ⟨l,Ev.fuel ?_,h2⟩
  simp only [spec_l1Cur_anySheet.l0,show ¬ ((l.length:Int) < 61) from by omega,↓reduceIte]
  exact Ev.now _
 | succ m ih =>
  intro l h h2
  by_cases g:(l.length:Int) < 61
  ·obtain ⟨r,hr,q⟩:=ih (l ++ [⟨1,wrap64 (3 * (l.length:Int)),wrap64 ((wrap64 (3 * (l.length:Int)))+1)⟩]) (by simp; omega) (by simp; omega)
   refine ⟨r,Ev.fuel ?_,q⟩
   simp only [spec_l1Cur_anySheet.l0,g,↓reduceIte,show l.length < 5864062014805 from by omega]
   exact hr
  ·refine ⟨l,Ev.fuel ?_,h2⟩
   simp only [spec_l1Cur_anySheet.l0,g,↓reduceIte]
   exact Ev.now _
theorem anySheet_ev {c:List Int} (hc:Bytes c) (a s:Int) (h0:0<=a) (h1:a<=100000):∃ r a' s',Ev (fun k=>spec_l1Cur_anySheet.f k c a s) (r,a',s')/\a<=a'/\a'<=a+2000/\r.length<=61:=by
 obtain ⟨l,a0,s0,e0,q0,q1,q2⟩:=sheet_ev hc a s h0 h1
 by_cases g:(l.length:Int) > 0
 ·obtain ⟨r1,a1,s1,e1,b1,c1,d1,f1⟩:=pick_at hc a0 s0 l.length (by omega) (by omega) (by omega)
  have f1:=f1 (by omega)
  obtain ⟨r2,a2,s2,e2,b2,c2,d2,f2⟩:=pick_at hc a1 s1 30 (by omega) (by omega) (by omega)
  by_cases g0:r2=0
  ·obtain ⟨x,y,z,a3,s3,e3,b3,c3⟩:=anyHole_at hc a2 s2 (by omega) (by omega)
   refine ⟨l.set r1.toNat ⟨x,y,z⟩,a3,s3,?_,by omega,by omega,by rw [List.length_set]; omega⟩
   unfold spec_l1Cur_anySheet.f
   refine Ev.bind e0 ?_
   simp only [g,e1,e2,e3,d1,f1,g0,↓reduceIte,Option.bind_some]
   exact Ev.now _
  ·by_cases g1:r2=1
   ·refine ⟨l ++ [⟨(rd_T40 l r1).f0,(rd_T40 l r1).f1,(rd_T40 l r1).f2⟩],a2,s2,?_,by omega,by omega,by simp; omega⟩
    unfold spec_l1Cur_anySheet.f
    refine Ev.bind e0 ?_
    simp only [g,e1,e2,d1,f1,g1,↓reduceIte,Option.bind_some,show ¬ ((1:Int)=0) from by omega,show l.length < 5864062014805 from by omega]
    exact Ev.now _
   ·by_cases g2:r2=2
    ·refine ⟨l ++ [⟨(rd_T40 l r1).f0,(rd_T40 l r1).f2,wrap64 ((rd_T40 l r1).f2+2)⟩],a2,s2,?_,by omega,by omega,by simp; omega⟩
     unfold spec_l1Cur_anySheet.f
     refine Ev.bind e0 ?_
     simp only [g,e1,e2,d1,f1,g2,↓reduceIte,Option.bind_some,show ¬ ((2:Int)=0) from by omega,show ¬ ((2:Int)=1) from by omega,show l.length < 5864062014805 from by omega]
     exact Ev.now _
    ·by_cases g3:r2=3
     ·obtain ⟨r,hr,hl'⟩:=anySheet_l0 c a2 s2 61 [] (by simp) (by simp)
      refine ⟨r,a2,s2,?_,by omega,by omega,hl'⟩
      unfold spec_l1Cur_anySheet.f
      refine Ev.bind e0 ?_
      simp only [g,e1,e2,d1,f1,g3,↓reduceIte,Option.bind_some,show ¬ ((3:Int)=0) from by omega,show ¬ ((3:Int)=1) from by omega,show ¬ ((3:Int)=2) from by omega]
      exact hr
     ·refine ⟨l,a2,s2,?_,by omega,by omega,by omega⟩
      unfold spec_l1Cur_anySheet.f
      refine Ev.bind e0 ?_
      simp only [g,e1,e2,d1,f1,g0,g1,g2,g3,↓reduceIte,Option.bind_some]
      exact Ev.now _
 ·refine ⟨l,a0,s0,?_,by omega,by omega,by omega⟩
  unfold spec_l1Cur_anySheet.f
  refine Ev.bind e0 ?_
  simp only [g,↓reduceIte]
  exact Ev.now _
theorem inPart_l0 (p:List Int) (rep:Int) (s:List S36) (hp:p.length<=1000) (hs:s.length<=100):∀ (suf pre o:List S36),pre ++ suf=s->o.length<=pre.length->(∀ x∈o,x∈s)->∃ r:List S36,Ev (fun k=>spec_inPart.l0 k o s (s.length:Int) pre.length p rep) r/\r.length<=s.length/\∀ x∈r,x∈s:=by
 intro suf
 induction suf with
 | nil =>
  intro pre o h ho hm
  have hl:pre.length=s.length:=by rw [<- h]; simp
  refine ⟨o,Ev.fuel ?_,by omega,hm⟩
  simp only [spec_inPart.l0,show ¬ ((pre.length:Int) < (s.length:Int)) from by omega,↓reduceIte]
  exact Ev.now _
 | cons x suf ih =>
  intro pre o h ho hm
  have hl:s.length=pre.length+(suf.length+1):=by rw [<- h]; simp
  have c3:rd_T36 s (pre.length:Int)=x:=by rw [<- h]; exact getD_mid _ _ _ _
  have hx:x∈s:=by rw [<- h]; simp
  have hd:rd_T36 (o ++ [x]) (o.length:Int)=x:=by rw [show o ++ [x]=o ++ x :: [] from rfl]; exact getD_mid _ _ _ _
  obtain ⟨r1,e1,q1,m1⟩:=ih (pre ++ [x]) o (by rw [<- h]; simp) (by simp; omega) hm
  obtain ⟨r2,e2,q2,m2⟩:=ih (pre ++ [x]) (o ++ [x]) (by rw [<- h]; simp) (by simp; omega) (fun y hy=>by
   rcases List.mem_append.1 hy with hy | hy
   ·exact hm y hy
   ·rw [List.mem_singleton.1 hy]; exact hx)
  have ec:((pre ++ [x]).length:Int)=((pre.length+1:Nat):Int):=by simp
  rw [ec] at e1 e2
  have hlast:Ev (fun k=>spec_inLast.f k (o ++ [x]) (o.length:Int)) (idxOr (lastR x.f0 o.reverse)):=by
   unfold spec_inLast.f
   have:=inLast_l0 (o ++ [x]) (by simp; omega) o.length (by simp) x.f0 (by rw [hd]) o.reverse [x] (by simp)
   rw [List.length_reverse] at this
   rw [w_id (x:=(o.length:Int) - 1) (by omega) (by omega)]
   exact this
  have ht:=inTrack_ev p rep x.f0 (by omega)
  have start:∀ (r:List S36),Ev (fun k=>if idxFrom x.f0 p 0 >= 0 then (if idxOr (lastR x.f0 o.reverse) < 0 then (spec_inPart.l0 k (o ++ [x]) s (s.length:Int) ((pre.length+1:Nat):Int) p rep) else (if 0<=idxOr (lastR x.f0 o.reverse) then (if idxOr (lastR x.f0 o.reverse) < ((o ++ [x]).length:Int) then (if (wrap64 (x.f1 - ((rd_T36 (o ++ [x]) (idxOr (lastR x.f0 o.reverse))).f1))) >= rep then (spec_inPart.l0 k (o ++ [x]) s (s.length:Int) ((pre.length+1:Nat):Int) p rep) else (spec_inPart.l0 k o s (s.length:Int) ((pre.length+1:Nat):Int) p rep)) else (none)) else (none))) else (spec_inPart.l0 k o s (s.length:Int) ((pre.length+1:Nat):Int) p rep)) r->Ev (fun k=>spec_inPart.l0 k o s (s.length:Int) pre.length p rep) r:=by
   intro r e
   refine Ev.fuel ?_
   simp only [spec_inPart.l0,show (pre.length:Int) < (s.length:Int) from by omega,show (0:Int)<=(pre.length:Int) from by omega,c3,↓reduceIte,Option.bind_some,List.length_nil,Nat.zero_add,List.nil_append,List.length_cons,show o.length < 5864062014805 from by omega,show o.length+1 < 5864062014805 from by omega,wn pre.length (by omega)]
   exact Ev.bind hlast (Ev.bind ht e)
  by_cases g:idxFrom x.f0 p 0 >= 0
  ·by_cases g1:idxOr (lastR x.f0 o.reverse) < 0
   ·exact ⟨r2,start r2 (by simp only [g,g1,↓reduceIte]; exact e2),q2,m2⟩
   ·have g2:idxOr (lastR x.f0 o.reverse) < ((o ++ [x]).length:Int):=by
     cases hla:lastR x.f0 o.reverse with
     | none=>simp only [idxOr]; simp; omega
     | some q =>
      obtain ⟨i,t⟩:=q
      have:=(lastR_some x.f0 o.reverse i t hla).1
      rw [List.length_reverse] at this
      simp only [idxOr,List.length_append,List.length_cons,List.length_nil]
      omega
    by_cases g3:(wrap64 (x.f1 - ((rd_T36 (o ++ [x]) (idxOr (lastR x.f0 o.reverse))).f1))) >= rep
    ·exact ⟨r2,start r2 (by simp only [g,g1,g2,g3,show 0<=idxOr (lastR x.f0 o.reverse) from by omega,↓reduceIte]; exact e2),q2,m2⟩
    ·exact ⟨r1,start r1 (by simp only [g,g1,g2,g3,show 0<=idxOr (lastR x.f0 o.reverse) from by omega,↓reduceIte]; exact e1),q1,m1⟩
  ·exact ⟨r1,start r1 (by simp only [g,↓reduceIte]; exact e1),q1,m1⟩
theorem inPart_ev (p:List Int) (rep:Int) (s:List S36) (hp:p.length<=1000) (hs:s.length<=100):∃ r:List S36,Ev (fun k=>spec_inPart.f k p rep s) r/\r.length<=s.length/\∀ x∈r,x∈s:=inPart_l0 p rep s hp hs s [] [] rfl (by simp) (by simp)

theorem laidOut_ev {c:List Int} (hc:Bytes c):∃ p rep l a' s',Ev (fun k=>spec_l1Cur_laidOut.f k c 0 0) (p,rep,l,a',s')/\0<=a'/\a'<=100000/\p.length<=60/\l.length<=61:=by
 obtain ⟨p,rep,l,a0,s0,e0,u0,u1,u2,u3⟩:=scoreFor_ev hc
 have ea:=inAsked_ev p rep l (by omega) (by omega)
 cases hg:goodIns p rep && goodScore l with
 | false =>
  rw [hg] at ea
  obtain ⟨r,a1,s1,e1,b1,c1,d1⟩:=anySheet_ev hc a0 s0 u0 (by omega)
  refine ⟨p,rep,r,a1,s1,?_,by omega,by omega,u2,d1⟩
  unfold spec_l1Cur_laidOut.f
  refine Ev.bind e0 (Ev.bind ea ?_)
  simp only [Bool.false_eq_true,↓reduceIte]
  exact Ev.bind e1 (Ev.now _)
 | true =>
  rw [hg] at ea
  rw [Bool.and_eq_true] at hg
  obtain ⟨b,a1,s1,e1,b1,c1⟩:=one_at hc a0 s0 8 u0 (by omega) (by omega)
  cases b with
  | true =>
   obtain ⟨r,a2,s2,e2,b2,c2,d2⟩:=anySheet_ev hc a1 s1 (by omega) (by omega)
   refine ⟨p,rep,r,a2,s2,?_,by omega,by omega,u2,d2⟩
   unfold spec_l1Cur_laidOut.f
   refine Ev.bind e0 (Ev.bind ea ?_)
   simp only [e1,Option.bind_some,↓reduceIte]
   exact Ev.bind e2 (Ev.now _)
  | false =>
   obtain ⟨m,e2,q2,m2⟩:=inPart_ev p rep l (by omega) (by omega)
   have e3:=laHoles_ev p rep 0 m (by omega) (by omega) (fun x hx=>goodScore_all hg.2 x (m2 x hx))
   generalize hR:(if playsB p rep m=true then (if layAll p m=true then sheetRes (m.map fun x=>shiftH 0 (layH p x)) else ([],false)) else ([],false))=R at e3
   have hR60:R.1.length<=60:=by
    rw [<- hR]
    split
    ·split
     ·exact sheetRes_60 _
     ·simp
    ·simp
   have pre:∀ {q:List Int × Int × List S40 × Int × Int},Ev (fun k=>if R.2=true then (if (R.1.length:Int) > 0 then ((spec_l1Cur_pick.f c a1 s1 (R.1.length:Int)).bind fun t6=>(if 0<=t6.1 then (if t6.1 < (R.1.length:Int) then ((spec_l1Cur_pick.f c t6.2.1 t6.2.2 12).bind fun t7=>(if t7.1=0 then ((spec_l1Cur_among.f c t7.2.1 t7.2.2 [0,wrap64 ((p.length:Int) - 1),(p.length:Int),19,20]).bind fun t8=>(some (p,rep,R.1.set (t6.1:Int).toNat (⟨t8.1,(rd_T40 R.1 t6.1).f1,(rd_T40 R.1 t6.1).f2⟩:S40),t8.2.1,t8.2.2))) else (if t7.1=1 then (some (p,rep,R.1.set (t6.1:Int).toNat (⟨(rd_T40 R.1 t6.1).f0,(rd_T40 R.1 t6.1).f1,wrap64 ((rd_T40 R.1 t6.1).f2+1)⟩:S40),t7.2.1,t7.2.2)) else (if t7.1=2 then (some (p,rep,R.1.set (t6.1:Int).toNat (⟨(rd_T40 R.1 t6.1).f0,wrap64 ((rd_T40 R.1 t6.1).f1+1),(rd_T40 R.1 t6.1).f2⟩:S40),t7.2.1,t7.2.2)) else (some (p,rep,R.1,t7.2.1,t7.2.2)))))) else (none)) else (none))) else (some (p,rep,R.1,a1,s1))) else ((spec_l1Cur_sheet.f k c a1 s1).bind fun t6=>(some (p,rep,t6.1,t6.2.1,t6.2.2)))) q->Ev (fun k=>spec_l1Cur_laidOut.f k c 0 0) q:=by
    intro q e
    unfold spec_l1Cur_laidOut.f
    refine Ev.bind e0 (Ev.bind ea ?_)
    simp only [e1,Option.bind_some,Bool.false_eq_true,↓reduceIte]
    exact Ev.bind e2 (Ev.bind e3 e)
   cases hb:R.2 with
   | false =>
    obtain ⟨r,a2,s2,e4,b2,c2,d2⟩:=sheet_ev hc a1 s1 (by omega) (by omega)
    refine ⟨p,rep,r,a2,s2,pre ?_,by omega,by omega,u2,by omega⟩
    simp only [hb,Bool.false_eq_true,↓reduceIte]
    exact Ev.bind e4 (Ev.now _)
   | true =>
    by_cases g:(R.1.length:Int) > 0
    ·obtain ⟨r1,a2,s2,e4,b2,c2,d2,f2⟩:=pick_at hc a1 s1 R.1.length (by omega) (by omega) (by omega)
     have f2:=f2 (by omega)
     obtain ⟨r2,a3,s3,e5,b3,c3,d3,f3⟩:=pick_at hc a2 s2 12 (by omega) (by omega) (by omega)
     obtain ⟨r3,a4,s4,e6,b4,c4,_⟩:=among_at hc a3 s3 [0,wrap64 ((p.length:Int) - 1),(p.length:Int),19,20] (by omega) (by omega) (by simp) (by simp)
     by_cases g0:r2=0
     ·refine ⟨p,rep,R.1.set r1.toNat ⟨r3,(rd_T40 R.1 r1).f1,(rd_T40 R.1 r1).f2⟩,a4,s4,pre ?_,by omega,by omega,u2,by rw [List.length_set]; omega⟩
      simp only [hb,g,e4,d2,f2,e5,g0,e6,Option.bind_some,↓reduceIte]
      exact Ev.now _
     ·by_cases g1:r2=1
      ·refine ⟨p,rep,R.1.set r1.toNat ⟨(rd_T40 R.1 r1).f0,(rd_T40 R.1 r1).f1,wrap64 ((rd_T40 R.1 r1).f2+1)⟩,a3,s3,pre ?_,by omega,by omega,u2,by rw [List.length_set]; omega⟩
       simp only [hb,g,e4,d2,f2,e5,g1,Option.bind_some,↓reduceIte,show ¬ ((1:Int)=0) from by omega]
       exact Ev.now _
      ·by_cases g2:r2=2
       ·refine ⟨p,rep,R.1.set r1.toNat ⟨(rd_T40 R.1 r1).f0,wrap64 ((rd_T40 R.1 r1).f1+1),(rd_T40 R.1 r1).f2⟩,a3,s3,pre ?_,by omega,by omega,u2,by rw [List.length_set]; omega⟩
        simp only [hb,g,e4,d2,f2,e5,g2,Option.bind_some,↓reduceIte,show ¬ ((2:Int)=0) from by omega,show ¬ ((2:Int)=1) from by omega]
        exact Ev.now _
       ·refine ⟨p,rep,R.1,a3,s3,pre ?_,by omega,by omega,u2,by omega⟩
        simp only [hb,g,e4,d2,f2,e5,g0,g1,g2,Option.bind_some,↓reduceIte]
        exact Ev.now _
    ·refine ⟨p,rep,R.1,a1,s1,pre ?_,by omega,by omega,u2,by omega⟩
     simp only [hb,g,↓reduceIte]
     exact Ev.now _
theorem DrawReadBack_ev {c:List Int} (hc:Bytes c):∃ (p:List Int) (rep:Int) (l:List S40),Ev (fun k=>spec_DrawReadBack.f k c) (p,rep,l)/\p.length<=60/\l.length<=61:=by
 obtain ⟨p,rep,l,a,s,e,_,_,h1,h2⟩:=laidOut_ev hc
 refine ⟨p,rep,l,?_,h1,h2⟩
 unfold spec_DrawReadBack.f
 exact Ev.bind e (Ev.now _)
theorem DrawOpenTime_ev {c:List Int} (hc:Bytes c):∃ (l:List S40) (b:Int),Ev (fun k=>spec_DrawOpenTime.f k c) (l,b)/\l.length<=61:=by
 obtain ⟨l,a,s,e,u0,u1,u2⟩:=anySheet_ev hc 0 0 (by omega) (by omega)
 have j:∀ (a1 s1:Int),0<=a1->a1<=200000->∃ b:Int,Ev (fun k=>spec_DrawOpenTime.j0 k c a1 s1 l) (l,b):=by
  intro a1 s1 h0 h3
  obtain ⟨r2,a2,s2,e2,b2,c2,_⟩:=among_at hc a1 s1 [20,-1] h0 (by omega) (by simp) (by simp)
  obtain ⟨r3,a3,s3,e3,b3,c3,_⟩:=among_at hc a2 s2 [0,3,19,r2] (by omega) (by omega) (by simp) (by simp)
  refine ⟨r3,Ev.fuel ?_⟩
  simp only [spec_DrawOpenTime.j0,e2,e3,Option.bind_some]
  exact Ev.now _
 by_cases g:(l.length:Int) > 0
 ·obtain ⟨b,a1,s1,e1,b1,c1⟩:=one_at hc a s 2 u0 (by omega) (by omega)
  cases b with
  | true =>
   obtain ⟨r2,a2,s2,e2,b2,c2,d2,f2⟩:=pick_at hc a1 s1 l.length (by omega) (by omega) (by omega)
   refine ⟨l,(rd_T40 l r2).f0,?_,u2⟩
   unfold spec_DrawOpenTime.f
   refine Ev.bind e ?_
   simp only [g,e1,e2,d2,f2 (by omega),Option.bind_some,↓reduceIte]
   exact Ev.now _
  | false =>
   obtain ⟨b,q⟩:=j a1 s1 (by omega) (by omega)
   refine ⟨l,b,?_,u2⟩
   unfold spec_DrawOpenTime.f
   refine Ev.bind e ?_
   simp only [g,e1,Option.bind_some,Bool.false_eq_true,↓reduceIte]
   exact q
 ·obtain ⟨b,q⟩:=j a s u0 (by omega)
  refine ⟨l,b,?_,u2⟩
  unfold spec_DrawOpenTime.f
  refine Ev.bind e ?_
  simp only [g,↓reduceIte]
  exact q
theorem DrawCrowdedSteps_ev {c:List Int} (hc:Bytes c):∃ (l:List S40) (b:Int),Ev (fun k=>spec_DrawCrowdedSteps.f k c) (l,b)/\l.length<=61:=by
 obtain ⟨l,a,s,e,u0,u1,u2⟩:=anySheet_ev hc 0 0 (by omega) (by omega)
 obtain ⟨r2,a2,s2,e2,b2,c2,_⟩:=among_at hc a s [21,-1] u0 (by omega) (by simp) (by simp)
 obtain ⟨r3,a3,s3,e3,b3,c3,_⟩:=among_at hc a2 s2 [0,1,2,3,20,r2] (by omega) (by omega) (by simp) (by simp)
 refine ⟨l,r3,?_,u2⟩
 unfold spec_DrawCrowdedSteps.f
 refine Ev.bind e ?_
 simp only [e2,e3,Option.bind_some]
 exact Ev.now _
end Go.Proofs.YtgjpphcbdbfhlaaGreat.L
end
section
/- Plain facts on layouts: what each function hands back,in one word,and that notes and holes are told from one another. No condition. -/
set_option linter.unusedVariables false
set_option linter.unusedSimpArgs false
namespace Go.Proofs.YtgjpphcbdbfhlaaGreat.L
open Go.RowKit Go.Proofs.YtgjpphcbdbfhlaaGreatW.PrintWords Go.Proofs.YtgjpphcbdbfhlaaGreatW.PrintLast Go.Proofs.YtgjpphcbdbfhlaaGreatW.PrintMore

def loRes (l:List Int) (r:Int) (s:List S36):List S40 × Bool:=if goodIns l r=true/\goodScore s=true then layRes l r s else ([],false)
theorem loBoth_ev (l:List Int) (r:Int) (s:List S36) (hl:l.length<=1048576) (hs:s.length<=1048576):Ev (fun k=>impl_LayOut.f k l r s) (loRes l r s)/\Ev (fun k=>spec_LayOut.f k l r s) (loRes l r s):=by
 have h2:Ev (fun k=>spec_LayOut.f k l r s) (loRes l r s):=by
  unfold spec_LayOut.f loRes
  refine Ev.bind (inAsked_ev l r s hl hs) ?_
  by_cases hg:goodIns l r=true/\goodScore s=true
  ·rw [if_pos hg]
   simp only [hg.1,hg.2,Bool.and_self,↓reduceIte]
   have:=laHoles_ev l r 0 s hl (by have:=goodScore_len hg.2; omega) (goodScore_all hg.2)
   rw [layRes_zero] at this
   exact Ev.bind this (Ev.now _)
  ·rw [if_neg hg]
   have:(goodIns l r && goodScore s)=false:=by cases h:(goodIns l r && goodScore s) with | false=>rfl | true=>exact absurd (Bool.and_eq_true _ _ ▸ h) hg
   simp only [this,Bool.false_eq_true,↓reduceIte]
   exact Ev.now _
 obtain ⟨r0,r1,_,e1,e2⟩:=layOutLaw_ev l r s hl hs
 rw [Ev.uniq e1 h2] at e2
 exact ⟨e2,h2⟩
def rbRes (l:List Int) (r:Int) (s:List S40):List S36 × Bool:=if goodIns l r=true/\goodSheet s=true then readRes l s else ([],false)
theorem readRes_len (l:List Int) (s:List S40):(readRes l s).1.length<=1048576:=by
 unfold readRes
 split
 ·exact scoreRes_len _
 ·simp
theorem rbRes_len (l:List Int) (r:Int) (s:List S40):(rbRes l r s).1.length<=1048576:=by
 unfold rbRes
 split
 ·exact readRes_len l s
 ·simp
theorem and_false_of {a b:Bool} (h:¬ (a=true/\b=true)):(a && b)=false:=by cases a <;> cases b <;> simp_all
theorem rbBoth_ev (l:List Int) (r:Int) (s:List S40) (hl:l.length<=1048576) (hs:s.length<=1048576):Ev (fun k=>impl_ReadBack.f k l r s) (rbRes l r s)/\Ev (fun k=>spec_ReadBack.f k l r s) (rbRes l r s):=by
 have h2:Ev (fun k=>spec_ReadBack.f k l r s) (rbRes l r s):=by
  unfold spec_ReadBack.f rbRes
  refine Ev.bind (laAsked_ev l r s hl hs) ?_
  by_cases hg:goodIns l r=true/\goodSheet s=true
  ·rw [if_pos hg]
   simp only [hg.1,hg.2,Bool.and_self,↓reduceIte]
   have:=(laNotes_l0 l r s (goodSheet_len hg.2) (goodSheet_all hg.2) s [] rfl).1
   exact Ev.bind (show Ev (fun k=>spec_laNotes.f k l r s) (readRes l s) from this) (Ev.now _)
  ·rw [if_neg hg]
   simp only [and_false_of hg,Bool.false_eq_true,↓reduceIte]
   exact Ev.now _
 obtain ⟨r0,r1,_,e1,e2⟩:=readLaw_ev l r s hl hs
 rw [Ev.uniq e1 h2] at e2
 exact ⟨e2,h2⟩
def ilRes (l:List Int) (r:Int) (s:List S40):Bool × Bool:=if goodIns l r=true/\goodSheet s=true then ((readRes l s).2 && playsB l r (readRes l s).1,true) else (false,false)
theorem ilBoth_ev (l:List Int) (r:Int) (s:List S40) (hl:l.length<=1048576) (hs:s.length<=1048576):Ev (fun k=>impl_IsLayOut.f k l r s) (ilRes l r s)/\Ev (fun k=>spec_IsLayOut.f k l r s) (ilRes l r s):=by
 have h2:Ev (fun k=>spec_IsLayOut.f k l r s) (ilRes l r s):=by
  unfold spec_IsLayOut.f ilRes
  refine Ev.bind (laAsked_ev l r s hl hs) ?_
  by_cases hg:goodIns l r=true/\goodSheet s=true
  ·rw [if_pos hg]
   simp only [hg.1,hg.2,Bool.and_self,↓reduceIte]
   have:=(laNotes_l0 l r s (goodSheet_len hg.2) (goodSheet_all hg.2) s [] rfl).1
   refine Ev.bind (show Ev (fun k=>spec_laNotes.f k l r s) (readRes l s) from this) ?_
   by_cases hb:(readRes l s).2=true
   ·have hgs:goodScore (readRes l s).1=true:=by
     unfold readRes
     split
     ·exact scoreRes_good _
     ·rfl
    simp only [hb,↓reduceIte,Bool.true_and]
    exact Ev.bind (inPlays_ev l r _ hl (by have:=goodScore_len hgs; omega) (goodScore_all hgs)) (Ev.now _)
   ·simp only [hb,Bool.false_eq_true,↓reduceIte,Bool.false_and]
    exact Ev.now _
  ·rw [if_neg hg]
   simp only [and_false_of hg,Bool.false_eq_true,↓reduceIte]
   exact Ev.now _
 obtain ⟨r0,r1,e1,e2⟩:=isLaw_ev l r s hl hs
 rw [Ev.uniq e1 h2] at e2
 exact ⟨e2,h2⟩
theorem ins_lt {l:List Int} {r:Int} (h:goodIns l r=true):l.Pairwise (· < ·):=(ris_pair 24 96 l none ((goodIns_iff l r).1 h).2.1).1
end Go.Proofs.YtgjpphcbdbfhlaaGreat.L
end
section
/- Plain facts on the laws' own comparisons. No condition. -/
set_option linter.unusedVariables false
set_option linter.unusedSimpArgs false
namespace Go.Proofs.YtgjpphcbdbfhlaaGreat.L
open Go.RowKit Go.Proofs.YtgjpphcbdbfhlaaGreatW.PrintWords Go.Proofs.YtgjpphcbdbfhlaaGreatW.PrintLast Go.Proofs.YtgjpphcbdbfhlaaGreatW.PrintMore

theorem qInts_l0 (l:List Int) (hl:l.length<=1048576):∀ (m i:Nat),i+m=l.length->Ev (fun k=>laws_qInts.l0 k l l l.length i) true:=by
 intro m
 induction m with
 | zero =>
  intro i h
  refine Ev.fuel ?_
  simp only [laws_qInts.l0,show ¬ ((i:Int) < (l.length:Int)) from by omega,↓reduceIte]
  exact Ev.now _
 | succ m ih =>
  intro i h
  refine Ev.fuel ?_
  simp only [laws_qInts.l0,show (i:Int) < (l.length:Int) from by omega,show (0:Int)<=(i:Int) from by omega,↓reduceIte,wn i (by omega)]
  exact ih (i+1) (by omega)
theorem qInts_ev (l:List Int) (hl:l.length<=1048576):Ev (fun k=>laws_qInts.f k l l) true:=by
 unfold laws_qInts.f
 simp only [↓reduceIte]
 exact qInts_l0 l hl l.length 0 (by omega)
theorem qNotes_l0 (l:List S36) (hl:l.length<=1048576):∀ (m i:Nat),i+m=l.length->Ev (fun k=>laws_qNotes.l0 k l l l.length i) true:=by
 intro m
 induction m with
 | zero =>
  intro i h
  refine Ev.fuel ?_
  simp only [laws_qNotes.l0,show ¬ ((i:Int) < (l.length:Int)) from by omega,↓reduceIte]
  exact Ev.now _
 | succ m ih =>
  intro i h
  refine Ev.fuel ?_
  simp only [laws_qNotes.l0,show (i:Int) < (l.length:Int) from by omega,show (0:Int)<=(i:Int) from by omega,↓reduceIte,wn i (by omega),beq_self_eq_true,Bool.not_true,Bool.or_self,Bool.false_eq_true]
  exact ih (i+1) (by omega)
theorem qNotes_ev (l:List S36) (hl:l.length<=1048576):Ev (fun k=>laws_qNotes.f k l l) true:=by
 unfold laws_qNotes.f
 simp only [↓reduceIte]
 exact qNotes_l0 l hl l.length 0 (by omega)
theorem qSheet_l0 (l:List S40) (hl:l.length<=1048576):∀ (m i:Nat),i+m=l.length->Ev (fun k=>laws_qSheet.l0 k l l l.length i) true:=by
 intro m
 induction m with
 | zero =>
  intro i h
  refine Ev.fuel ?_
  simp only [laws_qSheet.l0,show ¬ ((i:Int) < (l.length:Int)) from by omega,↓reduceIte]
  exact Ev.now _
 | succ m ih =>
  intro i h
  refine Ev.fuel ?_
  simp only [laws_qSheet.l0,show (i:Int) < (l.length:Int) from by omega,show (0:Int)<=(i:Int) from by omega,↓reduceIte,wn i (by omega),beq_self_eq_true,Bool.not_true,Bool.or_self,Bool.false_eq_true]
  exact ih (i+1) (by omega)
theorem qSheet_ev (l:List S40) (hl:l.length<=1048576):Ev (fun k=>laws_qSheet.f k l l) true:=by
 unfold laws_qSheet.f
 simp only [↓reduceIte]
 exact qSheet_l0 l hl l.length 0 (by omega)
theorem qHas_l0 (l:List Int) (v:Int) (hl:l.length<=1048576):∀ (suf pre:List Int),pre ++ suf=l->Ev (fun k=>laws_qHas.l0 k v l (l.length:Int) pre.length) (decide (v∈suf)):=by
 intro suf
 induction suf with
 | nil =>
  intro pre h
  have:pre.length=l.length:=by rw [<- h]; simp
  refine Ev.fuel ?_
  simp only [laws_qHas.l0,show ¬ ((pre.length:Int) < (l.length:Int)) from by omega,↓reduceIte]
  exact Ev.const (by simp)
 | cons x suf ih =>
  intro pre h
  have hlen:l.length=pre.length+(suf.length+1):=by rw [<- h]; simp
  have c3:rd l (pre.length:Int)=x:=by rw [<- h]; exact getD_mid _ _ _ _
  refine Ev.fuel ?_
  simp only [laws_qHas.l0,show (pre.length:Int) < (l.length:Int) from by omega,show (0:Int)<=(pre.length:Int) from by omega,c3,↓reduceIte,wn pre.length (by omega)]
  by_cases hx:x=v
  ·simp only [hx,↓reduceIte]
   exact Ev.const (by simp)
  ·simp only [hx,↓reduceIte]
   have e:=ih (pre ++ [x]) (by rw [<- h]; simp)
   have e2:decide (v∈x :: suf)=decide (v∈suf):=by
    apply decide_eq_decide.2
    simp only [List.mem_cons]
    exact ⟨fun h=>h.resolve_left (fun q=>hx q.symm),.inr⟩
   rw [e2]
   simpa using e
theorem qHas_ev (l:List Int) (v:Int) (hl:l.length<=1048576):Ev (fun k=>laws_qHas.f k l v) (decide (v∈l)):=by
 unfold laws_qHas.f
 exact qHas_l0 l v hl l [] rfl
end Go.Proofs.YtgjpphcbdbfhlaaGreat.L
end
