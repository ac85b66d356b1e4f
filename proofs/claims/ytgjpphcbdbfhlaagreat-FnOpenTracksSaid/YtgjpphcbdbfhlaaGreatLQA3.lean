import Derived.Test.YtgjpphcbdbfhlaaGreatL0
import Derived.Test.YtgjpphcbdbfhlaaGreatL1
import Derived.Test.YtgjpphcbdbfhlaaGreatL2
import Derived.Test.YtgjpphcbdbfhlaaGreatLQB
import Derived.Test.YtgjpphcbdbfhlaaGreatLIA
import Derived.Test.YtgjpphcbdbfhlaaGreatLIB
import Derived.Test.YtgjpphcbdbfhlaaGreatLQA
import Derived.Test.YtgjpphcbdbfhlaaGreatL7
import Derived.Test.YtgjpphcbdbfhlaaGreatL8
import Derived.Test.YtgjpphcbdbfhlaaGreatL16
import Derived.Test.YtgjpphcbdbfhlaaGreatL15
import Derived.Test.YtgjpphcbdbfhlaaGreatL29
section
section
/- Plain facts on rows of whole numbers: a number put into a rising row,rows sorted,and each number once. No condition. -/
set_option linter.unusedVariables false
set_option linter.unusedSimpArgs false
namespace Go.Proofs.YtgjpphcbdbfhlaaGreat.L
open Go.RowKit Go.Proofs.YtgjpphcbdbfhlaaGreatW.PrintWords Go.Proofs.YtgjpphcbdbfhlaaGreatW.PrintLast Go.Proofs.YtgjpphcbdbfhlaaGreatW.PrintMore

def putZ (n:Int):List Int->List Int
 | []=>[n]
 | x :: xs=>if x < n then x :: putZ n xs else if x=n then x :: xs else n :: x :: xs
theorem putZ_len (n:Int) (l:List Int):(putZ n l).length<=l.length+1:=by
 induction l with
 | nil=>simp [putZ]
 | cons x xs ih=>unfold putZ; (repeat' split) <;> simp <;> omega
theorem mem_putZ (n:Int) (l:List Int):∀ y,y∈putZ n l ↔ y=n \/ y∈l:=by
 induction l with
 | nil=>intro y; simp [putZ]
 | cons x xs ih =>
  intro y
  unfold putZ
  split
  ·rw [List.mem_cons,ih,List.mem_cons]
   constructor
   ·rintro (h | h | h)
    ·exact .inr (.inl h)
    ·exact .inl h
    ·exact .inr (.inr h)
   ·rintro (h | h | h)
    ·exact .inr (.inl h)
    ·exact .inl h
    ·exact .inr (.inr h)
  ·split
   ·rename_i h1 h2
    rw [List.mem_cons]
    constructor
    ·exact .inr
    ·rintro (h | h)
     ·exact .inl (h.trans h2.symm)
     ·exact h
   ·rw [List.mem_cons]
theorem putZ_lt (n:Int) (l:List Int) (h:l.Pairwise (· < ·)):(putZ n l).Pairwise (· < ·):=by
 induction l with
 | nil=>simp [putZ]
 | cons x xs ih =>
  obtain ⟨h1,h2⟩:=List.pairwise_cons.1 h
  unfold putZ
  split
  ·rename_i hx
   refine List.pairwise_cons.2 ⟨fun y hy=>?_,ih h2⟩
   rcases (mem_putZ n xs y).1 hy with rfl | hy
   ·exact hx
   ·exact h1 y hy
  ·split
   ·exact h
   ·refine List.pairwise_cons.2 ⟨fun y hy=>?_,h⟩
    rcases List.mem_cons.1 hy with rfl | hy
    ·omega
    ·have:=h1 y hy; omega
theorem zPut_l0 (l:List Int) (n:Int) (hl:l.length<=1048576):∀ (suf pre:List Int),pre ++ suf=l->Ev (fun k=>spec_l1Put.l0 k l n pre.length) (pre ++ putZ n suf):=by
 intro suf
 induction suf with
 | nil =>
  intro pre h
  have hn:¬ ((pre.length:Int) < (l.length:Int)):=by rw [<- h]; simp
  have e:pre=l:=by rw [<- h]; simp
  have h2:(0:Int)<=(pre.length:Int):=by omega
  have h3:(pre.length:Int)<=(l.length:Int):=by rw [e]; exact Int.le_refl _
  have ht:l.take ((pre.length:Int)).toNat=l:=by rw [e]; simp
  have hd:l.drop ((pre.length:Int)).toNat=[]:=by rw [e]; simp
  refine Ev.fuel ?_
  simp only [spec_l1Put.l0,hn,↓reduceIte,Option.bind_some,h2,h3,ht,hd,List.length_nil,List.nil_append,Nat.zero_add,show l.length < 17592186044416 from by omega,show (l ++ [n]).length+0 < 17592186044416 from by simp; omega,List.append_nil]
  rw [e]
  exact Ev.now _
 | cons x suf ih =>
  intro pre h
  have hlen:l.length=pre.length+(suf.length+1):=by rw [<- h]; simp
  have h1:(pre.length:Int) < (l.length:Int):=by omega
  have h2:(0:Int)<=(pre.length:Int):=by omega
  have h3:rd l (pre.length:Int)=x:=by rw [<- h]; exact getD_mid _ _ _ _
  have h4:(pre.length:Int)<=(l.length:Int):=by omega
  have ht:l.take ((pre.length:Int)).toNat=pre:=by rw [<- h]; simp
  have hd:l.drop ((pre.length:Int)).toNat=x :: suf:=by rw [<- h]; simp
  have e:Ev (fun k=>spec_l1Put.l0 k l n ((pre.length+1:Nat):Int)) (pre ++ (x :: putZ n suf)):=by simpa using ih (pre ++ [x]) (by rw [<- h]; simp)
  refine Ev.fuel ?_
  simp only [spec_l1Put.l0,h1,h2,h3,h4,ht,hd,↓reduceIte,wn pre.length (by omega),Option.bind_some,List.length_nil,List.nil_append,Nat.zero_add,show pre.length < 17592186044416 from by omega,show (pre ++ [n]).length+(x :: suf).length < 17592186044416 from by simp; omega]
  unfold putZ
  by_cases hx:x < n
  ·simp only [hx,↓reduceIte]; exact e
  ·by_cases hx':x=n
   ·simp only [hx,hx',↓reduceIte]
    rw [show l=pre ++ n :: suf by rw [<- h,hx']]
    simp only [Int.lt_irrefl,↓reduceIte]
    exact Ev.now _
   ·simp only [hx,hx',↓reduceIte]
    rw [show pre ++ n :: x :: suf=(pre ++ [n]) ++ (x :: suf) by simp]
    exact Ev.now _
theorem zPut_ev (l:List Int) (n:Int) (hl:l.length<=1048576):Ev (fun k=>spec_l1Put.f k l n) (putZ n l):=by
 unfold spec_l1Put.f
 exact zPut_l0 l n hl l [] rfl
def putAll:List Int->List Int->List Int
 | acc,[]=>acc
 | acc,x :: xs=>putAll (putZ x acc) xs
theorem mem_putAll:∀ (l acc:List Int) (y:Int),y∈putAll acc l ↔ y∈acc \/ y∈l:=by
 intro l
 induction l with
 | nil=>intro acc y; simp [putAll]
 | cons x xs ih =>
  intro acc y
  unfold putAll
  rw [ih,mem_putZ,List.mem_cons]
  constructor
  ·rintro ((h | h) | h)
   ·exact .inr (.inl h)
   ·exact .inl h
   ·exact .inr (.inr h)
  ·rintro (h | h | h)
   ·exact .inl (.inr h)
   ·exact .inl (.inl h)
   ·exact .inr h
theorem putAll_lt:∀ (l acc:List Int),acc.Pairwise (· < ·)->(putAll acc l).Pairwise (· < ·):=by
 intro l
 induction l with
 | nil=>intro acc h; exact h
 | cons x xs ih=>intro acc h; exact ih _ (putZ_lt x acc h)
theorem putAll_len:∀ (l acc:List Int),(putAll acc l).length<=acc.length+l.length:=by
 intro l
 induction l with
 | nil=>intro acc; simp [putAll]
 | cons x xs ih =>
  intro acc
  have h1:=ih (putZ x acc)
  have h2:=putZ_len x acc
  unfold putAll
  simp only [List.length_cons]
  omega
theorem lt_unique:∀ (a b:List Int),a.Pairwise (· < ·)->b.Pairwise (· < ·)->(∀ x,x∈a ↔ x∈b)->a=b:=by
 intro a
 induction a with
 | nil =>
  intro b _ _ h
  cases b with
  | nil=>rfl
  | cons y ys=>exact absurd ((h y).2 List.mem_cons_self) (by simp)
 | cons x xs ih =>
  intro b ha hb h
  cases b with
  | nil=>exact absurd ((h x).1 List.mem_cons_self) (by simp)
  | cons y ys =>
   obtain ⟨a1,a2⟩:=List.pairwise_cons.1 ha
   obtain ⟨b1,b2⟩:=List.pairwise_cons.1 hb
   have e:x=y:=by
    rcases List.mem_cons.1 ((h x).1 List.mem_cons_self) with e | hx
    ·exact e
    ·rcases List.mem_cons.1 ((h y).2 List.mem_cons_self) with e | hy
     ·exact e.symm
     ·have:=b1 x hx; have:=a1 y hy; omega
   subst e
   rw [ih ys a2 b2 fun z=>?_]
   constructor
   ·intro hz
    rcases List.mem_cons.1 ((h z).1 (List.mem_cons_of_mem _ hz)) with e | h'
    ·have:=a1 z hz; omega
    ·exact h'
   ·intro hz
    rcases List.mem_cons.1 ((h z).2 (List.mem_cons_of_mem _ hz)) with e | h'
    ·have:=b1 z hz; omega
    ·exact h'
theorem compact_lt (l:List Int) (h:l.Pairwise (·<=·)):(Lib.compact l).Pairwise (· < ·):=by
 unfold Lib.compact Lib.compactUpTo
 rw [List.pairwise_map]
 have hr:(List.range l.length).Pairwise (· < ·):=List.pairwise_lt_range
 have hf:=hr.filter (Lib.keeps l.toArray)
 refine List.Pairwise.imp_of_mem (R:=(· < ·)) ?_ hf
 intro i j hi hj hij
 have hjl:j < l.length:=by simpa using (List.mem_filter.1 hj).1
 have hk:=(List.mem_filter.1 hj).2
 unfold Lib.keeps at hk
 rw [decide_eq_true_eq] at hk
 have hall:=List.pairwise_iff_getElem.1 h
 have e1:l.toArray[j]! =l[j]:=by rw [getElem!_pos _ _ (by simpa using hjl)]; simp
 have e2:l.toArray[j - 1]! =l[j - 1]:=by rw [getElem!_pos _ _ (by simp; omega)]; simp
 have e3:l.toArray[i]! =l[i]:=by rw [getElem!_pos _ _ (by simp; omega)]; simp
 rw [e1,e2] at hk
 rw [e1,e3]
 have h1:l[j - 1]<=l[j]:=hall (j - 1) j (by omega) hjl (by omega)
 have h2:l[i]<=l[j - 1]:=by
  by_cases e:i=j - 1
  ·subst e; exact Int.le_refl _
  ·exact hall i (j - 1) (by omega) (by omega) (by omega)
 rcases hk with hk | hk
 ·omega
 ·omega
theorem mem_compact (l:List Int) (x:Int):x∈Lib.compact l ↔ x∈l:=by
 unfold Lib.compact Lib.compactUpTo
 rw [List.mem_map]
 constructor
 ·rintro ⟨i,hi,rfl⟩
  have hil:i < l.length:=by simpa using (List.mem_filter.1 hi).1
  rw [getElem!_pos _ _ (by simpa using hil)]
  simp
 ·intro hx
  obtain ⟨i,hi,he⟩:=List.getElem_of_mem hx
  have key:∀ (n i:Nat),i<=n->∀ (hi:i < l.length),l[i]=x->∃ j,j∈(List.range l.length).filter (Lib.keeps l.toArray)/\l.toArray[j]! =x:=by
   intro n
   induction n with
   | zero =>
    intro i hin hi he
    obtain rfl:i=0:=by omega
    refine ⟨0,List.mem_filter.2 ⟨by simpa using hi,by simp [Lib.keeps]⟩,?_⟩
    rw [getElem!_pos _ _ (by simpa using hi)]; simpa using he
   | succ n ih =>
    intro i hin hi he
    by_cases h0:i=0
    ·exact ih i (by omega) hi he
    ·by_cases hp:l[i - 1]'(by omega)=x
     ·exact ih (i - 1) (by omega) (by omega) hp
     ·refine ⟨i,List.mem_filter.2 ⟨by simpa using hi,?_⟩,?_⟩
      ·unfold Lib.keeps
       rw [decide_eq_true_eq]
       right
       rw [getElem!_pos _ _ (by simpa using hi),getElem!_pos _ _ (by simp; omega)]
       simp only [List.getElem_toArray]
       rw [he]
       exact fun e=>hp e.symm
      ·rw [getElem!_pos _ _ (by simpa using hi)]; simpa using he
  exact key i i (Nat.le_refl _) hi he
theorem set_put (l:List Int):Lib.compact (SI.sortF l)=putAll [] l:=by
 refine lt_unique _ _ (compact_lt _ (SI.sortF_asc l)) (putAll_lt l [] List.Pairwise.nil) fun x=>?_
 rw [mem_compact,mem_putAll,(SI.sortF_perm l).mem_iff]
 simp
theorem sortedSet_eq (l:List Int) (hl:l.length<=1048576):impl_sortedSet.f l=some (putAll [] l):=by
 unfold impl_sortedSet.f SI.setF
 rw [if_pos hl,set_put]
end Go.Proofs.YtgjpphcbdbfhlaaGreat.L
end
section
/- Plain facts on sheets: the tracks that are open in a step. No condition. -/
set_option linter.unusedVariables false
set_option linter.unusedSimpArgs false
namespace Go.Proofs.YtgjpphcbdbfhlaaGreat.L
open Go.RowKit Go.Proofs.YtgjpphcbdbfhlaaGreatW.PrintWords Go.Proofs.YtgjpphcbdbfhlaaGreatW.PrintLast Go.Proofs.YtgjpphcbdbfhlaaGreatW.PrintMore

def openB (s:Int) (x:S40):Bool:=decide (x.f1<=s/\s < x.f2)
def openOf (s:Int) (l:List S40):List Int:=(l.filter (openB s)).map (·.f0)
theorem open_apart (l:List S40) (s:Int) (hg:goodSheet l=true):(openOf s l).Pairwise (· ≠ ·):=by
 have key:∀ (l pre:List S40),sheetFrom pre l=true->l.Pairwise (fun y x=>touchB x y=false)/\∀ y∈pre,∀ x∈l,touchB x y=false:=by
  intro l
  induction l with
  | nil=>intro pre _; exact ⟨List.Pairwise.nil,fun _ _ _ hx=>by cases hx⟩
  | cons x xs ih =>
   intro pre h
   simp only [sheetFrom,Bool.and_eq_true,Bool.not_eq_true',List.any_eq_false] at h
   obtain ⟨_,_,h3,h4⟩:=h
   obtain ⟨q1,q2⟩:=ih _ h4
   refine ⟨List.pairwise_cons.2 ⟨fun z hz=>q2 x (by simp) z hz,q1⟩,fun y hy z hz=>?_⟩
   rcases List.mem_cons.1 hz with rfl | hz
   ·simpa using h3 y hy
   ·exact q2 y (by simp [hy]) z hz
 have hh:=goodSheet_all hg
 simp only [goodSheet,Bool.and_eq_true] at hg
 have hp:=(key l [] hg.1).1
 unfold openOf
 rw [List.pairwise_map]
 have hf:=hp.filter (openB s)
 refine List.Pairwise.imp_of_mem (R:=fun y x=>touchB x y=false) ?_ hf
 intro y x hy hx ht e
 have oy:=(List.mem_filter.1 hy).2
 have ox:=(List.mem_filter.1 hx).2
 simp only [openB,decide_eq_true_eq] at ox oy
 simp only [touchB,decide_eq_false_iff_not] at ht
 omega
end Go.Proofs.YtgjpphcbdbfhlaaGreat.L
end
section
/- Plain facts on sheets: the tracks that are used,and the spare ones. No condition. -/
set_option linter.unusedVariables false
set_option linter.unusedSimpArgs false
namespace Go.Proofs.YtgjpphcbdbfhlaaGreat.L
open Go.RowKit Go.Proofs.YtgjpphcbdbfhlaaGreatW.PrintWords Go.Proofs.YtgjpphcbdbfhlaaGreatW.PrintLast Go.Proofs.YtgjpphcbdbfhlaaGreatW.PrintMore

def tracksOf (l:List S40):List Int:=l.map (·.f0)
theorem putAll_app (a b acc:List Int):putAll acc (a ++ b)=putAll (putAll acc a) b:=by
 induction a generalizing acc with
 | nil=>rfl
 | cons x xs ih=>exact ih _
theorem tracks_l0 (l:List S40) (hl:l.length<=60):∀ (suf pre:List S40),pre ++ suf=l ->
  Ev (fun k=>spec_laTracks.l0 k (putAll [] (tracksOf pre)) l l.length pre.length) (putAll [] (tracksOf l))/\Ev (fun k=>impl_tracksUsed.l0 k (tracksOf pre) l l.length pre.length) (putAll [] (tracksOf l)):=by
 intro suf
 induction suf with
 | nil =>
  intro pre h
  have hn:¬ ((pre.length:Int) < (l.length:Int)):=by rw [<- h]; simp
  have e:pre=l:=by rw [<- h]; simp
  refine ⟨Ev.fuel ?_,Ev.fuel ?_⟩
  ·simp only [spec_laTracks.l0,hn,↓reduceIte]; rw [e]; exact Ev.now _
  ·simp only [impl_tracksUsed.l0,hn,↓reduceIte]
   rw [e]
   simp only [sortedSet_eq (tracksOf l) (by unfold tracksOf; simp; omega),Option.bind_some]
   exact Ev.now _
 | cons x suf ih =>
  intro pre h
  have hlen:l.length=pre.length+(suf.length+1):=by rw [<- h]; simp
  have h1:(pre.length:Int) < (l.length:Int):=by omega
  have h2:(0:Int)<=(pre.length:Int):=by omega
  have h3:rd_T40 l (pre.length:Int)=x:=by rw [<- h]; exact getD_mid _ _ _ _
  have ec:((pre ++ [x]).length:Int)=((pre.length+1:Nat):Int):=by simp
  have ht:(tracksOf pre).length=pre.length:=by simp [tracksOf]
  have hz2:=putAll_len (tracksOf pre) []
  simp only [List.length_nil,Nat.zero_add] at hz2
  obtain ⟨e1,e2⟩:=ih (pre ++ [x]) (by rw [<- h]; simp)
  have es:tracksOf (pre ++ [x])=tracksOf pre ++ [x.f0]:=by simp [tracksOf]
  rw [ec,es] at e1 e2
  rw [putAll_app] at e1
  refine ⟨Ev.fuel ?_,Ev.fuel ?_⟩
  ·simp only [spec_laTracks.l0,h1,h2,h3,↓reduceIte,wn pre.length (by omega)]
   exact Ev.bind (zPut_ev _ x.f0 (by omega)) e1
  ·simp only [impl_tracksUsed.l0,h1,h2,h3,↓reduceIte,wn pre.length (by omega),show (tracksOf pre).length < 17592186044416 from by omega]
   exact e2
theorem laTracks_ev (l:List S40) (hl:l.length<=60):Ev (fun k=>spec_laTracks.f k l) (putAll [] (tracksOf l)):=by unfold spec_laTracks.f; exact (tracks_l0 l hl l [] rfl).1
theorem tracksUsed_ev (l:List S40) (hl:l.length<=60):Ev (fun k=>impl_tracksUsed.f k l) (putAll [] (tracksOf l)):=by unfold impl_tracksUsed.f; exact (tracks_l0 l hl l [] rfl).2
theorem used_len (l:List S40) (hl:l.length<=60):(putAll [] (tracksOf l)).length<=60:=by
 have hz2:=putAll_len (tracksOf l) []
 have ht:(tracksOf l).length=l.length:=by simp [tracksOf]
 simp only [List.length_nil,Nat.zero_add] at hz2
 omega
theorem tracksLaw_ev (l:List S40) (hl:l.length<=1048576):∃ r0 r1,r0.length<=1048576/\Ev (fun k=>spec_TracksUsed.f k l) (r0,r1)/\Ev (fun k=>impl_TracksUsed.f k l) (r0,r1):=by
 unfold spec_TracksUsed.f impl_TracksUsed.f
 by_cases hg:goodSheet l=true
 ·have h60:=goodSheet_len hg
  have hu:=used_len l h60
  refine ⟨putAll [] (tracksOf l),true,by omega,?_,?_⟩
  ·refine Ev.bind (shGood_ev l hl) ?_
   simp only [hg,↓reduceIte]
   exact Ev.bind (laTracks_ev l h60) (Ev.now _)
  ·refine Ev.bind (IsSheet_ev l hl) ?_
   simp only [hg,↓reduceIte]
   exact Ev.bind (tracksUsed_ev l h60) (Ev.now _)
 ·refine ⟨[],false,by simp,?_,?_⟩
  ·refine Ev.bind (shGood_ev l hl) ?_
   simp only [hg,Bool.false_eq_true,↓reduceIte]
   exact Ev.now _
  ·refine Ev.bind (IsSheet_ev l hl) ?_
   simp only [hg,Bool.false_eq_true,↓reduceIte]
   exact Ev.now _
theorem hasT_l0 (l:List Int) (v:Int) (hl:l.length<=1048576):∀ (suf pre:List Int),pre ++ suf=l->Ev (fun k=>spec_l1Has.l0 k v l l.length pre.length) (decide (v∈suf)):=by
 intro suf
 induction suf with
 | nil =>
  intro pre h
  have hn:¬ ((pre.length:Int) < (l.length:Int)):=by rw [<- h]; simp
  refine Ev.fuel ?_
  simp only [spec_l1Has.l0,hn,↓reduceIte]
  exact Ev.const (dec_f (by simp))
 | cons x suf ih =>
  intro pre h
  have hlen:l.length=pre.length+(suf.length+1):=by rw [<- h]; simp
  have h1:(pre.length:Int) < (l.length:Int):=by omega
  have h2:(0:Int)<=(pre.length:Int):=by omega
  have h3:rd l (pre.length:Int)=x:=by rw [<- h]; exact getD_mid _ _ _ _
  have e:Ev (fun k=>spec_l1Has.l0 k v l l.length ((pre.length+1:Nat):Int)) (decide (v∈suf)):=by simpa using ih (pre ++ [x]) (by rw [<- h]; simp)
  refine Ev.fuel ?_
  simp only [spec_l1Has.l0,h1,h2,h3,↓reduceIte,wn pre.length (by omega)]
  by_cases hx:x=v
  ·simp only [hx,↓reduceIte]
   exact Ev.const (dec_t (by simp))
  ·simp only [hx,↓reduceIte]
   have:decide (v∈x :: suf)=decide (v∈suf):=by
    rw [decide_eq_decide,List.mem_cons]
    constructor
    ·rintro (h | h)
     ·exact absurd h.symm hx
     ·exact h
    ·exact .inr
   rw [this]; exact e
theorem hasT_ev (l:List Int) (v:Int) (hl:l.length<=1048576):Ev (fun k=>spec_l1Has.f k l v) (decide (v∈l)):=by
 unfold spec_l1Has.f
 exact hasT_l0 l v hl l [] rfl
def spareFrom (used:List Int):Nat->Nat->List Int->List Int
 | 0,_,acc=>acc
 | d+1,i,acc=>spareFrom used d (i+1) (if (i:Int)∈used then acc else acc ++ [(i:Int)])
theorem spareFrom_len (used:List Int):∀ (d i:Nat) (acc:List Int),(spareFrom used d i acc).length<=acc.length+d:=by
 intro d
 induction d with
 | zero=>intro i acc; simp [spareFrom]
 | succ d ih =>
  intro i acc
  by_cases h:(i:Int)∈used
  ·have:=ih (i+1) acc
   simp only [spareFrom,h,↓reduceIte]; omega
  ·have:=ih (i+1) (acc ++ [(i:Int)])
   rw [List.length_append,List.length_singleton] at this
   simp only [spareFrom,h,↓reduceIte]; omega
theorem spare_l0 (used:List Int) (hu:used.length<=1048576) (n:Nat) (hn:n<=1048576):∀ (d i:Nat) (acc:List Int),i+d=n->acc.length<=i ->
  Ev (fun k=>spec_SpareTracks.l0 k used acc (n:Int) (i:Int)) (spareFrom used d i acc,true)/\Ev (fun k=>impl_SpareTracks.l0 k used acc (n:Int) (i:Int)) (spareFrom used d i acc,true):=by
 intro d
 induction d with
 | zero =>
  intro i acc h _
  have hc:¬ ((i:Int) < (n:Int)):=by omega
  refine ⟨Ev.fuel ?_,Ev.fuel ?_⟩
  ·simp only [spec_SpareTracks.l0,hc,↓reduceIte]; exact Ev.now _
  ·simp only [impl_SpareTracks.l0,hc,↓reduceIte]; exact Ev.now _
 | succ d ih =>
  intro i acc h ha
  have hc:(i:Int) < (n:Int):=by omega
  have h4:acc.length < 17592186044416:=by omega
  refine ⟨Ev.fuel ?_,Ev.fuel ?_⟩
  ·simp only [spec_SpareTracks.l0,hc,h4,↓reduceIte,wn i (by omega)]
   refine Ev.bind (hasT_ev used i hu) ?_
   unfold spareFrom
   by_cases hm:(i:Int)∈used
   ·simp only [hm,decide_true,↓reduceIte]; exact (ih (i+1) acc (by omega) (by omega)).1
   ·simp only [hm,decide_false,Bool.false_eq_true,↓reduceIte]; exact (ih (i+1) (acc ++ [(i:Int)]) (by omega) (by simp; omega)).1
  ·simp only [impl_SpareTracks.l0,hc,h4,↓reduceIte,wn i (by omega)]
   refine Ev.bind (Contains_ev used i hu) ?_
   unfold spareFrom
   by_cases hm:(i:Int)∈used
   ·simp only [hm,decide_true,↓reduceIte]; exact (ih (i+1) acc (by omega) (by omega)).2
   ·simp only [hm,decide_false,Bool.false_eq_true,↓reduceIte]; exact (ih (i+1) (acc ++ [(i:Int)]) (by omega) (by simp; omega)).2
theorem spareLaw_ev (p:List Int) (r:Int) (l:List S40) (hp:p.length<=1048576) (hl:l.length<=1048576):∃ r0 r1,r0.length<=1048576/\Ev (fun k=>spec_SpareTracks.f k p r l) (r0,r1)/\Ev (fun k=>impl_SpareTracks.f k p r l) (r0,r1):=by
 unfold spec_SpareTracks.f impl_SpareTracks.f
 have ha:Ev (fun k=>spec_laAsked.f k p r l) (goodIns p r && goodSheet l):=by
  unfold spec_laAsked.f
  refine Ev.bind (inGood_ev p r hp) ?_
  by_cases hi:goodIns p r=true
  ·simp only [hi,↓reduceIte,Bool.true_and]; exact Ev.bind (shGood_ev l hl) (Ev.now _)
  ·simp only [hi,Bool.false_eq_true,↓reduceIte,Bool.false_and]; exact Ev.now _
 have jT:Ev (fun k=>impl_SpareTracks.j0 k l true p r) ([],false):=by refine Ev.fuel ?_; simp only [impl_SpareTracks.j0,↓reduceIte]; exact Ev.now _
 by_cases hi:goodIns p r=true
 ·by_cases hg:goodSheet l=true
  ·have h60:=goodSheet_len hg
   have hu:=used_len l h60
   have hs:=spareFrom_len (putAll [] (tracksOf l)) p.length 0 []
   simp only [List.length_nil,Nat.zero_add] at hs
   obtain ⟨s1,s2⟩:=spare_l0 (putAll [] (tracksOf l)) (by omega) p.length hp p.length 0 [] (by omega) (by simp)
   refine ⟨spareFrom (putAll [] (tracksOf l)) p.length 0 [],true,by omega,?_,?_⟩
   ·refine Ev.bind ha ?_
    simp only [hi,hg,Bool.and_self,↓reduceIte]
    exact Ev.bind (laTracks_ev l h60) s1
   ·refine Ev.bind (IsInstrument_ev p r hp) ?_
    simp only [hi,↓reduceIte]
    refine Ev.bind (IsSheet_ev l hl) ?_
    simp only [hg,Bool.not_true]
    refine Ev.fuel ?_
    simp only [impl_SpareTracks.j0,Bool.false_eq_true,↓reduceIte]
    exact Ev.bind (tracksUsed_ev l h60) s2
  ·refine ⟨[],false,by simp,?_,?_⟩
   ·refine Ev.bind ha ?_
    simp only [hi,hg,Bool.and_false,Bool.false_eq_true,↓reduceIte]
    exact Ev.now _
   ·refine Ev.bind (IsInstrument_ev p r hp) ?_
    simp only [hi,↓reduceIte]
    refine Ev.bind (IsSheet_ev l hl) ?_
    simp only [hg,Bool.not_false]
    exact jT
 ·refine ⟨[],false,by simp,?_,?_⟩
  ·refine Ev.bind ha ?_
   simp only [hi,Bool.false_and,Bool.false_eq_true,↓reduceIte]
   exact Ev.now _
  ·refine Ev.bind (IsInstrument_ev p r hp) ?_
   simp only [hi,Bool.false_eq_true,↓reduceIte]
   exact jT
end Go.Proofs.YtgjpphcbdbfhlaaGreat.L
end
section
/- Plain facts on crowded steps: the program's count over an array is the reference's count over a row. No condition. -/
set_option linter.unusedVariables false
set_option linter.unusedSimpArgs false
namespace Go.Proofs.YtgjpphcbdbfhlaaGreat.L
open Go.RowKit Go.Proofs.YtgjpphcbdbfhlaaGreatW.PrintWords Go.Proofs.YtgjpphcbdbfhlaaGreatW.PrintLast Go.Proofs.YtgjpphcbdbfhlaaGreatW.PrintMore

theorem crowd_eq (a:Int):∀ k,(∀ (x6:List Int) (b:List S40) (c d:Int),x6.length=2000->impl_CrowdedSteps.l0 k a x6 b c d=spec_CrowdedSteps.l0 k a x6 b c d) /\
  (∀ (x6:List Int) (n:Int) (b:List S40) (c d y0 y1 y2:Int),x6.length=2000->impl_CrowdedSteps.l1 k a x6 n b c d y0 y1 y2=spec_CrowdedSteps.l1 k a x6 n b c d y0 y1 y2) /\
  (∀ (n:Int) (x6:List Int) (i:Int),x6.length=2000->impl_CrowdedSteps.l2 k a n x6 i=spec_CrowdedSteps.l2 k a n x6 2000 i):=by
 intro k
 induction k with
 | zero=>exact ⟨fun _ _ _ _ _=>rfl,fun _ _ _ _ _ _ _ _ _=>rfl,fun _ _ _ _=>rfl⟩
 | succ k ih =>
  obtain ⟨i0,i1,i2⟩:=ih
  refine ⟨fun x6 b c d h=>?_,fun x6 n b c d y0 y1 y2 h=>?_,fun n x6 i h=>?_⟩
  ·simp only [impl_CrowdedSteps.l0,spec_CrowdedSteps.l0,i1 _ _ _ _ _ _ _ _ h,i2 _ _ _ h,h,↓reduceIte]
   rfl
  ·simp only [impl_CrowdedSteps.l1,spec_CrowdedSteps.l1,i0 _ _ _ _ h,i1 (x6.set n.toNat (wrap64 (rd x6 n+1))) _ _ _ _ _ _ _ (by rw [List.length_set]; exact h),h]
   rfl
  ·simp only [impl_CrowdedSteps.l2,spec_CrowdedSteps.l2,i2 _ _ _ h,h,↓reduceIte]
   by_cases h1:i < 2000
   ·have h2:i < ((2000:Nat):Int):=h1
    simp only [h1,h2,↓reduceIte]
   ·simp only [h1,↓reduceIte]
theorem crowd_l2 (a:Int) (x6:List Int) (h:x6.length=2000):∀ (m:Nat) (n i:Int),0<=i->(i:Int)+m=2000->∃ r,Ev (fun k=>spec_CrowdedSteps.l2 k a n x6 2000 i) (r,true):=by
 intro m
 induction m with
 | zero =>
  intro n i h0 h1
  refine ⟨n,Ev.fuel ?_⟩
  simp only [spec_CrowdedSteps.l2,show ¬ i < 2000 from by omega,↓reduceIte]
  exact Ev.now _
 | succ m ih =>
  intro n i h0 h1
  have hw:wrap64 (i+1)=i+1:=w_id (by omega) (by omega)
  by_cases hr:rd x6 i > a
  ·obtain ⟨r,hr'⟩:=ih (wrap64 (n+1)) (i+1) (by omega) (by omega)
   refine ⟨r,Ev.fuel ?_⟩
   simp only [spec_CrowdedSteps.l2,show i < 2000 from by omega,show i < (x6.length:Int) from by omega,h0,hr,hw,↓reduceIte]
   exact hr'
  ·obtain ⟨r,hr'⟩:=ih n (i+1) (by omega) (by omega)
   refine ⟨r,Ev.fuel ?_⟩
   simp only [spec_CrowdedSteps.l2,show i < 2000 from by omega,show i < (x6.length:Int) from by omega,h0,hr,hw,↓reduceIte]
   exact hr'
theorem crowd_l1 (a:Int) (b:List S40) (c d y0 y1 y2:Int) (hy:y2<=2000) (hk:∀ x6:List Int,x6.length=2000->∃ r,Ev (fun k=>spec_CrowdedSteps.l0 k a x6 b c (wrap64 (d+1))) (r,true)) :
  ∀ (m:Nat) (n:Int) (x6:List Int),0<=n->(n:Int)+m=y2->x6.length=2000->∃ r,Ev (fun k=>spec_CrowdedSteps.l1 k a x6 n b c d y0 y1 y2) (r,true):=by
 intro m
 induction m with
 | zero =>
  intro n x6 h0 h1 h
  obtain ⟨r,hr⟩:=hk x6 h
  refine ⟨r,Ev.fuel ?_⟩
  simp only [spec_CrowdedSteps.l1,show ¬ n < y2 from by omega,↓reduceIte]
  exact hr
 | succ m ih =>
  intro n x6 h0 h1 h
  have hw:wrap64 (n+1)=n+1:=w_id (by omega) (by omega)
  obtain ⟨r,hr⟩:=ih (n+1) (x6.set n.toNat (wrap64 (rd x6 n+1))) (by omega) (by omega) (by rw [List.length_set]; exact h)
  refine ⟨r,Ev.fuel ?_⟩
  simp only [spec_CrowdedSteps.l1,show n < y2 from by omega,show n < (x6.length:Int) from by omega,h0,hw,↓reduceIte]
  exact hr
theorem crowd_l0 (a:Int) (l:List S40) (hl:l.length<=60) (hn:∀ x∈l,holeB x=true):∀ (suf pre:List S40) (x6:List Int),pre ++ suf=l->x6.length=2000 ->
  ∃ r,Ev (fun k=>spec_CrowdedSteps.l0 k a x6 l l.length pre.length) (r,true):=by
 intro suf
 induction suf with
 | nil =>
  intro pre x6 h h2
  have hn:¬ ((pre.length:Int) < (l.length:Int)):=by rw [<- h]; simp
  obtain ⟨r,hr⟩:=crowd_l2 a x6 h2 2000 0 0 (by omega) (by omega)
  refine ⟨r,Ev.fuel ?_⟩
  simp only [spec_CrowdedSteps.l0,hn,↓reduceIte,h2]
  exact hr
 | cons x suf ih =>
  intro pre x6 h h2
  have hlen:l.length=pre.length+(suf.length+1):=by rw [<- h]; simp
  have c1:(pre.length:Int) < (l.length:Int):=by omega
  have c2:(0:Int)<=(pre.length:Int):=by omega
  have c3:rd_T40 l (pre.length:Int)=x:=by rw [<- h]; exact getD_mid _ _ _ _
  have hx:=(holeB_iff x).1 (hn x (by rw [<- h]; simp))
  have hk:∀ x6:List Int,x6.length=2000->∃ r,Ev (fun k=>spec_CrowdedSteps.l0 k a x6 l l.length (wrap64 ((pre.length:Int)+1))) (r,true):=by
   intro x6 h2
   rw [wn pre.length (by omega)]
   have e:=ih (pre ++ [x]) x6 (by rw [<- h]; simp) h2
   simpa using e
  obtain ⟨r,hr⟩:=crowd_l1 a l l.length pre.length x.f0 x.f1 x.f2 (by omega) hk (x.f2 - x.f1).toNat x.f1 x6 (by omega) (by omega) h2
  refine ⟨r,Ev.fuel ?_⟩
  simp only [spec_CrowdedSteps.l0,c1,c2,c3,↓reduceIte]
  exact hr
theorem crowdedLaw_ev (l:List S40) (a:Int) (hl:l.length<=1048576):∃ r0 r1,Ev (fun k=>spec_CrowdedSteps.f k l a) (r0,r1)/\Ev (fun k=>impl_CrowdedSteps.f k l a) (r0,r1):=by
 unfold spec_CrowdedSteps.f impl_CrowdedSteps.f
 have jT:Ev (fun k=>spec_CrowdedSteps.j0 k l a true) (0,false):=by refine Ev.fuel ?_; simp only [spec_CrowdedSteps.j0,↓reduceIte]; exact Ev.now _
 by_cases hg:goodSheet l=true
 ·by_cases hs:0<=a/\a<=20
  ·obtain ⟨r,hr⟩:=crowd_l0 a l (goodSheet_len hg) (goodSheet_all hg) l [] (List.replicate 2000 0) rfl (List.length_replicate ..)
   refine ⟨r,true,?_,?_⟩
   ·refine Ev.bind (shGood_ev l hl) ?_
    simp only [hg,↓reduceIte,l1In_h,Option.bind_some,hs,and_self,decide_true,Bool.not_true]
    refine Ev.fuel ?_
    simp only [spec_CrowdedSteps.j0,Bool.false_eq_true,show (2000:Int)<=35184372088832 from by omega,show (2000:Nat)<=35184372088832 from by omega,↓reduceIte]
    exact hr
   ·refine Ev.bind (IsSheet_ev l hl) ?_
    simp only [hg,↓reduceIte,show ¬ a < 0 from by omega,show ¬ a > 20 from by omega]
    simp only [(crowd_eq a _).1 (List.replicate 2000 0) l l.length 0 (List.length_replicate ..)]
    exact hr
  ·refine ⟨0,false,?_,?_⟩
   ·refine Ev.bind (shGood_ev l hl) ?_
    simp only [hg,↓reduceIte,l1In_h,Option.bind_some,hs,decide_false,Bool.not_false]
    exact jT
   ·refine Ev.bind (IsSheet_ev l hl) ?_
    simp only [hg,↓reduceIte]
    by_cases h1:a < 0
    ·simp only [h1,↓reduceIte]; exact Ev.now _
    ·simp only [h1,↓reduceIte,show a > 20 from by omega]; exact Ev.now _
 ·refine ⟨0,false,?_,?_⟩
  ·refine Ev.bind (shGood_ev l hl) ?_
   simp only [hg,Bool.false_eq_true,↓reduceIte]
   exact jT
  ·refine Ev.bind (IsSheet_ev l hl) ?_
   simp only [hg,Bool.false_eq_true,↓reduceIte]
   exact Ev.now _
end Go.Proofs.YtgjpphcbdbfhlaaGreat.L
end
section
/- Plain facts on crowded steps: how many tracks are open at each step,and how many steps have more than so many. No condition. -/
set_option linter.unusedVariables false
set_option linter.unusedSimpArgs false
namespace Go.Proofs.YtgjpphcbdbfhlaaGreat.L
open Go.RowKit Go.Proofs.YtgjpphcbdbfhlaaGreatW.PrintWords Go.Proofs.YtgjpphcbdbfhlaaGreatW.PrintLast Go.Proofs.YtgjpphcbdbfhlaaGreatW.PrintMore

def cntO (l:List S40) (i:Nat):Int:=((l.filter (openB i)).length:Int)
def cntL (l:List S40):List Int:=(List.range 2000).map (cntO l)
def moreN (a:Int) (x:List Int):Nat:=(x.filter fun v=>decide (v > a)).length
theorem cntL_len (l:List S40):(cntL l).length=2000:=by simp [cntL]
theorem rd_nat (x:List Int) (i:Nat) (h:i < x.length):x[i]?=some (rd x (i:Int)):=by
 unfold rd
 rw [Int.toNat_natCast,List.getD_eq_getElem?_getD,List.getElem?_eq_getElem h]
 rfl
theorem cntL_of {l:List S40} {x:List Int} (h:x.length=2000) (hc:∀ i:Nat,i < 2000->rd x (i:Int)=cntO l i):x=cntL l:=by
 apply List.ext_getElem?
 intro i
 by_cases hi:i < 2000
 ·rw [rd_nat x i (by omega),hc i hi]
  unfold cntL
  rw [List.getElem?_map,List.getElem?_range hi]
  rfl
 ·rw [List.getElem?_eq_none (by omega),List.getElem?_eq_none (by rw [cntL_len]; omega)]
theorem more_l2 (a:Int) (x6:List Int) (h:x6.length=2000):∀ (suf pre:List Int) (n:Int),pre ++ suf=x6->0<=n->n<=pre.length->Ev (fun k=>spec_CrowdedSteps.l2 k a n x6 2000 (pre.length:Int)) (n+moreN a suf,true):=by
 intro suf
 induction suf with
 | nil =>
  intro pre n hp h0 h1
  have hl:pre.length=2000:=by rw [<- h,<- hp]; simp
  refine Ev.fuel ?_
  simp only [spec_CrowdedSteps.l2,show ¬ (pre.length:Int) < 2000 from by omega,↓reduceIte,moreN,List.filter_nil,List.length_nil]
  exact Ev.const (by simp)
 | cons v suf ih =>
  intro pre n hp h0 h1
  have hl:pre.length+(suf.length+1)=2000:=by rw [<- h,<- hp]; simp
  have c3:rd x6 (pre.length:Int)=v:=by rw [<- hp]; exact getD_mid _ _ _ _
  have hw:wrap64 ((pre.length:Int)+1)=((pre.length+1:Nat):Int):=wn pre.length (by omega)
  by_cases hr:v > a
  ·have e:=ih (pre ++ [v]) (n+1) (by rw [<- hp]; simp) (by omega) (by simp; omega)
   have em:n+(moreN a (v :: suf):Int)=n+1+(moreN a suf:Int):=by
    unfold moreN
    rw [List.filter_cons_of_pos (by simpa using hr),List.length_cons]
    push_cast; omega
   rw [em]
   refine Ev.fuel ?_
   simp only [spec_CrowdedSteps.l2,show (pre.length:Int) < 2000 from by omega,show (pre.length:Int) < (x6.length:Int) from by omega,show (0:Int)<=(pre.length:Int) from by omega,c3,hr,hw,w_id (x:=n+1) (by omega) (by omega),↓reduceIte]
   simpa using e
  ·have e:=ih (pre ++ [v]) n (by rw [<- hp]; simp) h0 (by simp; omega)
   have em:(moreN a (v :: suf):Int)=(moreN a suf:Int):=by
    unfold moreN
    rw [List.filter_cons_of_neg (by simpa using hr)]
   rw [em]
   refine Ev.fuel ?_
   simp only [spec_CrowdedSteps.l2,show (pre.length:Int) < 2000 from by omega,show (pre.length:Int) < (x6.length:Int) from by omega,show (0:Int)<=(pre.length:Int) from by omega,c3,hr,hw,↓reduceIte]
   simpa using e
theorem rd_set (x:List Int) (n:Int) (v:Int) (i:Nat) (hn:0<=n) (hl:n < x.length):rd (x.set n.toNat v) (i:Int)=if (i:Int)=n then v else rd x (i:Int):=by
 unfold rd
 rw [Int.toNat_natCast,List.getD_eq_getElem?_getD,List.getD_eq_getElem?_getD,List.getElem?_set]
 by_cases e:(i:Int)=n
 ·rw [if_pos e,if_pos (by omega),if_pos (by omega)]; rfl
 ·rw [if_neg e,if_neg (by omega)]
theorem more_l1 (a:Int) (b:List S40) (c d y0 y1 y2:Int) (hy:y2<=2000) (g:Nat->Int) (R:Int × Bool) (hg:∀ i,0<=g i/\g i<=1000000) (hk:∀ x6:List Int,x6.length=2000->(∀ i:Nat,i < 2000->rd x6 (i:Int)=g i+(if y1<=(i:Int)/\(i:Int) < y2 then 1 else 0))->Ev (fun k=>spec_CrowdedSteps.l0 k a x6 b c (wrap64 (d+1))) R) :
  ∀ (m:Nat) (n:Int) (x6:List Int),0<=y1->y1<=n->(n:Int)+m=y2->x6.length=2000->(∀ i:Nat,i < 2000->rd x6 (i:Int)=g i+(if y1<=(i:Int)/\(i:Int) < n then 1 else 0))->Ev (fun k=>spec_CrowdedSteps.l1 k a x6 n b c d y0 y1 y2) R:=by
 intro m
 induction m with
 | zero =>
  intro n x6 h0 h1 h2 h hx
  have hn:n=y2:=by omega
  subst hn
  refine Ev.fuel ?_
  simp only [spec_CrowdedSteps.l1,Int.lt_irrefl,↓reduceIte]
  exact hk x6 h hx
 | succ m ih =>
  intro n x6 h0 h1 h2 h hx
  have hw:wrap64 (n+1)=n+1:=w_id (by omega) (by omega)
  have hb:0<=rd x6 n/\rd x6 n<=1000001:=by
   have:=hx n.toNat (by omega)
   rw [show ((n.toNat:Nat):Int)=n from by omega] at this
   have hgn:=hg n.toNat
   rw [this]
   split <;> omega
  refine Ev.fuel ?_
  simp only [spec_CrowdedSteps.l1,show n < y2 from by omega,show n < (x6.length:Int) from by omega,show 0<=n from by omega,hw,w_id (x:=rd x6 n+1) (by omega) (by omega),↓reduceIte]
  refine ih (n+1) (x6.set n.toNat (rd x6 n+1)) h0 (by omega) (by omega) (by rw [List.length_set]; exact h) (fun i hi=>?_)
  rw [rd_set x6 n _ i (by omega) (by omega)]
  by_cases e:(i:Int)=n
  ·rw [if_pos e,if_pos (by omega),<- e,hx i hi,if_neg (by omega)]
   omega
  ·rw [if_neg e,hx i hi]
   by_cases e2:y1<=(i:Int)/\(i:Int) < n
   ·rw [if_pos e2,if_pos (by omega)]
   ·rw [if_neg e2,if_neg (by omega)]
theorem cntO_snoc (p:List S40) (x:S40) (i:Nat):cntO (p ++ [x]) i=cntO p i+(if x.f1<=(i:Int)/\(i:Int) < x.f2 then 1 else 0):=by
 unfold cntO
 rw [List.filter_append,List.length_append]
 by_cases e:x.f1<=(i:Int)/\(i:Int) < x.f2
 ·rw [if_pos e,List.filter_cons_of_pos (by unfold openB; simpa using e)]
  simp
 ·rw [if_neg e,List.filter_cons_of_neg (by unfold openB; simpa using e)]
  simp
theorem cntO_le (p:List S40) (i:Nat):0<=cntO p i/\cntO p i<=p.length:=by
 unfold cntO
 have:=List.length_filter_le (openB i) p
 omega
theorem more_l0 (a:Int) (l:List S40) (hl:l.length<=60) (hn:∀ x∈l,holeB x=true):∀ (suf pre:List S40) (x6:List Int),pre ++ suf=l->x6.length=2000->(∀ i:Nat,i < 2000->rd x6 (i:Int)=cntO pre i) ->
  Ev (fun k=>spec_CrowdedSteps.l0 k a x6 l l.length pre.length) ((moreN a (cntL l):Int),true):=by
 intro suf
 induction suf with
 | nil =>
  intro pre x6 h h2 hx
  rw [List.append_nil] at h
  subst h
  have e:=more_l2 a x6 h2 x6 [] 0 rfl (by omega) (by simp)
  rw [cntL_of h2 hx] at e ⊢
  refine Ev.fuel ?_
  simp only [spec_CrowdedSteps.l0,Int.lt_irrefl,↓reduceIte,cntL_len]
  simpa using e
 | cons x suf ih =>
  intro pre x6 h h2 hx
  have hlen:l.length=pre.length+(suf.length+1):=by rw [<- h]; simp
  have c3:rd_T40 l (pre.length:Int)=x:=by rw [<- h]; exact getD_mid _ _ _ _
  have hb:=(holeB_iff x).1 (hn x (by rw [<- h]; simp))
  refine Ev.fuel ?_
  simp only [spec_CrowdedSteps.l0,show (pre.length:Int) < (l.length:Int) from by omega,show (0:Int)<=(pre.length:Int) from by omega,c3,↓reduceIte]
  refine more_l1 a l l.length pre.length x.f0 x.f1 x.f2 (by omega) (cntO pre) _ (fun i=>by have:=cntO_le pre i; omega) (fun y hy hc=>?_) (x.f2 - x.f1).toNat x.f1 x6 (by omega) (by omega) (by omega) h2 (fun i hi=>by rw [if_neg (by omega),hx i hi]; omega)
  rw [wn pre.length (by omega)]
  have e:=ih (pre ++ [x]) y (by rw [<- h]; simp) hy (fun i hi=>by rw [cntO_snoc]; exact hc i hi)
  simpa using e
def crRes (l:List S40) (a:Int):Int × Bool:=if goodSheet l=true/\(0<=a/\a<=20) then ((moreN a (cntL l):Int),true) else (0,false)
theorem crBoth_ev (l:List S40) (a:Int) (hl:l.length<=1048576):Ev (fun k=>impl_CrowdedSteps.f k l a) (crRes l a)/\Ev (fun k=>spec_CrowdedSteps.f k l a) (crRes l a):=by
 have h2:Ev (fun k=>spec_CrowdedSteps.f k l a) (crRes l a):=by
  have jT:Ev (fun k=>spec_CrowdedSteps.j0 k l a true) (0,false):=by refine Ev.fuel ?_; simp only [spec_CrowdedSteps.j0,↓reduceIte]; exact Ev.now _
  unfold spec_CrowdedSteps.f crRes
  refine Ev.bind (shGood_ev l hl) ?_
  by_cases hg:goodSheet l=true
  ·simp only [hg,↓reduceIte,l1In_h,Option.bind_some,true_and]
   by_cases hs:0<=a/\a<=20
   ·simp only [hs,and_self,decide_true,Bool.not_true,↓reduceIte]
    refine Ev.fuel ?_
    simp only [spec_CrowdedSteps.j0,Bool.false_eq_true,show (2000:Int)<=35184372088832 from by omega,show (2000:Nat)<=35184372088832 from by omega,↓reduceIte]
    refine more_l0 a l (goodSheet_len hg) (goodSheet_all hg) l [] (List.replicate 2000 0) rfl (List.length_replicate ..) (fun i hi=>?_)
    unfold rd cntO
    rw [Int.toNat_natCast,List.getD_eq_getElem?_getD,List.getElem?_replicate,if_pos hi]
    rfl
   ·simp only [hs,decide_false,Bool.not_false,↓reduceIte]
    exact jT
  ·simp only [hg,Bool.false_eq_true,↓reduceIte,false_and]
   exact jT
 obtain ⟨r0,r1,e1,e2⟩:=crowdedLaw_ev l a hl
 rw [Ev.uniq e1 h2] at e2
 exact ⟨e2,h2⟩
theorem moreN_le {a b:Int} (h:a<=b) (x:List Int):moreN b x<=moreN a x:=by
 induction x with
 | nil=>exact Nat.le_refl _
 | cons v x ih =>
  unfold moreN at ih ⊢
  by_cases e:v > b
  ·rw [List.filter_cons_of_pos (by simpa using e),List.filter_cons_of_pos (by simp; omega)]
   simp only [List.length_cons]; omega
  ·rw [List.filter_cons_of_neg (by simpa using e)]
   by_cases e2:v > a
   ·rw [List.filter_cons_of_pos (by simpa using e2),List.length_cons]; omega
   ·rw [List.filter_cons_of_neg (by simpa using e2)]; exact ih
theorem pigeon:∀ (n:Nat) (l:List Int),l.Pairwise (· ≠ ·)->(∀ x∈l,0<=x/\x < n)->l.length<=n:=by
 intro n
 induction n with
 | zero =>
  intro l _ h
  cases l with
  | nil=>simp
  | cons x l=>have:=h x (by simp); omega
 | succ n ih =>
  intro l hp h
  have key:∀ l:List Int,l.Pairwise (· ≠ ·)->l.length<=(l.filter fun x=>decide (x ≠ (n:Int))).length+1:=by
   intro l
   induction l with
   | nil=>intro _; simp
   | cons y l ih2 =>
    intro hp
    rw [List.pairwise_cons] at hp
    by_cases e:y=(n:Int)
    ·rw [List.filter_cons_of_neg (by simpa using e)]
     have:l.filter (fun x=>decide (x ≠ (n:Int)))=l:=by
      rw [List.filter_eq_self]
      intro x hx
      have:=hp.1 x hx
      simp; omega
     rw [this,List.length_cons]
     exact Nat.le_refl _
    ·rw [List.filter_cons_of_pos (by simpa using e)]
     have:=ih2 hp.2
     simp only [List.length_cons]; omega
  have h1:=key l hp
  have h2:=ih (l.filter fun x=>decide (x ≠ (n:Int))) (hp.filter _) (fun x hx=>by
   rw [List.mem_filter] at hx
   have:=h x hx.1
   have h3:x ≠ (n:Int):=by simpa using hx.2
   push_cast at this
   omega)
  omega
theorem cnt_20 {l:List S40} (hg:goodSheet l=true) (i:Nat):cntO l i<=20:=by
 have h1:=open_apart l i hg
 have h2:=pigeon 20 (openOf i l) h1 (fun x hx=>by
  unfold openOf at hx
  obtain ⟨y,hy,rfl⟩:=List.mem_map.1 hx
  have:=(holeB_iff y).1 (goodSheet_all hg y (List.mem_filter.1 hy).1)
  omega)
 unfold openOf at h2
 rw [List.length_map] at h2
 unfold cntO
 omega
theorem more_20 {l:List S40} (hg:goodSheet l=true):moreN 20 (cntL l)=0:=by
 unfold moreN
 rw [List.length_eq_zero_iff,List.filter_eq_nil_iff]
 intro v hv
 unfold cntL at hv
 obtain ⟨i,_,rfl⟩:=List.mem_map.1 hv
 have:=cnt_20 hg i
 simp
 omega
end Go.Proofs.YtgjpphcbdbfhlaaGreat.L
end
section
/- The plain part of the law of open tracks. No condition. -/
set_option linter.unusedVariables false
set_option linter.unusedSimpArgs false
namespace Go.Proofs.YtgjpphcbdbfhlaaGreat.L
open Go.RowKit Go.Proofs.YtgjpphcbdbfhlaaGreatW.PrintWords Go.Proofs.YtgjpphcbdbfhlaaGreatW.PrintLast Go.Proofs.YtgjpphcbdbfhlaaGreatW.PrintMore

def otRes (l:List S40) (t:Int):Int × Bool:=if goodSheet l=true/\(0<=t/\t<=19) then (openSum t l,true) else (0,false)
theorem otBoth_ev (l:List S40) (t:Int) (hl:l.length<=1048576):Ev (fun k=>impl_OpenTime.f k l t) (otRes l t)/\Ev (fun k=>spec_OpenTime.f k l t) (otRes l t):=by
 have h2:Ev (fun k=>spec_OpenTime.f k l t) (otRes l t):=by
  have jS:∀ g:Bool,g=true->Ev (fun k=>spec_OpenTime.j0 k l t g) (0,false):=fun g hg=>by
   refine Ev.fuel ?_; simp only [spec_OpenTime.j0,hg,↓reduceIte]; exact Ev.now _
  unfold spec_OpenTime.f otRes
  refine Ev.bind (shGood_ev l hl) ?_
  by_cases hg:goodSheet l=true
  ·simp only [hg,↓reduceIte,l1In_h,Option.bind_some,true_and]
   by_cases ht:0<=t/\t<=19
   ·have e:=openTime_l0 l t (goodSheet_len hg) (goodSheet_all hg) l [] 0 rfl (by omega) (by simp)
    rw [Int.zero_add] at e
    simp only [ht,and_self,decide_true,Bool.not_true,↓reduceIte]
    refine Ev.fuel ?_
    simp only [spec_OpenTime.j0,Bool.false_eq_true,↓reduceIte]
    exact e
   ·simp only [ht,decide_false,Bool.not_false,↓reduceIte]
    exact jS _ rfl
  ·simp only [hg,Bool.false_eq_true,↓reduceIte,false_and]
   exact jS _ rfl
 obtain ⟨r0,r1,e1,e2⟩:=openTimeLaw_ev l t hl
 rw [Ev.uniq e1 h2] at e2
 exact ⟨e2,h2⟩
def tuRes (l:List S40):List Int × Bool:=if goodSheet l=true then (putAll [] (tracksOf l),true) else ([],false)
theorem tuBoth_ev (l:List S40) (hl:l.length<=1048576):Ev (fun k=>impl_TracksUsed.f k l) (tuRes l)/\Ev (fun k=>spec_TracksUsed.f k l) (tuRes l):=by
 have h2:Ev (fun k=>spec_TracksUsed.f k l) (tuRes l):=by
  unfold spec_TracksUsed.f tuRes
  refine Ev.bind (shGood_ev l hl) ?_
  by_cases hg:goodSheet l=true
  ·simp only [hg,↓reduceIte]
   exact Ev.bind (laTracks_ev l (goodSheet_len hg)) (Ev.now _)
  ·simp only [hg,Bool.false_eq_true,↓reduceIte]
   exact Ev.now _
 obtain ⟨r0,r1,_,e1,e2⟩:=tracksLaw_ev l hl
 rw [Ev.uniq e1 h2] at e2
 exact ⟨e2,h2⟩
def spRes (p:List Int) (r:Int) (l:List S40):List Int × Bool:=if goodIns p r=true/\goodSheet l=true then (spareFrom (putAll [] (tracksOf l)) p.length 0 [],true) else ([],false)
theorem spBoth_ev (p:List Int) (r:Int) (l:List S40) (hp:p.length<=1048576) (hl:l.length<=1048576):Ev (fun k=>impl_SpareTracks.f k p r l) (spRes p r l)/\Ev (fun k=>spec_SpareTracks.f k p r l) (spRes p r l):=by
 have h2:Ev (fun k=>spec_SpareTracks.f k p r l) (spRes p r l):=by
  unfold spec_SpareTracks.f spRes
  refine Ev.bind (laAsked_ev p r l hp hl) ?_
  by_cases hg:goodIns p r=true/\goodSheet l=true
  ·have h60:=goodSheet_len hg.2
   have hu:=used_len l h60
   rw [if_pos hg]
   simp only [hg.1,hg.2,Bool.and_self,↓reduceIte]
   exact Ev.bind (laTracks_ev l h60) (spare_l0 (putAll [] (tracksOf l)) (by omega) p.length hp p.length 0 [] (by omega) (by simp)).1
  ·rw [if_neg hg]
   simp only [and_false_of hg,Bool.false_eq_true,↓reduceIte]
   exact Ev.now _
 obtain ⟨r0,r1,_,e1,e2⟩:=spareLaw_ev p r l hp hl
 rw [Ev.uniq e1 h2] at e2
 exact ⟨e2,h2⟩
theorem tuRes_len (l:List S40):(tuRes l).1.length<=60:=by
 unfold tuRes
 split
 ·rename_i hg; exact used_len l (goodSheet_len hg)
 ·simp
theorem spRes_len (p:List Int) (r:Int) (l:List S40):(spRes p r l).1.length<=p.length:=by
 unfold spRes
 split
 ·have:=spareFrom_len (putAll [] (tracksOf l)) p.length 0 []
  simpa using this
 ·simp
theorem mem_spare (used:List Int):∀ (d i:Nat) (acc:List Int) (x:Int),x∈spareFrom used d i acc ↔ x∈acc \/ ((i:Int)<=x/\x < (i:Int)+d/\x ∉ used):=by
 intro d
 induction d with
 | zero=>intro i acc x; simp only [spareFrom]; constructor; exact .inl; rintro (h | h); exact h; omega
 | succ d ih =>
  intro i acc x
  unfold spareFrom
  rw [ih]
  by_cases hm:(i:Int)∈used
  ·rw [if_pos hm]
   constructor
   ·rintro (h | h)
    ·exact .inl h
    ·exact .inr ⟨by omega,by push_cast at h ⊢; omega,h.2.2⟩
   ·rintro (h | h)
    ·exact .inl h
    ·by_cases e:x=(i:Int)
     ·rw [e] at h; exact absurd hm h.2.2
     ·exact .inr ⟨by push_cast; omega,by push_cast at h ⊢; omega,h.2.2⟩
  ·rw [if_neg hm]
   simp only [List.mem_append,List.mem_singleton]
   constructor
   ·rintro ((h | h) | h)
    ·exact .inl h
    ·rw [h]; exact .inr ⟨Int.le_refl _,by omega,hm⟩
    ·exact .inr ⟨by omega,by push_cast at h ⊢; omega,h.2.2⟩
   ·rintro (h | h)
    ·exact .inl (.inl h)
    ·by_cases e:x=(i:Int)
     ·exact .inl (.inr e)
     ·exact .inr ⟨by push_cast; omega,by push_cast at h ⊢; omega,h.2.2⟩
theorem openSum_le (t:Int):∀ (l:List S40),(∀ x∈l,holeB x=true)->0<=openSum t l/\openSum t l<=2000 * l.length:=by
 intro l
 induction l with
 | nil=>intro _; simp [openSum]
 | cons x l ih =>
  intro h
  have hx:=(holeB_iff x).1 (h x (by simp))
  have:=ih (fun y hy=>h y (by simp [hy]))
  simp only [openSum,List.length_cons]
  push_cast
  split <;> omega
theorem openSum_pos (t:Int):∀ (l:List S40),(∀ x∈l,holeB x=true)->(0 < openSum t l ↔ t∈tracksOf l):=by
 intro l
 induction l with
 | nil=>intro _; simp [openSum,tracksOf]
 | cons x l ih =>
  intro h
  have hx:=(holeB_iff x).1 (h x (by simp))
  have h2:=ih (fun y hy=>h y (by simp [hy]))
  have h3:=openSum_le t l (fun y hy=>h y (by simp [hy]))
  simp only [openSum,tracksOf,List.map_cons,List.mem_cons] at h2 ⊢
  by_cases e:x.f0=t
  ·rw [if_pos e]
   constructor
   ·intro _; exact .inl e.symm
   ·intro _; omega
  ·rw [if_neg e,Int.zero_add,h2]
   exact ⟨.inr,fun q=>q.resolve_left (fun q=>e q.symm)⟩
def allFrom (l:List S40):Nat->Int
 | 0=>0
 | n+1=>allFrom l n+openSum (n:Int) l
def lenSum:List S40->Int
 | []=>0
 | x :: l=>(x.f2 - x.f1)+lenSum l
theorem allFrom_cons (x:S40) (l:List S40):∀ n:Nat,allFrom (x :: l) n=allFrom l n+(if 0<=x.f0/\x.f0 < (n:Int) then x.f2 - x.f1 else 0):=by
 intro n
 induction n with
 | zero=>simp only [allFrom]; rw [if_neg (by omega)]; rfl
 | succ n ih =>
  simp only [allFrom,ih,openSum]
  push_cast
  by_cases e:x.f0=(n:Int)
  ·rw [if_neg (by omega),if_pos e,if_pos (by omega)]; omega
  ·rw [if_neg e]
   by_cases e2:0<=x.f0/\x.f0 < (n:Int)
   ·rw [if_pos e2,if_pos (by omega)]; omega
   ·rw [if_neg e2,if_neg (by omega)]; omega
theorem allFrom_nil:∀ n:Nat,allFrom ([]:List S40) n=0:=by
 intro n
 induction n with
 | zero=>rfl
 | succ n ih=>simp only [allFrom,ih,openSum]; rfl
theorem allFrom_20:∀ (l:List S40),(∀ x∈l,holeB x=true)->allFrom l 20=lenSum l:=by
 intro l
 induction l with
 | nil=>intro _; exact allFrom_nil 20
 | cons x l ih =>
  intro h
  have hx:=(holeB_iff x).1 (h x (by simp))
  rw [allFrom_cons,ih (fun y hy=>h y (by simp [hy])),if_pos (by omega)]
  simp only [lenSum]; omega
theorem allFrom_le (l:List S40) (h:∀ x∈l,holeB x=true):∀ n:Nat,0<=allFrom l n/\allFrom l n<=2000 * l.length * n:=by
 intro n
 induction n with
 | zero=>simp [allFrom]
 | succ n ih =>
  have:=openSum_le (n:Int) l h
  simp only [allFrom]
  push_cast
  rw [Int.mul_add]
  omega
theorem lenSum_le:∀ (l:List S40),(∀ x∈l,holeB x=true)->0<=lenSum l/\lenSum l<=2000 * l.length:=by
 intro l
 induction l with
 | nil=>intro _; simp [lenSum]
 | cons x l ih =>
  intro h
  have hx:=(holeB_iff x).1 (h x (by simp))
  have:=ih (fun y hy=>h y (by simp [hy]))
  simp only [lenSum,List.length_cons]
  push_cast
  omega
theorem fo_j8 (p:List Int) (rep:Int) (s:List S40) (hp:p.length<=60) (hs:s.length<=61) (is:Bool) (h:goodIns p rep=true/\goodSheet s=true) (hi:is=((readRes p s).2 && playsB p rep (readRes p s).1)) :
  Ev (fun k=>laws_FnOpenTracks.j8 k s (rbRes p rep s).1 (rbRes p rep s).2 (rbRes p rep s).1 (!is) p rep) true:=by
 cases hb:is with
 | false =>
  refine Ev.fuel ?_
  simp only [laws_FnOpenTracks.j8,Bool.not_false,↓reduceIte]
  exact Ev.now _
 | true =>
  rw [hb] at hi
  have hi:=hi.symm
  rw [Bool.and_eq_true] at hi
  obtain ⟨h1,h2⟩:=hi
  have er:rbRes p rep s=readRes p s:=by unfold rbRes; rw [if_pos h]
  have hl:=readRes_len p s
  obtain ⟨i1,s1⟩:=loBoth_ev p rep (readRes p s).1 (by omega) hl
  have hp2:=ins_lt h.1
  have key:loRes p rep (readRes p s).1=(s,true):=by
   unfold readRes at h1 h2 ⊢
   split at h1
   ·rename_i ho
    rw [if_pos ho] at h2 ⊢
    have hris:=read_rising hp2 h.2 ho
    unfold scoreRes at h1 h2 ⊢
    rw [nisort_rising _ hris] at h1 h2 ⊢
    split at h1
    ·rename_i hg
     rw [if_pos hg] at h2 ⊢
     simp only at h2 ⊢
     obtain ⟨b1,b2⟩:=read_lay hp2 h.2 ho
     unfold loRes
     rw [if_pos ⟨h.1,hg⟩]
     unfold layRes
     rw [if_pos h2,if_pos b2,b1]
     unfold sheetRes
     rw [isort_rising _ ((goodSheet_iff s).1 h.2).2.1,if_pos h.2]
    ·cases h1
   ·cases h1
  rw [key] at i1 s1
  refine Ev.fuel ?_
  simp only [laws_FnOpenTracks.j8,Bool.not_true,Bool.false_eq_true,↓reduceIte,er]
  refine Ev.bind i1 (Ev.bind s1 ?_)
  simp only [h1,↓reduceIte]
  refine Ev.bind (qSheet_ev s (by omega)) ?_
  simp only [↓reduceIte]
  exact Ev.bind (qSheet_ev s (by omega)) (Ev.now _)
theorem fo_j7 (p:List Int) (rep:Int) (s:List S40) (hp:p.length<=60) (hs:s.length<=61) :
  Ev (fun k=>laws_FnOpenTracks.j7 k s (rbRes p rep s).1 (rbRes p rep s).2 (rbRes p rep s).1 (ilRes p rep s).2 (ilRes p rep s).1 p rep) true:=by
 by_cases h:goodIns p rep=true/\goodSheet s=true
 ·have e:ilRes p rep s=((readRes p s).2 && playsB p rep (readRes p s).1,true):=by unfold ilRes; rw [if_pos h]
  rw [e]
  refine Ev.fuel ?_
  simp only [laws_FnOpenTracks.j7,↓reduceIte]
  exact fo_j8 p rep s hp hs _ h rfl
 ·have e:ilRes p rep s=(false,false):=by unfold ilRes; rw [if_neg h]
  rw [e]
  refine Ev.fuel ?_
  simp only [laws_FnOpenTracks.j7,Bool.false_eq_true,↓reduceIte]
  refine Ev.fuel ?_
  simp only [laws_FnOpenTracks.j8,↓reduceIte]
  exact Ev.now _
theorem fo_l2 (p:List Int) (rep:Int) (s:List S40) (hp:p.length<=60) (hs:s.length<=61) (hg:goodIns p rep=true/\goodSheet s=true):∀ (m i:Nat),i+m=p.length ->
  Ev (fun k=>laws_FnOpenTracks.l2 k s (rbRes p rep s).1 (rbRes p rep s).2 (rbRes p rep s).1 (ilRes p rep s).2 (ilRes p rep s).1 (spRes p rep s).1 (tuRes s).1 (p.length:Int) i p rep) true:=by
 have e1:(spRes p rep s).1=spareFrom (putAll [] (tracksOf s)) p.length 0 []:=by unfold spRes; rw [if_pos hg]
 have e2:(tuRes s).1=putAll [] (tracksOf s):=by unfold tuRes; rw [if_pos hg.2]
 have hl1:=spRes_len p rep s
 have hl2:=tuRes_len s
 intro m
 induction m with
 | zero =>
  intro i h
  refine Ev.fuel ?_
  simp only [laws_FnOpenTracks.l2,show ¬ ((i:Int) < (p.length:Int)) from by omega,↓reduceIte]
  exact fo_j7 p rep s hp hs
 | succ m ih =>
  intro i h
  refine Ev.fuel ?_
  simp only [laws_FnOpenTracks.l2,show (i:Int) < (p.length:Int) from by omega,↓reduceIte,wn i (by omega)]
  refine Ev.bind (qHas_ev _ (i:Int) (by omega)) (Ev.bind (qHas_ev _ (i:Int) (by omega)) ?_)
  have ne:(decide ((i:Int)∈(spRes p rep s).1) == decide ((i:Int)∈(tuRes s).1))=false:=by
   rw [e1,e2]
   have hm:=mem_spare (putAll [] (tracksOf s)) p.length 0 [] (i:Int)
   by_cases hu:(i:Int)∈putAll [] (tracksOf s)
   ·have h3:(i:Int) ∉ spareFrom (putAll [] (tracksOf s)) p.length 0 []:=by
     rw [hm]
     rintro (q | q)
     ·cases q
     ·exact q.2.2 hu
    simp [hu,h3]
   ·have h3:(i:Int)∈spareFrom (putAll [] (tracksOf s)) p.length 0 []:=by
     rw [hm]
     exact .inr ⟨by omega,by omega,hu⟩
    simp [hu,h3]
  simp only [ne,Bool.false_eq_true,↓reduceIte]
  exact ih (i+1) (by omega)
theorem fo_j5 (p:List Int) (rep:Int) (s:List S40) (hp:p.length<=60) (hs:s.length<=61) :
  Ev (fun k=>laws_FnOpenTracks.j5 k s (rbRes p rep s).1 (rbRes p rep s).2 (rbRes p rep s).1 (ilRes p rep s).2 (ilRes p rep s).1 (spRes p rep s).2 (spRes p rep s).1 (tuRes s).1 p rep) true:=by
 by_cases h:goodIns p rep=true/\goodSheet s=true
 ·have e:(spRes p rep s).2=true:=by unfold spRes; rw [if_pos h]
  refine Ev.fuel ?_
  simp only [laws_FnOpenTracks.j5,e,↓reduceIte]
  exact fo_l2 p rep s hp hs h p.length 0 (by omega)
 ·have e:(spRes p rep s).2=false:=by unfold spRes; rw [if_neg h]
  refine Ev.fuel ?_
  simp only [laws_FnOpenTracks.j5,e,Bool.false_eq_true,↓reduceIte]
  exact fo_j7 p rep s hp hs
theorem fo_l1 (p:List Int) (rep:Int) (s:List S40) (hp:p.length<=60) (hs:s.length<=61) (hn:∀ x∈s,holeB x=true):∀ (suf pre:List S40),pre ++ suf=s ->
  Ev (fun k=>laws_FnOpenTracks.l1 k s (rbRes p rep s).1 (rbRes p rep s).2 (rbRes p rep s).1 (ilRes p rep s).2 (ilRes p rep s).1 (spRes p rep s).2 (spRes p rep s).1 (tuRes s).1 (lenSum suf) s (s.length:Int) pre.length p rep) true:=by
 intro suf
 induction suf with
 | nil =>
  intro pre h
  have hl:pre.length=s.length:=by rw [<- h]; simp
  refine Ev.fuel ?_
  simp only [laws_FnOpenTracks.l1,show ¬ ((pre.length:Int) < (s.length:Int)) from by omega,↓reduceIte,lenSum]
  exact fo_j5 p rep s hp hs
 | cons x suf ih =>
  intro pre h
  have hl:s.length=pre.length+(suf.length+1):=by rw [<- h]; simp
  have c3:rd_T40 s (pre.length:Int)=x:=by rw [<- h]; exact getD_mid _ _ _ _
  have hx:=(holeB_iff x).1 (hn x (by rw [<- h]; simp))
  have hb:=lenSum_le suf (fun y hy=>hn y (by rw [<- h]; simp [hy]))
  have e:=ih (pre ++ [x]) (by rw [<- h]; simp)
  refine Ev.fuel ?_
  simp only [laws_FnOpenTracks.l1,show (pre.length:Int) < (s.length:Int) from by omega,show (0:Int)<=(pre.length:Int) from by omega,c3,↓reduceIte,wn pre.length (by omega),lenSum,w_id (x:=x.f2 - x.f1) (by omega) (by omega),show x.f2 - x.f1+lenSum suf - (x.f2 - x.f1)=lenSum suf from by omega,w_id (x:=lenSum suf) (by omega) (by omega)]
  simpa using e
theorem fo_l0 (p:List Int) (rep:Int) (s:List S40) (hp:p.length<=60) (hs:s.length<=61) (hg:goodSheet s=true):∀ (m i:Nat),i+m=20 ->
  Ev (fun k=>laws_FnOpenTracks.l0 k s (rbRes p rep s).1 (rbRes p rep s).2 (rbRes p rep s).1 (ilRes p rep s).2 (ilRes p rep s).1 (spRes p rep s).2 (spRes p rep s).1 (tuRes s).1 (allFrom s i) i p rep) true:=by
 have hn:=goodSheet_all hg
 have e2:(tuRes s).1=putAll [] (tracksOf s):=by unfold tuRes; rw [if_pos hg]
 have hl2:=tuRes_len s
 intro m
 induction m with
 | zero =>
  intro i h
  have hi:i=20:=by omega
  subst hi
  refine Ev.fuel ?_
  simp only [laws_FnOpenTracks.l0,show ¬ (((20:Nat):Int) < 20) from by omega,↓reduceIte,allFrom_20 s hn]
  exact fo_l1 p rep s hp hs hn s [] rfl
 | succ m ih =>
  intro i h
  obtain ⟨a1,a2⟩:=otBoth_ev s (i:Int) (by omega)
  have eo:otRes s (i:Int)=(openSum (i:Int) s,true):=by unfold otRes; rw [if_pos ⟨hg,by omega⟩]
  rw [eo] at a1 a2
  have b1:=openSum_le (i:Int) s hn
  have b2:=allFrom_le s hn i
  have b3:(2000:Int) * s.length * i<=2000 * 61 * 20:=by
   have q1:(2000:Int) * s.length<=2000 * 61:=by omega
   have q2:(i:Int)<=20:=by omega
   calc (2000:Int) * s.length * i<=2000 * 61 * i:=Int.mul_le_mul_of_nonneg_right q1 (by omega)
    _<=2000 * 61 * 20:=Int.mul_le_mul_of_nonneg_left q2 (by omega)
  refine Ev.fuel ?_
  simp only [laws_FnOpenTracks.l0,show (i:Int) < 20 from by omega,↓reduceIte]
  refine Ev.bind a1 (Ev.bind a2 ?_)
  simp only [↓reduceIte]
  refine Ev.bind (qHas_ev _ (i:Int) (by omega)) ?_
  have eq:decide ((i:Int)∈(tuRes s).1)=decide (openSum (i:Int) s > 0):=by
   apply decide_eq_decide.2
   rw [e2,mem_putAll]
   have:=openSum_pos (i:Int) s hn
   constructor
   ·rintro (q | q)
    ·cases q
    ·exact this.2 q
   ·intro q; exact .inr (this.1 q)
  simp only [eq,bne_self_eq_false,Bool.false_eq_true,↓reduceIte,wn i (by omega),w_id (x:=allFrom s i+openSum (i:Int) s) (by omega) (by omega)]
  exact ih (i+1) (by omega)
theorem fo_j2 (p:List Int) (rep:Int) (s:List S40) (hp:p.length<=60) (hs:s.length<=61) :
  Ev (fun k=>laws_FnOpenTracks.j2 k s (rbRes p rep s).1 (rbRes p rep s).2 (rbRes p rep s).1 (ilRes p rep s).2 (ilRes p rep s).1 (spRes p rep s).2 (spRes p rep s).1 (tuRes s).2 (tuRes s).1 p rep) true:=by
 by_cases hg:goodSheet s=true
 ·have e:(tuRes s).2=true:=by unfold tuRes; rw [if_pos hg]
  refine Ev.fuel ?_
  simp only [laws_FnOpenTracks.j2,e,↓reduceIte]
  exact fo_l0 p rep s hp hs hg 20 0 rfl
 ·have e:(tuRes s).2=false:=by unfold tuRes; rw [if_neg hg]
  refine Ev.fuel ?_
  simp only [laws_FnOpenTracks.j2,e,Bool.false_eq_true,↓reduceIte]
  exact fo_j5 p rep s hp hs
theorem fo_j0 (p:List Int) (rep:Int) (s:List S40) (hp:p.length<=60) (hs:s.length<=61) (b:List S40) (most:Int) (hb:b.length<=61) :
  Ev (fun k=>laws_FnOpenTracks.j0 k s (rbRes p rep s).1 (rbRes p rep s).2 (rbRes p rep s).1 (ilRes p rep s).2 (ilRes p rep s).1 (spRes p rep s).2 (spRes p rep s).1 (tuRes s).2 (tuRes s).1 b most (crRes b most).2 (crRes b most).1 false p rep) true:=by
 have hj:=fo_j2 p rep s hp hs
 by_cases hc:goodSheet b=true/\(0<=most/\most<=20)
 ·have e:crRes b most=((moreN most (cntL b):Int),true):=by unfold crRes; rw [if_pos hc]
  have e20:crRes b 20=(0,true):=by unfold crRes; rw [if_pos ⟨hc.1,by omega⟩,more_20 hc.1]; rfl
  have c20:=(crBoth_ev b 20 (by omega)).1
  rw [e20] at c20
  rw [e]
  refine Ev.fuel ?_
  simp only [laws_FnOpenTracks.j0,Bool.false_eq_true,↓reduceIte]
  by_cases h0:most > 0
  ·have c1:=(crBoth_ev b (most - 1) (by omega)).1
   have e1:crRes b (most - 1)=((moreN (most - 1) (cntL b):Int),true):=by unfold crRes; rw [if_pos ⟨hc.1,by omega⟩]
   rw [e1] at c1
   have hle:=moreN_le (a:=most - 1) (b:=most) (by omega) (cntL b)
   simp only [h0,↓reduceIte,w_id (x:=most - 1) (by omega) (by omega)]
   refine Ev.bind c1 ?_
   simp only [↓reduceIte,show decide ((moreN (most - 1) (cntL b):Int) < (moreN most (cntL b):Int))=false from decide_eq_false (by omega)]
   refine Ev.fuel ?_
   simp only [laws_FnOpenTracks.j1,Bool.false_eq_true,↓reduceIte]
   refine Ev.bind c20 ?_
   simp only [↓reduceIte]
   exact hj
  ·simp only [h0,↓reduceIte]
   refine Ev.bind c20 ?_
   simp only [↓reduceIte]
   exact hj
 ·have e:crRes b most=(0,false):=by unfold crRes; rw [if_neg hc]
  rw [e]
  refine Ev.fuel ?_
  simp only [laws_FnOpenTracks.j0,Bool.false_eq_true,↓reduceIte]
  exact hj
theorem bytes_of' {l:List Int} (h:l.length<=9223372036854775807) (w:∀ x∈l,(Lit.int .u8 x).wf=true):Bytes l:=⟨h,fun x hx=>by
 have hw:=w x hx
 simp [Lit.wf] at hw
 have h1:IntKind.u8.min=0:=by decide
 have h2:IntKind.u8.max=255:=by decide
 omega⟩
theorem fo_ev (l0 l1:List Int) (h0:l0.length<=9223372036854775807) (w0:∀ x∈l0,(Lit.int .u8 x).wf=true) (h1:l1.length<=9223372036854775807) (w1:∀ x∈l1,(Lit.int .u8 x).wf=true):Ev (fun k=>laws_FnOpenTracks.f k l0 l1) true:=by
 have hc0:=bytes_of' h0 w0
 have hc1:=bytes_of' h1 w1
 unfold laws_FnOpenTracks.f
 by_cases g:(wrap64 ((l0.length:Int)+(l1.length:Int))) > 1048576
 ·simp only [g,↓reduceIte]
  exact Ev.now _
 ·obtain ⟨p,rep,s,d1,hp,hs⟩:=DrawReadBack_ev hc0
  obtain ⟨a,t,d2,ha⟩:=DrawOpenTime_ev hc1
  obtain ⟨b,most,d3,hb⟩:=DrawCrowdedSteps_ev hc1
  obtain ⟨i1,s1⟩:=rbBoth_ev p rep s (by omega) (by omega)
  obtain ⟨i2,s2⟩:=ilBoth_ev p rep s (by omega) (by omega)
  obtain ⟨i3,s3⟩:=spBoth_ev p rep s (by omega) (by omega)
  obtain ⟨i4,s4⟩:=tuBoth_ev s (by omega)
  obtain ⟨i5,s5⟩:=otBoth_ev a t (by omega)
  obtain ⟨i6,s6⟩:=crBoth_ev b most (by omega)
  have n1:=spRes_len p rep s
  have n2:=tuRes_len s
  have hj:=fo_j0 p rep s hp hs b most hb
  have h3:(spRes p rep s).2=(ilRes p rep s).2:=by unfold spRes ilRes; split <;> rfl
  have h4:(rbRes p rep s).2=true->(ilRes p rep s).2=true:=by
   unfold rbRes ilRes
   split
   ·intro _; rfl
   ·intro h; exact h
  simp only [g,↓reduceIte]
  refine Ev.bind d1 (Ev.bind i1 (Ev.bind s1 (Ev.bind i2 (Ev.bind s2 (Ev.bind i3 (Ev.bind s3 (Ev.bind i4 (Ev.bind s4 (Ev.bind d2 (Ev.bind i5 (Ev.bind s5 (Ev.bind d3 (Ev.bind i6 (Ev.bind s6 ?_))))))))))))))
  simp only [bne_self_eq_false,Bool.false_eq_true,↓reduceIte]
  refine Ev.bind (qNotes_ev _ (rbRes_len _ _ _)) ?_
  simp only [↓reduceIte]
  refine Ev.bind (qInts_ev _ (by omega)) ?_
  simp only [↓reduceIte]
  refine Ev.bind (qInts_ev _ (by omega)) ?_
  simp only [↓reduceIte,h3,bne_self_eq_false]
  rw [h3] at hj
  cases hr:(rbRes p rep s).2 with
  | true =>
   rw [hr] at hj
   simp only [h4 hr,↓reduceIte] at hj ⊢
   exact hj
  | false =>
   rw [hr] at hj
   simp only [Bool.false_eq_true,↓reduceIte]
   exact hj
end Go.Proofs.YtgjpphcbdbfhlaaGreat.L
end
end
section
/- The pure statement of the law FnOpenTracks. No condition. -/
set_option linter.unusedVariables false
namespace Go.Proofs.YtgjpphcbdbfhlaaGreat.L
open Go.RowKit Go.Proofs.YtgjpphcbdbfhlaaGreatW.PrintWords
theorem laws_FnOpenTracks_pure:∀ (l0:List Int) (l1:List Int),l0.length<=9223372036854775807->(∀ x∈l0,(Lit.int .u8 x).wf=true)->l1.length<=9223372036854775807->(∀ x∈l1,(Lit.int .u8 x).wf=true)->∃ k,laws_FnOpenTracks.f k l0 l1=some true :=
 fun l0 l1 h0 w0 h1 w1=>(fo_ev l0 l1 h0 w0 h1 w1).rounds
end Go.Proofs.YtgjpphcbdbfhlaaGreat.L
end
