import Derived.Test.YtgjpphcbdbfhlaaGreatLEU
import Derived.Test.YtgjpphcbdbfhlaaGreatLFJN
import Derived.Test.YtgjpphcbdbfhlaaGreatL2
import Derived.Test.YtgjpphcbdbfhlaaGreatL3
import Derived.Test.YtgjpphcbdbfhlaaGreatLFHH
import Derived.Test.YtgjpphcbdbfhlaaGreatL5
import Derived.Test.YtgjpphcbdbfhlaaGreatLFJH
import Derived.Test.YtgjpphcbdbfhlaaGreatLFIH
import Derived.Test.YtgjpphcbdbfhlaaGreatLFHN
section
/- BY EV: what the Go functions compute (read off the print), and that their calls come to it. No condition. -/
set_option linter.unusedVariables false
set_option linter.unusedSimpArgs false
namespace Go.Proofs.YtgjpphcbdbfhlaaGreat.L
open Go.RowKit Go.Proofs Go.Proofs.YtgjpphcbdbfhlaaGreatW.PrintWords Go.Proofs.YtgjpphcbdbfhlaaGreatW.PrintLast EV
def spec_ntSorted.f (k : Nat) (l0 : List (S36)) : Option ((List (S36)) × Bool) := SNote.sortedF k l0
theorem spec_ntSorted.calls (k : Nat) (A0 : Option Addr) (c0 : Nat) (l0 : List (S36)) (r1 : List (S36)) (r2 : Bool) (w : World) (hr0 : Kd.C k36 w A0 l0.length l0) (hc0 : l0.length ≤ c0) (h : spec_ntSorted.f k l0 = some (r1, r2)) :
    Calls Tryz.prog 79 #[.slice A0 l0.length c0] w fun e w' => ∃ v0_ : Value, e = .returned (.tuple #[v0_, .bool r2]) ∧ Kd.R k36 36 w' w.heap.size (fun _ => True) v0_ r1 ∧ Below w.heap.size w w' := SNote.sorted_calls k A0 c0 l0 r1 r2 w hr0 hc0 h
theorem spec_ntSorted.con (k : Nat) (l0 : List (S36)) (r1 : List (S36)) (r2 : Bool) (H : spec_ntSorted.f k l0 = some (r1, r2)) : Con Tryz.prog 79 [.p (.c (.sl K36 l0))] (.tp [.c (.ow 36 K36 r1), .c (.v (.bool r2))]) := Con.of_row_bool (by kernel_rfl) rfl rfl fun A c w hr hc => spec_ntSorted.calls k A c l0 r1 r2 w hr hc H
instance spec_ntSorted.ctr {k : Nat} {l0 : List (S36)} {t_ : (List (S36)) × (Bool)} : Ctr (spec_ntSorted.f k l0 = some t_) (Con Tryz.prog 79 [.p (.c (.sl K36 l0))] (.tp [.c (.ow 36 K36 t_.1), .c (.v (.bool t_.2))])) := ⟨fun h => spec_ntSorted.con _ _ (t_.1) (t_.2) h⟩
end Go.Proofs.YtgjpphcbdbfhlaaGreat.L
end
section
/- BY EV: what the Go functions compute (read off the print), and that their calls come to it. No condition. -/
set_option linter.unusedVariables false
set_option linter.unusedSimpArgs false
namespace Go.Proofs.YtgjpphcbdbfhlaaGreat.L
open Go.RowKit Go.Proofs Go.Proofs.YtgjpphcbdbfhlaaGreatW.PrintWords Go.Proofs.YtgjpphcbdbfhlaaGreatW.PrintLast EV
def impl_sheetOf.f (k : Nat) (l0 : List (S40)) : Option ((List (S40)) × Bool) := SHole.ofF k l0
theorem impl_sheetOf.calls (k : Nat) (A0 : Option Addr) (c0 : Nat) (l0 : List (S40)) (r1 : List (S40)) (r2 : Bool) (w : World) (hr0 : Kd.C k40 w A0 l0.length l0) (hc0 : l0.length ≤ c0) (h : impl_sheetOf.f k l0 = some (r1, r2)) :
    Calls Tryz.prog 86 #[.slice A0 l0.length c0] w fun e w' => ∃ v0_ : Value, e = .returned (.tuple #[v0_, .bool r2]) ∧ Kd.R k40 40 w' w.heap.size (fun _ => True) v0_ r1 ∧ Below w.heap.size w w' := SHole.of_calls k A0 c0 l0 r1 r2 w hr0 hc0 h
theorem impl_sheetOf.con (k : Nat) (l0 : List (S40)) (r1 : List (S40)) (r2 : Bool) (H : impl_sheetOf.f k l0 = some (r1, r2)) : Con Tryz.prog 86 [.p (.c (.sl K40 l0))] (.tp [.c (.ow 40 K40 r1), .c (.v (.bool r2))]) := Con.of_row_bool (by kernel_rfl) rfl rfl fun A c w hr hc => impl_sheetOf.calls k A c l0 r1 r2 w hr hc H
instance impl_sheetOf.ctr {k : Nat} {l0 : List (S40)} {t_ : (List (S40)) × (Bool)} : Ctr (impl_sheetOf.f k l0 = some t_) (Con Tryz.prog 86 [.p (.c (.sl K40 l0))] (.tp [.c (.ow 40 K40 t_.1), .c (.v (.bool t_.2))])) := ⟨fun h => impl_sheetOf.con _ _ (t_.1) (t_.2) h⟩
end Go.Proofs.YtgjpphcbdbfhlaaGreat.L
end
section
/- BY EV: what the Go functions compute (read off the print), and that their calls come to it. No condition. -/
set_option linter.unusedVariables false
set_option linter.unusedSimpArgs false
namespace Go.Proofs.YtgjpphcbdbfhlaaGreat.L
open Go.RowKit Go.Proofs Go.Proofs.YtgjpphcbdbfhlaaGreatW.PrintWords Go.Proofs.YtgjpphcbdbfhlaaGreatW.PrintLast EV
def spec_shSorted.f (k : Nat) (l0 : List (S40)) : Option ((List (S40)) × Bool) := SHole.sortedF k l0
theorem spec_shSorted.calls (k : Nat) (A0 : Option Addr) (c0 : Nat) (l0 : List (S40)) (r1 : List (S40)) (r2 : Bool) (w : World) (hr0 : Kd.C k40 w A0 l0.length l0) (hc0 : l0.length ≤ c0) (h : spec_shSorted.f k l0 = some (r1, r2)) :
    Calls Tryz.prog 87 #[.slice A0 l0.length c0] w fun e w' => ∃ v0_ : Value, e = .returned (.tuple #[v0_, .bool r2]) ∧ Kd.R k40 40 w' w.heap.size (fun _ => True) v0_ r1 ∧ Below w.heap.size w w' := SHole.sorted_calls k A0 c0 l0 r1 r2 w hr0 hc0 h
theorem spec_shSorted.con (k : Nat) (l0 : List (S40)) (r1 : List (S40)) (r2 : Bool) (H : spec_shSorted.f k l0 = some (r1, r2)) : Con Tryz.prog 87 [.p (.c (.sl K40 l0))] (.tp [.c (.ow 40 K40 r1), .c (.v (.bool r2))]) := Con.of_row_bool (by kernel_rfl) rfl rfl fun A c w hr hc => spec_shSorted.calls k A c l0 r1 r2 w hr hc H
instance spec_shSorted.ctr {k : Nat} {l0 : List (S40)} {t_ : (List (S40)) × (Bool)} : Ctr (spec_shSorted.f k l0 = some t_) (Con Tryz.prog 87 [.p (.c (.sl K40 l0))] (.tp [.c (.ow 40 K40 t_.1), .c (.v (.bool t_.2))])) := ⟨fun h => spec_shSorted.con _ _ (t_.1) (t_.2) h⟩
end Go.Proofs.YtgjpphcbdbfhlaaGreat.L
end
section
/- BY EV: what the Go functions compute (read off the print), and that their calls come to it. No condition. -/
set_option linter.unusedVariables false
set_option linter.unusedSimpArgs false
namespace Go.Proofs.YtgjpphcbdbfhlaaGreat.L
open Go.RowKit Go.Proofs Go.Proofs.YtgjpphcbdbfhlaaGreatW.PrintWords Go.Proofs.YtgjpphcbdbfhlaaGreatW.PrintLast EV
def impl_Hole_91.f (l0 : List (S40)) : Option (List (S40)) := SHole.cloneF l0
theorem impl_Hole_91.calls (A0 : Option Addr) (c0 : Nat) (l0 : List (S40)) (r1 : List (S40)) (w : World) (hr0 : Kd.C k40 w A0 l0.length l0) (hc0 : l0.length ≤ c0) (h : impl_Hole_91.f l0 = some r1) :
    Calls Tryz.prog 91 #[.slice A0 l0.length c0] w fun e w' => ∃ v0_ : Value, e = .returned v0_ ∧ Kd.R k40 40 w' w.heap.size (fun _ => True) v0_ r1 ∧ Below w.heap.size w w' := SHole.clone_calls A0 c0 l0 r1 w hr0 hc0 h
theorem impl_Hole_91.con (l0 : List (S40)) (r1 : List (S40)) (H : impl_Hole_91.f l0 = some r1) : Con Tryz.prog 91 [.p (.c (.sl K40 l0))] (.p (.c (.ow 40 K40 r1))) := Con.of_row (by kernel_rfl) rfl rfl fun A c w hr hc => impl_Hole_91.calls A c l0 r1 w hr hc H
instance impl_Hole_91.ctr {l0 : List (S40)} {r1 : List (S40)} : Ctr (impl_Hole_91.f l0 = some r1) (Con Tryz.prog 91 [.p (.c (.sl K40 l0))] (.p (.c (.ow 40 K40 r1)))) := ⟨impl_Hole_91.con _ _⟩
end Go.Proofs.YtgjpphcbdbfhlaaGreat.L
end
section
/- BY EV: what the Go functions compute (read off the print), and that their calls come to it. No condition. -/
set_option linter.unusedVariables false
set_option linter.unusedSimpArgs false
namespace Go.Proofs.YtgjpphcbdbfhlaaGreat.L
open Go.RowKit Go.Proofs Go.Proofs.YtgjpphcbdbfhlaaGreatW.PrintWords Go.Proofs.YtgjpphcbdbfhlaaGreatW.PrintLast EV
def impl_sortedNotes.f (l0 : List (S36)) : Option (List (S36)) := SNote.ofF l0
theorem impl_sortedNotes.calls (A0 : Option Addr) (c0 : Nat) (l0 : List (S36)) (r1 : List (S36)) (w : World) (hr0 : Kd.C k36 w A0 l0.length l0) (hc0 : l0.length ≤ c0) (h : impl_sortedNotes.f l0 = some r1) :
    Calls Tryz.prog 99 #[.slice A0 l0.length c0] w fun e w' => ∃ v0_ : Value, e = .returned v0_ ∧ Kd.R k36 36 w' w.heap.size (fun _ => True) v0_ r1 ∧ Below w.heap.size w w' := SNote.of_calls A0 c0 l0 r1 w hr0 hc0 h
theorem impl_sortedNotes.con (l0 : List (S36)) (r1 : List (S36)) (H : impl_sortedNotes.f l0 = some r1) : Con Tryz.prog 99 [.p (.c (.sl K36 l0))] (.p (.c (.ow 36 K36 r1))) := Con.of_row (by kernel_rfl) rfl rfl fun A c w hr hc => impl_sortedNotes.calls A c l0 r1 w hr hc H
instance impl_sortedNotes.ctr {l0 : List (S36)} {r1 : List (S36)} : Ctr (impl_sortedNotes.f l0 = some r1) (Con Tryz.prog 99 [.p (.c (.sl K36 l0))] (.p (.c (.ow 36 K36 r1)))) := ⟨impl_sortedNotes.con _ _⟩
end Go.Proofs.YtgjpphcbdbfhlaaGreat.L
end
