-- By a program of this session.
import Derived.Test.YtkegjmkdnfpfdaaMFnExactNewCorex0
import Derived.Test.YtkegjmkdnfpfdaaMFnExactNewCorex7
namespace Go.Proofs.Ytkegjmkdnfpfdaa.MFnExactNewCore
open Go.RowKit Go.Proofs.YtkegjmkdnfpfdaaW.PrintWords Go.Proofs.YtkegjmkdnfpfdaaW.PrintLast Go.Proofs.YtkegjmkdnfpfdaaW.PrintMore
attribute [local go_sem] max2_int min2_int max_two min_two max_three min_three max_four min_four
set_option linter.unusedVariables false
set_option linter.unusedSimpArgs false
set_option maxHeartbeats 8000000
set_option maxRecDepth 100000

theorem seff_1 (w : World) (n c : Nat) (A : Option Addr) (a : Int) :
 Calls Try.prog 187 #[.agg #[.int .i64 1, .int .i64 a], .slice A n c] w fun e w' => e = .returned (.tuple #[.string ⟨#[]⟩, .string ⟨#[105]⟩]) ∧ Below w.heap.size w w' := by
 go_enter Try.func187, Try.ntmps187
 go_wp2
 go_ret2
 exact ⟨rfl, below_alloc (Below.refl _ _) _⟩
theorem seff_2 (w : World) (n c : Nat) (A : Option Addr) (a : Int) :
 Calls Try.prog 187 #[.agg #[.int .i64 2, .int .i64 a], .slice A n c] w fun e w' => e = .returned (.tuple #[.string ⟨#[]⟩, .string ⟨#[98]⟩]) ∧ Below w.heap.size w w' := by
 go_enter Try.func187, Try.ntmps187
 go_wp2
 go_ret2
 exact ⟨rfl, below_alloc (Below.refl _ _) _⟩
theorem seff_3 (w : World) (n c : Nat) (A : Option Addr) (a : Int) :
 Calls Try.prog 187 #[.agg #[.int .i64 3, .int .i64 a], .slice A n c] w fun e w' => e = .returned (.tuple #[.string ⟨#[]⟩, .string ⟨#[105]⟩]) ∧ Below w.heap.size w w' := by
 go_enter Try.func187, Try.ntmps187
 go_wp2
 go_ret2
 exact ⟨rfl, below_alloc (Below.refl _ _) _⟩
theorem seff_4 (w : World) (n c : Nat) (A : Option Addr) (a : Int) :
 Calls Try.prog 187 #[.agg #[.int .i64 4, .int .i64 a], .slice A n c] w fun e w' => e = .returned (.tuple #[.string ⟨#[105]⟩, .string ⟨#[]⟩]) ∧ Below w.heap.size w w' := by
 go_enter Try.func187, Try.ntmps187
 go_wp2
 go_ret2
 exact ⟨rfl, below_alloc (Below.refl _ _) _⟩
theorem seff_5 (w : World) (n c : Nat) (A : Option Addr) (a : Int) :
 Calls Try.prog 187 #[.agg #[.int .i64 5, .int .i64 a], .slice A n c] w fun e w' => e = .returned (.tuple #[.string ⟨#[]⟩, .string ⟨#[98]⟩]) ∧ Below w.heap.size w w' := by
 go_enter Try.func187, Try.ntmps187
 go_wp2
 go_ret2
 exact ⟨rfl, below_alloc (Below.refl _ _) _⟩
theorem seff_6 (w : World) (n c : Nat) (A : Option Addr) (a : Int) :
 Calls Try.prog 187 #[.agg #[.int .i64 6, .int .i64 a], .slice A n c] w fun e w' => e = .returned (.tuple #[.string ⟨#[98]⟩, .string ⟨#[]⟩]) ∧ Below w.heap.size w w' := by
 go_enter Try.func187, Try.ntmps187
 go_wp2
 go_ret2
 exact ⟨rfl, below_alloc (Below.refl _ _) _⟩
theorem seff_7 (w : World) (n c : Nat) (A : Option Addr) (a : Int) :
 Calls Try.prog 187 #[.agg #[.int .i64 7, .int .i64 a], .slice A n c] w fun e w' => e = .returned (.tuple #[.string ⟨#[]⟩, .string ⟨#[98]⟩]) ∧ Below w.heap.size w w' := by
 go_enter Try.func187, Try.ntmps187
 go_wp2
 go_ret2
 exact ⟨rfl, below_alloc (Below.refl _ _) _⟩
theorem seff_8 (w : World) (n c : Nat) (A : Option Addr) (a : Int) :
 Calls Try.prog 187 #[.agg #[.int .i64 8, .int .i64 a], .slice A n c] w fun e w' => e = .returned (.tuple #[.string ⟨#[98]⟩, .string ⟨#[]⟩]) ∧ Below w.heap.size w w' := by
 go_enter Try.func187, Try.ntmps187
 go_wp2
 go_ret2
 exact ⟨rfl, below_alloc (Below.refl _ _) _⟩
theorem seff_9 (w : World) (n c : Nat) (A : Option Addr) (a : Int) :
 Calls Try.prog 187 #[.agg #[.int .i64 9, .int .i64 a], .slice A n c] w fun e w' => e = .returned (.tuple #[.string ⟨#[105, 105]⟩, .string ⟨#[105]⟩]) ∧ Below w.heap.size w w' := by
 go_enter Try.func187, Try.ntmps187
 go_wp2
 go_ret2
 exact ⟨rfl, below_alloc (Below.refl _ _) _⟩
theorem seff_10 (w : World) (n c : Nat) (A : Option Addr) (a : Int) :
 Calls Try.prog 187 #[.agg #[.int .i64 10, .int .i64 a], .slice A n c] w fun e w' => e = .returned (.tuple #[.string ⟨#[105, 105]⟩, .string ⟨#[105]⟩]) ∧ Below w.heap.size w w' := by
 go_enter Try.func187, Try.ntmps187
 go_wp2
 go_ret2
 exact ⟨rfl, below_alloc (Below.refl _ _) _⟩
theorem seff_11 (w : World) (n c : Nat) (A : Option Addr) (a : Int) :
 Calls Try.prog 187 #[.agg #[.int .i64 11, .int .i64 a], .slice A n c] w fun e w' => e = .returned (.tuple #[.string ⟨#[105, 105]⟩, .string ⟨#[105]⟩]) ∧ Below w.heap.size w w' := by
 go_enter Try.func187, Try.ntmps187
 go_wp2
 go_ret2
 exact ⟨rfl, below_alloc (Below.refl _ _) _⟩
theorem seff_12 (w : World) (n c : Nat) (A : Option Addr) (a : Int) :
 Calls Try.prog 187 #[.agg #[.int .i64 12, .int .i64 a], .slice A n c] w fun e w' => e = .returned (.tuple #[.string ⟨#[105, 105]⟩, .string ⟨#[105]⟩]) ∧ Below w.heap.size w w' := by
 go_enter Try.func187, Try.ntmps187
 go_wp2
 go_ret2
 exact ⟨rfl, below_alloc (Below.refl _ _) _⟩
theorem seff_13 (w : World) (n c : Nat) (A : Option Addr) (a : Int) :
 Calls Try.prog 187 #[.agg #[.int .i64 13, .int .i64 a], .slice A n c] w fun e w' => e = .returned (.tuple #[.string ⟨#[105, 105]⟩, .string ⟨#[98]⟩]) ∧ Below w.heap.size w w' := by
 go_enter Try.func187, Try.ntmps187
 go_wp2
 go_ret2
 exact ⟨rfl, below_alloc (Below.refl _ _) _⟩
theorem seff_14 (w : World) (n c : Nat) (A : Option Addr) (a : Int) :
 Calls Try.prog 187 #[.agg #[.int .i64 14, .int .i64 a], .slice A n c] w fun e w' => e = .returned (.tuple #[.string ⟨#[105, 105]⟩, .string ⟨#[98]⟩]) ∧ Below w.heap.size w w' := by
 go_enter Try.func187, Try.ntmps187
 go_wp2
 go_ret2
 exact ⟨rfl, below_alloc (Below.refl _ _) _⟩
theorem seff_15 (w : World) (n c : Nat) (A : Option Addr) (a : Int) :
 Calls Try.prog 187 #[.agg #[.int .i64 15, .int .i64 a], .slice A n c] w fun e w' => e = .returned (.tuple #[.string ⟨#[98, 98]⟩, .string ⟨#[98]⟩]) ∧ Below w.heap.size w w' := by
 go_enter Try.func187, Try.ntmps187
 go_wp2
 go_ret2
 exact ⟨rfl, below_alloc (Below.refl _ _) _⟩
theorem seff_16 (w : World) (n c : Nat) (A : Option Addr) (a : Int) :
 Calls Try.prog 187 #[.agg #[.int .i64 16, .int .i64 a], .slice A n c] w fun e w' => e = .returned (.tuple #[.string ⟨#[98, 98]⟩, .string ⟨#[98]⟩]) ∧ Below w.heap.size w w' := by
 go_enter Try.func187, Try.ntmps187
 go_wp2
 go_ret2
 exact ⟨rfl, below_alloc (Below.refl _ _) _⟩
theorem seff_17 (w : World) (n c : Nat) (A : Option Addr) (a : Int) :
 Calls Try.prog 187 #[.agg #[.int .i64 17, .int .i64 a], .slice A n c] w fun e w' => e = .returned (.tuple #[.string ⟨#[98]⟩, .string ⟨#[98]⟩]) ∧ Below w.heap.size w w' := by
 go_enter Try.func187, Try.ntmps187
 go_wp2
 go_ret2
 exact ⟨rfl, below_alloc (Below.refl _ _) _⟩
theorem seff_18 (w : World) (n c : Nat) (A : Option Addr) (a : Int) :
 Calls Try.prog 187 #[.agg #[.int .i64 18, .int .i64 a], .slice A n c] w fun e w' => e = .returned (.tuple #[.string ⟨#[98, 105, 105]⟩, .string ⟨#[105]⟩]) ∧ Below w.heap.size w w' := by
 go_enter Try.func187, Try.ntmps187
 go_wp2
 go_ret2
 exact ⟨rfl, below_alloc (Below.refl _ _) _⟩
theorem seff_20 (w : World) (n c : Nat) (A : Option Addr) (a : Int) :
 Calls Try.prog 187 #[.agg #[.int .i64 20, .int .i64 a], .slice A n c] w fun e w' => e = .returned (.tuple #[.string ⟨#[]⟩, .string ⟨#[105]⟩]) ∧ Below w.heap.size w w' := by
 go_enter Try.func187, Try.ntmps187
 go_wp2
 go_ret2
 exact ⟨rfl, below_alloc (Below.refl _ _) _⟩
theorem seff_21 (w : World) (n c : Nat) (A : Option Addr) (a : Int) :
 Calls Try.prog 187 #[.agg #[.int .i64 21, .int .i64 a], .slice A n c] w fun e w' => e = .returned (.tuple #[.string ⟨#[98]⟩, .string ⟨#[]⟩]) ∧ Below w.heap.size w w' := by
 go_enter Try.func187, Try.ntmps187
 go_wp2
 go_ret2
 exact ⟨rfl, below_alloc (Below.refl _ _) _⟩
theorem seff_22 (w : World) (n c : Nat) (A : Option Addr) (a : Int) :
 Calls Try.prog 187 #[.agg #[.int .i64 22, .int .i64 a], .slice A n c] w fun e w' => e = .returned (.tuple #[.string ⟨#[]⟩, .string ⟨#[]⟩]) ∧ Below w.heap.size w w' := by
 go_enter Try.func187, Try.ntmps187
 go_wp2
 go_ret2
 exact ⟨rfl, below_alloc (Below.refl _ _) _⟩
theorem seff_23 (w : World) (n c : Nat) (A : Option Addr) (a : Int) :
 Calls Try.prog 187 #[.agg #[.int .i64 23, .int .i64 a], .slice A n c] w fun e w' => e = .returned (.tuple #[.string ⟨#[]⟩, .string ⟨#[]⟩]) ∧ Below w.heap.size w w' := by
 go_enter Try.func187, Try.ntmps187
 go_wp2
 go_ret2
 exact ⟨rfl, below_alloc (Below.refl _ _) _⟩
theorem seff_24 (w : World) (n c : Nat) (A : Option Addr) (a : Int) :
 Calls Try.prog 187 #[.agg #[.int .i64 24, .int .i64 a], .slice A n c] w fun e w' => e = .returned (.tuple #[.string ⟨#[]⟩, .string ⟨#[]⟩]) ∧ Below w.heap.size w w' := by
 go_enter Try.func187, Try.ntmps187
 go_wp2
 go_ret2
 exact ⟨rfl, below_alloc (Below.refl _ _) _⟩
theorem seff_25 (w : World) (n c : Nat) (A : Option Addr) (a : Int) :
 Calls Try.prog 187 #[.agg #[.int .i64 25, .int .i64 a], .slice A n c] w fun e w' => e = .returned (.tuple #[.string ⟨#[]⟩, .string ⟨#[]⟩]) ∧ Below w.heap.size w w' := by
 go_enter Try.func187, Try.ntmps187
 go_wp2
 go_ret2
 exact ⟨rfl, below_alloc (Below.refl _ _) _⟩
theorem seff_26 (w : World) (n c : Nat) (A : Option Addr) (a : Int) :
 Calls Try.prog 187 #[.agg #[.int .i64 26, .int .i64 a], .slice A n c] w fun e w' => e = .returned (.tuple #[.string ⟨#[]⟩, .string ⟨#[]⟩]) ∧ Below w.heap.size w w' := by
 go_enter Try.func187, Try.ntmps187
 go_wp2
 go_ret2
 exact ⟨rfl, below_alloc (Below.refl _ _) _⟩
theorem stakes_1 (w : World) : Calls Try.prog 232 #[.int .i64 1] w fun e w' => e = .returned (.string ⟨#[98, 105]⟩) ∧ Below w.heap.size w w' := by
 have hu := Try.underlying177
 go_enter Try.func232, Try.ntmps232
 go_wp2
 go_ret
 exact ⟨rfl, below_alloc (Below.refl _ _) _⟩
theorem stakes_2 (w : World) : Calls Try.prog 232 #[.int .i64 2] w fun e w' => e = .returned (.string ⟨#[98, 98, 105]⟩) ∧ Below w.heap.size w w' := by
 have hu := Try.underlying177
 go_enter Try.func232, Try.ntmps232
 go_wp2
 go_ret
 exact ⟨rfl, below_alloc (Below.refl _ _) _⟩
theorem stakes_3 (w : World) : Calls Try.prog 232 #[.int .i64 3] w fun e w' => e = .returned (.string ⟨#[98]⟩) ∧ Below w.heap.size w w' := by
 have hu := Try.underlying177
 go_enter Try.func232, Try.ntmps232
 go_wp2
 go_ret
 exact ⟨rfl, below_alloc (Below.refl _ _) _⟩
theorem stakes_4 (w : World) : Calls Try.prog 232 #[.int .i64 4] w fun e w' => e = .returned (.string ⟨#[98, 98]⟩) ∧ Below w.heap.size w w' := by
 have hu := Try.underlying177
 go_enter Try.func232, Try.ntmps232
 go_wp2
 go_ret
 exact ⟨rfl, below_alloc (Below.refl _ _) _⟩
theorem seff_19_1 (w : World) (n c : Nat) (ad : Addr) (a : Nat) (ha : a < n) (hx : w.cell? (ad.add a) = some (.int .i64 1)) :
 Calls Try.prog 187 #[.agg #[.int .i64 19, .int .i64 a], .slice (some ad) n c] w fun e w' => e = .returned (.tuple #[.string ⟨#[98, 105]⟩, .string ⟨#[98]⟩]) ∧ Below w.heap.size w w' := by
 have hxa : ∀ o, (w.alloc o).cell? (ad.add a) = some (.int .i64 1) := fun o => (World.cell?_alloc_lt w o _ (World.block_lt_of_cell? w _ hx)).trans hx
 have hi1 : ((0 : Int) ≤ (a : Int)) = True := eq_true (by omega)
 have hi2 : ((a : Int) < (n : Int)) = True := eq_true (by omega)
 go_enter Try.func187, Try.ntmps187
 go_wp2_with (go_at_call 232; (with_reducible refine (stakes_1 _).mono ?_); rintro e w1 ⟨rfl, hb⟩; have HB := zQ hb; clear hb)
 go_ret2
 exact ⟨rfl, below_step (below_alloc (Below.refl _ _) _) HB.out⟩
theorem seff_19_2 (w : World) (n c : Nat) (ad : Addr) (a : Nat) (ha : a < n) (hx : w.cell? (ad.add a) = some (.int .i64 2)) :
 Calls Try.prog 187 #[.agg #[.int .i64 19, .int .i64 a], .slice (some ad) n c] w fun e w' => e = .returned (.tuple #[.string ⟨#[98, 98, 105]⟩, .string ⟨#[98]⟩]) ∧ Below w.heap.size w w' := by
 have hxa : ∀ o, (w.alloc o).cell? (ad.add a) = some (.int .i64 2) := fun o => (World.cell?_alloc_lt w o _ (World.block_lt_of_cell? w _ hx)).trans hx
 have hi1 : ((0 : Int) ≤ (a : Int)) = True := eq_true (by omega)
 have hi2 : ((a : Int) < (n : Int)) = True := eq_true (by omega)
 go_enter Try.func187, Try.ntmps187
 go_wp2_with (go_at_call 232; (with_reducible refine (stakes_2 _).mono ?_); rintro e w1 ⟨rfl, hb⟩; have HB := zQ hb; clear hb)
 go_ret2
 exact ⟨rfl, below_step (below_alloc (Below.refl _ _) _) HB.out⟩
theorem seff_19_3 (w : World) (n c : Nat) (ad : Addr) (a : Nat) (ha : a < n) (hx : w.cell? (ad.add a) = some (.int .i64 3)) :
 Calls Try.prog 187 #[.agg #[.int .i64 19, .int .i64 a], .slice (some ad) n c] w fun e w' => e = .returned (.tuple #[.string ⟨#[98]⟩, .string ⟨#[98]⟩]) ∧ Below w.heap.size w w' := by
 have hxa : ∀ o, (w.alloc o).cell? (ad.add a) = some (.int .i64 3) := fun o => (World.cell?_alloc_lt w o _ (World.block_lt_of_cell? w _ hx)).trans hx
 have hi1 : ((0 : Int) ≤ (a : Int)) = True := eq_true (by omega)
 have hi2 : ((a : Int) < (n : Int)) = True := eq_true (by omega)
 go_enter Try.func187, Try.ntmps187
 go_wp2_with (go_at_call 232; (with_reducible refine (stakes_3 _).mono ?_); rintro e w1 ⟨rfl, hb⟩; have HB := zQ hb; clear hb)
 go_ret2
 exact ⟨rfl, below_step (below_alloc (Below.refl _ _) _) HB.out⟩
theorem seff_19_4 (w : World) (n c : Nat) (ad : Addr) (a : Nat) (ha : a < n) (hx : w.cell? (ad.add a) = some (.int .i64 4)) :
 Calls Try.prog 187 #[.agg #[.int .i64 19, .int .i64 a], .slice (some ad) n c] w fun e w' => e = .returned (.tuple #[.string ⟨#[98, 98]⟩, .string ⟨#[98]⟩]) ∧ Below w.heap.size w w' := by
 have hxa : ∀ o, (w.alloc o).cell? (ad.add a) = some (.int .i64 4) := fun o => (World.cell?_alloc_lt w o _ (World.block_lt_of_cell? w _ hx)).trans hx
 have hi1 : ((0 : Int) ≤ (a : Int)) = True := eq_true (by omega)
 have hi2 : ((a : Int) < (n : Int)) = True := eq_true (by omega)
 go_enter Try.func187, Try.ntmps187
 go_wp2_with (go_at_call 232; (with_reducible refine (stakes_4 _).mono ?_); rintro e w1 ⟨rfl, hb⟩; have HB := zQ hb; clear hb)
 go_ret2
 exact ⟨rfl, below_step (below_alloc (Below.refl _ _) _) HB.out⟩
theorem stake_lo (w : World) (S P : ByteArray) (b : Int) (hs : S.size ≤ 8) (hp : P.size ≤ 3) (hb0 : 0 ≤ b) (hb8 : b ≤ 8) (h : decide ((S.size : Int) - b < (P.size : Int)) = true) :
 Calls Try.prog 207 #[.string S, .string P, .int .i64 b] w fun e w' => e = .returned (.tuple #[.string ⟨#[]⟩, .int .i64 13]) ∧ w' = w := by
 go_enter Try.func207, Try.ntmps207
 go_wp2
 go_ret2
 exact ⟨rfl, rfl⟩
theorem stake (w : World) (S P : ByteArray) (b : Int) (hs : S.size ≤ 8) (hp : P.size ≤ 3) (hb0 : 0 ≤ b) (hb8 : b ≤ 8) (hle : P.size ≤ S.size) (h : decide ((S.size : Int) - b < (P.size : Int)) = false) :
 Calls Try.prog 207 #[.string S, .string P, .int .i64 b] w fun e w' => (S.extract (S.size - P.size) S.size = P → e = .returned (.tuple #[.string (S.extract 0 (S.size - P.size)), .int .i64 0])) ∧ (S.extract (S.size - P.size) S.size ≠ P → e = .returned (.tuple #[.string ⟨#[]⟩, .int .i64 12])) ∧ w' = w := by
 by_cases hq : S.extract (S.size - P.size) S.size = P
 ·have h1 : (!(S.extract (S.size - P.size) S.size).toList == P.toList) = false := by rw [hq]; simp
  have HQ := zQ hq
  clear hq
  go_enter Try.func207, Try.ntmps207
  go_wp2
  go_ret2
  exact ⟨fun _ => rfl, fun e => absurd HQ.out e, rfl⟩
 ·have h1 : (!(S.extract (S.size - P.size) S.size).toList == P.toList) = true := by
   cases hh : (!(S.extract (S.size - P.size) S.size).toList == P.toList) with
   | true => rfl
   | false => exact absurd (v_eq hh) hq
  have HQ := zQ hq
  clear hq
  go_enter Try.func207, Try.ntmps207
  go_wp2
  go_ret2
  exact ⟨fun e => absurd e HQ.out, fun _ => rfl, rfl⟩

end Go.Proofs.Ytkegjmkdnfpfdaa.MFnExactNewCore
