-- By a program of this session.
import Derived.Test.YtkegjmkdnfpfdaaMFnExactNewCorex0
namespace Go.Proofs.Ytkegjmkdnfpfdaa.MFnExactNewCore
open Go.RowKit Go.Proofs.YtkegjmkdnfpfdaaW.PrintWords Go.Proofs.YtkegjmkdnfpfdaaW.PrintLast Go.Proofs.YtkegjmkdnfpfdaaW.PrintMore
attribute [local go_sem] max2_int min2_int max_two min_two max_three min_three max_four min_four
set_option linter.unusedVariables false
set_option linter.unusedSimpArgs false
set_option maxHeartbeats 8000000
set_option maxRecDepth 100000

theorem veff_1 (w : World) (g : Nat) (a : Int) :
 Calls Try.prog 199 #[.pointer (some ⟨g, 0, none⟩), .agg #[.int .i64 1, .int .i64 a]] w fun e w' => e = .returned (.tuple #[.string ⟨#[]⟩, .string ⟨#[105]⟩]) ∧ Below w.heap.size w w' := by
 go_enter Try.func199, Try.ntmps199
 go_wp2
 go_ret2
 exact ⟨rfl, below_alloc (Below.refl _ _) _⟩
theorem veff_2 (w : World) (g : Nat) (a : Int) :
 Calls Try.prog 199 #[.pointer (some ⟨g, 0, none⟩), .agg #[.int .i64 2, .int .i64 a]] w fun e w' => e = .returned (.tuple #[.string ⟨#[]⟩, .string ⟨#[98]⟩]) ∧ Below w.heap.size w w' := by
 go_enter Try.func199, Try.ntmps199
 go_wp2
 go_ret2
 exact ⟨rfl, below_alloc (Below.refl _ _) _⟩
theorem veff_3 (w : World) (g : Nat) (a : Int) :
 Calls Try.prog 199 #[.pointer (some ⟨g, 0, none⟩), .agg #[.int .i64 3, .int .i64 a]] w fun e w' => e = .returned (.tuple #[.string ⟨#[]⟩, .string ⟨#[105]⟩]) ∧ Below w.heap.size w w' := by
 go_enter Try.func199, Try.ntmps199
 go_wp2
 go_ret2
 exact ⟨rfl, below_alloc (Below.refl _ _) _⟩
theorem veff_4 (w : World) (g : Nat) (a : Int) :
 Calls Try.prog 199 #[.pointer (some ⟨g, 0, none⟩), .agg #[.int .i64 4, .int .i64 a]] w fun e w' => e = .returned (.tuple #[.string ⟨#[105]⟩, .string ⟨#[]⟩]) ∧ Below w.heap.size w w' := by
 go_enter Try.func199, Try.ntmps199
 go_wp2
 go_ret2
 exact ⟨rfl, below_alloc (Below.refl _ _) _⟩
theorem veff_5 (w : World) (g : Nat) (a : Int) :
 Calls Try.prog 199 #[.pointer (some ⟨g, 0, none⟩), .agg #[.int .i64 5, .int .i64 a]] w fun e w' => e = .returned (.tuple #[.string ⟨#[]⟩, .string ⟨#[98]⟩]) ∧ Below w.heap.size w w' := by
 go_enter Try.func199, Try.ntmps199
 go_wp2
 go_ret2
 exact ⟨rfl, below_alloc (Below.refl _ _) _⟩
theorem veff_6 (w : World) (g : Nat) (a : Int) :
 Calls Try.prog 199 #[.pointer (some ⟨g, 0, none⟩), .agg #[.int .i64 6, .int .i64 a]] w fun e w' => e = .returned (.tuple #[.string ⟨#[98]⟩, .string ⟨#[]⟩]) ∧ Below w.heap.size w w' := by
 go_enter Try.func199, Try.ntmps199
 go_wp2
 go_ret2
 exact ⟨rfl, below_alloc (Below.refl _ _) _⟩
theorem veff_7 (w : World) (g : Nat) (a : Int) :
 Calls Try.prog 199 #[.pointer (some ⟨g, 0, none⟩), .agg #[.int .i64 7, .int .i64 a]] w fun e w' => e = .returned (.tuple #[.string ⟨#[]⟩, .string ⟨#[98]⟩]) ∧ Below w.heap.size w w' := by
 go_enter Try.func199, Try.ntmps199
 go_wp2
 go_ret2
 exact ⟨rfl, below_alloc (Below.refl _ _) _⟩
theorem veff_8 (w : World) (g : Nat) (a : Int) :
 Calls Try.prog 199 #[.pointer (some ⟨g, 0, none⟩), .agg #[.int .i64 8, .int .i64 a]] w fun e w' => e = .returned (.tuple #[.string ⟨#[98]⟩, .string ⟨#[]⟩]) ∧ Below w.heap.size w w' := by
 go_enter Try.func199, Try.ntmps199
 go_wp2
 go_ret2
 exact ⟨rfl, below_alloc (Below.refl _ _) _⟩
theorem veff_9 (w : World) (g : Nat) (a : Int) :
 Calls Try.prog 199 #[.pointer (some ⟨g, 0, none⟩), .agg #[.int .i64 9, .int .i64 a]] w fun e w' => e = .returned (.tuple #[.string ⟨#[105, 105]⟩, .string ⟨#[105]⟩]) ∧ Below w.heap.size w w' := by
 go_enter Try.func199, Try.ntmps199
 go_wp2
 go_ret2
 exact ⟨rfl, below_alloc (Below.refl _ _) _⟩
theorem veff_10 (w : World) (g : Nat) (a : Int) :
 Calls Try.prog 199 #[.pointer (some ⟨g, 0, none⟩), .agg #[.int .i64 10, .int .i64 a]] w fun e w' => e = .returned (.tuple #[.string ⟨#[105, 105]⟩, .string ⟨#[105]⟩]) ∧ Below w.heap.size w w' := by
 go_enter Try.func199, Try.ntmps199
 go_wp2
 go_ret2
 exact ⟨rfl, below_alloc (Below.refl _ _) _⟩
theorem veff_11 (w : World) (g : Nat) (a : Int) :
 Calls Try.prog 199 #[.pointer (some ⟨g, 0, none⟩), .agg #[.int .i64 11, .int .i64 a]] w fun e w' => e = .returned (.tuple #[.string ⟨#[105, 105]⟩, .string ⟨#[105]⟩]) ∧ Below w.heap.size w w' := by
 go_enter Try.func199, Try.ntmps199
 go_wp2
 go_ret2
 exact ⟨rfl, below_alloc (Below.refl _ _) _⟩
theorem veff_12 (w : World) (g : Nat) (a : Int) :
 Calls Try.prog 199 #[.pointer (some ⟨g, 0, none⟩), .agg #[.int .i64 12, .int .i64 a]] w fun e w' => e = .returned (.tuple #[.string ⟨#[105, 105]⟩, .string ⟨#[105]⟩]) ∧ Below w.heap.size w w' := by
 go_enter Try.func199, Try.ntmps199
 go_wp2
 go_ret2
 exact ⟨rfl, below_alloc (Below.refl _ _) _⟩
theorem veff_13 (w : World) (g : Nat) (a : Int) :
 Calls Try.prog 199 #[.pointer (some ⟨g, 0, none⟩), .agg #[.int .i64 13, .int .i64 a]] w fun e w' => e = .returned (.tuple #[.string ⟨#[105, 105]⟩, .string ⟨#[98]⟩]) ∧ Below w.heap.size w w' := by
 go_enter Try.func199, Try.ntmps199
 go_wp2
 go_ret2
 exact ⟨rfl, below_alloc (Below.refl _ _) _⟩
theorem veff_14 (w : World) (g : Nat) (a : Int) :
 Calls Try.prog 199 #[.pointer (some ⟨g, 0, none⟩), .agg #[.int .i64 14, .int .i64 a]] w fun e w' => e = .returned (.tuple #[.string ⟨#[105, 105]⟩, .string ⟨#[98]⟩]) ∧ Below w.heap.size w w' := by
 go_enter Try.func199, Try.ntmps199
 go_wp2
 go_ret2
 exact ⟨rfl, below_alloc (Below.refl _ _) _⟩
theorem veff_15 (w : World) (g : Nat) (a : Int) :
 Calls Try.prog 199 #[.pointer (some ⟨g, 0, none⟩), .agg #[.int .i64 15, .int .i64 a]] w fun e w' => e = .returned (.tuple #[.string ⟨#[98, 98]⟩, .string ⟨#[98]⟩]) ∧ Below w.heap.size w w' := by
 go_enter Try.func199, Try.ntmps199
 go_wp2
 go_ret2
 exact ⟨rfl, below_alloc (Below.refl _ _) _⟩
theorem veff_16 (w : World) (g : Nat) (a : Int) :
 Calls Try.prog 199 #[.pointer (some ⟨g, 0, none⟩), .agg #[.int .i64 16, .int .i64 a]] w fun e w' => e = .returned (.tuple #[.string ⟨#[98, 98]⟩, .string ⟨#[98]⟩]) ∧ Below w.heap.size w w' := by
 go_enter Try.func199, Try.ntmps199
 go_wp2
 go_ret2
 exact ⟨rfl, below_alloc (Below.refl _ _) _⟩
theorem veff_17 (w : World) (g : Nat) (a : Int) :
 Calls Try.prog 199 #[.pointer (some ⟨g, 0, none⟩), .agg #[.int .i64 17, .int .i64 a]] w fun e w' => e = .returned (.tuple #[.string ⟨#[98]⟩, .string ⟨#[98]⟩]) ∧ Below w.heap.size w w' := by
 go_enter Try.func199, Try.ntmps199
 go_wp2
 go_ret2
 exact ⟨rfl, below_alloc (Below.refl _ _) _⟩
theorem veff_18 (w : World) (g : Nat) (a : Int) :
 Calls Try.prog 199 #[.pointer (some ⟨g, 0, none⟩), .agg #[.int .i64 18, .int .i64 a]] w fun e w' => e = .returned (.tuple #[.string ⟨#[98, 105, 105]⟩, .string ⟨#[105]⟩]) ∧ Below w.heap.size w w' := by
 go_enter Try.func199, Try.ntmps199
 go_wp2
 go_ret2
 exact ⟨rfl, below_alloc (Below.refl _ _) _⟩
theorem veff_20 (w : World) (g : Nat) (a : Int) :
 Calls Try.prog 199 #[.pointer (some ⟨g, 0, none⟩), .agg #[.int .i64 20, .int .i64 a]] w fun e w' => e = .returned (.tuple #[.string ⟨#[]⟩, .string ⟨#[105]⟩]) ∧ Below w.heap.size w w' := by
 go_enter Try.func199, Try.ntmps199
 go_wp2
 go_ret2
 exact ⟨rfl, below_alloc (Below.refl _ _) _⟩
theorem veff_21 (w : World) (g : Nat) (a : Int) :
 Calls Try.prog 199 #[.pointer (some ⟨g, 0, none⟩), .agg #[.int .i64 21, .int .i64 a]] w fun e w' => e = .returned (.tuple #[.string ⟨#[98]⟩, .string ⟨#[]⟩]) ∧ Below w.heap.size w w' := by
 go_enter Try.func199, Try.ntmps199
 go_wp2
 go_ret2
 exact ⟨rfl, below_alloc (Below.refl _ _) _⟩
theorem veff_22 (w : World) (g : Nat) (a : Int) :
 Calls Try.prog 199 #[.pointer (some ⟨g, 0, none⟩), .agg #[.int .i64 22, .int .i64 a]] w fun e w' => e = .returned (.tuple #[.string ⟨#[]⟩, .string ⟨#[]⟩]) ∧ Below w.heap.size w w' := by
 go_enter Try.func199, Try.ntmps199
 go_wp2
 go_ret2
 exact ⟨rfl, below_alloc (Below.refl _ _) _⟩
theorem veff_23 (w : World) (g : Nat) (a : Int) :
 Calls Try.prog 199 #[.pointer (some ⟨g, 0, none⟩), .agg #[.int .i64 23, .int .i64 a]] w fun e w' => e = .returned (.tuple #[.string ⟨#[]⟩, .string ⟨#[]⟩]) ∧ Below w.heap.size w w' := by
 go_enter Try.func199, Try.ntmps199
 go_wp2
 go_ret2
 exact ⟨rfl, below_alloc (Below.refl _ _) _⟩
theorem veff_24 (w : World) (g : Nat) (a : Int) :
 Calls Try.prog 199 #[.pointer (some ⟨g, 0, none⟩), .agg #[.int .i64 24, .int .i64 a]] w fun e w' => e = .returned (.tuple #[.string ⟨#[]⟩, .string ⟨#[]⟩]) ∧ Below w.heap.size w w' := by
 go_enter Try.func199, Try.ntmps199
 go_wp2
 go_ret2
 exact ⟨rfl, below_alloc (Below.refl _ _) _⟩
theorem veff_25 (w : World) (g : Nat) (a : Int) :
 Calls Try.prog 199 #[.pointer (some ⟨g, 0, none⟩), .agg #[.int .i64 25, .int .i64 a]] w fun e w' => e = .returned (.tuple #[.string ⟨#[]⟩, .string ⟨#[]⟩]) ∧ Below w.heap.size w w' := by
 go_enter Try.func199, Try.ntmps199
 go_wp2
 go_ret2
 exact ⟨rfl, below_alloc (Below.refl _ _) _⟩
theorem veff_26 (w : World) (g : Nat) (a : Int) :
 Calls Try.prog 199 #[.pointer (some ⟨g, 0, none⟩), .agg #[.int .i64 26, .int .i64 a]] w fun e w' => e = .returned (.tuple #[.string ⟨#[]⟩, .string ⟨#[]⟩]) ∧ Below w.heap.size w w' := by
 go_enter Try.func199, Try.ntmps199
 go_wp2
 go_ret2
 exact ⟨rfl, below_alloc (Below.refl _ _) _⟩
theorem vtakes_1 (w : World) : Calls Try.prog 239 #[.int .i64 1] w fun e w' => e = .returned (.string ⟨#[98, 105]⟩) ∧ w' = w := by
 have i0 : ∀ w, (Instr.index 282 (.agg #[.string ⟨#[98, 105]⟩, .string ⟨#[98, 98, 105]⟩, .string ⟨#[98]⟩, .string ⟨#[98, 98]⟩]) (.int .i64 0)).run Try.prog w = .ok (.string ⟨#[98, 105]⟩) w := fun _ => by kernel_rfl
 go_enter Try.func239, Try.ntmps239
 go_wp2
 go_ret
 exact ⟨rfl, rfl⟩
theorem vtakes_2 (w : World) : Calls Try.prog 239 #[.int .i64 2] w fun e w' => e = .returned (.string ⟨#[98, 98, 105]⟩) ∧ w' = w := by
 have i0 : ∀ w, (Instr.index 282 (.agg #[.string ⟨#[98, 105]⟩, .string ⟨#[98, 98, 105]⟩, .string ⟨#[98]⟩, .string ⟨#[98, 98]⟩]) (.int .i64 1)).run Try.prog w = .ok (.string ⟨#[98, 98, 105]⟩) w := fun _ => by kernel_rfl
 go_enter Try.func239, Try.ntmps239
 go_wp2
 go_ret
 exact ⟨rfl, rfl⟩
theorem vtakes_3 (w : World) : Calls Try.prog 239 #[.int .i64 3] w fun e w' => e = .returned (.string ⟨#[98]⟩) ∧ w' = w := by
 have i0 : ∀ w, (Instr.index 282 (.agg #[.string ⟨#[98, 105]⟩, .string ⟨#[98, 98, 105]⟩, .string ⟨#[98]⟩, .string ⟨#[98, 98]⟩]) (.int .i64 2)).run Try.prog w = .ok (.string ⟨#[98]⟩) w := fun _ => by kernel_rfl
 go_enter Try.func239, Try.ntmps239
 go_wp2
 go_ret
 exact ⟨rfl, rfl⟩
theorem vtakes_4 (w : World) : Calls Try.prog 239 #[.int .i64 4] w fun e w' => e = .returned (.string ⟨#[98, 98]⟩) ∧ w' = w := by
 have i0 : ∀ w, (Instr.index 282 (.agg #[.string ⟨#[98, 105]⟩, .string ⟨#[98, 98, 105]⟩, .string ⟨#[98]⟩, .string ⟨#[98, 98]⟩]) (.int .i64 3)).run Try.prog w = .ok (.string ⟨#[98, 98]⟩) w := fun _ => by kernel_rfl
 go_enter Try.func239, Try.ntmps239
 go_wp2
 go_ret
 exact ⟨rfl, rfl⟩
theorem veff_19_1 (w : World) (g n c : Nat) (ad : Addr) (a : Nat) (ha : a < n) (hk : w.cell? ⟨g, 0, none⟩ = some (.slice (some ad) n c)) (hx : w.cell? (ad.add a) = some (.int .i64 1)) :
 Calls Try.prog 199 #[.pointer (some ⟨g, 0, none⟩), .agg #[.int .i64 19, .int .i64 a]] w fun e w' => e = .returned (.tuple #[.string ⟨#[98, 105]⟩, .string ⟨#[98]⟩]) ∧ Below w.heap.size w w' := by
 have hka : ∀ o, (w.alloc o).cell? ⟨g, 0, none⟩ = some (.slice (some ad) n c) := fun o => (World.cell?_alloc_lt w o _ (World.block_lt_of_cell? w _ hk)).trans hk
 have hxa : ∀ o, (w.alloc o).cell? (ad.add a) = some (.int .i64 1) := fun o => (World.cell?_alloc_lt w o _ (World.block_lt_of_cell? w _ hx)).trans hx
 have hi1 : ((0 : Int) ≤ (a : Int)) = True := eq_true (by omega)
 have hi2 : ((a : Int) < (n : Int)) = True := eq_true (by omega)
 go_enter Try.func199, Try.ntmps199
 go_wp2
 go_quiet ((go_at_call 239; exact Calls.quiet_of_same (vtakes_1 _)))
 go_wp2
 go_ret2
 exact ⟨rfl, by repeat (first | exact below_alloc (Below.refl _ _) _ | apply pw_below_drewN)⟩
theorem veff_19_2 (w : World) (g n c : Nat) (ad : Addr) (a : Nat) (ha : a < n) (hk : w.cell? ⟨g, 0, none⟩ = some (.slice (some ad) n c)) (hx : w.cell? (ad.add a) = some (.int .i64 2)) :
 Calls Try.prog 199 #[.pointer (some ⟨g, 0, none⟩), .agg #[.int .i64 19, .int .i64 a]] w fun e w' => e = .returned (.tuple #[.string ⟨#[98, 98, 105]⟩, .string ⟨#[98]⟩]) ∧ Below w.heap.size w w' := by
 have hka : ∀ o, (w.alloc o).cell? ⟨g, 0, none⟩ = some (.slice (some ad) n c) := fun o => (World.cell?_alloc_lt w o _ (World.block_lt_of_cell? w _ hk)).trans hk
 have hxa : ∀ o, (w.alloc o).cell? (ad.add a) = some (.int .i64 2) := fun o => (World.cell?_alloc_lt w o _ (World.block_lt_of_cell? w _ hx)).trans hx
 have hi1 : ((0 : Int) ≤ (a : Int)) = True := eq_true (by omega)
 have hi2 : ((a : Int) < (n : Int)) = True := eq_true (by omega)
 go_enter Try.func199, Try.ntmps199
 go_wp2
 go_quiet ((go_at_call 239; exact Calls.quiet_of_same (vtakes_2 _)))
 go_wp2
 go_ret2
 exact ⟨rfl, by repeat (first | exact below_alloc (Below.refl _ _) _ | apply pw_below_drewN)⟩
theorem veff_19_3 (w : World) (g n c : Nat) (ad : Addr) (a : Nat) (ha : a < n) (hk : w.cell? ⟨g, 0, none⟩ = some (.slice (some ad) n c)) (hx : w.cell? (ad.add a) = some (.int .i64 3)) :
 Calls Try.prog 199 #[.pointer (some ⟨g, 0, none⟩), .agg #[.int .i64 19, .int .i64 a]] w fun e w' => e = .returned (.tuple #[.string ⟨#[98]⟩, .string ⟨#[98]⟩]) ∧ Below w.heap.size w w' := by
 have hka : ∀ o, (w.alloc o).cell? ⟨g, 0, none⟩ = some (.slice (some ad) n c) := fun o => (World.cell?_alloc_lt w o _ (World.block_lt_of_cell? w _ hk)).trans hk
 have hxa : ∀ o, (w.alloc o).cell? (ad.add a) = some (.int .i64 3) := fun o => (World.cell?_alloc_lt w o _ (World.block_lt_of_cell? w _ hx)).trans hx
 have hi1 : ((0 : Int) ≤ (a : Int)) = True := eq_true (by omega)
 have hi2 : ((a : Int) < (n : Int)) = True := eq_true (by omega)
 go_enter Try.func199, Try.ntmps199
 go_wp2
 go_quiet ((go_at_call 239; exact Calls.quiet_of_same (vtakes_3 _)))
 go_wp2
 go_ret2
 exact ⟨rfl, by repeat (first | exact below_alloc (Below.refl _ _) _ | apply pw_below_drewN)⟩
theorem veff_19_4 (w : World) (g n c : Nat) (ad : Addr) (a : Nat) (ha : a < n) (hk : w.cell? ⟨g, 0, none⟩ = some (.slice (some ad) n c)) (hx : w.cell? (ad.add a) = some (.int .i64 4)) :
 Calls Try.prog 199 #[.pointer (some ⟨g, 0, none⟩), .agg #[.int .i64 19, .int .i64 a]] w fun e w' => e = .returned (.tuple #[.string ⟨#[98, 98]⟩, .string ⟨#[98]⟩]) ∧ Below w.heap.size w w' := by
 have hka : ∀ o, (w.alloc o).cell? ⟨g, 0, none⟩ = some (.slice (some ad) n c) := fun o => (World.cell?_alloc_lt w o _ (World.block_lt_of_cell? w _ hk)).trans hk
 have hxa : ∀ o, (w.alloc o).cell? (ad.add a) = some (.int .i64 4) := fun o => (World.cell?_alloc_lt w o _ (World.block_lt_of_cell? w _ hx)).trans hx
 have hi1 : ((0 : Int) ≤ (a : Int)) = True := eq_true (by omega)
 have hi2 : ((a : Int) < (n : Int)) = True := eq_true (by omega)
 go_enter Try.func199, Try.ntmps199
 go_wp2
 go_quiet ((go_at_call 239; exact Calls.quiet_of_same (vtakes_4 _)))
 go_wp2
 go_ret2
 exact ⟨rfl, by repeat (first | exact below_alloc (Below.refl _ _) _ | apply pw_below_drewN)⟩

end Go.Proofs.Ytkegjmkdnfpfdaa.MFnExactNewCore
