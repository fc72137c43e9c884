-- Text written by a program of this session (wip/tools: the kit's printer with additions of ours).
import Derived.Test.YtagfalmpanlabaaMFnSummariesx0
namespace Go.Proofs.Ytagfalmpanlabaa.MFnSummaries
open Go.RowKit Go.Proofs.YtagfalmpanlabaaW.PrintWords Go.Proofs.YtagfalmpanlabaaW.PrintLast Go.Proofs.YtagfalmpanlabaaW.PrintMore
attribute [local go_sem] max2_int min2_int max_two min_two max_three min_three max_four min_four   -- for this text's walks alone
set_option linter.unusedVariables false
set_option linter.unusedSimpArgs false

/-! ### impl_SummaryOK: function 38 -/
def sumOKb (a0 a1 a2 a3 a4 : Int) : Bool := decide (0 ≤ a0 ∧ a0 ≤ 2147483647 ∧ (-1 ≤ a1 ∧ a1 ≤ a0) ∧ (-1 ≤ a2 ∧ a2 ≤ a0) ∧ (-1 ≤ a3 ∧ a3 ≤ a0) ∧ (-1 ≤ a4 ∧ a4 ≤ a0) ∧ (a2 = -1 ↔ a3 = -1) ∧ (a2 ≠ -1 ∨ (a4 = -1 ∧ a1 ≠ -1)))
def impl_SummaryOK.f (a0 a1 a2 a3 a4 : Int) : Option Bool := some (sumOKb a0 a1 a2 a3 a4)
set_option maxHeartbeats 8000000 in
set_option maxRecDepth 100000 in
theorem impl_SummaryOK.no0 (a0 a1 a2 a3 a4 : Int) (w : World) (h0 : a0 < 0) :
    Calls Try.prog 38 #[.agg #[.int .i64 a0, .int .i64 a1, .int .i64 a2, .int .i64 a3, .int .i64 a4]] w fun e w' => e = .returned (.bool false) ∧ Below w.heap.size w w' := by
  have i0 : ∀ w, (Instr.index 106 (.agg #[.int .i64 a1, .int .i64 a2, .int .i64 a3, .int .i64 a4]) (.int .i64 0)).run Try.prog w = .ok (.int .i64 a1) w := fun _ => by kernel_rfl
  have i1 : ∀ w, (Instr.index 106 (.agg #[.int .i64 a1, .int .i64 a2, .int .i64 a3, .int .i64 a4]) (.int .i64 1)).run Try.prog w = .ok (.int .i64 a2) w := fun _ => by kernel_rfl
  have i2 : ∀ w, (Instr.index 106 (.agg #[.int .i64 a1, .int .i64 a2, .int .i64 a3, .int .i64 a4]) (.int .i64 2)).run Try.prog w = .ok (.int .i64 a3) w := fun _ => by kernel_rfl
  have i3 : ∀ w, (Instr.index 106 (.agg #[.int .i64 a1, .int .i64 a2, .int .i64 a3, .int .i64 a4]) (.int .i64 3)).run Try.prog w = .ok (.int .i64 a4) w := fun _ => by kernel_rfl
  have c0 : decide (0 ≤ a0) = false := by simp; omega
  clear h0
  go_enter Try.func38, Try.ntmps38
  go_wp2
  go_ret
  exact ⟨rfl, (Below.refl _ _).alloc (Nat.le_refl _) _⟩

set_option maxHeartbeats 8000000 in
set_option maxRecDepth 100000 in
theorem impl_SummaryOK.no1 (a0 a1 a2 a3 a4 : Int) (w : World) (h0 : 2147483647 < a0) :
    Calls Try.prog 38 #[.agg #[.int .i64 a0, .int .i64 a1, .int .i64 a2, .int .i64 a3, .int .i64 a4]] w fun e w' => e = .returned (.bool false) ∧ Below w.heap.size w w' := by
  have i0 : ∀ w, (Instr.index 106 (.agg #[.int .i64 a1, .int .i64 a2, .int .i64 a3, .int .i64 a4]) (.int .i64 0)).run Try.prog w = .ok (.int .i64 a1) w := fun _ => by kernel_rfl
  have i1 : ∀ w, (Instr.index 106 (.agg #[.int .i64 a1, .int .i64 a2, .int .i64 a3, .int .i64 a4]) (.int .i64 1)).run Try.prog w = .ok (.int .i64 a2) w := fun _ => by kernel_rfl
  have i2 : ∀ w, (Instr.index 106 (.agg #[.int .i64 a1, .int .i64 a2, .int .i64 a3, .int .i64 a4]) (.int .i64 2)).run Try.prog w = .ok (.int .i64 a3) w := fun _ => by kernel_rfl
  have i3 : ∀ w, (Instr.index 106 (.agg #[.int .i64 a1, .int .i64 a2, .int .i64 a3, .int .i64 a4]) (.int .i64 3)).run Try.prog w = .ok (.int .i64 a4) w := fun _ => by kernel_rfl
  have c0 : decide (0 ≤ a0) = true := by simp; omega
  have c1 : decide (a0 ≤ 2147483647) = false := by simp; omega
  clear h0
  go_enter Try.func38, Try.ntmps38
  go_wp2
  go_ret
  exact ⟨rfl, (Below.refl _ _).alloc (Nat.le_refl _) _⟩

set_option maxHeartbeats 8000000 in
set_option maxRecDepth 100000 in
theorem impl_SummaryOK.no2 (a0 a1 a2 a3 a4 : Int) (w : World) (h0 : 0 ≤ a0) (h1 : a0 ≤ 2147483647) (h2 : a1 < -1) :
    Calls Try.prog 38 #[.agg #[.int .i64 a0, .int .i64 a1, .int .i64 a2, .int .i64 a3, .int .i64 a4]] w fun e w' => e = .returned (.bool false) ∧ Below w.heap.size w w' := by
  have i0 : ∀ w, (Instr.index 106 (.agg #[.int .i64 a1, .int .i64 a2, .int .i64 a3, .int .i64 a4]) (.int .i64 0)).run Try.prog w = .ok (.int .i64 a1) w := fun _ => by kernel_rfl
  have i1 : ∀ w, (Instr.index 106 (.agg #[.int .i64 a1, .int .i64 a2, .int .i64 a3, .int .i64 a4]) (.int .i64 1)).run Try.prog w = .ok (.int .i64 a2) w := fun _ => by kernel_rfl
  have i2 : ∀ w, (Instr.index 106 (.agg #[.int .i64 a1, .int .i64 a2, .int .i64 a3, .int .i64 a4]) (.int .i64 2)).run Try.prog w = .ok (.int .i64 a3) w := fun _ => by kernel_rfl
  have i3 : ∀ w, (Instr.index 106 (.agg #[.int .i64 a1, .int .i64 a2, .int .i64 a3, .int .i64 a4]) (.int .i64 3)).run Try.prog w = .ok (.int .i64 a4) w := fun _ => by kernel_rfl
  have c0 : decide (0 ≤ a0) = true := by simp; omega
  have c1 : decide (a0 ≤ 2147483647) = true := by simp; omega
  have c2 : decide (-1 ≤ a1) = false := by simp; omega
  clear h0 h1 h2
  go_enter Try.func38, Try.ntmps38
  go_wp2
  refine wp_loop_rounds 6 ?_
  rw [rounds_succ]
  go_wp2
  go_ret
  exact ⟨rfl, (Below.refl _ _).alloc (Nat.le_refl _) _⟩

set_option maxHeartbeats 8000000 in
set_option maxRecDepth 100000 in
theorem impl_SummaryOK.no3 (a0 a1 a2 a3 a4 : Int) (w : World) (h0 : 0 ≤ a0) (h1 : a0 ≤ 2147483647) (h2 : -1 ≤ a1) (h3 : a0 < a1) :
    Calls Try.prog 38 #[.agg #[.int .i64 a0, .int .i64 a1, .int .i64 a2, .int .i64 a3, .int .i64 a4]] w fun e w' => e = .returned (.bool false) ∧ Below w.heap.size w w' := by
  have i0 : ∀ w, (Instr.index 106 (.agg #[.int .i64 a1, .int .i64 a2, .int .i64 a3, .int .i64 a4]) (.int .i64 0)).run Try.prog w = .ok (.int .i64 a1) w := fun _ => by kernel_rfl
  have i1 : ∀ w, (Instr.index 106 (.agg #[.int .i64 a1, .int .i64 a2, .int .i64 a3, .int .i64 a4]) (.int .i64 1)).run Try.prog w = .ok (.int .i64 a2) w := fun _ => by kernel_rfl
  have i2 : ∀ w, (Instr.index 106 (.agg #[.int .i64 a1, .int .i64 a2, .int .i64 a3, .int .i64 a4]) (.int .i64 2)).run Try.prog w = .ok (.int .i64 a3) w := fun _ => by kernel_rfl
  have i3 : ∀ w, (Instr.index 106 (.agg #[.int .i64 a1, .int .i64 a2, .int .i64 a3, .int .i64 a4]) (.int .i64 3)).run Try.prog w = .ok (.int .i64 a4) w := fun _ => by kernel_rfl
  have c0 : decide (0 ≤ a0) = true := by simp; omega
  have c1 : decide (a0 ≤ 2147483647) = true := by simp; omega
  have c2 : decide (-1 ≤ a1) = true := by simp; omega
  have c3 : decide (a1 ≤ a0) = false := by simp; omega
  clear h0 h1 h2 h3
  go_enter Try.func38, Try.ntmps38
  go_wp2
  refine wp_loop_rounds 6 ?_
  rw [rounds_succ]
  go_wp2
  go_ret
  exact ⟨rfl, (Below.refl _ _).alloc (Nat.le_refl _) _⟩

set_option maxHeartbeats 8000000 in
set_option maxRecDepth 100000 in
theorem impl_SummaryOK.no4 (a0 a1 a2 a3 a4 : Int) (w : World) (h0 : 0 ≤ a0) (h1 : a0 ≤ 2147483647) (h2 : -1 ≤ a1) (h3 : a1 ≤ a0) (h4 : a2 < -1) :
    Calls Try.prog 38 #[.agg #[.int .i64 a0, .int .i64 a1, .int .i64 a2, .int .i64 a3, .int .i64 a4]] w fun e w' => e = .returned (.bool false) ∧ Below w.heap.size w w' := by
  have i0 : ∀ w, (Instr.index 106 (.agg #[.int .i64 a1, .int .i64 a2, .int .i64 a3, .int .i64 a4]) (.int .i64 0)).run Try.prog w = .ok (.int .i64 a1) w := fun _ => by kernel_rfl
  have i1 : ∀ w, (Instr.index 106 (.agg #[.int .i64 a1, .int .i64 a2, .int .i64 a3, .int .i64 a4]) (.int .i64 1)).run Try.prog w = .ok (.int .i64 a2) w := fun _ => by kernel_rfl
  have i2 : ∀ w, (Instr.index 106 (.agg #[.int .i64 a1, .int .i64 a2, .int .i64 a3, .int .i64 a4]) (.int .i64 2)).run Try.prog w = .ok (.int .i64 a3) w := fun _ => by kernel_rfl
  have i3 : ∀ w, (Instr.index 106 (.agg #[.int .i64 a1, .int .i64 a2, .int .i64 a3, .int .i64 a4]) (.int .i64 3)).run Try.prog w = .ok (.int .i64 a4) w := fun _ => by kernel_rfl
  have c0 : decide (0 ≤ a0) = true := by simp; omega
  have c1 : decide (a0 ≤ 2147483647) = true := by simp; omega
  have c2 : decide (-1 ≤ a1) = true := by simp; omega
  have c3 : decide (a1 ≤ a0) = true := by simp; omega
  have c4 : decide (-1 ≤ a2) = false := by simp; omega
  clear h0 h1 h2 h3 h4
  go_enter Try.func38, Try.ntmps38
  go_wp2
  refine wp_loop_rounds 6 ?_
  rw [rounds_succ]
  go_wp2
  rw [rounds_succ]
  go_wp2
  go_ret
  exact ⟨rfl, (Below.refl _ _).alloc (Nat.le_refl _) _⟩

set_option maxHeartbeats 8000000 in
set_option maxRecDepth 100000 in
theorem impl_SummaryOK.no5 (a0 a1 a2 a3 a4 : Int) (w : World) (h0 : 0 ≤ a0) (h1 : a0 ≤ 2147483647) (h2 : -1 ≤ a1) (h3 : a1 ≤ a0) (h4 : -1 ≤ a2) (h5 : a0 < a2) :
    Calls Try.prog 38 #[.agg #[.int .i64 a0, .int .i64 a1, .int .i64 a2, .int .i64 a3, .int .i64 a4]] w fun e w' => e = .returned (.bool false) ∧ Below w.heap.size w w' := by
  have i0 : ∀ w, (Instr.index 106 (.agg #[.int .i64 a1, .int .i64 a2, .int .i64 a3, .int .i64 a4]) (.int .i64 0)).run Try.prog w = .ok (.int .i64 a1) w := fun _ => by kernel_rfl
  have i1 : ∀ w, (Instr.index 106 (.agg #[.int .i64 a1, .int .i64 a2, .int .i64 a3, .int .i64 a4]) (.int .i64 1)).run Try.prog w = .ok (.int .i64 a2) w := fun _ => by kernel_rfl
  have i2 : ∀ w, (Instr.index 106 (.agg #[.int .i64 a1, .int .i64 a2, .int .i64 a3, .int .i64 a4]) (.int .i64 2)).run Try.prog w = .ok (.int .i64 a3) w := fun _ => by kernel_rfl
  have i3 : ∀ w, (Instr.index 106 (.agg #[.int .i64 a1, .int .i64 a2, .int .i64 a3, .int .i64 a4]) (.int .i64 3)).run Try.prog w = .ok (.int .i64 a4) w := fun _ => by kernel_rfl
  have c0 : decide (0 ≤ a0) = true := by simp; omega
  have c1 : decide (a0 ≤ 2147483647) = true := by simp; omega
  have c2 : decide (-1 ≤ a1) = true := by simp; omega
  have c3 : decide (a1 ≤ a0) = true := by simp; omega
  have c4 : decide (-1 ≤ a2) = true := by simp; omega
  have c5 : decide (a2 ≤ a0) = false := by simp; omega
  clear h0 h1 h2 h3 h4 h5
  go_enter Try.func38, Try.ntmps38
  go_wp2
  refine wp_loop_rounds 6 ?_
  rw [rounds_succ]
  go_wp2
  rw [rounds_succ]
  go_wp2
  go_ret
  exact ⟨rfl, (Below.refl _ _).alloc (Nat.le_refl _) _⟩

set_option maxHeartbeats 8000000 in
set_option maxRecDepth 100000 in
theorem impl_SummaryOK.no6 (a0 a1 a2 a3 a4 : Int) (w : World) (h0 : 0 ≤ a0) (h1 : a0 ≤ 2147483647) (h2 : -1 ≤ a1) (h3 : a1 ≤ a0) (h4 : -1 ≤ a2) (h5 : a2 ≤ a0) (h6 : a3 < -1) :
    Calls Try.prog 38 #[.agg #[.int .i64 a0, .int .i64 a1, .int .i64 a2, .int .i64 a3, .int .i64 a4]] w fun e w' => e = .returned (.bool false) ∧ Below w.heap.size w w' := by
  have i0 : ∀ w, (Instr.index 106 (.agg #[.int .i64 a1, .int .i64 a2, .int .i64 a3, .int .i64 a4]) (.int .i64 0)).run Try.prog w = .ok (.int .i64 a1) w := fun _ => by kernel_rfl
  have i1 : ∀ w, (Instr.index 106 (.agg #[.int .i64 a1, .int .i64 a2, .int .i64 a3, .int .i64 a4]) (.int .i64 1)).run Try.prog w = .ok (.int .i64 a2) w := fun _ => by kernel_rfl
  have i2 : ∀ w, (Instr.index 106 (.agg #[.int .i64 a1, .int .i64 a2, .int .i64 a3, .int .i64 a4]) (.int .i64 2)).run Try.prog w = .ok (.int .i64 a3) w := fun _ => by kernel_rfl
  have i3 : ∀ w, (Instr.index 106 (.agg #[.int .i64 a1, .int .i64 a2, .int .i64 a3, .int .i64 a4]) (.int .i64 3)).run Try.prog w = .ok (.int .i64 a4) w := fun _ => by kernel_rfl
  have c0 : decide (0 ≤ a0) = true := by simp; omega
  have c1 : decide (a0 ≤ 2147483647) = true := by simp; omega
  have c2 : decide (-1 ≤ a1) = true := by simp; omega
  have c3 : decide (a1 ≤ a0) = true := by simp; omega
  have c4 : decide (-1 ≤ a2) = true := by simp; omega
  have c5 : decide (a2 ≤ a0) = true := by simp; omega
  have c6 : decide (-1 ≤ a3) = false := by simp; omega
  clear h0 h1 h2 h3 h4 h5 h6
  go_enter Try.func38, Try.ntmps38
  go_wp2
  refine wp_loop_rounds 6 ?_
  rw [rounds_succ]
  go_wp2
  rw [rounds_succ]
  go_wp2
  rw [rounds_succ]
  go_wp2
  go_ret
  exact ⟨rfl, (Below.refl _ _).alloc (Nat.le_refl _) _⟩

set_option maxHeartbeats 8000000 in
set_option maxRecDepth 100000 in
theorem impl_SummaryOK.no7 (a0 a1 a2 a3 a4 : Int) (w : World) (h0 : 0 ≤ a0) (h1 : a0 ≤ 2147483647) (h2 : -1 ≤ a1) (h3 : a1 ≤ a0) (h4 : -1 ≤ a2) (h5 : a2 ≤ a0) (h6 : -1 ≤ a3) (h7 : a0 < a3) :
    Calls Try.prog 38 #[.agg #[.int .i64 a0, .int .i64 a1, .int .i64 a2, .int .i64 a3, .int .i64 a4]] w fun e w' => e = .returned (.bool false) ∧ Below w.heap.size w w' := by
  have i0 : ∀ w, (Instr.index 106 (.agg #[.int .i64 a1, .int .i64 a2, .int .i64 a3, .int .i64 a4]) (.int .i64 0)).run Try.prog w = .ok (.int .i64 a1) w := fun _ => by kernel_rfl
  have i1 : ∀ w, (Instr.index 106 (.agg #[.int .i64 a1, .int .i64 a2, .int .i64 a3, .int .i64 a4]) (.int .i64 1)).run Try.prog w = .ok (.int .i64 a2) w := fun _ => by kernel_rfl
  have i2 : ∀ w, (Instr.index 106 (.agg #[.int .i64 a1, .int .i64 a2, .int .i64 a3, .int .i64 a4]) (.int .i64 2)).run Try.prog w = .ok (.int .i64 a3) w := fun _ => by kernel_rfl
  have i3 : ∀ w, (Instr.index 106 (.agg #[.int .i64 a1, .int .i64 a2, .int .i64 a3, .int .i64 a4]) (.int .i64 3)).run Try.prog w = .ok (.int .i64 a4) w := fun _ => by kernel_rfl
  have c0 : decide (0 ≤ a0) = true := by simp; omega
  have c1 : decide (a0 ≤ 2147483647) = true := by simp; omega
  have c2 : decide (-1 ≤ a1) = true := by simp; omega
  have c3 : decide (a1 ≤ a0) = true := by simp; omega
  have c4 : decide (-1 ≤ a2) = true := by simp; omega
  have c5 : decide (a2 ≤ a0) = true := by simp; omega
  have c6 : decide (-1 ≤ a3) = true := by simp; omega
  have c7 : decide (a3 ≤ a0) = false := by simp; omega
  clear h0 h1 h2 h3 h4 h5 h6 h7
  go_enter Try.func38, Try.ntmps38
  go_wp2
  refine wp_loop_rounds 6 ?_
  rw [rounds_succ]
  go_wp2
  rw [rounds_succ]
  go_wp2
  rw [rounds_succ]
  go_wp2
  go_ret
  exact ⟨rfl, (Below.refl _ _).alloc (Nat.le_refl _) _⟩

set_option maxHeartbeats 8000000 in
set_option maxRecDepth 100000 in
theorem impl_SummaryOK.no8 (a0 a1 a2 a3 a4 : Int) (w : World) (h0 : 0 ≤ a0) (h1 : a0 ≤ 2147483647) (h2 : -1 ≤ a1) (h3 : a1 ≤ a0) (h4 : -1 ≤ a2) (h5 : a2 ≤ a0) (h6 : -1 ≤ a3) (h7 : a3 ≤ a0) (h8 : a4 < -1) :
    Calls Try.prog 38 #[.agg #[.int .i64 a0, .int .i64 a1, .int .i64 a2, .int .i64 a3, .int .i64 a4]] w fun e w' => e = .returned (.bool false) ∧ Below w.heap.size w w' := by
  have i0 : ∀ w, (Instr.index 106 (.agg #[.int .i64 a1, .int .i64 a2, .int .i64 a3, .int .i64 a4]) (.int .i64 0)).run Try.prog w = .ok (.int .i64 a1) w := fun _ => by kernel_rfl
  have i1 : ∀ w, (Instr.index 106 (.agg #[.int .i64 a1, .int .i64 a2, .int .i64 a3, .int .i64 a4]) (.int .i64 1)).run Try.prog w = .ok (.int .i64 a2) w := fun _ => by kernel_rfl
  have i2 : ∀ w, (Instr.index 106 (.agg #[.int .i64 a1, .int .i64 a2, .int .i64 a3, .int .i64 a4]) (.int .i64 2)).run Try.prog w = .ok (.int .i64 a3) w := fun _ => by kernel_rfl
  have i3 : ∀ w, (Instr.index 106 (.agg #[.int .i64 a1, .int .i64 a2, .int .i64 a3, .int .i64 a4]) (.int .i64 3)).run Try.prog w = .ok (.int .i64 a4) w := fun _ => by kernel_rfl
  have c0 : decide (0 ≤ a0) = true := by simp; omega
  have c1 : decide (a0 ≤ 2147483647) = true := by simp; omega
  have c2 : decide (-1 ≤ a1) = true := by simp; omega
  have c3 : decide (a1 ≤ a0) = true := by simp; omega
  have c4 : decide (-1 ≤ a2) = true := by simp; omega
  have c5 : decide (a2 ≤ a0) = true := by simp; omega
  have c6 : decide (-1 ≤ a3) = true := by simp; omega
  have c7 : decide (a3 ≤ a0) = true := by simp; omega
  have c8 : decide (-1 ≤ a4) = false := by simp; omega
  clear h0 h1 h2 h3 h4 h5 h6 h7 h8
  go_enter Try.func38, Try.ntmps38
  go_wp2
  refine wp_loop_rounds 6 ?_
  rw [rounds_succ]
  go_wp2
  rw [rounds_succ]
  go_wp2
  rw [rounds_succ]
  go_wp2
  rw [rounds_succ]
  go_wp2
  go_ret
  exact ⟨rfl, (Below.refl _ _).alloc (Nat.le_refl _) _⟩

set_option maxHeartbeats 8000000 in
set_option maxRecDepth 100000 in
theorem impl_SummaryOK.no9 (a0 a1 a2 a3 a4 : Int) (w : World) (h0 : 0 ≤ a0) (h1 : a0 ≤ 2147483647) (h2 : -1 ≤ a1) (h3 : a1 ≤ a0) (h4 : -1 ≤ a2) (h5 : a2 ≤ a0) (h6 : -1 ≤ a3) (h7 : a3 ≤ a0) (h8 : -1 ≤ a4) (h9 : a0 < a4) :
    Calls Try.prog 38 #[.agg #[.int .i64 a0, .int .i64 a1, .int .i64 a2, .int .i64 a3, .int .i64 a4]] w fun e w' => e = .returned (.bool false) ∧ Below w.heap.size w w' := by
  have i0 : ∀ w, (Instr.index 106 (.agg #[.int .i64 a1, .int .i64 a2, .int .i64 a3, .int .i64 a4]) (.int .i64 0)).run Try.prog w = .ok (.int .i64 a1) w := fun _ => by kernel_rfl
  have i1 : ∀ w, (Instr.index 106 (.agg #[.int .i64 a1, .int .i64 a2, .int .i64 a3, .int .i64 a4]) (.int .i64 1)).run Try.prog w = .ok (.int .i64 a2) w := fun _ => by kernel_rfl
  have i2 : ∀ w, (Instr.index 106 (.agg #[.int .i64 a1, .int .i64 a2, .int .i64 a3, .int .i64 a4]) (.int .i64 2)).run Try.prog w = .ok (.int .i64 a3) w := fun _ => by kernel_rfl
  have i3 : ∀ w, (Instr.index 106 (.agg #[.int .i64 a1, .int .i64 a2, .int .i64 a3, .int .i64 a4]) (.int .i64 3)).run Try.prog w = .ok (.int .i64 a4) w := fun _ => by kernel_rfl
  have c0 : decide (0 ≤ a0) = true := by simp; omega
  have c1 : decide (a0 ≤ 2147483647) = true := by simp; omega
  have c2 : decide (-1 ≤ a1) = true := by simp; omega
  have c3 : decide (a1 ≤ a0) = true := by simp; omega
  have c4 : decide (-1 ≤ a2) = true := by simp; omega
  have c5 : decide (a2 ≤ a0) = true := by simp; omega
  have c6 : decide (-1 ≤ a3) = true := by simp; omega
  have c7 : decide (a3 ≤ a0) = true := by simp; omega
  have c8 : decide (-1 ≤ a4) = true := by simp; omega
  have c9 : decide (a4 ≤ a0) = false := by simp; omega
  clear h0 h1 h2 h3 h4 h5 h6 h7 h8 h9
  go_enter Try.func38, Try.ntmps38
  go_wp2
  refine wp_loop_rounds 6 ?_
  rw [rounds_succ]
  go_wp2
  rw [rounds_succ]
  go_wp2
  rw [rounds_succ]
  go_wp2
  rw [rounds_succ]
  go_wp2
  go_ret
  exact ⟨rfl, (Below.refl _ _).alloc (Nat.le_refl _) _⟩

set_option maxHeartbeats 8000000 in
set_option maxRecDepth 100000 in
theorem impl_SummaryOK.nx_true_false (a0 a1 a2 a3 a4 : Int) (w : World) (h0 : 0 ≤ a0) (h1 : a0 ≤ 2147483647) (h2 : -1 ≤ a1) (h3 : a1 ≤ a0) (h4 : -1 ≤ a2) (h5 : a2 ≤ a0) (h6 : -1 ≤ a3) (h7 : a3 ≤ a0) (h8 : -1 ≤ a4) (h9 : a4 ≤ a0) (h10 : a2 = -1) (h11 : a3 ≠ -1) :
    Calls Try.prog 38 #[.agg #[.int .i64 a0, .int .i64 a1, .int .i64 a2, .int .i64 a3, .int .i64 a4]] w fun e w' => e = .returned (.bool false) ∧ Below w.heap.size w w' := by
  have i0 : ∀ w, (Instr.index 106 (.agg #[.int .i64 a1, .int .i64 a2, .int .i64 a3, .int .i64 a4]) (.int .i64 0)).run Try.prog w = .ok (.int .i64 a1) w := fun _ => by kernel_rfl
  have i1 : ∀ w, (Instr.index 106 (.agg #[.int .i64 a1, .int .i64 a2, .int .i64 a3, .int .i64 a4]) (.int .i64 1)).run Try.prog w = .ok (.int .i64 a2) w := fun _ => by kernel_rfl
  have i2 : ∀ w, (Instr.index 106 (.agg #[.int .i64 a1, .int .i64 a2, .int .i64 a3, .int .i64 a4]) (.int .i64 2)).run Try.prog w = .ok (.int .i64 a3) w := fun _ => by kernel_rfl
  have i3 : ∀ w, (Instr.index 106 (.agg #[.int .i64 a1, .int .i64 a2, .int .i64 a3, .int .i64 a4]) (.int .i64 3)).run Try.prog w = .ok (.int .i64 a4) w := fun _ => by kernel_rfl
  have c0 : decide (0 ≤ a0) = true := by simp; omega
  have c1 : decide (a0 ≤ 2147483647) = true := by simp; omega
  have c2 : decide (-1 ≤ a1) = true := by simp; omega
  have c3 : decide (a1 ≤ a0) = true := by simp; omega
  have c4 : decide (-1 ≤ a2) = true := by simp; omega
  have c5 : decide (a2 ≤ a0) = true := by simp; omega
  have c6 : decide (-1 ≤ a3) = true := by simp; omega
  have c7 : decide (a3 ≤ a0) = true := by simp; omega
  have c8 : decide (-1 ≤ a4) = true := by simp; omega
  have c9 : decide (a4 ≤ a0) = true := by simp; omega
  have c10 : (a2 == -1) = true := by simp; omega
  have c11 : (a2 != -1) = false := by simp; omega
  have c12 : (a3 == -1) = false := by simp; omega
  have c13 : (a3 != -1) = true := by simp; omega
  clear h0 h1 h2 h3 h4 h5 h6 h7 h8 h9 h10 h11
  go_enter Try.func38, Try.ntmps38
  go_wp2
  refine wp_loop_rounds 6 ?_
  rw [rounds_succ]
  go_wp2
  rw [rounds_succ]
  go_wp2
  rw [rounds_succ]
  go_wp2
  rw [rounds_succ]
  go_wp2
  rw [rounds_succ]
  go_wp2
  go_ret
  exact ⟨rfl, (Below.refl _ _).alloc (Nat.le_refl _) _⟩

set_option maxHeartbeats 8000000 in
set_option maxRecDepth 100000 in
theorem impl_SummaryOK.nx_false_true (a0 a1 a2 a3 a4 : Int) (w : World) (h0 : 0 ≤ a0) (h1 : a0 ≤ 2147483647) (h2 : -1 ≤ a1) (h3 : a1 ≤ a0) (h4 : -1 ≤ a2) (h5 : a2 ≤ a0) (h6 : -1 ≤ a3) (h7 : a3 ≤ a0) (h8 : -1 ≤ a4) (h9 : a4 ≤ a0) (h10 : a2 ≠ -1) (h11 : a3 = -1) :
    Calls Try.prog 38 #[.agg #[.int .i64 a0, .int .i64 a1, .int .i64 a2, .int .i64 a3, .int .i64 a4]] w fun e w' => e = .returned (.bool false) ∧ Below w.heap.size w w' := by
  have i0 : ∀ w, (Instr.index 106 (.agg #[.int .i64 a1, .int .i64 a2, .int .i64 a3, .int .i64 a4]) (.int .i64 0)).run Try.prog w = .ok (.int .i64 a1) w := fun _ => by kernel_rfl
  have i1 : ∀ w, (Instr.index 106 (.agg #[.int .i64 a1, .int .i64 a2, .int .i64 a3, .int .i64 a4]) (.int .i64 1)).run Try.prog w = .ok (.int .i64 a2) w := fun _ => by kernel_rfl
  have i2 : ∀ w, (Instr.index 106 (.agg #[.int .i64 a1, .int .i64 a2, .int .i64 a3, .int .i64 a4]) (.int .i64 2)).run Try.prog w = .ok (.int .i64 a3) w := fun _ => by kernel_rfl
  have i3 : ∀ w, (Instr.index 106 (.agg #[.int .i64 a1, .int .i64 a2, .int .i64 a3, .int .i64 a4]) (.int .i64 3)).run Try.prog w = .ok (.int .i64 a4) w := fun _ => by kernel_rfl
  have c0 : decide (0 ≤ a0) = true := by simp; omega
  have c1 : decide (a0 ≤ 2147483647) = true := by simp; omega
  have c2 : decide (-1 ≤ a1) = true := by simp; omega
  have c3 : decide (a1 ≤ a0) = true := by simp; omega
  have c4 : decide (-1 ≤ a2) = true := by simp; omega
  have c5 : decide (a2 ≤ a0) = true := by simp; omega
  have c6 : decide (-1 ≤ a3) = true := by simp; omega
  have c7 : decide (a3 ≤ a0) = true := by simp; omega
  have c8 : decide (-1 ≤ a4) = true := by simp; omega
  have c9 : decide (a4 ≤ a0) = true := by simp; omega
  have c10 : (a2 == -1) = false := by simp; omega
  have c11 : (a2 != -1) = true := by simp; omega
  have c12 : (a3 == -1) = true := by simp; omega
  have c13 : (a3 != -1) = false := by simp; omega
  clear h0 h1 h2 h3 h4 h5 h6 h7 h8 h9 h10 h11
  go_enter Try.func38, Try.ntmps38
  go_wp2
  refine wp_loop_rounds 6 ?_
  rw [rounds_succ]
  go_wp2
  rw [rounds_succ]
  go_wp2
  rw [rounds_succ]
  go_wp2
  rw [rounds_succ]
  go_wp2
  rw [rounds_succ]
  go_wp2
  go_ret
  exact ⟨rfl, (Below.refl _ _).alloc (Nat.le_refl _) _⟩

set_option maxHeartbeats 8000000 in
set_option maxRecDepth 100000 in
theorem impl_SummaryOK.ok1 (a0 a1 a2 a3 a4 : Int) (w : World) (h0 : 0 ≤ a0) (h1 : a0 ≤ 2147483647) (h2 : -1 ≤ a1) (h3 : a1 ≤ a0) (h4 : -1 ≤ a2) (h5 : a2 ≤ a0) (h6 : -1 ≤ a3) (h7 : a3 ≤ a0) (h8 : -1 ≤ a4) (h9 : a4 ≤ a0) (h10 : a2 ≠ -1) (h11 : a3 ≠ -1) :
    Calls Try.prog 38 #[.agg #[.int .i64 a0, .int .i64 a1, .int .i64 a2, .int .i64 a3, .int .i64 a4]] w fun e w' => e = .returned (.bool true) ∧ Below w.heap.size w w' := by
  have i0 : ∀ w, (Instr.index 106 (.agg #[.int .i64 a1, .int .i64 a2, .int .i64 a3, .int .i64 a4]) (.int .i64 0)).run Try.prog w = .ok (.int .i64 a1) w := fun _ => by kernel_rfl
  have i1 : ∀ w, (Instr.index 106 (.agg #[.int .i64 a1, .int .i64 a2, .int .i64 a3, .int .i64 a4]) (.int .i64 1)).run Try.prog w = .ok (.int .i64 a2) w := fun _ => by kernel_rfl
  have i2 : ∀ w, (Instr.index 106 (.agg #[.int .i64 a1, .int .i64 a2, .int .i64 a3, .int .i64 a4]) (.int .i64 2)).run Try.prog w = .ok (.int .i64 a3) w := fun _ => by kernel_rfl
  have i3 : ∀ w, (Instr.index 106 (.agg #[.int .i64 a1, .int .i64 a2, .int .i64 a3, .int .i64 a4]) (.int .i64 3)).run Try.prog w = .ok (.int .i64 a4) w := fun _ => by kernel_rfl
  have c0 : decide (0 ≤ a0) = true := by simp; omega
  have c1 : decide (a0 ≤ 2147483647) = true := by simp; omega
  have c2 : decide (-1 ≤ a1) = true := by simp; omega
  have c3 : decide (a1 ≤ a0) = true := by simp; omega
  have c4 : decide (-1 ≤ a2) = true := by simp; omega
  have c5 : decide (a2 ≤ a0) = true := by simp; omega
  have c6 : decide (-1 ≤ a3) = true := by simp; omega
  have c7 : decide (a3 ≤ a0) = true := by simp; omega
  have c8 : decide (-1 ≤ a4) = true := by simp; omega
  have c9 : decide (a4 ≤ a0) = true := by simp; omega
  have c10 : (a2 == -1) = false := by simp; omega
  have c11 : (a2 != -1) = true := by simp; omega
  have c12 : (a3 == -1) = false := by simp; omega
  have c13 : (a3 != -1) = true := by simp; omega
  clear h0 h1 h2 h3 h4 h5 h6 h7 h8 h9 h10 h11
  go_enter Try.func38, Try.ntmps38
  go_wp2
  refine wp_loop_rounds 6 ?_
  rw [rounds_succ]
  go_wp2
  rw [rounds_succ]
  go_wp2
  rw [rounds_succ]
  go_wp2
  rw [rounds_succ]
  go_wp2
  rw [rounds_succ]
  go_wp2
  go_ret
  exact ⟨rfl, (Below.refl _ _).alloc (Nat.le_refl _) _⟩

set_option maxHeartbeats 8000000 in
set_option maxRecDepth 100000 in
theorem impl_SummaryOK.ok2 (a0 a1 a2 a3 a4 : Int) (w : World) (h0 : 0 ≤ a0) (h1 : a0 ≤ 2147483647) (h2 : -1 ≤ a1) (h3 : a1 ≤ a0) (h4 : -1 ≤ a2) (h5 : a2 ≤ a0) (h6 : -1 ≤ a3) (h7 : a3 ≤ a0) (h8 : -1 ≤ a4) (h9 : a4 ≤ a0) (h10 : a2 = -1) (h11 : a3 = -1) (h12 : a4 = -1) (h13 : a1 ≠ -1) :
    Calls Try.prog 38 #[.agg #[.int .i64 a0, .int .i64 a1, .int .i64 a2, .int .i64 a3, .int .i64 a4]] w fun e w' => e = .returned (.bool true) ∧ Below w.heap.size w w' := by
  have i0 : ∀ w, (Instr.index 106 (.agg #[.int .i64 a1, .int .i64 a2, .int .i64 a3, .int .i64 a4]) (.int .i64 0)).run Try.prog w = .ok (.int .i64 a1) w := fun _ => by kernel_rfl
  have i1 : ∀ w, (Instr.index 106 (.agg #[.int .i64 a1, .int .i64 a2, .int .i64 a3, .int .i64 a4]) (.int .i64 1)).run Try.prog w = .ok (.int .i64 a2) w := fun _ => by kernel_rfl
  have i2 : ∀ w, (Instr.index 106 (.agg #[.int .i64 a1, .int .i64 a2, .int .i64 a3, .int .i64 a4]) (.int .i64 2)).run Try.prog w = .ok (.int .i64 a3) w := fun _ => by kernel_rfl
  have i3 : ∀ w, (Instr.index 106 (.agg #[.int .i64 a1, .int .i64 a2, .int .i64 a3, .int .i64 a4]) (.int .i64 3)).run Try.prog w = .ok (.int .i64 a4) w := fun _ => by kernel_rfl
  have c0 : decide (0 ≤ a0) = true := by simp; omega
  have c1 : decide (a0 ≤ 2147483647) = true := by simp; omega
  have c2 : decide (-1 ≤ a1) = true := by simp; omega
  have c3 : decide (a1 ≤ a0) = true := by simp; omega
  have c4 : decide (-1 ≤ a2) = true := by simp; omega
  have c5 : decide (a2 ≤ a0) = true := by simp; omega
  have c6 : decide (-1 ≤ a3) = true := by simp; omega
  have c7 : decide (a3 ≤ a0) = true := by simp; omega
  have c8 : decide (-1 ≤ a4) = true := by simp; omega
  have c9 : decide (a4 ≤ a0) = true := by simp; omega
  have c10 : (a2 == -1) = true := by simp; omega
  have c11 : (a2 != -1) = false := by simp; omega
  have c12 : (a3 == -1) = true := by simp; omega
  have c13 : (a3 != -1) = false := by simp; omega
  have c14 : (a4 == -1) = true := by simp; omega
  have c15 : (a4 != -1) = false := by simp; omega
  have c16 : (a1 == -1) = false := by simp; omega
  have c17 : (a1 != -1) = true := by simp; omega
  clear h0 h1 h2 h3 h4 h5 h6 h7 h8 h9 h10 h11 h12 h13
  go_enter Try.func38, Try.ntmps38
  go_wp2
  refine wp_loop_rounds 6 ?_
  rw [rounds_succ]
  go_wp2
  rw [rounds_succ]
  go_wp2
  rw [rounds_succ]
  go_wp2
  rw [rounds_succ]
  go_wp2
  rw [rounds_succ]
  go_wp2
  go_ret
  exact ⟨rfl, (Below.refl _ _).alloc (Nat.le_refl _) _⟩

set_option maxHeartbeats 8000000 in
set_option maxRecDepth 100000 in
theorem impl_SummaryOK.nz1 (a0 a1 a2 a3 a4 : Int) (w : World) (h0 : 0 ≤ a0) (h1 : a0 ≤ 2147483647) (h2 : -1 ≤ a1) (h3 : a1 ≤ a0) (h4 : -1 ≤ a2) (h5 : a2 ≤ a0) (h6 : -1 ≤ a3) (h7 : a3 ≤ a0) (h8 : -1 ≤ a4) (h9 : a4 ≤ a0) (h10 : a2 = -1) (h11 : a3 = -1) (h12 : a4 = -1) (h13 : a1 = -1) :
    Calls Try.prog 38 #[.agg #[.int .i64 a0, .int .i64 a1, .int .i64 a2, .int .i64 a3, .int .i64 a4]] w fun e w' => e = .returned (.bool false) ∧ Below w.heap.size w w' := by
  have i0 : ∀ w, (Instr.index 106 (.agg #[.int .i64 a1, .int .i64 a2, .int .i64 a3, .int .i64 a4]) (.int .i64 0)).run Try.prog w = .ok (.int .i64 a1) w := fun _ => by kernel_rfl
  have i1 : ∀ w, (Instr.index 106 (.agg #[.int .i64 a1, .int .i64 a2, .int .i64 a3, .int .i64 a4]) (.int .i64 1)).run Try.prog w = .ok (.int .i64 a2) w := fun _ => by kernel_rfl
  have i2 : ∀ w, (Instr.index 106 (.agg #[.int .i64 a1, .int .i64 a2, .int .i64 a3, .int .i64 a4]) (.int .i64 2)).run Try.prog w = .ok (.int .i64 a3) w := fun _ => by kernel_rfl
  have i3 : ∀ w, (Instr.index 106 (.agg #[.int .i64 a1, .int .i64 a2, .int .i64 a3, .int .i64 a4]) (.int .i64 3)).run Try.prog w = .ok (.int .i64 a4) w := fun _ => by kernel_rfl
  have c0 : decide (0 ≤ a0) = true := by simp; omega
  have c1 : decide (a0 ≤ 2147483647) = true := by simp; omega
  have c2 : decide (-1 ≤ a1) = true := by simp; omega
  have c3 : decide (a1 ≤ a0) = true := by simp; omega
  have c4 : decide (-1 ≤ a2) = true := by simp; omega
  have c5 : decide (a2 ≤ a0) = true := by simp; omega
  have c6 : decide (-1 ≤ a3) = true := by simp; omega
  have c7 : decide (a3 ≤ a0) = true := by simp; omega
  have c8 : decide (-1 ≤ a4) = true := by simp; omega
  have c9 : decide (a4 ≤ a0) = true := by simp; omega
  have c10 : (a2 == -1) = true := by simp; omega
  have c11 : (a2 != -1) = false := by simp; omega
  have c12 : (a3 == -1) = true := by simp; omega
  have c13 : (a3 != -1) = false := by simp; omega
  have c14 : (a4 == -1) = true := by simp; omega
  have c15 : (a4 != -1) = false := by simp; omega
  have c16 : (a1 == -1) = true := by simp; omega
  have c17 : (a1 != -1) = false := by simp; omega
  clear h0 h1 h2 h3 h4 h5 h6 h7 h8 h9 h10 h11 h12 h13
  go_enter Try.func38, Try.ntmps38
  go_wp2
  refine wp_loop_rounds 6 ?_
  rw [rounds_succ]
  go_wp2
  rw [rounds_succ]
  go_wp2
  rw [rounds_succ]
  go_wp2
  rw [rounds_succ]
  go_wp2
  rw [rounds_succ]
  go_wp2
  go_ret
  exact ⟨rfl, (Below.refl _ _).alloc (Nat.le_refl _) _⟩

set_option maxHeartbeats 8000000 in
set_option maxRecDepth 100000 in
theorem impl_SummaryOK.nz2 (a0 a1 a2 a3 a4 : Int) (w : World) (h0 : 0 ≤ a0) (h1 : a0 ≤ 2147483647) (h2 : -1 ≤ a1) (h3 : a1 ≤ a0) (h4 : -1 ≤ a2) (h5 : a2 ≤ a0) (h6 : -1 ≤ a3) (h7 : a3 ≤ a0) (h8 : -1 ≤ a4) (h9 : a4 ≤ a0) (h10 : a2 = -1) (h11 : a3 = -1) (h12 : a4 ≠ -1) :
    Calls Try.prog 38 #[.agg #[.int .i64 a0, .int .i64 a1, .int .i64 a2, .int .i64 a3, .int .i64 a4]] w fun e w' => e = .returned (.bool false) ∧ Below w.heap.size w w' := by
  have i0 : ∀ w, (Instr.index 106 (.agg #[.int .i64 a1, .int .i64 a2, .int .i64 a3, .int .i64 a4]) (.int .i64 0)).run Try.prog w = .ok (.int .i64 a1) w := fun _ => by kernel_rfl
  have i1 : ∀ w, (Instr.index 106 (.agg #[.int .i64 a1, .int .i64 a2, .int .i64 a3, .int .i64 a4]) (.int .i64 1)).run Try.prog w = .ok (.int .i64 a2) w := fun _ => by kernel_rfl
  have i2 : ∀ w, (Instr.index 106 (.agg #[.int .i64 a1, .int .i64 a2, .int .i64 a3, .int .i64 a4]) (.int .i64 2)).run Try.prog w = .ok (.int .i64 a3) w := fun _ => by kernel_rfl
  have i3 : ∀ w, (Instr.index 106 (.agg #[.int .i64 a1, .int .i64 a2, .int .i64 a3, .int .i64 a4]) (.int .i64 3)).run Try.prog w = .ok (.int .i64 a4) w := fun _ => by kernel_rfl
  have c0 : decide (0 ≤ a0) = true := by simp; omega
  have c1 : decide (a0 ≤ 2147483647) = true := by simp; omega
  have c2 : decide (-1 ≤ a1) = true := by simp; omega
  have c3 : decide (a1 ≤ a0) = true := by simp; omega
  have c4 : decide (-1 ≤ a2) = true := by simp; omega
  have c5 : decide (a2 ≤ a0) = true := by simp; omega
  have c6 : decide (-1 ≤ a3) = true := by simp; omega
  have c7 : decide (a3 ≤ a0) = true := by simp; omega
  have c8 : decide (-1 ≤ a4) = true := by simp; omega
  have c9 : decide (a4 ≤ a0) = true := by simp; omega
  have c10 : (a2 == -1) = true := by simp; omega
  have c11 : (a2 != -1) = false := by simp; omega
  have c12 : (a3 == -1) = true := by simp; omega
  have c13 : (a3 != -1) = false := by simp; omega
  have c14 : (a4 == -1) = false := by simp; omega
  have c15 : (a4 != -1) = true := by simp; omega
  clear h0 h1 h2 h3 h4 h5 h6 h7 h8 h9 h10 h11 h12
  go_enter Try.func38, Try.ntmps38
  go_wp2
  refine wp_loop_rounds 6 ?_
  rw [rounds_succ]
  go_wp2
  rw [rounds_succ]
  go_wp2
  rw [rounds_succ]
  go_wp2
  rw [rounds_succ]
  go_wp2
  rw [rounds_succ]
  go_wp2
  go_ret
  exact ⟨rfl, (Below.refl _ _).alloc (Nat.le_refl _) _⟩

theorem impl_SummaryOK.calls (a0 a1 a2 a3 a4 : Int) (r : Bool) (w : World) (h : impl_SummaryOK.f a0 a1 a2 a3 a4 = some r) :
    Calls Try.prog 38 #[.agg #[.int .i64 a0, .int .i64 a1, .int .i64 a2, .int .i64 a3, .int .i64 a4]] w fun e w' => e = .returned (.bool r) ∧ Below w.heap.size w w' := by
  obtain rfl := Option.some.inj h
  clear h
  have no : ∀ (p : ¬ (0 ≤ a0 ∧ a0 ≤ 2147483647 ∧ (-1 ≤ a1 ∧ a1 ≤ a0) ∧ (-1 ≤ a2 ∧ a2 ≤ a0) ∧ (-1 ≤ a3 ∧ a3 ≤ a0) ∧ (-1 ≤ a4 ∧ a4 ≤ a0) ∧ (a2 = -1 ↔ a3 = -1) ∧ (a2 ≠ -1 ∨ (a4 = -1 ∧ a1 ≠ -1)))), sumOKb a0 a1 a2 a3 a4 = false := fun p => decide_eq_false p
  have yes : ∀ (p : (0 ≤ a0 ∧ a0 ≤ 2147483647 ∧ (-1 ≤ a1 ∧ a1 ≤ a0) ∧ (-1 ≤ a2 ∧ a2 ≤ a0) ∧ (-1 ≤ a3 ∧ a3 ≤ a0) ∧ (-1 ≤ a4 ∧ a4 ≤ a0) ∧ (a2 = -1 ↔ a3 = -1) ∧ (a2 ≠ -1 ∨ (a4 = -1 ∧ a1 ≠ -1)))), sumOKb a0 a1 a2 a3 a4 = true := fun p => decide_eq_true p
  by_cases c0 : a0 < 0
  · rw [no (by omega)]; exact impl_SummaryOK.no0 a0 a1 a2 a3 a4 w (by omega)
  by_cases c1 : 2147483647 < a0
  · rw [no (by omega)]; exact impl_SummaryOK.no1 a0 a1 a2 a3 a4 w (by omega)
  by_cases c2 : a1 < -1
  · rw [no (by omega)]; exact impl_SummaryOK.no2 a0 a1 a2 a3 a4 w (by omega) (by omega) (by omega)
  by_cases c3 : a0 < a1
  · rw [no (by omega)]; exact impl_SummaryOK.no3 a0 a1 a2 a3 a4 w (by omega) (by omega) (by omega) (by omega)
  by_cases c4 : a2 < -1
  · rw [no (by omega)]; exact impl_SummaryOK.no4 a0 a1 a2 a3 a4 w (by omega) (by omega) (by omega) (by omega) (by omega)
  by_cases c5 : a0 < a2
  · rw [no (by omega)]; exact impl_SummaryOK.no5 a0 a1 a2 a3 a4 w (by omega) (by omega) (by omega) (by omega) (by omega) (by omega)
  by_cases c6 : a3 < -1
  · rw [no (by omega)]; exact impl_SummaryOK.no6 a0 a1 a2 a3 a4 w (by omega) (by omega) (by omega) (by omega) (by omega) (by omega) (by omega)
  by_cases c7 : a0 < a3
  · rw [no (by omega)]; exact impl_SummaryOK.no7 a0 a1 a2 a3 a4 w (by omega) (by omega) (by omega) (by omega) (by omega) (by omega) (by omega) (by omega)
  by_cases c8 : a4 < -1
  · rw [no (by omega)]; exact impl_SummaryOK.no8 a0 a1 a2 a3 a4 w (by omega) (by omega) (by omega) (by omega) (by omega) (by omega) (by omega) (by omega) (by omega)
  by_cases c9 : a0 < a4
  · rw [no (by omega)]; exact impl_SummaryOK.no9 a0 a1 a2 a3 a4 w (by omega) (by omega) (by omega) (by omega) (by omega) (by omega) (by omega) (by omega) (by omega) (by omega)
  by_cases d2 : a2 = -1
  · by_cases d3 : a3 = -1
    · by_cases d4 : a4 = -1
      · by_cases d1 : a1 = -1
        · rw [no (by omega)]; exact impl_SummaryOK.nz1 a0 a1 a2 a3 a4 w (by omega) (by omega) (by omega) (by omega) (by omega) (by omega) (by omega) (by omega) (by omega) (by omega) d2 d3 d4 d1
        · rw [yes (by omega)]; exact impl_SummaryOK.ok2 a0 a1 a2 a3 a4 w (by omega) (by omega) (by omega) (by omega) (by omega) (by omega) (by omega) (by omega) (by omega) (by omega) d2 d3 d4 d1
      · rw [no (by omega)]; exact impl_SummaryOK.nz2 a0 a1 a2 a3 a4 w (by omega) (by omega) (by omega) (by omega) (by omega) (by omega) (by omega) (by omega) (by omega) (by omega) d2 d3 d4
    · rw [no (by omega)]; exact impl_SummaryOK.nx_true_false a0 a1 a2 a3 a4 w (by omega) (by omega) (by omega) (by omega) (by omega) (by omega) (by omega) (by omega) (by omega) (by omega) d2 d3
  · by_cases d3 : a3 = -1
    · rw [no (by omega)]; exact impl_SummaryOK.nx_false_true a0 a1 a2 a3 a4 w (by omega) (by omega) (by omega) (by omega) (by omega) (by omega) (by omega) (by omega) (by omega) (by omega) d2 d3
    · rw [yes (by omega)]; exact impl_SummaryOK.ok1 a0 a1 a2 a3 a4 w (by omega) (by omega) (by omega) (by omega) (by omega) (by omega) (by omega) (by omega) (by omega) (by omega) d2 d3

/-! ### impl_when: function 49 -/
def impl_when.f (a0 : Bool) (a1 : Int) : Option (Int) := if a0 = true then (some a1) else (some 0)
set_option maxHeartbeats 8000000 in
set_option maxRecDepth 100000 in
theorem impl_when.calls (a0 : Bool) (a1 : Int) (r : Int) (w : World) (h : impl_when.f a0 a1 = some r) :
    Calls Try.prog 49 #[.bool a0, .int .i64 a1] w fun e w' => e = .returned (.int .i64 r) ∧ Drawn0 w w' := by
  have H : (if a0 = true then (some a1) else (some 0)) = some r := h
  clear h
  by_cases c3 : a0 = true
  · subst c3
    have H1 : (some a1) = some r := by rw [if_pos rfl] at H; exact H
    clear H
    have H := H1
    clear H1
    obtain rfl := Option.some.inj H
    go_enter Try.func49, Try.ntmps49
    go_wp2
    go_ret
    exact ⟨by first | rfl | (simp; done) | (simp [*]; done), by repeat (first | exact Drawn0.refl _ | apply Drawn0.step)⟩
  · replace c3 := Bool.eq_false_iff.mpr c3
    subst c3
    have H1 : (some 0) = some r := by rw [if_neg (show ¬ (false = true) by decide)] at H; exact H
    clear H
    have H := H1
    clear H1
    obtain rfl := Option.some.inj H
    go_enter Try.func49, Try.ntmps49
    go_wp2
    go_ret
    exact ⟨by first | rfl | (simp; done) | (simp [*]; done), by repeat (first | exact Drawn0.refl _ | apply Drawn0.step)⟩

-- NOT PRINTED: function 120 (impl_Summary_120)

-- NOT PRINTED: function 112 (impl_Summary_112)

-- NOT PRINTED: function 113 (impl_Summary_1)

-- NOT PRINTED: function 88 (impl_Summary_88)

/-! ### impl_all_Summary_SummaryOK: function 88 at impl_SummaryOK, by its own walk -/
set_option maxHeartbeats 8000000 in
set_option maxRecDepth 100000 in
theorem impl_all_Summary_SummaryOK.one (x : S24) (r : Bool) (g : Nat) (W : World) (hg : W.cell? ⟨g, 0, none⟩ = some (.func (.func 38) #[] #[])) (h : impl_SummaryOK.f (x).f0 (x).f1 (x).f2 (x).f3 (x).f4 = some r) :
    Calls Try.prog 113 #[.agg #[.int .i64 (x).f0, .int .i64 (x).f1, .int .i64 (x).f2, .int .i64 (x).f3, .int .i64 (x).f4], .pointer (some ⟨g, 0, none⟩)] W fun e w' => e = .returned (.bool (!r)) ∧ Below W.heap.size W w' := by
  have HB := Aside0.mk (Below.refl W.heap.size W)
  have A2 := Aside0.mk h
  clear h
  have hgl := World.block_lt_of_cell? W _ hg
  have hg2 : ∀ o, (W.alloc o).cell? ⟨g, 0, none⟩ = some (.func (.func 38) #[] #[]) := fun o => (World.cell?_alloc_lt W o ⟨g, 0, none⟩ hgl).trans hg
  clear hgl
  go_enter Try.func113, Try.ntmps113
  go_wp2_with (first | (go_at_call 38; (with_reducible refine (impl_SummaryOK.calls (x).f0 (x).f1 (x).f2 (x).f3 (x).f4 r _ A2.out).mono ?_); rintro e w4 ⟨rfl, hb⟩; have n0_ := Aside0.mk (below_step (by repeat (first | (with_reducible first | exact HB.out | apply below_alloc | apply pw_below_drewN | apply below_drew1) | exact HB.out)) hb); clear HB; have HB := n0_; clear n0_; (try clear hb)))
  go_ret
  exact ⟨by first | rfl | (simp; done), by repeat (first | (with_reducible first | exact HB.out | apply below_alloc | apply pw_below_drewN | apply below_drew1) | exact HB.out)⟩

def impl_all_Summary_SummaryOK.l0 : Nat → List S24 → Int → Option Int
  | 0, _, _ => none
  | k + 1, l0, i => if i < (l0.length : Int) then (if 0 ≤ i then ((impl_SummaryOK.f ((rd_T24 l0 i)).f0 ((rd_T24 l0 i)).f1 ((rd_T24 l0 i)).f2 ((rd_T24 l0 i)).f3 ((rd_T24 l0 i)).f4).bind fun t => (if t = true then (impl_all_Summary_SummaryOK.l0 k l0 (wrap64 (i + 1))) else (some i))) else none) else some (-1)
theorem impl_all_Summary_SummaryOK.mono_l : ∀ k, (∀ y0 y1, LeO (impl_all_Summary_SummaryOK.l0 k y0 y1) (impl_all_Summary_SummaryOK.l0 (k + 1) y0 y1))
  | 0 => fun _ _ r h => by simp [impl_all_Summary_SummaryOK.l0] at h
  | k + 1 => by
    have ih0 := impl_all_Summary_SummaryOK.mono_l k
    · intro y0 y1
      unfold impl_all_Summary_SummaryOK.l0
      repeat' first
      | (with_reducible exact ih0 _ _)
      | (with_reducible exact LeO.refl _)
      | (with_reducible exact LeO.none _)
      | (with_reducible refine LeO.ite ?_ ?_)
      | (with_reducible refine LeO.bind ?_ (fun _ => ?_))
set_option maxHeartbeats 8000000 in
set_option maxRecDepth 100000 in
theorem impl_all_Summary_SummaryOK.find (k : Nat) (A0 : Option Addr) (c0 : Nat) (l0 : List S24) (r : Int) (g : Nat) (w : World) (hg : w.cell? ⟨g, 0, none⟩ = some (.func (.func 38) #[] #[])) (hr0 : Kd.C k24 w A0 l0.length l0) (hc0 : l0.length ≤ c0) (h : impl_all_Summary_SummaryOK.l0 k l0 0 = some r) :
    Calls Try.prog 120 #[.slice A0 l0.length c0, .func (.func 113) #[] #[.pointer (some ⟨g, 0, none⟩)]] w fun e w' => e = .returned (.int .i64 r) ∧ Below w.heap.size w w' := by
  have HR0 := Aside0.mk hr0
  have HC0 := Aside0.mk hc0
  have HG := Aside0.mk hg
  clear hr0 hc0 hg
  have HB := Aside0.mk (Below.refl w.heap.size w)
  have H' := Aside0.mk h
  clear h
  have hu24 := Try.underlying24
  go_enter Try.func120, Try.ntmps120
  go_wp2
  go_loopg [8] k (fun kq v8 w' => ∃ (i : Int), v8 = .int .i64 i ∧ Aside0 (impl_all_Summary_SummaryOK.l0 kq l0 i = some r) ∧ Aside0 (kq ≤ k) ∧ Aside0 (Below w.heap.size w w'))
  case atStart => exact ⟨0, (by first | rfl | (simp; done)), H', ⟨Nat.le_refl _⟩, ⟨by repeat (first | (with_reducible first | exact HB.out | apply below_alloc | apply pw_below_drewN | apply below_drew1) | exact HB.out)⟩⟩
  case round =>
    clear H'
    obtain ⟨i, rfl, HA, HK1, HB⟩ := hrel
    cases gk with
    | zero => exact absurd HA.out (by simp [impl_all_Summary_SummaryOK.l0])
    | succ k1 =>
      have H := HA.out
      clear HA
      simp only [impl_all_Summary_SummaryOK.l0] at H
      by_cases c2 : i < (l0.length : Int)
      · rw [if_pos c2] at H
        by_cases c3 : 0 ≤ i
        · rw [if_pos c3] at H
          replace H := Option.bind_eq_some_iff.mp H
          obtain ⟨t, A40, H⟩ := H
          have A4 := Aside0.mk A40
          clear A40
          obtain ⟨ad, e0_, hx0, hx1, hx2, hx3, hx4⟩ := at_T24 HR0.out i c3 c2
          cases e0_
          replace hx0 := (HB.out.cell (World.block_lt_of_cell? w _ hx0)).trans hx0
          replace hx1 := (HB.out.cell (World.block_lt_of_cell? w _ hx1)).trans hx1
          replace hx2 := (HB.out.cell (World.block_lt_of_cell? w _ hx2)).trans hx2
          replace hx3 := (HB.out.cell (World.block_lt_of_cell? w _ hx3)).trans hx3
          replace hx4 := (HB.out.cell (World.block_lt_of_cell? w _ hx4)).trans hx4
          have hgw := (HB.out.cell (World.block_lt_of_cell? w _ HG.out)).trans HG.out
          have HGW := Aside0.mk hgw
          clear hgw
          have c2b0 : decide (i < (l0.length : Int)) = true := decide_eq_true c2
          have c3b0 : decide (0 ≤ i) = true := decide_eq_true c3
          replace c2 := eq_true c2
          replace c3 := eq_true c3
          cases t with
          | true =>
            rw [if_pos rfl] at H
            have H' := Aside0.mk H
            clear H
            go_wp2_with (first | (go_at_call 113; (with_reducible refine (impl_all_Summary_SummaryOK.one (rd_T24 l0 i) true g _ HGW.out A4.out).mono ?_); rintro e w6 ⟨rfl, hb⟩; have n0_ := Aside0.mk (below_step (by repeat (first | (with_reducible first | exact HB.out | apply below_alloc | apply pw_below_drewN | apply below_drew1) | exact HB.out)) hb); clear HB; have HB := n0_; clear n0_; (try clear hb)))
            go_roundg k1
            case measure => have := HK1.out; omega
            case rel => exact ⟨(wrap64 (i + 1)), (by first | rfl | (simp; done) | (simp [*]; done)), H', ⟨by have := HK1.out; omega⟩, ⟨by repeat (first | (with_reducible first | exact HB.out | apply below_alloc | apply pw_below_drewN | apply below_drew1) | exact HB.out)⟩⟩
          | false =>
            rw [if_neg (show ¬ (false = true) by decide)] at H
            obtain rfl := Option.some.inj H
            clear H
            go_wp2_with (first | (go_at_call 113; (with_reducible refine (impl_all_Summary_SummaryOK.one (rd_T24 l0 i) false g _ HGW.out A4.out).mono ?_); rintro e w6 ⟨rfl, hb⟩; have n0_ := Aside0.mk (below_step (by repeat (first | (with_reducible first | exact HB.out | apply below_alloc | apply pw_below_drewN | apply below_drew1) | exact HB.out)) hb); clear HB; have HB := n0_; clear n0_; (try clear hb)))
            go_ret
            exact ⟨by first | rfl | (simp; done), by repeat (first | (with_reducible first | exact HB.out | apply below_alloc | apply pw_below_drewN | apply below_drew1) | exact HB.out)⟩
        · rw [if_neg c3] at H
          exact absurd H (by simp)
      · rw [if_neg c2] at H
        obtain rfl := Option.some.inj H
        have c2b0 : decide (i < (l0.length : Int)) = false := decide_eq_false c2
        clear c2 H
        go_wp2
        go_ret
        exact ⟨by first | rfl | (simp; done), by repeat (first | (with_reducible first | exact HB.out | apply below_alloc | apply pw_below_drewN | apply below_drew1) | exact HB.out)⟩

def impl_all_Summary_SummaryOK.f (k : Nat) (l0 : List S24) : Option Bool := (impl_all_Summary_SummaryOK.l0 k l0 0).bind fun j => some (!(decide (0 ≤ j)))
theorem impl_all_Summary_SummaryOK.mono : ∀ a0 k, LeO (impl_all_Summary_SummaryOK.f k a0) (impl_all_Summary_SummaryOK.f (k + 1) a0) := by
  intro a0 k
  unfold impl_all_Summary_SummaryOK.f
  exact LeO.bind (impl_all_Summary_SummaryOK.mono_l k _ _) (fun _ => LeO.refl _)
set_option maxHeartbeats 8000000 in
set_option maxRecDepth 100000 in
theorem impl_all_Summary_SummaryOK.calls (k : Nat) (A0 : Option Addr) (c0 : Nat) (l0 : List S24) (r : Bool) (w : World) (hr0 : Kd.C k24 w A0 l0.length l0) (hc0 : l0.length ≤ c0) (h : impl_all_Summary_SummaryOK.f k l0 = some r) :
    Calls Try.prog 88 #[.slice A0 l0.length c0, .func (.func 38) #[] #[]] w fun e w' => e = .returned (.bool r) ∧ Below w.heap.size w w' := by
  obtain ⟨j, A20, H⟩ := Option.bind_eq_some_iff.mp h
  have A2 := Aside0.mk A20
  clear A20 h
  obtain rfl := Option.some.inj H
  clear H
  have HR0 := Aside0.mk hr0
  have HC0 := Aside0.mk hc0
  clear hr0 hc0
  have HB := Aside0.mk (Below.refl w.heap.size w)
  have hmf : ∀ (fn : Fn) (first cap : Array Value) (w : World), (Instr.makeFunc fn first cap).run Try.prog w = .ok (.func fn first cap) w := fun _ _ _ _ => rfl
  go_enter Try.func88, Try.ntmps88
  go_wp2_with (first | ((with_reducible refine gate_callee (f := 120) rfl ?_); refine goesL_ (some 7) rfl rfl Try.func120 (by kernel_rfl) rfl #[.slice A0 l0.length c0, .func (.func 113) #[] #[.pointer (some ⟨w.heap.size, 0, none⟩)]] rfl (by (try simp only [List.map_toArray, List.map_cons, List.map_nil]); first | done | rfl) ?_; (with_reducible refine (impl_all_Summary_SummaryOK.find k _ _ l0 j w.heap.size _ ?hgc ?side1 ?side2 A2.out).mono ?_); (case hgc => (first | exact World.cell?_alloc_at _ _ _ _ rfl | simp)); (case side1 => repeat (first | exact HR0.out | (with_reducible refine Kd.C_alloc ?_ _) | (with_reducible refine Kd.C_drewN ?_ _) | (with_reducible refine Kd.C_drew ?_))); (case side2 => exact HC0.out); rintro e w6 ⟨rfl, hb⟩; refine ⟨_, rfl, ?_⟩; have n0_ := Aside0.mk (below_step (by repeat (first | (with_reducible first | exact HB.out | apply below_alloc | apply pw_below_drewN | apply below_drew1) | exact HB.out)) hb); clear HB; have HB := n0_; clear n0_; (try clear hb)) | (go_at_call 112; go_in))
  go_ret
  exact ⟨by first | rfl | (simp; done), by repeat (first | (with_reducible first | exact HB.out | apply below_alloc | apply pw_below_drewN | apply below_drew1) | exact HB.out)⟩

/-! ### impl_areSummaries: function 43 -/
def impl_areSummaries.f (k : Nat) (l0 : List (S24)) : Option (Int) := (impl_all_Summary_SummaryOK.f k l0).bind fun t121 => ((impl_when.f (!t121) 1).bind fun t122 => (some t122))
theorem impl_areSummaries.mono : ∀ a0 k, LeO (impl_areSummaries.f k a0) (impl_areSummaries.f (k + 1) a0) := by
  intro a0 k
  unfold impl_areSummaries.f
  repeat' first
      | (with_reducible exact impl_all_Summary_SummaryOK.mono _ _)
      | (with_reducible exact LeO.refl _)
      | (with_reducible exact LeO.none _)
      | (with_reducible refine LeO.ite ?_ ?_)
      | (with_reducible refine LeO.bind ?_ (fun _ => ?_))
      | exact impl_all_Summary_SummaryOK.mono _ _
      | exact LeO.none _
      | refine LeO.ite ?_ ?_
      | refine LeO.bind ?_ (fun _ => ?_)
set_option maxHeartbeats 8000000 in
set_option maxRecDepth 100000 in
theorem impl_areSummaries.calls (k : Nat) (A0 : Option Addr) (c0 : Nat) (l0 : List (S24)) (r : Int) (w : World) (hr0 : Kd.C k24 w A0 l0.length l0) (hc0 : l0.length ≤ c0) (h : impl_areSummaries.f k l0 = some r) :
    Calls Try.prog 43 #[.slice A0 l0.length c0] w fun e w' => e = .returned (.int .i64 r) ∧ Below w.heap.size w w' := by
  have HR0 := Aside0.mk hr0
  have HC0 := Aside0.mk hc0
  clear hr0 hc0
  have HB := Aside0.mk (Below.refl w.heap.size w)
  have H : ((impl_all_Summary_SummaryOK.f k l0).bind fun t121 => ((impl_when.f (!t121) 1).bind fun t122 => (some t122))) = some r := h
  clear h
  replace H := Option.bind_eq_some_iff.mp H
  obtain ⟨t121, A20, H⟩ := H
  replace H : ((impl_when.f (!t121) 1).bind fun t122 => (some t122)) = some r := H
  have A2 := Aside0.mk A20
  clear A20
  replace H := Option.bind_eq_some_iff.mp H
  obtain ⟨t122, A30, H⟩ := H
  replace H : (some t122) = some r := H
  have A3 := Aside0.mk A30
  clear A30
  obtain rfl := Option.some.inj H
  go_enter Try.func43, Try.ntmps43
  go_wp2_with (first | ((with_reducible refine gate_callee (f := 88) rfl ?_); refine goesL_ (some 4) rfl rfl Try.func88 (by kernel_rfl) rfl #[.slice A0 l0.length c0, .func (.func 38) #[] #[]] rfl (by (try simp only [List.map_toArray, List.map_cons, List.map_nil]); first | done | rfl | (simp only [List.length_drop, List.length_take]; rfl)) ?_; (with_reducible refine (impl_all_Summary_SummaryOK.calls k _ _ l0  t121 _ ?side1 ?side2 A2.out).mono ?_); (case side1 => repeat (first | exact HR0.out | (with_reducible refine Kd.C_alloc ?_ _) | (with_reducible refine Kd.C_drewN ?_ _) | (with_reducible refine Kd.C_drew ?_))); (case side2 => exact HC0.out); rintro e w4 ⟨rfl, hb⟩; refine ⟨_, rfl, ?_⟩; have n0_ := Aside0.mk (below_step (by repeat (first | (with_reducible first | exact HB.out | apply below_alloc | apply pw_below_drewN | apply below_drew1) | exact HB.out)) hb); clear HB; have HB := n0_; clear n0_; (try clear hb); (try clear hb2); (try clear hk); (try clear hi)) | ((with_reducible refine gate_callee (f := 49) rfl ?_); refine goesL_ (some 6) rfl rfl Try.func49 (by kernel_rfl) rfl #[.bool (!t121), .int .i64 1] rfl (by (try simp only [List.map_toArray, List.map_cons, List.map_nil]); first | done | rfl | (simp only [List.length_drop, List.length_take]; rfl)) ?_; (with_reducible refine (impl_when.calls (!t121) 1 t122 _ A3.out).mono ?_); rintro e w' ⟨rfl, ⟨nd, rfl⟩⟩; refine ⟨_, rfl, ?_⟩))
  go_ret
  exact ⟨by first | rfl | (simp [errW_none, errW_some] <;> rfl) | (simp [*, errW_none, errW_some] <;> rfl), by repeat (first | (with_reducible first | exact HB.out | apply below_alloc | apply pw_below_drewN | apply below_drew1) | exact HB.out)⟩

/-! ### impl_plus: function 89 -/
def impl_plus.f (a0 : Int) (a1 : Int) : Option (Int) := if a0 = (-1) then (some (-1)) else (if a1 = (-1) then (some (-1)) else (some (mn (wrap64 (a0 + a1)) 2147483647)))
set_option maxHeartbeats 8000000 in
set_option maxRecDepth 100000 in
theorem impl_plus.calls (a0 : Int) (a1 : Int) (r : Int) (w : World) (h : impl_plus.f a0 a1 = some r) :
    Calls Try.prog 89 #[.int .i64 a0, .int .i64 a1] w fun e w' => e = .returned (.int .i64 r) ∧ Below w.heap.size w w' := by
  have HB := Aside0.mk (Below.refl w.heap.size w)
  have H : (if a0 = (-1) then (some (-1)) else (if a1 = (-1) then (some (-1)) else (some (mn (wrap64 (a0 + a1)) 2147483647)))) = some r := h
  clear h
  by_cases c3 : a0 = (-1)
  · rw [if_pos c3] at H
    have c3b0 : (a0 == (-1)) = true := beq_iff_eq.mpr c3
    have c3b1 : (a0 != (-1)) = false := bne_eq_false_iff_eq.mpr c3
    clear c3
    obtain rfl := Option.some.inj H
    go_enter Try.func89, Try.ntmps89
    go_wp2
    go_ret
    exact ⟨by first | rfl | (simp [errW_none, errW_some] <;> rfl) | (simp [*, errW_none, errW_some] <;> rfl), by repeat (first | (with_reducible first | exact HB.out | apply below_alloc | apply pw_below_drewN | apply below_drew1) | exact HB.out)⟩
  · rw [if_neg c3] at H
    have c3b0 : (a0 == (-1)) = false := beq_eq_false_iff_ne.mpr c3
    have c3b1 : (a0 != (-1)) = true := bne_iff_ne.mpr c3
    by_cases c4 : a1 = (-1)
    · rw [if_pos c4] at H
      have c4b0 : (a1 == (-1)) = true := beq_iff_eq.mpr c4
      have c4b1 : (a1 != (-1)) = false := bne_eq_false_iff_eq.mpr c4
      clear c4
      obtain rfl := Option.some.inj H
      go_enter Try.func89, Try.ntmps89
      go_wp2
      go_ret
      exact ⟨by first | rfl | (simp [errW_none, errW_some] <;> rfl) | (simp [*, errW_none, errW_some] <;> rfl), by repeat (first | (with_reducible first | exact HB.out | apply below_alloc | apply pw_below_drewN | apply below_drew1) | exact HB.out)⟩
    · rw [if_neg c4] at H
      have c4b0 : (a1 == (-1)) = false := beq_eq_false_iff_ne.mpr c4
      have c4b1 : (a1 != (-1)) = true := bne_iff_ne.mpr c4
      obtain ⟨ji5, hji5⟩ : ∃ j_ : Int, (mn (wrap64 (a0 + a1)) 2147483647) = j_ := ⟨_, rfl⟩
      replace H : (some ji5) = some r := by first | (rw [hji5] at H; exact H) | (simp only [hji5] at H ⊢; exact H)
      (try (have hji5h : ji5 ≤ 2147483647 := by (rw [← hji5]; unfold mn; (repeat' split) <;> omega)))
      (try (have hji5g : ji5 ≤ 64 := by omega))
      have hji5_ : (if 2147483647 < (wrap64 (a0 + a1)) then 2147483647 else (wrap64 (a0 + a1))) = ji5 := hji5
      obtain rfl := Option.some.inj H
      go_enter Try.func89, Try.ntmps89
      go_wp2
      go_ret
      exact ⟨by first | rfl | (simp [errW_none, errW_some] <;> rfl) | (simp only [← hji5]; first | rfl | (simp [errW_none, errW_some] <;> rfl)) | (simp [*, errW_none, errW_some] <;> rfl), by repeat (first | (with_reducible first | exact HB.out | apply below_alloc | apply pw_below_drewN | apply below_drew1) | exact HB.out)⟩

end Go.Proofs.Ytagfalmpanlabaa.MFnSummaries
