-- Text written by a program of this session (wip/tools: the kit's printer with additions of ours).
import Derived.Test.YtagfalmpanlabaaMFnSummariesx0
namespace Go.Proofs.Ytagfalmpanlabaa.MFnSummaries
open Go.RowKit Go.Proofs.YtagfalmpanlabaaW.PrintWords Go.Proofs.YtagfalmpanlabaaW.PrintLast Go.Proofs.YtagfalmpanlabaaW.PrintMore
attribute [local go_sem] max2_int min2_int max_two min_two max_three min_three max_four min_four   -- for this text's walks alone
set_option linter.unusedVariables false
set_option linter.unusedSimpArgs false

/-! ### spec_l01In: function 57 -/
def spec_l01In.f (a0 : Int) (a1 : Int) (a2 : Int) : Option (Bool) := if a0 ≥ a1 then (some (decide (a0 ≤ a2))) else (some false)
set_option maxHeartbeats 8000000 in
set_option maxRecDepth 100000 in
theorem spec_l01In.calls (a0 : Int) (a1 : Int) (a2 : Int) (r : Bool) (w : World) (h : spec_l01In.f a0 a1 a2 = some r) :
    Calls Try.prog 57 #[.int .i64 a0, .int .i64 a1, .int .i64 a2] w fun e w' => e = .returned (.bool r) ∧ Drawn0 w w' := by
  have H : (if a0 ≥ a1 then (some (decide (a0 ≤ a2))) else (some false)) = some r := h
  clear h
  by_cases c4 : a0 ≥ a1
  · rw [if_pos c4] at H
    have c4b0 : decide (a1 ≤ a0) = true := decide_eq_true c4
    clear c4
    obtain rfl := Option.some.inj H
    go_enter Try.func57, Try.ntmps57
    go_wp2
    go_ret
    exact ⟨by first | rfl | (simp; done) | (simp [*]; done), by repeat (first | exact Drawn0.refl _ | apply Drawn0.step)⟩
  · rw [if_neg c4] at H
    have c4b0 : decide (a1 ≤ a0) = false := decide_eq_false c4
    clear c4
    obtain rfl := Option.some.inj H
    go_enter Try.func57, Try.ntmps57
    go_wp2
    go_ret
    exact ⟨by first | rfl | (simp; done) | (simp [*]; done), by repeat (first | exact Drawn0.refl _ | apply Drawn0.step)⟩

/-! ### spec_SummaryOK: function 41 -/
theorem spec_in_yes (a lo hi : Int) (h1 : lo ≤ a) (h2 : a ≤ hi) (W : World) : Calls Try.prog 57 #[.int .i64 a, .int .i64 lo, .int .i64 hi] W fun e w' => e = .returned (.bool true) ∧ w' = W := by
  have c0 : decide (lo ≤ a) = true := decide_eq_true h1
  have c1 : decide (a ≤ hi) = true := decide_eq_true h2
  clear h1 h2
  go_enter Try.func57, Try.ntmps57
  go_wp2
  go_ret
  exact ⟨rfl, rfl⟩
theorem spec_in_lo (a lo hi : Int) (h1 : a < lo) (W : World) : Calls Try.prog 57 #[.int .i64 a, .int .i64 lo, .int .i64 hi] W fun e w' => e = .returned (.bool false) ∧ w' = W := by
  have c0 : decide (lo ≤ a) = false := decide_eq_false (by omega)
  clear h1
  go_enter Try.func57, Try.ntmps57
  go_wp2
  go_ret
  exact ⟨rfl, rfl⟩
theorem spec_in_hi (a lo hi : Int) (h1 : lo ≤ a) (h2 : hi < a) (W : World) : Calls Try.prog 57 #[.int .i64 a, .int .i64 lo, .int .i64 hi] W fun e w' => e = .returned (.bool false) ∧ w' = W := by
  have c0 : decide (lo ≤ a) = true := decide_eq_true h1
  have c1 : decide (a ≤ hi) = false := decide_eq_false (by omega)
  clear h1 h2
  go_enter Try.func57, Try.ntmps57
  go_wp2
  go_ret
  exact ⟨rfl, rfl⟩
theorem quiet_more {P : Program} {f : FuncId} {args : Array Value} {w : World} {a n : Nat} {v : Value}
    (h : Calls P f args (w.drewN (a + n)) fun e w' => e = .returned v ∧ w' = w.drewN (a + n)) :
    Calls P f args (w.drewN (a + n)) fun e w'' => e = .returned v ∧ ∃ m, w'' = w.drewN (a + m) :=
  h.mono fun _ _ ⟨he, hm⟩ => ⟨he, n, hm⟩
def sumOKs (a0 a1 a2 a3 a4 : Int) : Bool := decide (0 ≤ a0 ∧ a0 ≤ 2147483647 ∧ (-1 ≤ a1 ∧ a1 ≤ a0) ∧ (-1 ≤ a2 ∧ a2 ≤ a0) ∧ (-1 ≤ a3 ∧ a3 ≤ a0) ∧ (-1 ≤ a4 ∧ a4 ≤ a0) ∧ (a2 = -1 ↔ a3 = -1) ∧ (a2 ≠ -1 ∨ (a4 = -1 ∧ a1 ≠ -1)))
def spec_SummaryOK.f (a0 a1 a2 a3 a4 : Int) : Option Bool := some (sumOKs a0 a1 a2 a3 a4)
set_option maxHeartbeats 8000000 in
set_option maxRecDepth 100000 in
theorem spec_SummaryOK.no0 (a0 a1 a2 a3 a4 : Int) (w : World) (h0 : a0 < 0) :
    Calls Try.prog 41 #[.agg #[.int .i64 a0, .int .i64 a1, .int .i64 a2, .int .i64 a3, .int .i64 a4]] w fun e w' => e = .returned (.bool false) ∧ Below w.heap.size w w' := by
  have c0 : decide (0 ≤ a0) = false := by simp; omega
  have H0 := Aside0.mk h0
  clear h0
  go_enter Try.func41, Try.ntmps41
  go_wp2
  go_ret
  exact ⟨rfl, by repeat (first | exact Below.refl _ _ | apply below_alloc | apply pw_below_drewN | apply below_drew1)⟩

set_option maxHeartbeats 8000000 in
set_option maxRecDepth 100000 in
theorem spec_SummaryOK.no1 (a0 a1 a2 a3 a4 : Int) (w : World) (h0 : 2147483647 < a0) :
    Calls Try.prog 41 #[.agg #[.int .i64 a0, .int .i64 a1, .int .i64 a2, .int .i64 a3, .int .i64 a4]] w fun e w' => e = .returned (.bool false) ∧ Below w.heap.size w w' := by
  have c0 : decide (0 ≤ a0) = true := by simp; omega
  have c1 : decide (a0 ≤ 2147483647) = false := by simp; omega
  have H0 := Aside0.mk h0
  clear h0
  go_enter Try.func41, Try.ntmps41
  go_wp2
  go_ret
  exact ⟨rfl, by repeat (first | exact Below.refl _ _ | apply below_alloc | apply pw_below_drewN | apply below_drew1)⟩

set_option maxHeartbeats 8000000 in
set_option maxRecDepth 100000 in
theorem spec_SummaryOK.nx1 (a0 a1 a2 a3 a4 : Int) (w : World) (h0 : 0 ≤ a0) (h1 : a0 ≤ 2147483647) (h2 : a2 < 0) (h3 : 0 ≤ a3) :
    Calls Try.prog 41 #[.agg #[.int .i64 a0, .int .i64 a1, .int .i64 a2, .int .i64 a3, .int .i64 a4]] w fun e w' => e = .returned (.bool false) ∧ Below w.heap.size w w' := by
  have c0 : decide (0 ≤ a0) = true := by simp; omega
  have c1 : decide (a0 ≤ 2147483647) = true := by simp; omega
  have c2 : decide (a2 < 0) = true := by simp; omega
  have c3 : decide (a3 < 0) = false := by simp; omega
  have H0 := Aside0.mk h0
  have H1 := Aside0.mk h1
  have H2 := Aside0.mk h2
  have H3 := Aside0.mk h3
  clear h0 h1 h2 h3
  go_enter Try.func41, Try.ntmps41
  go_wp2
  go_ret
  exact ⟨rfl, by repeat (first | exact Below.refl _ _ | apply below_alloc | apply pw_below_drewN | apply below_drew1)⟩

set_option maxHeartbeats 8000000 in
set_option maxRecDepth 100000 in
theorem spec_SummaryOK.nx2 (a0 a1 a2 a3 a4 : Int) (w : World) (h0 : 0 ≤ a0) (h1 : a0 ≤ 2147483647) (h2 : 0 ≤ a2) (h3 : a3 < 0) :
    Calls Try.prog 41 #[.agg #[.int .i64 a0, .int .i64 a1, .int .i64 a2, .int .i64 a3, .int .i64 a4]] w fun e w' => e = .returned (.bool false) ∧ Below w.heap.size w w' := by
  have c0 : decide (0 ≤ a0) = true := by simp; omega
  have c1 : decide (a0 ≤ 2147483647) = true := by simp; omega
  have c2 : decide (a2 < 0) = false := by simp; omega
  have c3 : decide (a3 < 0) = true := by simp; omega
  have H0 := Aside0.mk h0
  have H1 := Aside0.mk h1
  have H2 := Aside0.mk h2
  have H3 := Aside0.mk h3
  clear h0 h1 h2 h3
  go_enter Try.func41, Try.ntmps41
  go_wp2
  go_ret
  exact ⟨rfl, by repeat (first | exact Below.refl _ _ | apply below_alloc | apply pw_below_drewN | apply below_drew1)⟩

set_option maxHeartbeats 8000000 in
set_option maxRecDepth 100000 in
theorem spec_SummaryOK.nz1 (a0 a1 a2 a3 a4 : Int) (w : World) (h0 : 0 ≤ a0) (h1 : a0 ≤ 2147483647) (h2 : a2 < 0) (h3 : a3 < 0) (h4 : a1 < 0) :
    Calls Try.prog 41 #[.agg #[.int .i64 a0, .int .i64 a1, .int .i64 a2, .int .i64 a3, .int .i64 a4]] w fun e w' => e = .returned (.bool false) ∧ Below w.heap.size w w' := by
  have c0 : decide (0 ≤ a0) = true := by simp; omega
  have c1 : decide (a0 ≤ 2147483647) = true := by simp; omega
  have c2 : decide (a2 < 0) = true := by simp; omega
  have c3 : decide (a3 < 0) = true := by simp; omega
  have c4 : decide (a1 < 0) = true := by simp; omega
  have H0 := Aside0.mk h0
  have H1 := Aside0.mk h1
  have H2 := Aside0.mk h2
  have H3 := Aside0.mk h3
  have H4 := Aside0.mk h4
  clear h0 h1 h2 h3 h4
  go_enter Try.func41, Try.ntmps41
  go_wp2
  go_ret
  exact ⟨rfl, by repeat (first | exact Below.refl _ _ | apply below_alloc | apply pw_below_drewN | apply below_drew1)⟩

set_option maxHeartbeats 8000000 in
set_option maxRecDepth 100000 in
theorem spec_SummaryOK.nz2 (a0 a1 a2 a3 a4 : Int) (w : World) (h0 : 0 ≤ a0) (h1 : a0 ≤ 2147483647) (h2 : a2 < 0) (h3 : a3 < 0) (h4 : 0 ≤ a1) (h5 : 0 ≤ a4) :
    Calls Try.prog 41 #[.agg #[.int .i64 a0, .int .i64 a1, .int .i64 a2, .int .i64 a3, .int .i64 a4]] w fun e w' => e = .returned (.bool false) ∧ Below w.heap.size w w' := by
  have c0 : decide (0 ≤ a0) = true := by simp; omega
  have c1 : decide (a0 ≤ 2147483647) = true := by simp; omega
  have c2 : decide (a2 < 0) = true := by simp; omega
  have c3 : decide (a3 < 0) = true := by simp; omega
  have c4 : decide (a1 < 0) = false := by simp; omega
  have c5 : decide (0 ≤ a4) = true := by simp; omega
  have H0 := Aside0.mk h0
  have H1 := Aside0.mk h1
  have H2 := Aside0.mk h2
  have H3 := Aside0.mk h3
  have H4 := Aside0.mk h4
  have H5 := Aside0.mk h5
  clear h0 h1 h2 h3 h4 h5
  go_enter Try.func41, Try.ntmps41
  go_wp2
  go_ret
  exact ⟨rfl, by repeat (first | exact Below.refl _ _ | apply below_alloc | apply pw_below_drewN | apply below_drew1)⟩

set_option maxHeartbeats 8000000 in
set_option maxRecDepth 100000 in
theorem spec_SummaryOK.A2 (a0 a1 a2 a3 a4 : Int) (w : World) (h0 : 0 ≤ a0) (h1 : a0 ≤ 2147483647) (h2 : 0 ≤ a2) (h3 : 0 ≤ a3) (h4 : a1 < -1) :
    Calls Try.prog 41 #[.agg #[.int .i64 a0, .int .i64 a1, .int .i64 a2, .int .i64 a3, .int .i64 a4]] w fun e w' => e = .returned (.bool false) ∧ Below w.heap.size w w' := by
  have c0 : decide (0 ≤ a0) = true := by simp; omega
  have c1 : decide (a0 ≤ 2147483647) = true := by simp; omega
  have c2 : decide (a2 < 0) = false := by simp; omega
  have c3 : decide (a3 < 0) = false := by simp; omega
  have H0 := Aside0.mk h0
  have H1 := Aside0.mk h1
  have H2 := Aside0.mk h2
  have H3 := Aside0.mk h3
  have H4 := Aside0.mk h4
  clear h0 h1 h2 h3 h4
  go_enter Try.func41, Try.ntmps41
  go_wp2
  refine wp_loop_rounds 6 ?_
  rw [rounds_succ]
  go_wp2
  go_quiet ((go_at_call 57; exact Calls.quiet_of_same (spec_in_lo _ _ _ H4.out _)))
  go_wp2
  go_ret
  exact ⟨rfl, by repeat (first | exact Below.refl _ _ | apply below_alloc | apply pw_below_drewN | apply below_drew1)⟩

set_option maxHeartbeats 8000000 in
set_option maxRecDepth 100000 in
theorem spec_SummaryOK.A3 (a0 a1 a2 a3 a4 : Int) (w : World) (h0 : 0 ≤ a0) (h1 : a0 ≤ 2147483647) (h2 : 0 ≤ a2) (h3 : 0 ≤ a3) (h4 : -1 ≤ a1) (h5 : a0 < a1) :
    Calls Try.prog 41 #[.agg #[.int .i64 a0, .int .i64 a1, .int .i64 a2, .int .i64 a3, .int .i64 a4]] w fun e w' => e = .returned (.bool false) ∧ Below w.heap.size w w' := by
  have c0 : decide (0 ≤ a0) = true := by simp; omega
  have c1 : decide (a0 ≤ 2147483647) = true := by simp; omega
  have c2 : decide (a2 < 0) = false := by simp; omega
  have c3 : decide (a3 < 0) = false := by simp; omega
  have H0 := Aside0.mk h0
  have H1 := Aside0.mk h1
  have H2 := Aside0.mk h2
  have H3 := Aside0.mk h3
  have H4 := Aside0.mk h4
  have H5 := Aside0.mk h5
  clear h0 h1 h2 h3 h4 h5
  go_enter Try.func41, Try.ntmps41
  go_wp2
  refine wp_loop_rounds 6 ?_
  rw [rounds_succ]
  go_wp2
  go_quiet ((go_at_call 57; exact Calls.quiet_of_same (spec_in_hi _ _ _ H4.out H5.out _)))
  go_wp2
  go_ret
  exact ⟨rfl, by repeat (first | exact Below.refl _ _ | apply below_alloc | apply pw_below_drewN | apply below_drew1)⟩

set_option maxHeartbeats 8000000 in
set_option maxRecDepth 100000 in
theorem spec_SummaryOK.A4 (a0 a1 a2 a3 a4 : Int) (w : World) (h0 : 0 ≤ a0) (h1 : a0 ≤ 2147483647) (h2 : 0 ≤ a2) (h3 : 0 ≤ a3) (h4 : -1 ≤ a1) (h5 : a1 ≤ a0) (h6 : a2 < -1) :
    Calls Try.prog 41 #[.agg #[.int .i64 a0, .int .i64 a1, .int .i64 a2, .int .i64 a3, .int .i64 a4]] w fun e w' => e = .returned (.bool false) ∧ Below w.heap.size w w' := by
  have c0 : decide (0 ≤ a0) = true := by simp; omega
  have c1 : decide (a0 ≤ 2147483647) = true := by simp; omega
  have c2 : decide (a2 < 0) = false := by simp; omega
  have c3 : decide (a3 < 0) = false := by simp; omega
  have H0 := Aside0.mk h0
  have H1 := Aside0.mk h1
  have H2 := Aside0.mk h2
  have H3 := Aside0.mk h3
  have H4 := Aside0.mk h4
  have H5 := Aside0.mk h5
  have H6 := Aside0.mk h6
  clear h0 h1 h2 h3 h4 h5 h6
  go_enter Try.func41, Try.ntmps41
  go_wp2
  refine wp_loop_rounds 6 ?_
  rw [rounds_succ]
  go_wp2
  go_quiet ((go_at_call 57; exact Calls.quiet_of_same (spec_in_yes _ _ _ H4.out H5.out _)))
  go_wp2
  rw [rounds_succ]
  go_wp2
  go_quiet ((go_at_call 57; exact quiet_more (spec_in_lo _ _ _ H6.out _)))
  go_wp2
  go_ret
  exact ⟨rfl, by repeat (first | exact Below.refl _ _ | apply below_alloc | apply pw_below_drewN | apply below_drew1)⟩

set_option maxHeartbeats 8000000 in
set_option maxRecDepth 100000 in
theorem spec_SummaryOK.A5 (a0 a1 a2 a3 a4 : Int) (w : World) (h0 : 0 ≤ a0) (h1 : a0 ≤ 2147483647) (h2 : 0 ≤ a2) (h3 : 0 ≤ a3) (h4 : -1 ≤ a1) (h5 : a1 ≤ a0) (h6 : -1 ≤ a2) (h7 : a0 < a2) :
    Calls Try.prog 41 #[.agg #[.int .i64 a0, .int .i64 a1, .int .i64 a2, .int .i64 a3, .int .i64 a4]] w fun e w' => e = .returned (.bool false) ∧ Below w.heap.size w w' := by
  have c0 : decide (0 ≤ a0) = true := by simp; omega
  have c1 : decide (a0 ≤ 2147483647) = true := by simp; omega
  have c2 : decide (a2 < 0) = false := by simp; omega
  have c3 : decide (a3 < 0) = false := by simp; omega
  have H0 := Aside0.mk h0
  have H1 := Aside0.mk h1
  have H2 := Aside0.mk h2
  have H3 := Aside0.mk h3
  have H4 := Aside0.mk h4
  have H5 := Aside0.mk h5
  have H6 := Aside0.mk h6
  have H7 := Aside0.mk h7
  clear h0 h1 h2 h3 h4 h5 h6 h7
  go_enter Try.func41, Try.ntmps41
  go_wp2
  refine wp_loop_rounds 6 ?_
  rw [rounds_succ]
  go_wp2
  go_quiet ((go_at_call 57; exact Calls.quiet_of_same (spec_in_yes _ _ _ H4.out H5.out _)))
  go_wp2
  rw [rounds_succ]
  go_wp2
  go_quiet ((go_at_call 57; exact quiet_more (spec_in_hi _ _ _ H6.out H7.out _)))
  go_wp2
  go_ret
  exact ⟨rfl, by repeat (first | exact Below.refl _ _ | apply below_alloc | apply pw_below_drewN | apply below_drew1)⟩

set_option maxHeartbeats 8000000 in
set_option maxRecDepth 100000 in
theorem spec_SummaryOK.A6 (a0 a1 a2 a3 a4 : Int) (w : World) (h0 : 0 ≤ a0) (h1 : a0 ≤ 2147483647) (h2 : 0 ≤ a2) (h3 : 0 ≤ a3) (h4 : -1 ≤ a1) (h5 : a1 ≤ a0) (h6 : -1 ≤ a2) (h7 : a2 ≤ a0) (h8 : a3 < -1) :
    Calls Try.prog 41 #[.agg #[.int .i64 a0, .int .i64 a1, .int .i64 a2, .int .i64 a3, .int .i64 a4]] w fun e w' => e = .returned (.bool false) ∧ Below w.heap.size w w' := by
  have c0 : decide (0 ≤ a0) = true := by simp; omega
  have c1 : decide (a0 ≤ 2147483647) = true := by simp; omega
  have c2 : decide (a2 < 0) = false := by simp; omega
  have c3 : decide (a3 < 0) = false := by simp; omega
  have H0 := Aside0.mk h0
  have H1 := Aside0.mk h1
  have H2 := Aside0.mk h2
  have H3 := Aside0.mk h3
  have H4 := Aside0.mk h4
  have H5 := Aside0.mk h5
  have H6 := Aside0.mk h6
  have H7 := Aside0.mk h7
  have H8 := Aside0.mk h8
  clear h0 h1 h2 h3 h4 h5 h6 h7 h8
  go_enter Try.func41, Try.ntmps41
  go_wp2
  refine wp_loop_rounds 6 ?_
  rw [rounds_succ]
  go_wp2
  go_quiet ((go_at_call 57; exact Calls.quiet_of_same (spec_in_yes _ _ _ H4.out H5.out _)))
  go_wp2
  rw [rounds_succ]
  go_wp2
  go_quiet ((go_at_call 57; exact quiet_more (spec_in_yes _ _ _ H6.out H7.out _)))
  go_wp2
  rw [rounds_succ]
  go_wp2
  go_quiet ((go_at_call 57; exact quiet_more (spec_in_lo _ _ _ H8.out _)))
  go_wp2
  go_ret
  exact ⟨rfl, by repeat (first | exact Below.refl _ _ | apply below_alloc | apply pw_below_drewN | apply below_drew1)⟩

set_option maxHeartbeats 8000000 in
set_option maxRecDepth 100000 in
theorem spec_SummaryOK.A7 (a0 a1 a2 a3 a4 : Int) (w : World) (h0 : 0 ≤ a0) (h1 : a0 ≤ 2147483647) (h2 : 0 ≤ a2) (h3 : 0 ≤ a3) (h4 : -1 ≤ a1) (h5 : a1 ≤ a0) (h6 : -1 ≤ a2) (h7 : a2 ≤ a0) (h8 : -1 ≤ a3) (h9 : a0 < a3) :
    Calls Try.prog 41 #[.agg #[.int .i64 a0, .int .i64 a1, .int .i64 a2, .int .i64 a3, .int .i64 a4]] w fun e w' => e = .returned (.bool false) ∧ Below w.heap.size w w' := by
  have c0 : decide (0 ≤ a0) = true := by simp; omega
  have c1 : decide (a0 ≤ 2147483647) = true := by simp; omega
  have c2 : decide (a2 < 0) = false := by simp; omega
  have c3 : decide (a3 < 0) = false := by simp; omega
  have H0 := Aside0.mk h0
  have H1 := Aside0.mk h1
  have H2 := Aside0.mk h2
  have H3 := Aside0.mk h3
  have H4 := Aside0.mk h4
  have H5 := Aside0.mk h5
  have H6 := Aside0.mk h6
  have H7 := Aside0.mk h7
  have H8 := Aside0.mk h8
  have H9 := Aside0.mk h9
  clear h0 h1 h2 h3 h4 h5 h6 h7 h8 h9
  go_enter Try.func41, Try.ntmps41
  go_wp2
  refine wp_loop_rounds 6 ?_
  rw [rounds_succ]
  go_wp2
  go_quiet ((go_at_call 57; exact Calls.quiet_of_same (spec_in_yes _ _ _ H4.out H5.out _)))
  go_wp2
  rw [rounds_succ]
  go_wp2
  go_quiet ((go_at_call 57; exact quiet_more (spec_in_yes _ _ _ H6.out H7.out _)))
  go_wp2
  rw [rounds_succ]
  go_wp2
  go_quiet ((go_at_call 57; exact quiet_more (spec_in_hi _ _ _ H8.out H9.out _)))
  go_wp2
  go_ret
  exact ⟨rfl, by repeat (first | exact Below.refl _ _ | apply below_alloc | apply pw_below_drewN | apply below_drew1)⟩

set_option maxHeartbeats 8000000 in
set_option maxRecDepth 100000 in
theorem spec_SummaryOK.A8 (a0 a1 a2 a3 a4 : Int) (w : World) (h0 : 0 ≤ a0) (h1 : a0 ≤ 2147483647) (h2 : 0 ≤ a2) (h3 : 0 ≤ a3) (h4 : -1 ≤ a1) (h5 : a1 ≤ a0) (h6 : -1 ≤ a2) (h7 : a2 ≤ a0) (h8 : -1 ≤ a3) (h9 : a3 ≤ a0) (h10 : a4 < -1) :
    Calls Try.prog 41 #[.agg #[.int .i64 a0, .int .i64 a1, .int .i64 a2, .int .i64 a3, .int .i64 a4]] w fun e w' => e = .returned (.bool false) ∧ Below w.heap.size w w' := by
  have c0 : decide (0 ≤ a0) = true := by simp; omega
  have c1 : decide (a0 ≤ 2147483647) = true := by simp; omega
  have c2 : decide (a2 < 0) = false := by simp; omega
  have c3 : decide (a3 < 0) = false := by simp; omega
  have H0 := Aside0.mk h0
  have H1 := Aside0.mk h1
  have H2 := Aside0.mk h2
  have H3 := Aside0.mk h3
  have H4 := Aside0.mk h4
  have H5 := Aside0.mk h5
  have H6 := Aside0.mk h6
  have H7 := Aside0.mk h7
  have H8 := Aside0.mk h8
  have H9 := Aside0.mk h9
  have H10 := Aside0.mk h10
  clear h0 h1 h2 h3 h4 h5 h6 h7 h8 h9 h10
  go_enter Try.func41, Try.ntmps41
  go_wp2
  refine wp_loop_rounds 6 ?_
  rw [rounds_succ]
  go_wp2
  go_quiet ((go_at_call 57; exact Calls.quiet_of_same (spec_in_yes _ _ _ H4.out H5.out _)))
  go_wp2
  rw [rounds_succ]
  go_wp2
  go_quiet ((go_at_call 57; exact quiet_more (spec_in_yes _ _ _ H6.out H7.out _)))
  go_wp2
  rw [rounds_succ]
  go_wp2
  go_quiet ((go_at_call 57; exact quiet_more (spec_in_yes _ _ _ H8.out H9.out _)))
  go_wp2
  rw [rounds_succ]
  go_wp2
  go_quiet ((go_at_call 57; exact quiet_more (spec_in_lo _ _ _ H10.out _)))
  go_wp2
  go_ret
  exact ⟨rfl, by repeat (first | exact Below.refl _ _ | apply below_alloc | apply pw_below_drewN | apply below_drew1)⟩

set_option maxHeartbeats 8000000 in
set_option maxRecDepth 100000 in
theorem spec_SummaryOK.A9 (a0 a1 a2 a3 a4 : Int) (w : World) (h0 : 0 ≤ a0) (h1 : a0 ≤ 2147483647) (h2 : 0 ≤ a2) (h3 : 0 ≤ a3) (h4 : -1 ≤ a1) (h5 : a1 ≤ a0) (h6 : -1 ≤ a2) (h7 : a2 ≤ a0) (h8 : -1 ≤ a3) (h9 : a3 ≤ a0) (h10 : -1 ≤ a4) (h11 : a0 < a4) :
    Calls Try.prog 41 #[.agg #[.int .i64 a0, .int .i64 a1, .int .i64 a2, .int .i64 a3, .int .i64 a4]] w fun e w' => e = .returned (.bool false) ∧ Below w.heap.size w w' := by
  have c0 : decide (0 ≤ a0) = true := by simp; omega
  have c1 : decide (a0 ≤ 2147483647) = true := by simp; omega
  have c2 : decide (a2 < 0) = false := by simp; omega
  have c3 : decide (a3 < 0) = false := by simp; omega
  have H0 := Aside0.mk h0
  have H1 := Aside0.mk h1
  have H2 := Aside0.mk h2
  have H3 := Aside0.mk h3
  have H4 := Aside0.mk h4
  have H5 := Aside0.mk h5
  have H6 := Aside0.mk h6
  have H7 := Aside0.mk h7
  have H8 := Aside0.mk h8
  have H9 := Aside0.mk h9
  have H10 := Aside0.mk h10
  have H11 := Aside0.mk h11
  clear h0 h1 h2 h3 h4 h5 h6 h7 h8 h9 h10 h11
  go_enter Try.func41, Try.ntmps41
  go_wp2
  refine wp_loop_rounds 6 ?_
  rw [rounds_succ]
  go_wp2
  go_quiet ((go_at_call 57; exact Calls.quiet_of_same (spec_in_yes _ _ _ H4.out H5.out _)))
  go_wp2
  rw [rounds_succ]
  go_wp2
  go_quiet ((go_at_call 57; exact quiet_more (spec_in_yes _ _ _ H6.out H7.out _)))
  go_wp2
  rw [rounds_succ]
  go_wp2
  go_quiet ((go_at_call 57; exact quiet_more (spec_in_yes _ _ _ H8.out H9.out _)))
  go_wp2
  rw [rounds_succ]
  go_wp2
  go_quiet ((go_at_call 57; exact quiet_more (spec_in_hi _ _ _ H10.out H11.out _)))
  go_wp2
  go_ret
  exact ⟨rfl, by repeat (first | exact Below.refl _ _ | apply below_alloc | apply pw_below_drewN | apply below_drew1)⟩

set_option maxHeartbeats 8000000 in
set_option maxRecDepth 100000 in
theorem spec_SummaryOK.Aok (a0 a1 a2 a3 a4 : Int) (w : World) (h0 : 0 ≤ a0) (h1 : a0 ≤ 2147483647) (h2 : 0 ≤ a2) (h3 : 0 ≤ a3) (h4 : -1 ≤ a1) (h5 : a1 ≤ a0) (h6 : -1 ≤ a2) (h7 : a2 ≤ a0) (h8 : -1 ≤ a3) (h9 : a3 ≤ a0) (h10 : -1 ≤ a4) (h11 : a4 ≤ a0) :
    Calls Try.prog 41 #[.agg #[.int .i64 a0, .int .i64 a1, .int .i64 a2, .int .i64 a3, .int .i64 a4]] w fun e w' => e = .returned (.bool true) ∧ Below w.heap.size w w' := by
  have c0 : decide (0 ≤ a0) = true := by simp; omega
  have c1 : decide (a0 ≤ 2147483647) = true := by simp; omega
  have c2 : decide (a2 < 0) = false := by simp; omega
  have c3 : decide (a3 < 0) = false := by simp; omega
  have H0 := Aside0.mk h0
  have H1 := Aside0.mk h1
  have H2 := Aside0.mk h2
  have H3 := Aside0.mk h3
  have H4 := Aside0.mk h4
  have H5 := Aside0.mk h5
  have H6 := Aside0.mk h6
  have H7 := Aside0.mk h7
  have H8 := Aside0.mk h8
  have H9 := Aside0.mk h9
  have H10 := Aside0.mk h10
  have H11 := Aside0.mk h11
  clear h0 h1 h2 h3 h4 h5 h6 h7 h8 h9 h10 h11
  go_enter Try.func41, Try.ntmps41
  go_wp2
  refine wp_loop_rounds 6 ?_
  rw [rounds_succ]
  go_wp2
  go_quiet ((go_at_call 57; exact Calls.quiet_of_same (spec_in_yes _ _ _ H4.out H5.out _)))
  go_wp2
  rw [rounds_succ]
  go_wp2
  go_quiet ((go_at_call 57; exact quiet_more (spec_in_yes _ _ _ H6.out H7.out _)))
  go_wp2
  rw [rounds_succ]
  go_wp2
  go_quiet ((go_at_call 57; exact quiet_more (spec_in_yes _ _ _ H8.out H9.out _)))
  go_wp2
  rw [rounds_succ]
  go_wp2
  go_quiet ((go_at_call 57; exact quiet_more (spec_in_yes _ _ _ H10.out H11.out _)))
  go_wp2
  rw [rounds_succ]
  go_wp2
  go_ret
  exact ⟨rfl, by repeat (first | exact Below.refl _ _ | apply below_alloc | apply pw_below_drewN | apply below_drew1)⟩

set_option maxHeartbeats 8000000 in
set_option maxRecDepth 100000 in
theorem spec_SummaryOK.B2 (a0 a1 a2 a3 a4 : Int) (w : World) (h0 : 0 ≤ a0) (h1 : a0 ≤ 2147483647) (h2 : a2 < 0) (h3 : a3 < 0) (h4 : 0 ≤ a1) (h5 : a4 < 0) (h6 : a1 < -1) :
    Calls Try.prog 41 #[.agg #[.int .i64 a0, .int .i64 a1, .int .i64 a2, .int .i64 a3, .int .i64 a4]] w fun e w' => e = .returned (.bool false) ∧ Below w.heap.size w w' := by
  have c0 : decide (0 ≤ a0) = true := by simp; omega
  have c1 : decide (a0 ≤ 2147483647) = true := by simp; omega
  have c2 : decide (a2 < 0) = true := by simp; omega
  have c3 : decide (a3 < 0) = true := by simp; omega
  have c4 : decide (a1 < 0) = false := by simp; omega
  have c5 : decide (0 ≤ a4) = false := by simp; omega
  have H0 := Aside0.mk h0
  have H1 := Aside0.mk h1
  have H2 := Aside0.mk h2
  have H3 := Aside0.mk h3
  have H4 := Aside0.mk h4
  have H5 := Aside0.mk h5
  have H6 := Aside0.mk h6
  clear h0 h1 h2 h3 h4 h5 h6
  go_enter Try.func41, Try.ntmps41
  go_wp2
  refine wp_loop_rounds 6 ?_
  rw [rounds_succ]
  go_wp2
  go_quiet ((go_at_call 57; exact Calls.quiet_of_same (spec_in_lo _ _ _ H6.out _)))
  go_wp2
  go_ret
  exact ⟨rfl, by repeat (first | exact Below.refl _ _ | apply below_alloc | apply pw_below_drewN | apply below_drew1)⟩

set_option maxHeartbeats 8000000 in
set_option maxRecDepth 100000 in
theorem spec_SummaryOK.B3 (a0 a1 a2 a3 a4 : Int) (w : World) (h0 : 0 ≤ a0) (h1 : a0 ≤ 2147483647) (h2 : a2 < 0) (h3 : a3 < 0) (h4 : 0 ≤ a1) (h5 : a4 < 0) (h6 : -1 ≤ a1) (h7 : a0 < a1) :
    Calls Try.prog 41 #[.agg #[.int .i64 a0, .int .i64 a1, .int .i64 a2, .int .i64 a3, .int .i64 a4]] w fun e w' => e = .returned (.bool false) ∧ Below w.heap.size w w' := by
  have c0 : decide (0 ≤ a0) = true := by simp; omega
  have c1 : decide (a0 ≤ 2147483647) = true := by simp; omega
  have c2 : decide (a2 < 0) = true := by simp; omega
  have c3 : decide (a3 < 0) = true := by simp; omega
  have c4 : decide (a1 < 0) = false := by simp; omega
  have c5 : decide (0 ≤ a4) = false := by simp; omega
  have H0 := Aside0.mk h0
  have H1 := Aside0.mk h1
  have H2 := Aside0.mk h2
  have H3 := Aside0.mk h3
  have H4 := Aside0.mk h4
  have H5 := Aside0.mk h5
  have H6 := Aside0.mk h6
  have H7 := Aside0.mk h7
  clear h0 h1 h2 h3 h4 h5 h6 h7
  go_enter Try.func41, Try.ntmps41
  go_wp2
  refine wp_loop_rounds 6 ?_
  rw [rounds_succ]
  go_wp2
  go_quiet ((go_at_call 57; exact Calls.quiet_of_same (spec_in_hi _ _ _ H6.out H7.out _)))
  go_wp2
  go_ret
  exact ⟨rfl, by repeat (first | exact Below.refl _ _ | apply below_alloc | apply pw_below_drewN | apply below_drew1)⟩

set_option maxHeartbeats 8000000 in
set_option maxRecDepth 100000 in
theorem spec_SummaryOK.B4 (a0 a1 a2 a3 a4 : Int) (w : World) (h0 : 0 ≤ a0) (h1 : a0 ≤ 2147483647) (h2 : a2 < 0) (h3 : a3 < 0) (h4 : 0 ≤ a1) (h5 : a4 < 0) (h6 : -1 ≤ a1) (h7 : a1 ≤ a0) (h8 : a2 < -1) :
    Calls Try.prog 41 #[.agg #[.int .i64 a0, .int .i64 a1, .int .i64 a2, .int .i64 a3, .int .i64 a4]] w fun e w' => e = .returned (.bool false) ∧ Below w.heap.size w w' := by
  have c0 : decide (0 ≤ a0) = true := by simp; omega
  have c1 : decide (a0 ≤ 2147483647) = true := by simp; omega
  have c2 : decide (a2 < 0) = true := by simp; omega
  have c3 : decide (a3 < 0) = true := by simp; omega
  have c4 : decide (a1 < 0) = false := by simp; omega
  have c5 : decide (0 ≤ a4) = false := by simp; omega
  have H0 := Aside0.mk h0
  have H1 := Aside0.mk h1
  have H2 := Aside0.mk h2
  have H3 := Aside0.mk h3
  have H4 := Aside0.mk h4
  have H5 := Aside0.mk h5
  have H6 := Aside0.mk h6
  have H7 := Aside0.mk h7
  have H8 := Aside0.mk h8
  clear h0 h1 h2 h3 h4 h5 h6 h7 h8
  go_enter Try.func41, Try.ntmps41
  go_wp2
  refine wp_loop_rounds 6 ?_
  rw [rounds_succ]
  go_wp2
  go_quiet ((go_at_call 57; exact Calls.quiet_of_same (spec_in_yes _ _ _ H6.out H7.out _)))
  go_wp2
  rw [rounds_succ]
  go_wp2
  go_quiet ((go_at_call 57; exact quiet_more (spec_in_lo _ _ _ H8.out _)))
  go_wp2
  go_ret
  exact ⟨rfl, by repeat (first | exact Below.refl _ _ | apply below_alloc | apply pw_below_drewN | apply below_drew1)⟩

set_option maxHeartbeats 8000000 in
set_option maxRecDepth 100000 in
theorem spec_SummaryOK.B5 (a0 a1 a2 a3 a4 : Int) (w : World) (h0 : 0 ≤ a0) (h1 : a0 ≤ 2147483647) (h2 : a2 < 0) (h3 : a3 < 0) (h4 : 0 ≤ a1) (h5 : a4 < 0) (h6 : -1 ≤ a1) (h7 : a1 ≤ a0) (h8 : -1 ≤ a2) (h9 : a0 < a2) :
    Calls Try.prog 41 #[.agg #[.int .i64 a0, .int .i64 a1, .int .i64 a2, .int .i64 a3, .int .i64 a4]] w fun e w' => e = .returned (.bool false) ∧ Below w.heap.size w w' := by
  have c0 : decide (0 ≤ a0) = true := by simp; omega
  have c1 : decide (a0 ≤ 2147483647) = true := by simp; omega
  have c2 : decide (a2 < 0) = true := by simp; omega
  have c3 : decide (a3 < 0) = true := by simp; omega
  have c4 : decide (a1 < 0) = false := by simp; omega
  have c5 : decide (0 ≤ a4) = false := by simp; omega
  have H0 := Aside0.mk h0
  have H1 := Aside0.mk h1
  have H2 := Aside0.mk h2
  have H3 := Aside0.mk h3
  have H4 := Aside0.mk h4
  have H5 := Aside0.mk h5
  have H6 := Aside0.mk h6
  have H7 := Aside0.mk h7
  have H8 := Aside0.mk h8
  have H9 := Aside0.mk h9
  clear h0 h1 h2 h3 h4 h5 h6 h7 h8 h9
  go_enter Try.func41, Try.ntmps41
  go_wp2
  refine wp_loop_rounds 6 ?_
  rw [rounds_succ]
  go_wp2
  go_quiet ((go_at_call 57; exact Calls.quiet_of_same (spec_in_yes _ _ _ H6.out H7.out _)))
  go_wp2
  rw [rounds_succ]
  go_wp2
  go_quiet ((go_at_call 57; exact quiet_more (spec_in_hi _ _ _ H8.out H9.out _)))
  go_wp2
  go_ret
  exact ⟨rfl, by repeat (first | exact Below.refl _ _ | apply below_alloc | apply pw_below_drewN | apply below_drew1)⟩

set_option maxHeartbeats 8000000 in
set_option maxRecDepth 100000 in
theorem spec_SummaryOK.B6 (a0 a1 a2 a3 a4 : Int) (w : World) (h0 : 0 ≤ a0) (h1 : a0 ≤ 2147483647) (h2 : a2 < 0) (h3 : a3 < 0) (h4 : 0 ≤ a1) (h5 : a4 < 0) (h6 : -1 ≤ a1) (h7 : a1 ≤ a0) (h8 : -1 ≤ a2) (h9 : a2 ≤ a0) (h10 : a3 < -1) :
    Calls Try.prog 41 #[.agg #[.int .i64 a0, .int .i64 a1, .int .i64 a2, .int .i64 a3, .int .i64 a4]] w fun e w' => e = .returned (.bool false) ∧ Below w.heap.size w w' := by
  have c0 : decide (0 ≤ a0) = true := by simp; omega
  have c1 : decide (a0 ≤ 2147483647) = true := by simp; omega
  have c2 : decide (a2 < 0) = true := by simp; omega
  have c3 : decide (a3 < 0) = true := by simp; omega
  have c4 : decide (a1 < 0) = false := by simp; omega
  have c5 : decide (0 ≤ a4) = false := by simp; omega
  have H0 := Aside0.mk h0
  have H1 := Aside0.mk h1
  have H2 := Aside0.mk h2
  have H3 := Aside0.mk h3
  have H4 := Aside0.mk h4
  have H5 := Aside0.mk h5
  have H6 := Aside0.mk h6
  have H7 := Aside0.mk h7
  have H8 := Aside0.mk h8
  have H9 := Aside0.mk h9
  have H10 := Aside0.mk h10
  clear h0 h1 h2 h3 h4 h5 h6 h7 h8 h9 h10
  go_enter Try.func41, Try.ntmps41
  go_wp2
  refine wp_loop_rounds 6 ?_
  rw [rounds_succ]
  go_wp2
  go_quiet ((go_at_call 57; exact Calls.quiet_of_same (spec_in_yes _ _ _ H6.out H7.out _)))
  go_wp2
  rw [rounds_succ]
  go_wp2
  go_quiet ((go_at_call 57; exact quiet_more (spec_in_yes _ _ _ H8.out H9.out _)))
  go_wp2
  rw [rounds_succ]
  go_wp2
  go_quiet ((go_at_call 57; exact quiet_more (spec_in_lo _ _ _ H10.out _)))
  go_wp2
  go_ret
  exact ⟨rfl, by repeat (first | exact Below.refl _ _ | apply below_alloc | apply pw_below_drewN | apply below_drew1)⟩

set_option maxHeartbeats 8000000 in
set_option maxRecDepth 100000 in
theorem spec_SummaryOK.B7 (a0 a1 a2 a3 a4 : Int) (w : World) (h0 : 0 ≤ a0) (h1 : a0 ≤ 2147483647) (h2 : a2 < 0) (h3 : a3 < 0) (h4 : 0 ≤ a1) (h5 : a4 < 0) (h6 : -1 ≤ a1) (h7 : a1 ≤ a0) (h8 : -1 ≤ a2) (h9 : a2 ≤ a0) (h10 : -1 ≤ a3) (h11 : a0 < a3) :
    Calls Try.prog 41 #[.agg #[.int .i64 a0, .int .i64 a1, .int .i64 a2, .int .i64 a3, .int .i64 a4]] w fun e w' => e = .returned (.bool false) ∧ Below w.heap.size w w' := by
  have c0 : decide (0 ≤ a0) = true := by simp; omega
  have c1 : decide (a0 ≤ 2147483647) = true := by simp; omega
  have c2 : decide (a2 < 0) = true := by simp; omega
  have c3 : decide (a3 < 0) = true := by simp; omega
  have c4 : decide (a1 < 0) = false := by simp; omega
  have c5 : decide (0 ≤ a4) = false := by simp; omega
  have H0 := Aside0.mk h0
  have H1 := Aside0.mk h1
  have H2 := Aside0.mk h2
  have H3 := Aside0.mk h3
  have H4 := Aside0.mk h4
  have H5 := Aside0.mk h5
  have H6 := Aside0.mk h6
  have H7 := Aside0.mk h7
  have H8 := Aside0.mk h8
  have H9 := Aside0.mk h9
  have H10 := Aside0.mk h10
  have H11 := Aside0.mk h11
  clear h0 h1 h2 h3 h4 h5 h6 h7 h8 h9 h10 h11
  go_enter Try.func41, Try.ntmps41
  go_wp2
  refine wp_loop_rounds 6 ?_
  rw [rounds_succ]
  go_wp2
  go_quiet ((go_at_call 57; exact Calls.quiet_of_same (spec_in_yes _ _ _ H6.out H7.out _)))
  go_wp2
  rw [rounds_succ]
  go_wp2
  go_quiet ((go_at_call 57; exact quiet_more (spec_in_yes _ _ _ H8.out H9.out _)))
  go_wp2
  rw [rounds_succ]
  go_wp2
  go_quiet ((go_at_call 57; exact quiet_more (spec_in_hi _ _ _ H10.out H11.out _)))
  go_wp2
  go_ret
  exact ⟨rfl, by repeat (first | exact Below.refl _ _ | apply below_alloc | apply pw_below_drewN | apply below_drew1)⟩

set_option maxHeartbeats 8000000 in
set_option maxRecDepth 100000 in
theorem spec_SummaryOK.B8 (a0 a1 a2 a3 a4 : Int) (w : World) (h0 : 0 ≤ a0) (h1 : a0 ≤ 2147483647) (h2 : a2 < 0) (h3 : a3 < 0) (h4 : 0 ≤ a1) (h5 : a4 < 0) (h6 : -1 ≤ a1) (h7 : a1 ≤ a0) (h8 : -1 ≤ a2) (h9 : a2 ≤ a0) (h10 : -1 ≤ a3) (h11 : a3 ≤ a0) (h12 : a4 < -1) :
    Calls Try.prog 41 #[.agg #[.int .i64 a0, .int .i64 a1, .int .i64 a2, .int .i64 a3, .int .i64 a4]] w fun e w' => e = .returned (.bool false) ∧ Below w.heap.size w w' := by
  have c0 : decide (0 ≤ a0) = true := by simp; omega
  have c1 : decide (a0 ≤ 2147483647) = true := by simp; omega
  have c2 : decide (a2 < 0) = true := by simp; omega
  have c3 : decide (a3 < 0) = true := by simp; omega
  have c4 : decide (a1 < 0) = false := by simp; omega
  have c5 : decide (0 ≤ a4) = false := by simp; omega
  have H0 := Aside0.mk h0
  have H1 := Aside0.mk h1
  have H2 := Aside0.mk h2
  have H3 := Aside0.mk h3
  have H4 := Aside0.mk h4
  have H5 := Aside0.mk h5
  have H6 := Aside0.mk h6
  have H7 := Aside0.mk h7
  have H8 := Aside0.mk h8
  have H9 := Aside0.mk h9
  have H10 := Aside0.mk h10
  have H11 := Aside0.mk h11
  have H12 := Aside0.mk h12
  clear h0 h1 h2 h3 h4 h5 h6 h7 h8 h9 h10 h11 h12
  go_enter Try.func41, Try.ntmps41
  go_wp2
  refine wp_loop_rounds 6 ?_
  rw [rounds_succ]
  go_wp2
  go_quiet ((go_at_call 57; exact Calls.quiet_of_same (spec_in_yes _ _ _ H6.out H7.out _)))
  go_wp2
  rw [rounds_succ]
  go_wp2
  go_quiet ((go_at_call 57; exact quiet_more (spec_in_yes _ _ _ H8.out H9.out _)))
  go_wp2
  rw [rounds_succ]
  go_wp2
  go_quiet ((go_at_call 57; exact quiet_more (spec_in_yes _ _ _ H10.out H11.out _)))
  go_wp2
  rw [rounds_succ]
  go_wp2
  go_quiet ((go_at_call 57; exact quiet_more (spec_in_lo _ _ _ H12.out _)))
  go_wp2
  go_ret
  exact ⟨rfl, by repeat (first | exact Below.refl _ _ | apply below_alloc | apply pw_below_drewN | apply below_drew1)⟩

set_option maxHeartbeats 8000000 in
set_option maxRecDepth 100000 in
theorem spec_SummaryOK.B9 (a0 a1 a2 a3 a4 : Int) (w : World) (h0 : 0 ≤ a0) (h1 : a0 ≤ 2147483647) (h2 : a2 < 0) (h3 : a3 < 0) (h4 : 0 ≤ a1) (h5 : a4 < 0) (h6 : -1 ≤ a1) (h7 : a1 ≤ a0) (h8 : -1 ≤ a2) (h9 : a2 ≤ a0) (h10 : -1 ≤ a3) (h11 : a3 ≤ a0) (h12 : -1 ≤ a4) (h13 : a0 < a4) :
    Calls Try.prog 41 #[.agg #[.int .i64 a0, .int .i64 a1, .int .i64 a2, .int .i64 a3, .int .i64 a4]] w fun e w' => e = .returned (.bool false) ∧ Below w.heap.size w w' := by
  have c0 : decide (0 ≤ a0) = true := by simp; omega
  have c1 : decide (a0 ≤ 2147483647) = true := by simp; omega
  have c2 : decide (a2 < 0) = true := by simp; omega
  have c3 : decide (a3 < 0) = true := by simp; omega
  have c4 : decide (a1 < 0) = false := by simp; omega
  have c5 : decide (0 ≤ a4) = false := by simp; omega
  have H0 := Aside0.mk h0
  have H1 := Aside0.mk h1
  have H2 := Aside0.mk h2
  have H3 := Aside0.mk h3
  have H4 := Aside0.mk h4
  have H5 := Aside0.mk h5
  have H6 := Aside0.mk h6
  have H7 := Aside0.mk h7
  have H8 := Aside0.mk h8
  have H9 := Aside0.mk h9
  have H10 := Aside0.mk h10
  have H11 := Aside0.mk h11
  have H12 := Aside0.mk h12
  have H13 := Aside0.mk h13
  clear h0 h1 h2 h3 h4 h5 h6 h7 h8 h9 h10 h11 h12 h13
  go_enter Try.func41, Try.ntmps41
  go_wp2
  refine wp_loop_rounds 6 ?_
  rw [rounds_succ]
  go_wp2
  go_quiet ((go_at_call 57; exact Calls.quiet_of_same (spec_in_yes _ _ _ H6.out H7.out _)))
  go_wp2
  rw [rounds_succ]
  go_wp2
  go_quiet ((go_at_call 57; exact quiet_more (spec_in_yes _ _ _ H8.out H9.out _)))
  go_wp2
  rw [rounds_succ]
  go_wp2
  go_quiet ((go_at_call 57; exact quiet_more (spec_in_yes _ _ _ H10.out H11.out _)))
  go_wp2
  rw [rounds_succ]
  go_wp2
  go_quiet ((go_at_call 57; exact quiet_more (spec_in_hi _ _ _ H12.out H13.out _)))
  go_wp2
  go_ret
  exact ⟨rfl, by repeat (first | exact Below.refl _ _ | apply below_alloc | apply pw_below_drewN | apply below_drew1)⟩

set_option maxHeartbeats 8000000 in
set_option maxRecDepth 100000 in
theorem spec_SummaryOK.Bok (a0 a1 a2 a3 a4 : Int) (w : World) (h0 : 0 ≤ a0) (h1 : a0 ≤ 2147483647) (h2 : a2 < 0) (h3 : a3 < 0) (h4 : 0 ≤ a1) (h5 : a4 < 0) (h6 : -1 ≤ a1) (h7 : a1 ≤ a0) (h8 : -1 ≤ a2) (h9 : a2 ≤ a0) (h10 : -1 ≤ a3) (h11 : a3 ≤ a0) (h12 : -1 ≤ a4) (h13 : a4 ≤ a0) :
    Calls Try.prog 41 #[.agg #[.int .i64 a0, .int .i64 a1, .int .i64 a2, .int .i64 a3, .int .i64 a4]] w fun e w' => e = .returned (.bool true) ∧ Below w.heap.size w w' := by
  have c0 : decide (0 ≤ a0) = true := by simp; omega
  have c1 : decide (a0 ≤ 2147483647) = true := by simp; omega
  have c2 : decide (a2 < 0) = true := by simp; omega
  have c3 : decide (a3 < 0) = true := by simp; omega
  have c4 : decide (a1 < 0) = false := by simp; omega
  have c5 : decide (0 ≤ a4) = false := by simp; omega
  have H0 := Aside0.mk h0
  have H1 := Aside0.mk h1
  have H2 := Aside0.mk h2
  have H3 := Aside0.mk h3
  have H4 := Aside0.mk h4
  have H5 := Aside0.mk h5
  have H6 := Aside0.mk h6
  have H7 := Aside0.mk h7
  have H8 := Aside0.mk h8
  have H9 := Aside0.mk h9
  have H10 := Aside0.mk h10
  have H11 := Aside0.mk h11
  have H12 := Aside0.mk h12
  have H13 := Aside0.mk h13
  clear h0 h1 h2 h3 h4 h5 h6 h7 h8 h9 h10 h11 h12 h13
  go_enter Try.func41, Try.ntmps41
  go_wp2
  refine wp_loop_rounds 6 ?_
  rw [rounds_succ]
  go_wp2
  go_quiet ((go_at_call 57; exact Calls.quiet_of_same (spec_in_yes _ _ _ H6.out H7.out _)))
  go_wp2
  rw [rounds_succ]
  go_wp2
  go_quiet ((go_at_call 57; exact quiet_more (spec_in_yes _ _ _ H8.out H9.out _)))
  go_wp2
  rw [rounds_succ]
  go_wp2
  go_quiet ((go_at_call 57; exact quiet_more (spec_in_yes _ _ _ H10.out H11.out _)))
  go_wp2
  rw [rounds_succ]
  go_wp2
  go_quiet ((go_at_call 57; exact quiet_more (spec_in_yes _ _ _ H12.out H13.out _)))
  go_wp2
  rw [rounds_succ]
  go_wp2
  go_ret
  exact ⟨rfl, by repeat (first | exact Below.refl _ _ | apply below_alloc | apply pw_below_drewN | apply below_drew1)⟩
theorem spec_SummaryOK.calls (a0 a1 a2 a3 a4 : Int) (r : Bool) (w : World) (h : spec_SummaryOK.f a0 a1 a2 a3 a4 = some r) :
    Calls Try.prog 41 #[.agg #[.int .i64 a0, .int .i64 a1, .int .i64 a2, .int .i64 a3, .int .i64 a4]] w fun e w' => e = .returned (.bool r) ∧ Below w.heap.size w w' := by
  obtain rfl := Option.some.inj h
  clear h
  have no : ∀ (p : ¬ (0 ≤ a0 ∧ a0 ≤ 2147483647 ∧ (-1 ≤ a1 ∧ a1 ≤ a0) ∧ (-1 ≤ a2 ∧ a2 ≤ a0) ∧ (-1 ≤ a3 ∧ a3 ≤ a0) ∧ (-1 ≤ a4 ∧ a4 ≤ a0) ∧ (a2 = -1 ↔ a3 = -1) ∧ (a2 ≠ -1 ∨ (a4 = -1 ∧ a1 ≠ -1)))), sumOKs a0 a1 a2 a3 a4 = false := fun p => decide_eq_false p
  have yes : ∀ (p : (0 ≤ a0 ∧ a0 ≤ 2147483647 ∧ (-1 ≤ a1 ∧ a1 ≤ a0) ∧ (-1 ≤ a2 ∧ a2 ≤ a0) ∧ (-1 ≤ a3 ∧ a3 ≤ a0) ∧ (-1 ≤ a4 ∧ a4 ≤ a0) ∧ (a2 = -1 ↔ a3 = -1) ∧ (a2 ≠ -1 ∨ (a4 = -1 ∧ a1 ≠ -1)))), sumOKs a0 a1 a2 a3 a4 = true := fun p => decide_eq_true p
  by_cases c1 : a0 < 0
  · rw [no (by omega)]; exact spec_SummaryOK.no0 a0 a1 a2 a3 a4 w (by omega)
  by_cases c2 : 2147483647 < a0
  · rw [no (by omega)]; exact spec_SummaryOK.no1 a0 a1 a2 a3 a4 w (by omega)
  by_cases d2 : a2 < 0
  · by_cases d3 : a3 < 0
    · by_cases d1 : a1 < 0
      · rw [no (by omega)]; exact spec_SummaryOK.nz1 a0 a1 a2 a3 a4 w (by omega) (by omega) (by omega) (by omega) (by omega)
      · by_cases d4 : 0 ≤ a4
        · rw [no (by omega)]; exact spec_SummaryOK.nz2 a0 a1 a2 a3 a4 w (by omega) (by omega) (by omega) (by omega) (by omega) (by omega)
        · skip
          by_cases c3 : a1 < -1
          · rw [no (by omega)]; exact spec_SummaryOK.B2 a0 a1 a2 a3 a4 w (by omega) (by omega) (by omega) (by omega) (by omega) (by omega) (by omega)
          by_cases c4 : a0 < a1
          · rw [no (by omega)]; exact spec_SummaryOK.B3 a0 a1 a2 a3 a4 w (by omega) (by omega) (by omega) (by omega) (by omega) (by omega) (by omega) (by omega)
          by_cases c5 : a2 < -1
          · rw [no (by omega)]; exact spec_SummaryOK.B4 a0 a1 a2 a3 a4 w (by omega) (by omega) (by omega) (by omega) (by omega) (by omega) (by omega) (by omega) (by omega)
          by_cases c6 : a0 < a2
          · rw [no (by omega)]; exact spec_SummaryOK.B5 a0 a1 a2 a3 a4 w (by omega) (by omega) (by omega) (by omega) (by omega) (by omega) (by omega) (by omega) (by omega) (by omega)
          by_cases c7 : a3 < -1
          · rw [no (by omega)]; exact spec_SummaryOK.B6 a0 a1 a2 a3 a4 w (by omega) (by omega) (by omega) (by omega) (by omega) (by omega) (by omega) (by omega) (by omega) (by omega) (by omega)
          by_cases c8 : a0 < a3
          · rw [no (by omega)]; exact spec_SummaryOK.B7 a0 a1 a2 a3 a4 w (by omega) (by omega) (by omega) (by omega) (by omega) (by omega) (by omega) (by omega) (by omega) (by omega) (by omega) (by omega)
          by_cases c9 : a4 < -1
          · rw [no (by omega)]; exact spec_SummaryOK.B8 a0 a1 a2 a3 a4 w (by omega) (by omega) (by omega) (by omega) (by omega) (by omega) (by omega) (by omega) (by omega) (by omega) (by omega) (by omega) (by omega)
          by_cases c10 : a0 < a4
          · rw [no (by omega)]; exact spec_SummaryOK.B9 a0 a1 a2 a3 a4 w (by omega) (by omega) (by omega) (by omega) (by omega) (by omega) (by omega) (by omega) (by omega) (by omega) (by omega) (by omega) (by omega) (by omega)
          rw [yes (by omega)]; exact spec_SummaryOK.Bok a0 a1 a2 a3 a4 w (by omega) (by omega) (by omega) (by omega) (by omega) (by omega) (by omega) (by omega) (by omega) (by omega) (by omega) (by omega) (by omega) (by omega)
    · rw [no (by omega)]; exact spec_SummaryOK.nx1 a0 a1 a2 a3 a4 w (by omega) (by omega) (by omega) (by omega)
  · by_cases d3 : a3 < 0
    · rw [no (by omega)]; exact spec_SummaryOK.nx2 a0 a1 a2 a3 a4 w (by omega) (by omega) (by omega) (by omega)
    · skip
      by_cases c11 : a1 < -1
      · rw [no (by omega)]; exact spec_SummaryOK.A2 a0 a1 a2 a3 a4 w (by omega) (by omega) (by omega) (by omega) (by omega)
      by_cases c12 : a0 < a1
      · rw [no (by omega)]; exact spec_SummaryOK.A3 a0 a1 a2 a3 a4 w (by omega) (by omega) (by omega) (by omega) (by omega) (by omega)
      by_cases c13 : a2 < -1
      · rw [no (by omega)]; exact spec_SummaryOK.A4 a0 a1 a2 a3 a4 w (by omega) (by omega) (by omega) (by omega) (by omega) (by omega) (by omega)
      by_cases c14 : a0 < a2
      · rw [no (by omega)]; exact spec_SummaryOK.A5 a0 a1 a2 a3 a4 w (by omega) (by omega) (by omega) (by omega) (by omega) (by omega) (by omega) (by omega)
      by_cases c15 : a3 < -1
      · rw [no (by omega)]; exact spec_SummaryOK.A6 a0 a1 a2 a3 a4 w (by omega) (by omega) (by omega) (by omega) (by omega) (by omega) (by omega) (by omega) (by omega)
      by_cases c16 : a0 < a3
      · rw [no (by omega)]; exact spec_SummaryOK.A7 a0 a1 a2 a3 a4 w (by omega) (by omega) (by omega) (by omega) (by omega) (by omega) (by omega) (by omega) (by omega) (by omega)
      by_cases c17 : a4 < -1
      · rw [no (by omega)]; exact spec_SummaryOK.A8 a0 a1 a2 a3 a4 w (by omega) (by omega) (by omega) (by omega) (by omega) (by omega) (by omega) (by omega) (by omega) (by omega) (by omega)
      by_cases c18 : a0 < a4
      · rw [no (by omega)]; exact spec_SummaryOK.A9 a0 a1 a2 a3 a4 w (by omega) (by omega) (by omega) (by omega) (by omega) (by omega) (by omega) (by omega) (by omega) (by omega) (by omega) (by omega)
      rw [yes (by omega)]; exact spec_SummaryOK.Aok a0 a1 a2 a3 a4 w (by omega) (by omega) (by omega) (by omega) (by omega) (by omega) (by omega) (by omega) (by omega) (by omega) (by omega) (by omega)


end Go.Proofs.Ytagfalmpanlabaa.MFnSummaries
