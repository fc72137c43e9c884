-- By a program of this session.
import Derived.Test.YtkegjmkdnfpfdaaMFnExactCostsOfx0
import Derived.Test.YtkegjmkdnfpfdaaMFnExactCostsOfx41
namespace Go.Proofs.Ytkegjmkdnfpfdaa.MFnExactCostsOf
open Go.RowKit Go.Proofs.YtkegjmkdnfpfdaaW.PrintWords Go.Proofs.YtkegjmkdnfpfdaaW.PrintLast Go.Proofs.YtkegjmkdnfpfdaaW.PrintMore
attribute [local go_sem] max2_int min2_int max_two min_two max_three min_three max_four min_four
set_option linter.unusedVariables false
set_option linter.unusedSimpArgs false
set_option maxHeartbeats 8000000
set_option maxRecDepth 100000

/-! ### laws_eqSummaryS: function 45 -/
def laws_eqSummaryS.l0 : Nat → List (S144) → List (S144) → Int → Option (Bool)
 | 0, _, _, _ => none
 | k + 1, x0, x1, x5 => if x5 < (x0.length : Int) then (if 0 ≤ x5 then (if x5 < (x1.length : Int) then ((laws_eqSummary.f ((rd_T144 x0 x5).f0) ((rd_T144 x0 x5).f1) ((rd_T144 x0 x5).f2) ((rd_T144 x0 x5).f3) ((rd_T144 x0 x5).f4) ((rd_T144 x1 x5).f0) ((rd_T144 x1 x5).f1) ((rd_T144 x1 x5).f2) ((rd_T144 x1 x5).f3) ((rd_T144 x1 x5).f4)).bind fun t595 => (if t595 = true then (laws_eqSummaryS.l0 k x0 x1 (wrap64 (x5 + 1))) else (some false))) else (none)) else (none)) else (some true)
def laws_eqSummaryS.f (k : Nat) (l0 : List (S144)) (l1 : List (S144)) : Option (Bool) := if (l0.length : Int) = (l1.length : Int) then (laws_eqSummaryS.l0 k l0 l1 0) else (some false)
theorem laws_eqSummaryS.mono_l : ∀ k, (∀ y0 y1 y2, LeO (laws_eqSummaryS.l0 k y0 y1 y2) (laws_eqSummaryS.l0 (k + 1) y0 y1 y2))
 | 0 => fun _ _ _ r h => by simp [laws_eqSummaryS.l0] at h
 | k + 1 => by
  have ih0 := laws_eqSummaryS.mono_l k
  ·intro y0 y1 y2
   unfold laws_eqSummaryS.l0
   repeat' first
   | (with_reducible exact ih0 _ _ _)
   | (with_reducible exact LeO.refl _)
   | (with_reducible exact LeO.none _)
   | (with_reducible refine LeO.ite ?_ ?_)
   | (with_reducible refine LeO.bind ?_ (fun _ => ?_))
theorem laws_eqSummaryS.mono : ∀ a0 a1 k, LeO (laws_eqSummaryS.f k a0 a1) (laws_eqSummaryS.f (k + 1) a0 a1) := by
 intro a0 a1 k
 have ih0 := laws_eqSummaryS.mono_l k
 unfold laws_eqSummaryS.f
 repeat' first
  | (with_reducible exact ih0 _ _ _)
  | (with_reducible exact LeO.refl _)
  | (with_reducible exact LeO.none _)
  | (with_reducible refine LeO.ite ?_ ?_)
  | (with_reducible refine LeO.bind ?_ (fun _ => ?_))
def laws_eqSummaryS.T6 : Bool × List (List Nat × List Nat) := (true, [([], []), ([], []), ([0, 1], [0, 1]), ([2], [2]), ([], []), ([], []), ([4, 5], [4, 5]), ([6], [6]), ([3, 7], [3, 7]), ([8], [8])])
def laws_eqSummaryS.B6 : List Nat := [0, 0, 3, 7, 0, 0, 48, 112, 255, 511]
theorem laws_eqSummaryS.tab6 : rtab .any (opsOf Try.f45 6) = laws_eqSummaryS.T6 := by kernel_rfl
theorem laws_eqSummaryS.bits6 : waitsOk laws_eqSummaryS.T6.2 laws_eqSummaryS.B6 = true := by kernel_rfl
theorem laws_eqSummaryS.calls (k : Nat) (A0 : Option Addr) (c0 : Nat) (l0 : List (S144)) (A1 : Option Addr) (c1 : Nat) (l1 : List (S144)) (r : Bool) (w : World) (hr0 : Kd.C k144 w A0 l0.length l0) (hc0 : l0.length ≤ c0) (hr1 : Kd.C k144 w A1 l1.length l1) (hc1 : l1.length ≤ c1) (h : laws_eqSummaryS.f k l0 l1 = some r) :
 Calls Try.prog 45 #[.slice A0 l0.length c0, .slice A1 l1.length c1] w fun e w' => e = .returned (.bool r) ∧ Below w.heap.size w w' := by
 have hu144 := Try.underlying144
 have HR0 := zQ hr0
 have HC0 := zQ hc0
 clear hr0 hc0
 have HR1 := zQ hr1
 have HC1 := zQ hc1
 clear hr1 hc1
 have HB := zQ (Below.refl w.heap.size w)
 have H : (if (l0.length : Int) = (l1.length : Int) then (laws_eqSummaryS.l0 k l0 l1 0) else (some false)) = some r := h
 clear h
 by_cases c3 : (l0.length : Int) = (l1.length : Int)
 ·rw [if_pos c3] at H
  have c3b0 : ((l0.length : Int) == (l1.length : Int)) = true := beq_iff_eq.mpr c3
  have c3b1 : ((l0.length : Int) != (l1.length : Int)) = false := bne_eq_false_iff_eq.mpr c3
  have c3b2 : (l0.length == l1.length) = true := by first | simpa using c3 | (simp at c3 ⊢; omega)
  clear c3
  have H' := zQ H
  clear H
  go_enter Try.func45, Try.ntmps45
  go_wp2
  go_loopg [5] k (fun kq v5 w' => ∃ (x5_1 : Int), v5 = .int .i64 x5_1 ∧ Aside0 (laws_eqSummaryS.l0 kq l0 l1 x5_1 = some r) ∧ Aside0 (kq ≤ k) ∧ Aside0 (Below w.heap.size w w'))
  case atStart => exact ⟨(0), (by first | rfl | (simp; done) | (simp [*]; done)), H', ⟨Nat.le_refl _⟩, ⟨zB HB.out⟩⟩
  case round =>
   clear H'
   try clear c1
   try clear p2
   try clear c3
   try clear c3b0
   try clear c3b1
   try clear c3b2
   obtain ⟨x5_1, rfl, HA, HK1, HB⟩ := hrel
   cases gk with
   | zero => exact absurd HA.out (by simp [laws_eqSummaryS.l0])
   | succ k1 =>
    have H := HA.out
    clear HA
    simp only [laws_eqSummaryS.l0] at H
    by_cases c4 : x5_1 < (l0.length : Int)
    ·rw [if_pos c4] at H
     have c4b0 : decide (x5_1 < (l0.length : Int)) = true := decide_eq_true c4
     clear c4
     by_cases c5 : 0 ≤ x5_1
     ·rw [if_pos c5] at H
      have c5b0 : decide (0 ≤ x5_1) = true := decide_eq_true c5
      clear c5
      by_cases c6 : x5_1 < (l1.length : Int)
      ·rw [if_pos c6] at H
       have c6b0 : decide (x5_1 < (l1.length : Int)) = true := decide_eq_true c6
       clear c6
       replace H := Option.bind_eq_some_iff.mp H
       obtain ⟨t595, A70, H⟩ := H
       replace H : (if t595 = true then (laws_eqSummaryS.l0 k1 l0 l1 (wrap64 (x5_1 + 1))) else (some false)) = some r := H
       have A7 := zQ A70
       clear A70
       by_cases c8 : t595 = true
       ·subst c8
        have H1 : (laws_eqSummaryS.l0 k1 l0 l1 (wrap64 (x5_1 + 1))) = some r := by rw [if_pos rfl] at H; exact H
        clear H
        have H := H1
        clear H1
        have H' := zQ H
        clear H
        try go_wp2
        have n0_ := zQ (below_drew1 HB.out)
        clear HB
        have HB := n0_
        clear n0_
        have p593 : 0 ≤ (x5_1 : Int) := zA
        have q593 : x5_1 < (l0.length : Int) := zA
        obtain ⟨ad593, e593, hx593_0, hx593_1, hx593_2, hx593_3, hx593_4⟩ := at_T144 HR0.out x5_1 p593 q593
        have hw593_4 := hx593_4
        have hw593_3 := hx593_3
        have hw593_2 := hx593_2
        have hw593_1 := hx593_1
        have hw593_0 := hx593_0
        cases e593
        replace hx593_0 := zX HB.out hx593_0
        replace hx593_1 := zX HB.out hx593_1
        replace hx593_2 := zX HB.out hx593_2
        replace hx593_3 := zX HB.out hx593_3
        replace hx593_4 := zX HB.out hx593_4
        replace p593 := eq_true p593
        replace q593 := eq_true q593
        have p594 : 0 ≤ (x5_1 : Int) := zA
        have q594 : x5_1 < (l1.length : Int) := zA
        obtain ⟨ad594, e594, hx594_0, hx594_1, hx594_2, hx594_3, hx594_4⟩ := at_T144 HR1.out x5_1 p594 q594
        have hw594_4 := hx594_4
        have hw594_3 := hx594_3
        have hw594_2 := hx594_2
        have hw594_1 := hx594_1
        have hw594_0 := hx594_0
        cases e594
        replace hx594_0 := zX HB.out hx594_0
        replace hx594_1 := zX HB.out hx594_1
        replace hx594_2 := zX HB.out hx594_2
        replace hx594_3 := zX HB.out hx594_3
        replace hx594_4 := zX HB.out hx594_4
        replace p594 := eq_true p594
        replace q594 := eq_true q594
        refine start_ (n := 10) (S := fun w' => w'.cell? (ad593.add ((x5_1).toNat * 5)) = some (.int .i64 ((rd_T144 l0 x5_1).f0)) ∧ w'.cell? ⟨(ad593.add ((x5_1).toNat * 5)).block, (ad593.add ((x5_1).toNat * 5)).off + 1, none⟩ = some (.int .i64 ((rd_T144 l0 x5_1).f1)) ∧ w'.cell? ⟨(ad593.add ((x5_1).toNat * 5)).block, (ad593.add ((x5_1).toNat * 5)).off + 2, none⟩ = some (.int .i64 ((rd_T144 l0 x5_1).f2)) ∧ w'.cell? ⟨(ad593.add ((x5_1).toNat * 5)).block, (ad593.add ((x5_1).toNat * 5)).off + 3, none⟩ = some (.int .i64 ((rd_T144 l0 x5_1).f3)) ∧ w'.cell? ⟨(ad593.add ((x5_1).toNat * 5)).block, (ad593.add ((x5_1).toNat * 5)).off + 4, none⟩ = some (.int .i64 ((rd_T144 l0 x5_1).f4)) ∧ w'.cell? (ad594.add ((x5_1).toNat * 5)) = some (.int .i64 ((rd_T144 l1 x5_1).f0)) ∧ w'.cell? ⟨(ad594.add ((x5_1).toNat * 5)).block, (ad594.add ((x5_1).toNat * 5)).off + 1, none⟩ = some (.int .i64 ((rd_T144 l1 x5_1).f1)) ∧ w'.cell? ⟨(ad594.add ((x5_1).toNat * 5)).block, (ad594.add ((x5_1).toNat * 5)).off + 2, none⟩ = some (.int .i64 ((rd_T144 l1 x5_1).f2)) ∧ w'.cell? ⟨(ad594.add ((x5_1).toNat * 5)).block, (ad594.add ((x5_1).toNat * 5)).off + 3, none⟩ = some (.int .i64 ((rd_T144 l1 x5_1).f3)) ∧ w'.cell? ⟨(ad594.add ((x5_1).toNat * 5)).block, (ad594.add ((x5_1).toNat * 5)).off + 4, none⟩ = some (.int .i64 ((rd_T144 l1 x5_1).f4))) (ds := []) #[false, false, false, false, false, false, false, false, false, false] (by kernel_rfl) rfl rfl ⟨((HB.out.cell (World.block_lt_of_cell? w _ hw593_0)).trans hw593_0), ((HB.out.cell (World.block_lt_of_cell? w _ hw593_1)).trans hw593_1), ((HB.out.cell (World.block_lt_of_cell? w _ hw593_2)).trans hw593_2), ((HB.out.cell (World.block_lt_of_cell? w _ hw593_3)).trans hw593_3), ((HB.out.cell (World.block_lt_of_cell? w _ hw593_4)).trans hw593_4), ((HB.out.cell (World.block_lt_of_cell? w _ hw594_0)).trans hw594_0), ((HB.out.cell (World.block_lt_of_cell? w _ hw594_1)).trans hw594_1), ((HB.out.cell (World.block_lt_of_cell? w _ hw594_2)).trans hw594_2), ((HB.out.cell (World.block_lt_of_cell? w _ hw594_3)).trans hw594_3), ((HB.out.cell (World.block_lt_of_cell? w _ hw594_4)).trans hw594_4)⟩ (fun hHeld => ?_); refine with_tabW laws_eqSummaryS.tab6 laws_eqSummaryS.bits6 (fun HT_ HW_ => ?_)
        generalize wr.drew = w9 at HB hx593_0 hx593_1 hx593_2 hx593_3 hx593_4 hx594_0 hx594_1 hx594_2 hx594_3 hx594_4 hHeld ⊢
        refine pure_ (i := 0) (N := some 17) (v := ?_) (a' := ?_) #[true, false, false, false, false, false, false, false, false, false] rfl rfl (any_of HT_.out (by kernel_rfl)) (fun _ _ _ h => h) (Or.inl ⟨by rfl, ?_⟩) ?_ ?_
        rotate_left
        ·intro w'
         go_simp
         with_reducible rfl
        rotate_left
        ·simp only [Act.put, List.setIfInBounds_toArray, List.set_cons_zero, List.set_cons_succ, i64_w, i32_w]
         rfl
        refine pure_ (i := 1) (N := some 18) (v := ?_) (a' := ?_) #[true, true, false, false, false, false, false, false, false, false] rfl rfl (any_of HT_.out (by kernel_rfl)) (fun _ _ _ h => h) (Or.inl ⟨by rfl, ?_⟩) ?_ ?_
        rotate_left
        ·intro w'
         go_simp
         with_reducible rfl
        rotate_left
        ·simp only [Act.put, List.setIfInBounds_toArray, List.set_cons_zero, List.set_cons_succ, i64_w, i32_w]
         rfl
        refine pure_ (i := 2) (N := some 19) (v := ?_) (a' := ?_) #[true, true, true, false, false, false, false, false, false, false] rfl rfl (any_of HT_.out (by kernel_rfl)) (fun _ _ _ h => h) (Or.inl ⟨by rfl, ?_⟩) ?_ ?_
        rotate_left
        ·intro w'
         go_simp
         with_reducible rfl
        rotate_left
        ·simp only [Act.put, List.setIfInBounds_toArray, List.set_cons_zero, List.set_cons_succ, i64_w, i32_w]
         rfl
        refine pure_ (i := 4) (N := some 21) (v := ?_) (a' := ?_) #[true, true, true, false, true, false, false, false, false, false] rfl rfl (any_of HT_.out (by kernel_rfl)) (fun _ _ _ h => h) (Or.inl ⟨by rfl, ?_⟩) ?_ ?_
        rotate_left
        ·intro w'
         go_simp
         with_reducible rfl
        rotate_left
        ·simp only [Act.put, List.setIfInBounds_toArray, List.set_cons_zero, List.set_cons_succ, i64_w, i32_w]
         rfl
        refine pure_ (i := 5) (N := some 22) (v := ?_) (a' := ?_) #[true, true, true, false, true, true, false, false, false, false] rfl rfl (any_of HT_.out (by kernel_rfl)) (fun _ _ _ h => h) (Or.inl ⟨by rfl, ?_⟩) ?_ ?_
        rotate_left
        ·intro w'
         go_simp
         with_reducible rfl
        rotate_left
        ·simp only [Act.put, List.setIfInBounds_toArray, List.set_cons_zero, List.set_cons_succ, i64_w, i32_w]
         rfl
        refine pure_ (i := 6) (N := some 23) (v := ?_) (a' := ?_) #[true, true, true, false, true, true, true, false, false, false] rfl rfl (any_of HT_.out (by kernel_rfl)) (fun _ _ _ h => h) (Or.inl ⟨by rfl, ?_⟩) ?_ ?_
        rotate_left
        ·intro w'
         go_simp
         with_reducible rfl
        rotate_left
        ·simp only [Act.put, List.setIfInBounds_toArray, List.set_cons_zero, List.set_cons_succ, i64_w, i32_w]
         rfl
        refine take_ (i := 3) (N := some 20) (v := ?_) (a' := ?_) #[true, true, true, true, true, true, true, false, false, false] rfl rfl (take_ofW HT_.out HW_.out (by kernel_rfl)) (fun _ _ _ h => h) (Or.inl ⟨by rfl, ?_⟩) hHeld ?_ ?_
        rotate_left
        ·rintro w' ⟨s0, s1, s2, s3, s4, s5, s6, s7, s8, s9⟩
         go_simp
         with_reducible rfl
        rotate_left
        ·simp only [Act.put, List.setIfInBounds_toArray, List.set_cons_zero, List.set_cons_succ, i64_w, i32_w]
         rfl
        refine take_ (i := 7) (N := some 24) (v := ?_) (a' := ?_) #[true, true, true, true, true, true, true, true, false, false] rfl rfl (take_ofW HT_.out HW_.out (by kernel_rfl)) (fun _ _ _ h => h) (Or.inl ⟨by rfl, ?_⟩) hHeld ?_ ?_
        rotate_left
        ·rintro w' ⟨s0, s1, s2, s3, s4, s5, s6, s7, s8, s9⟩
         go_simp
         with_reducible rfl
        rotate_left
        ·simp only [Act.put, List.setIfInBounds_toArray, List.set_cons_zero, List.set_cons_succ, i64_w, i32_w]
         rfl
        refine one_ (i := 8) (N := some 25) #[true, true, true, true, true, true, true, true, true, false] rfl rfl (one_of HT_.out (by kernel_rfl)) (by decide) (fun K hK => ?_)
        refine goes_ Try.func106 (by kernel_rfl) rfl #[.agg #[.int .i64 ((rd_T144 l0 x5_1).f0), .int .i64 ((rd_T144 l0 x5_1).f1), .int .i64 ((rd_T144 l0 x5_1).f2), .int .i64 ((rd_T144 l0 x5_1).f3), .int .i64 ((rd_T144 l0 x5_1).f4)], .agg #[.int .i64 ((rd_T144 l1 x5_1).f0), .int .i64 ((rd_T144 l1 x5_1).f1), .int .i64 ((rd_T144 l1 x5_1).f2), .int .i64 ((rd_T144 l1 x5_1).f3), .int .i64 ((rd_T144 l1 x5_1).f4)]] (by rfl) rfl rfl zS ?_
        with_reducible refine (laws_eqSummary.calls ((rd_T144 l0 x5_1).f0) ((rd_T144 l0 x5_1).f1) ((rd_T144 l0 x5_1).f2) ((rd_T144 l0 x5_1).f3) ((rd_T144 l0 x5_1).f4) ((rd_T144 l1 x5_1).f0) ((rd_T144 l1 x5_1).f1) ((rd_T144 l1 x5_1).f2) ((rd_T144 l1 x5_1).f3) ((rd_T144 l1 x5_1).f4) true _ A7.out).mono ?_
        rintro e w10 ⟨rfl, hb⟩
        refine ⟨_, rfl, ?_⟩
        have n0_ := zQ (below_step (zB HB.out) hb)
        clear HB
        have HB := n0_
        clear n0_
        (try clear hb)
        (try clear hb2)
        (try clear hk)
        (try clear hi)
        refine hK.out _ _ ⟨((HB.out.cell (World.block_lt_of_cell? w _ hw593_0)).trans hw593_0), ((HB.out.cell (World.block_lt_of_cell? w _ hw593_1)).trans hw593_1), ((HB.out.cell (World.block_lt_of_cell? w _ hw593_2)).trans hw593_2), ((HB.out.cell (World.block_lt_of_cell? w _ hw593_3)).trans hw593_3), ((HB.out.cell (World.block_lt_of_cell? w _ hw593_4)).trans hw593_4), ((HB.out.cell (World.block_lt_of_cell? w _ hw594_0)).trans hw594_0), ((HB.out.cell (World.block_lt_of_cell? w _ hw594_1)).trans hw594_1), ((HB.out.cell (World.block_lt_of_cell? w _ hw594_2)).trans hw594_2), ((HB.out.cell (World.block_lt_of_cell? w _ hw594_3)).trans hw594_3), ((HB.out.cell (World.block_lt_of_cell? w _ hw594_4)).trans hw594_4)⟩ (fun hHeld => ?_)
        clear hK K
        refine norm_ (a' := ?_) ?_ ?_
        rotate_left
        ·show Act.put _ (some 25) _ = _
         simp only [Act.put, List.setIfInBounds_toArray, List.set_cons_zero, List.set_cons_succ, i64_w, i32_w]
         rfl
        refine pure_ (i := 9) (N := some 26) (v := ?_) (a' := ?_) #[true, true, true, true, true, true, true, true, true, true] rfl rfl (any_of HT_.out (by kernel_rfl)) (fun _ _ _ h => h) (Or.inl ⟨by rfl, ?_⟩) ?_ ?_
        rotate_left
        ·intro w'
         go_simp
         with_reducible rfl
        rotate_left
        ·simp only [Act.put, List.setIfInBounds_toArray, List.set_cons_zero, List.set_cons_succ, i64_w, i32_w]
         rfl
        refine done_ (done_of HT_.out (by kernel_rfl)) ?_
        try go_wp2
        go_roundg k1
        case measure => have := HK1.out; omega
        case rel => exact ⟨(wrap64 (x5_1 + 1)), (by first | rfl | (simp; done) | (simp [*]; done)), H', ⟨by have := HK1.out; omega⟩, ⟨zB HB.out⟩⟩
       ·replace c8 := Bool.eq_false_iff.mpr c8
        subst c8
        have H1 : (some false) = some r := by rw [if_neg (show ¬ (false = true) by decide)] at H; exact H
        clear H
        have H := H1
        clear H1
        obtain rfl := Option.some.inj H
        try go_wp2
        have n0_ := zQ (below_drew1 HB.out)
        clear HB
        have HB := n0_
        clear n0_
        have p593 : 0 ≤ (x5_1 : Int) := zA
        have q593 : x5_1 < (l0.length : Int) := zA
        obtain ⟨ad593, e593, hx593_0, hx593_1, hx593_2, hx593_3, hx593_4⟩ := at_T144 HR0.out x5_1 p593 q593
        have hw593_4 := hx593_4
        have hw593_3 := hx593_3
        have hw593_2 := hx593_2
        have hw593_1 := hx593_1
        have hw593_0 := hx593_0
        cases e593
        replace hx593_0 := zX HB.out hx593_0
        replace hx593_1 := zX HB.out hx593_1
        replace hx593_2 := zX HB.out hx593_2
        replace hx593_3 := zX HB.out hx593_3
        replace hx593_4 := zX HB.out hx593_4
        replace p593 := eq_true p593
        replace q593 := eq_true q593
        have p594 : 0 ≤ (x5_1 : Int) := zA
        have q594 : x5_1 < (l1.length : Int) := zA
        obtain ⟨ad594, e594, hx594_0, hx594_1, hx594_2, hx594_3, hx594_4⟩ := at_T144 HR1.out x5_1 p594 q594
        have hw594_4 := hx594_4
        have hw594_3 := hx594_3
        have hw594_2 := hx594_2
        have hw594_1 := hx594_1
        have hw594_0 := hx594_0
        cases e594
        replace hx594_0 := zX HB.out hx594_0
        replace hx594_1 := zX HB.out hx594_1
        replace hx594_2 := zX HB.out hx594_2
        replace hx594_3 := zX HB.out hx594_3
        replace hx594_4 := zX HB.out hx594_4
        replace p594 := eq_true p594
        replace q594 := eq_true q594
        refine start_ (n := 10) (S := fun w' => w'.cell? (ad593.add ((x5_1).toNat * 5)) = some (.int .i64 ((rd_T144 l0 x5_1).f0)) ∧ w'.cell? ⟨(ad593.add ((x5_1).toNat * 5)).block, (ad593.add ((x5_1).toNat * 5)).off + 1, none⟩ = some (.int .i64 ((rd_T144 l0 x5_1).f1)) ∧ w'.cell? ⟨(ad593.add ((x5_1).toNat * 5)).block, (ad593.add ((x5_1).toNat * 5)).off + 2, none⟩ = some (.int .i64 ((rd_T144 l0 x5_1).f2)) ∧ w'.cell? ⟨(ad593.add ((x5_1).toNat * 5)).block, (ad593.add ((x5_1).toNat * 5)).off + 3, none⟩ = some (.int .i64 ((rd_T144 l0 x5_1).f3)) ∧ w'.cell? ⟨(ad593.add ((x5_1).toNat * 5)).block, (ad593.add ((x5_1).toNat * 5)).off + 4, none⟩ = some (.int .i64 ((rd_T144 l0 x5_1).f4)) ∧ w'.cell? (ad594.add ((x5_1).toNat * 5)) = some (.int .i64 ((rd_T144 l1 x5_1).f0)) ∧ w'.cell? ⟨(ad594.add ((x5_1).toNat * 5)).block, (ad594.add ((x5_1).toNat * 5)).off + 1, none⟩ = some (.int .i64 ((rd_T144 l1 x5_1).f1)) ∧ w'.cell? ⟨(ad594.add ((x5_1).toNat * 5)).block, (ad594.add ((x5_1).toNat * 5)).off + 2, none⟩ = some (.int .i64 ((rd_T144 l1 x5_1).f2)) ∧ w'.cell? ⟨(ad594.add ((x5_1).toNat * 5)).block, (ad594.add ((x5_1).toNat * 5)).off + 3, none⟩ = some (.int .i64 ((rd_T144 l1 x5_1).f3)) ∧ w'.cell? ⟨(ad594.add ((x5_1).toNat * 5)).block, (ad594.add ((x5_1).toNat * 5)).off + 4, none⟩ = some (.int .i64 ((rd_T144 l1 x5_1).f4))) (ds := []) #[false, false, false, false, false, false, false, false, false, false] (by kernel_rfl) rfl rfl ⟨((HB.out.cell (World.block_lt_of_cell? w _ hw593_0)).trans hw593_0), ((HB.out.cell (World.block_lt_of_cell? w _ hw593_1)).trans hw593_1), ((HB.out.cell (World.block_lt_of_cell? w _ hw593_2)).trans hw593_2), ((HB.out.cell (World.block_lt_of_cell? w _ hw593_3)).trans hw593_3), ((HB.out.cell (World.block_lt_of_cell? w _ hw593_4)).trans hw593_4), ((HB.out.cell (World.block_lt_of_cell? w _ hw594_0)).trans hw594_0), ((HB.out.cell (World.block_lt_of_cell? w _ hw594_1)).trans hw594_1), ((HB.out.cell (World.block_lt_of_cell? w _ hw594_2)).trans hw594_2), ((HB.out.cell (World.block_lt_of_cell? w _ hw594_3)).trans hw594_3), ((HB.out.cell (World.block_lt_of_cell? w _ hw594_4)).trans hw594_4)⟩ (fun hHeld => ?_); refine with_tabW laws_eqSummaryS.tab6 laws_eqSummaryS.bits6 (fun HT_ HW_ => ?_)
        generalize wr.drew = w11 at HB hx593_0 hx593_1 hx593_2 hx593_3 hx593_4 hx594_0 hx594_1 hx594_2 hx594_3 hx594_4 hHeld ⊢
        refine pure_ (i := 0) (N := some 17) (v := ?_) (a' := ?_) #[true, false, false, false, false, false, false, false, false, false] rfl rfl (any_of HT_.out (by kernel_rfl)) (fun _ _ _ h => h) (Or.inl ⟨by rfl, ?_⟩) ?_ ?_
        rotate_left
        ·intro w'
         go_simp
         with_reducible rfl
        rotate_left
        ·simp only [Act.put, List.setIfInBounds_toArray, List.set_cons_zero, List.set_cons_succ, i64_w, i32_w]
         rfl
        refine pure_ (i := 1) (N := some 18) (v := ?_) (a' := ?_) #[true, true, false, false, false, false, false, false, false, false] rfl rfl (any_of HT_.out (by kernel_rfl)) (fun _ _ _ h => h) (Or.inl ⟨by rfl, ?_⟩) ?_ ?_
        rotate_left
        ·intro w'
         go_simp
         with_reducible rfl
        rotate_left
        ·simp only [Act.put, List.setIfInBounds_toArray, List.set_cons_zero, List.set_cons_succ, i64_w, i32_w]
         rfl
        refine pure_ (i := 2) (N := some 19) (v := ?_) (a' := ?_) #[true, true, true, false, false, false, false, false, false, false] rfl rfl (any_of HT_.out (by kernel_rfl)) (fun _ _ _ h => h) (Or.inl ⟨by rfl, ?_⟩) ?_ ?_
        rotate_left
        ·intro w'
         go_simp
         with_reducible rfl
        rotate_left
        ·simp only [Act.put, List.setIfInBounds_toArray, List.set_cons_zero, List.set_cons_succ, i64_w, i32_w]
         rfl
        refine pure_ (i := 4) (N := some 21) (v := ?_) (a' := ?_) #[true, true, true, false, true, false, false, false, false, false] rfl rfl (any_of HT_.out (by kernel_rfl)) (fun _ _ _ h => h) (Or.inl ⟨by rfl, ?_⟩) ?_ ?_
        rotate_left
        ·intro w'
         go_simp
         with_reducible rfl
        rotate_left
        ·simp only [Act.put, List.setIfInBounds_toArray, List.set_cons_zero, List.set_cons_succ, i64_w, i32_w]
         rfl
        refine pure_ (i := 5) (N := some 22) (v := ?_) (a' := ?_) #[true, true, true, false, true, true, false, false, false, false] rfl rfl (any_of HT_.out (by kernel_rfl)) (fun _ _ _ h => h) (Or.inl ⟨by rfl, ?_⟩) ?_ ?_
        rotate_left
        ·intro w'
         go_simp
         with_reducible rfl
        rotate_left
        ·simp only [Act.put, List.setIfInBounds_toArray, List.set_cons_zero, List.set_cons_succ, i64_w, i32_w]
         rfl
        refine pure_ (i := 6) (N := some 23) (v := ?_) (a' := ?_) #[true, true, true, false, true, true, true, false, false, false] rfl rfl (any_of HT_.out (by kernel_rfl)) (fun _ _ _ h => h) (Or.inl ⟨by rfl, ?_⟩) ?_ ?_
        rotate_left
        ·intro w'
         go_simp
         with_reducible rfl
        rotate_left
        ·simp only [Act.put, List.setIfInBounds_toArray, List.set_cons_zero, List.set_cons_succ, i64_w, i32_w]
         rfl
        refine take_ (i := 3) (N := some 20) (v := ?_) (a' := ?_) #[true, true, true, true, true, true, true, false, false, false] rfl rfl (take_ofW HT_.out HW_.out (by kernel_rfl)) (fun _ _ _ h => h) (Or.inl ⟨by rfl, ?_⟩) hHeld ?_ ?_
        rotate_left
        ·rintro w' ⟨s0, s1, s2, s3, s4, s5, s6, s7, s8, s9⟩
         go_simp
         with_reducible rfl
        rotate_left
        ·simp only [Act.put, List.setIfInBounds_toArray, List.set_cons_zero, List.set_cons_succ, i64_w, i32_w]
         rfl
        refine take_ (i := 7) (N := some 24) (v := ?_) (a' := ?_) #[true, true, true, true, true, true, true, true, false, false] rfl rfl (take_ofW HT_.out HW_.out (by kernel_rfl)) (fun _ _ _ h => h) (Or.inl ⟨by rfl, ?_⟩) hHeld ?_ ?_
        rotate_left
        ·rintro w' ⟨s0, s1, s2, s3, s4, s5, s6, s7, s8, s9⟩
         go_simp
         with_reducible rfl
        rotate_left
        ·simp only [Act.put, List.setIfInBounds_toArray, List.set_cons_zero, List.set_cons_succ, i64_w, i32_w]
         rfl
        refine one_ (i := 8) (N := some 25) #[true, true, true, true, true, true, true, true, true, false] rfl rfl (one_of HT_.out (by kernel_rfl)) (by decide) (fun K hK => ?_)
        refine goes_ Try.func106 (by kernel_rfl) rfl #[.agg #[.int .i64 ((rd_T144 l0 x5_1).f0), .int .i64 ((rd_T144 l0 x5_1).f1), .int .i64 ((rd_T144 l0 x5_1).f2), .int .i64 ((rd_T144 l0 x5_1).f3), .int .i64 ((rd_T144 l0 x5_1).f4)], .agg #[.int .i64 ((rd_T144 l1 x5_1).f0), .int .i64 ((rd_T144 l1 x5_1).f1), .int .i64 ((rd_T144 l1 x5_1).f2), .int .i64 ((rd_T144 l1 x5_1).f3), .int .i64 ((rd_T144 l1 x5_1).f4)]] (by rfl) rfl rfl zS ?_
        with_reducible refine (laws_eqSummary.calls ((rd_T144 l0 x5_1).f0) ((rd_T144 l0 x5_1).f1) ((rd_T144 l0 x5_1).f2) ((rd_T144 l0 x5_1).f3) ((rd_T144 l0 x5_1).f4) ((rd_T144 l1 x5_1).f0) ((rd_T144 l1 x5_1).f1) ((rd_T144 l1 x5_1).f2) ((rd_T144 l1 x5_1).f3) ((rd_T144 l1 x5_1).f4) false _ A7.out).mono ?_
        rintro e w12 ⟨rfl, hb⟩
        refine ⟨_, rfl, ?_⟩
        have n0_ := zQ (below_step (zB HB.out) hb)
        clear HB
        have HB := n0_
        clear n0_
        (try clear hb)
        (try clear hb2)
        (try clear hk)
        (try clear hi)
        refine hK.out _ _ ⟨((HB.out.cell (World.block_lt_of_cell? w _ hw593_0)).trans hw593_0), ((HB.out.cell (World.block_lt_of_cell? w _ hw593_1)).trans hw593_1), ((HB.out.cell (World.block_lt_of_cell? w _ hw593_2)).trans hw593_2), ((HB.out.cell (World.block_lt_of_cell? w _ hw593_3)).trans hw593_3), ((HB.out.cell (World.block_lt_of_cell? w _ hw593_4)).trans hw593_4), ((HB.out.cell (World.block_lt_of_cell? w _ hw594_0)).trans hw594_0), ((HB.out.cell (World.block_lt_of_cell? w _ hw594_1)).trans hw594_1), ((HB.out.cell (World.block_lt_of_cell? w _ hw594_2)).trans hw594_2), ((HB.out.cell (World.block_lt_of_cell? w _ hw594_3)).trans hw594_3), ((HB.out.cell (World.block_lt_of_cell? w _ hw594_4)).trans hw594_4)⟩ (fun hHeld => ?_)
        clear hK K
        refine norm_ (a' := ?_) ?_ ?_
        rotate_left
        ·show Act.put _ (some 25) _ = _
         simp only [Act.put, List.setIfInBounds_toArray, List.set_cons_zero, List.set_cons_succ, i64_w, i32_w]
         rfl
        refine pure_ (i := 9) (N := some 26) (v := ?_) (a' := ?_) #[true, true, true, true, true, true, true, true, true, true] rfl rfl (any_of HT_.out (by kernel_rfl)) (fun _ _ _ h => h) (Or.inl ⟨by rfl, ?_⟩) ?_ ?_
        rotate_left
        ·intro w'
         go_simp
         with_reducible rfl
        rotate_left
        ·simp only [Act.put, List.setIfInBounds_toArray, List.set_cons_zero, List.set_cons_succ, i64_w, i32_w]
         rfl
        refine done_ (done_of HT_.out (by kernel_rfl)) ?_
        try go_wp2
        go_ret
        exact ⟨by first | rfl | (simp [errW_none, errW_some] <;> rfl) | (simp [*, errW_none, errW_some] <;> rfl), zB HB.out⟩
      ·rw [if_neg c6] at H
       exact absurd H (by simp)
     ·rw [if_neg c5] at H
      exact absurd H (by simp)
    ·rw [if_neg c4] at H
     have c4b0 : decide (x5_1 < (l0.length : Int)) = false := decide_eq_false c4
     clear c4
     obtain rfl := Option.some.inj H
     go_wp2
     go_ret
     exact ⟨by first | rfl | (simp [errW_none, errW_some] <;> rfl) | (simp [*, errW_none, errW_some] <;> rfl), zB HB.out⟩
 ·rw [if_neg c3] at H
  have c3b0 : ((l0.length : Int) == (l1.length : Int)) = false := beq_eq_false_iff_ne.mpr c3
  have c3b1 : ((l0.length : Int) != (l1.length : Int)) = true := bne_iff_ne.mpr c3
  have c3b2 : (l0.length == l1.length) = false := by first | simpa using c3 | (simp at c3 ⊢; omega)
  obtain rfl := Option.some.inj H
  go_enter Try.func45, Try.ntmps45
  go_wp2
  go_ret
  exact ⟨by first | rfl | (simp [errW_none, errW_some] <;> rfl) | (simp [*, errW_none, errW_some] <;> rfl), zB HB.out⟩

end Go.Proofs.Ytkegjmkdnfpfdaa.MFnExactCostsOf
