-- By a program of this session.
import Derived.Test.YtkegjmkdnfpfdaaMFnExactSameProgramx0
import Derived.Test.YtkegjmkdnfpfdaaMFnExactSameProgramx1
namespace Go.Proofs.Ytkegjmkdnfpfdaa.MFnExactSameProgram
open Go.RowKit Go.Proofs.YtkegjmkdnfpfdaaW.PrintWords Go.Proofs.YtkegjmkdnfpfdaaW.PrintLast Go.Proofs.YtkegjmkdnfpfdaaW.PrintMore
attribute [local go_sem] max2_int min2_int max_two min_two max_three min_three max_four min_four
set_option linter.unusedVariables false
set_option linter.unusedSimpArgs false
set_option maxHeartbeats 8000000
set_option maxRecDepth 100000

attribute [local go_sem high] eqA96
/-! ### impl_Instr_169: function 169 -/
def impl_Instr_169.l0 : Nat → List (S96) → List (S96) → Int → Int → Option (Bool)
 | 0, _, _, _, _ => none
 | k + 1, x0, x1, x12, x13 => if x13 < x12 then (if 0 ≤ x13 then (if x13 < (x0.length : Int) then (if x13 < (x1.length : Int) then (if (!(((rd_T96 x0 x13).f0) == ((rd_T96 x1 x13).f0)) || (!(((rd_T96 x0 x13).f1) == ((rd_T96 x1 x13).f1)))) = true then (some false) else (impl_Instr_169.l0 k x0 x1 x12 (wrap64 (x13 + 1)))) else (none)) else (none)) else (none)) else (some true)
def impl_Instr_169.f (k : Nat) (l0 : List (S96)) (l1 : List (S96)) : Option (Bool) := if (l0.length : Int) = (l1.length : Int) then (impl_Instr_169.l0 k l0 l1 (l0.length : Int) 0) else (some false)
theorem impl_Instr_169.mono_l : ∀ k, (∀ y0 y1 y2 y3, LeO (impl_Instr_169.l0 k y0 y1 y2 y3) (impl_Instr_169.l0 (k + 1) y0 y1 y2 y3))
 | 0 => fun _ _ _ _ r h => by simp [impl_Instr_169.l0] at h
 | k + 1 => by
  have ih0 := impl_Instr_169.mono_l k
  ·intro y0 y1 y2 y3
   unfold impl_Instr_169.l0
   repeat' first
   | (with_reducible exact ih0 _ _ _ _)
   | (with_reducible exact LeO.refl _)
   | (with_reducible exact LeO.none _)
   | (with_reducible refine LeO.ite ?_ ?_)
   | (with_reducible refine LeO.bind ?_ (fun _ => ?_))
theorem impl_Instr_169.mono : ∀ a0 a1 k, LeO (impl_Instr_169.f k a0 a1) (impl_Instr_169.f (k + 1) a0 a1) := by
 intro a0 a1 k
 have ih0 := impl_Instr_169.mono_l k
 unfold impl_Instr_169.f
 repeat' first
  | (with_reducible exact ih0 _ _ _ _)
  | (with_reducible exact LeO.refl _)
  | (with_reducible exact LeO.none _)
  | (with_reducible refine LeO.ite ?_ ?_)
  | (with_reducible refine LeO.bind ?_ (fun _ => ?_))
theorem impl_Instr_169.calls (k : Nat) (A0 : Option Addr) (c0 : Nat) (l0 : List (S96)) (A1 : Option Addr) (c1 : Nat) (l1 : List (S96)) (r : Bool) (w : World) (hr0 : Kd.C k96 w A0 l0.length l0) (hc0 : l0.length ≤ c0) (hr1 : Kd.C k96 w A1 l1.length l1) (hc1 : l1.length ≤ c1) (h : impl_Instr_169.f k l0 l1 = some r) :
 Calls Try.prog 169 #[.slice A0 l0.length c0, .slice A1 l1.length c1] w fun e w' => e = .returned (.bool r) ∧ Drawn0 w w' := by
 have hu96 := Try.underlying96
 have HR0 := zQ hr0
 have HC0 := zQ hc0
 clear hr0 hc0
 have HR1 := zQ hr1
 have HC1 := zQ hc1
 clear hr1 hc1
 have H : (if (l0.length : Int) = (l1.length : Int) then (impl_Instr_169.l0 k l0 l1 (l0.length : Int) 0) else (some false)) = some r := h
 clear h
 by_cases c3 : (l0.length : Int) = (l1.length : Int)
 ·rw [if_pos c3] at H
  have c3b0 : ((l0.length : Int) == (l1.length : Int)) = true := beq_iff_eq.mpr c3
  have c3b1 : ((l0.length : Int) != (l1.length : Int)) = false := bne_eq_false_iff_eq.mpr c3
  have c3b2 : (l0.length == l1.length) = true := by first | simpa using c3 | (simp at c3 ⊢; omega)
  clear c3
  have H' := zQ H
  clear H
  go_enter Try.func169, Try.ntmps169
  go_wp2
  repeat (go_quiet (fail); try go_wp2)
  go_loopg [13] k (fun kq v13 w' => ∃ (x13_1 : Int), v13 = .int .i64 x13_1 ∧ Aside0 (impl_Instr_169.l0 kq l0 l1 (l0.length : Int) x13_1 = some r) ∧ Aside0 (kq ≤ k) ∧ Drawn0 w w')
  case atStart => exact ⟨(0), (by first | rfl | (simp; done) | (simp [*]; done)), H', ⟨Nat.le_refl _⟩, zD⟩
  case round =>
   clear H'
   try clear c1
   try clear p2
   try clear c3
   try clear c3b0
   try clear c3b1
   try clear c3b2
   obtain ⟨x13_1, rfl, HA, HK1, ⟨m1, rfl⟩⟩ := hrel
   cases gk with
   | zero => exact absurd HA.out (by simp [impl_Instr_169.l0])
   | succ k1 =>
    have H := HA.out
    clear HA
    simp only [impl_Instr_169.l0] at H
    by_cases c4 : x13_1 < (l0.length : Int)
    ·rw [if_pos c4] at H
     have c4b0 : decide (x13_1 < (l0.length : Int)) = true := decide_eq_true c4
     clear c4
     by_cases c5 : 0 ≤ x13_1
     ·rw [if_pos c5] at H
      have c5b0 : decide (0 ≤ x13_1) = true := decide_eq_true c5
      clear c5
      by_cases c6 : x13_1 < (l0.length : Int)
      ·rw [if_pos c6] at H
       have c6b0 : decide (x13_1 < (l0.length : Int)) = true := decide_eq_true c6
       clear c6
       by_cases c7 : x13_1 < (l1.length : Int)
       ·rw [if_pos c7] at H
        have c7b0 : decide (x13_1 < (l1.length : Int)) = true := decide_eq_true c7
        clear c7
        by_cases c8 : (!(((rd_T96 l0 x13_1).f0) == ((rd_T96 l1 x13_1).f0)) || (!(((rd_T96 l0 x13_1).f1) == ((rd_T96 l1 x13_1).f1)))) = true
        ·rw [if_pos c8] at H
         have c8b0 : (!(((rd_T96 l0 x13_1).f0) == ((rd_T96 l1 x13_1).f0)) || (!(((rd_T96 l0 x13_1).f1) == ((rd_T96 l1 x13_1).f1)))) = true := c8
         clear c8
         obtain rfl := Option.some.inj H
         have p341 : 0 ≤ (x13_1 : Int) := zA
         have q341 : x13_1 < (l0.length : Int) := zA
         obtain ⟨ad341, e341, hx341_0, hx341_1⟩ := at_T96 HR0.out x13_1 p341 q341
         cases e341
         replace p341 := eq_true p341
         replace q341 := eq_true q341
         have p342 : 0 ≤ (x13_1 : Int) := zA
         have q342 : x13_1 < (l1.length : Int) := zA
         obtain ⟨ad342, e342, hx342_0, hx342_1⟩ := at_T96 HR1.out x13_1 p342 q342
         cases e342
         replace p342 := eq_true p342
         replace q342 := eq_true q342
         go_wp2
         repeat (go_quiet (fail); try go_wp2)
         go_ret
         exact ⟨by first | rfl | (simp; done) | (simp [*]; done), zD⟩
        ·rw [if_neg c8] at H
         have c8b0 : (!(((rd_T96 l0 x13_1).f0) == ((rd_T96 l1 x13_1).f0)) || (!(((rd_T96 l0 x13_1).f1) == ((rd_T96 l1 x13_1).f1)))) = false := by simpa using c8
         clear c8
         have H' := zQ H
         clear H
         have p341 : 0 ≤ (x13_1 : Int) := zA
         have q341 : x13_1 < (l0.length : Int) := zA
         obtain ⟨ad341, e341, hx341_0, hx341_1⟩ := at_T96 HR0.out x13_1 p341 q341
         cases e341
         replace p341 := eq_true p341
         replace q341 := eq_true q341
         have p342 : 0 ≤ (x13_1 : Int) := zA
         have q342 : x13_1 < (l1.length : Int) := zA
         obtain ⟨ad342, e342, hx342_0, hx342_1⟩ := at_T96 HR1.out x13_1 p342 q342
         cases e342
         replace p342 := eq_true p342
         replace q342 := eq_true q342
         go_wp2
         repeat (go_quiet (fail); try go_wp2)
         go_roundg k1
         case measure => have := HK1.out; omega
         case rel => exact ⟨(wrap64 (x13_1 + 1)), (by first | rfl | (simp; done) | (simp [*]; done)), H', ⟨by have := HK1.out; omega⟩, zD⟩
       ·rw [if_neg c7] at H
        exact absurd H (by simp)
      ·rw [if_neg c6] at H
       exact absurd H (by simp)
     ·rw [if_neg c5] at H
      exact absurd H (by simp)
    ·rw [if_neg c4] at H
     have c4b0 : decide (x13_1 < (l0.length : Int)) = false := decide_eq_false c4
     clear c4
     obtain rfl := Option.some.inj H
     go_wp2
     repeat (go_quiet (fail); try go_wp2)
     go_ret
     exact ⟨by first | rfl | (simp; done) | (simp [*]; done), zD⟩
 ·rw [if_neg c3] at H
  have c3b0 : ((l0.length : Int) == (l1.length : Int)) = false := beq_eq_false_iff_ne.mpr c3
  have c3b1 : ((l0.length : Int) != (l1.length : Int)) = true := bne_iff_ne.mpr c3
  have c3b2 : (l0.length == l1.length) = false := by first | simpa using c3 | (simp at c3 ⊢; omega)
  obtain rfl := Option.some.inj H
  go_enter Try.func169, Try.ntmps169
  go_wp2
  repeat (go_quiet (fail); try go_wp2)
  go_ret
  exact ⟨by first | rfl | (simp; done) | (simp [*]; done), zD⟩

/-! ### impl_sameProgram_1: function 168 -/
def impl_sameProgram_1.f (k : Nat) (l0_0 : List (S96)) (l1_0 : List (S96)) : Option (Bool) := (impl_Instr_169.f k l0_0 l1_0).bind fun t345 => (some t345)
theorem impl_sameProgram_1.mono : ∀ a0 a1 k, LeO (impl_sameProgram_1.f k a0 a1) (impl_sameProgram_1.f (k + 1) a0 a1) := by
 intro a0 a1 k
 unfold impl_sameProgram_1.f
 repeat' first
  | (with_reducible exact impl_Instr_169.mono _ _ _)
  | (with_reducible exact LeO.refl _)
  | (with_reducible exact LeO.none _)
  | (with_reducible refine LeO.ite ?_ ?_)
  | (with_reducible refine LeO.bind ?_ (fun _ => ?_))
theorem impl_sameProgram_1.calls (k : Nat) (A0_0 : Option Addr) (c0_0 : Nat) (l0_0 : List (S96)) (A1_0 : Option Addr) (c1_0 : Nat) (l1_0 : List (S96)) (r : Bool) (w : World) (hr0_0 : Kd.C k96 w A0_0 l0_0.length l0_0) (hc0_0 : l0_0.length ≤ c0_0) (hr1_0 : Kd.C k96 w A1_0 l1_0.length l1_0) (hc1_0 : l1_0.length ≤ c1_0) (h : impl_sameProgram_1.f k l0_0 l1_0 = some r) :
 Calls Try.prog 168 #[.agg #[.slice A0_0 l0_0.length c0_0], .agg #[.slice A1_0 l1_0.length c1_0]] w fun e w' => e = .returned (.bool r) ∧ Below w.heap.size w w' := by
 have hu124 := Try.underlying124
 have HR0_0 := zQ hr0_0
 have HC0_0 := zQ hc0_0
 clear hr0_0 hc0_0
 have HR1_0 := zQ hr1_0
 have HC1_0 := zQ hc1_0
 clear hr1_0 hc1_0
 have HB := zQ (Below.refl w.heap.size w)
 have H : ((impl_Instr_169.f k l0_0 l1_0).bind fun t345 => (some t345)) = some r := h
 clear h
 replace H := Option.bind_eq_some_iff.mp H
 obtain ⟨t345, A30, H⟩ := H
 replace H : (some t345) = some r := H
 have A3 := zQ A30
 clear A30
 obtain rfl := Option.some.inj H
 go_enter Try.func168, Try.ntmps168
 go_wp2_with (first | ((with_reducible refine gate_dst (N := 2) rfl ?_); refine box_event ?hg (N := 2) ?hd (cs := #[.slice A0_0 l0_0.length c0_0]) (t := 124) ?hr ?_; (case hd => rfl); (case hg => rfl); (case hr => first | (go_simp; done) | (go_simp; rfl)); intro gb343 hg w4 hbox hb; have n0_ := zQ (below_step (zB HB.out) hb); have n1_ := zQ (hbox); have n2_ := zQ ((zG hg HB.out)); have n3_ := zQ ((zG hg HB.out)); clear HB; have HB := n0_; have BK343 := n1_; have GW343 := n2_; have GE343 := n3_; clear n0_ n1_ n2_ n3_; clear hb hbox hg) | ((with_reducible refine gate_dst (N := 3) rfl ?_); refine box_event ?hg (N := 3) ?hd (cs := #[.slice A1_0 l1_0.length c1_0]) (t := 124) ?hr ?_; (case hd => rfl); (case hg => rfl); (case hr => first | (go_simp; done) | (go_simp; rfl)); intro gb344 hg w5 hbox hb; have n0_ := zQ (zL BK343.out hb); have n1_ := zQ (below_step (zB HB.out) hb); have n2_ := zQ (hbox); have n3_ := zQ ((zG hg HB.out)); have n4_ := zQ ((zG hg HB.out)); have n5_ := zQ ((zN hg BK343.out)); have n6_ := zQ ((zM hg BK343.out)); clear BK343; clear HB; have BK343 := n0_; have HB := n1_; have BK344 := n2_; have GW344 := n3_; have GE344 := n4_; have NB343_344 := n5_; have NB344_343 := n6_; clear n0_ n1_ n2_ n3_ n4_ n5_ n6_; clear hb hbox hg; have hnb6 := NB343_344.out; have hnc6 := NB344_343.out; obtain ⟨hcz7_0, hfz7_0⟩ := zc1 BK343.out; obtain ⟨hcz8_0, hfz8_0⟩ := zc1 BK344.out) | ((with_reducible refine gate_callee (f := 169) rfl ?_); refine goesL_ (some 9) rfl rfl Try.func169 (by kernel_rfl) rfl #[.slice A0_0 l0_0.length c0_0, .slice A1_0 l1_0.length c1_0] rfl zS ?_; (with_reducible refine (impl_Instr_169.calls k _ _ l0_0 _ _ l1_0 t345 _ ?side1 ?side2 ?side3 ?side4 A3.out).mono ?_); (case side1 => exact zE HR0_0 HB); (case side2 => exact HC0_0.out); (case side3 => exact zE HR1_0 HB); (case side4 => exact HC1_0.out); rintro e w' ⟨rfl, ⟨nd, rfl⟩⟩; refine ⟨_, rfl, ?_⟩))
 go_ret
 exact ⟨by first | rfl | (simp [errW_none, errW_some] <;> rfl) | (simp [*, errW_none, errW_some] <;> rfl), zB HB.out⟩

/-! ### slices_EqualFunc_impl_sameProgram_1: function 167 at impl_sameProgram_1, by its own walk -/
def slices_EqualFunc_impl_sameProgram_1.l0 : Nat → List S124 → List S124 → Int → Option Bool
 | 0, _, _, _ => none
 | k + 1, l0, l1, i => if i < (l0.length : Int) then (if 0 ≤ i then (if i < (l1.length : Int) then ((impl_sameProgram_1.f k ((rd_T124 l0 i)).f0 ((rd_T124 l1 i)).f0).bind fun t => (if t = true then (slices_EqualFunc_impl_sameProgram_1.l0 k l0 l1 (wrap64 (i + 1))) else (some false))) else none) else none) else some true
theorem slices_EqualFunc_impl_sameProgram_1.mono_l : ∀ k, (∀ y0 y1 y2, LeO (slices_EqualFunc_impl_sameProgram_1.l0 k y0 y1 y2) (slices_EqualFunc_impl_sameProgram_1.l0 (k + 1) y0 y1 y2))
 | 0 => fun _ _ _ r h => by simp [slices_EqualFunc_impl_sameProgram_1.l0] at h
 | k + 1 => by
  have ih0 := slices_EqualFunc_impl_sameProgram_1.mono_l k
  ·intro y0 y1 y2
   unfold slices_EqualFunc_impl_sameProgram_1.l0
   repeat' first
   | (with_reducible exact ih0 _ _ _)
   | (with_reducible exact impl_sameProgram_1.mono _ _ _)
   | (with_reducible exact LeO.refl _)
   | (with_reducible exact LeO.none _)
   | (with_reducible refine LeO.ite ?_ ?_)
   | (with_reducible refine LeO.bind ?_ (fun _ => ?_))
def slices_EqualFunc_impl_sameProgram_1.f (k : Nat) (l0 l1 : List S124) : Option Bool := if (l0.length : Int) = (l1.length : Int) then slices_EqualFunc_impl_sameProgram_1.l0 k l0 l1 0 else some false
theorem slices_EqualFunc_impl_sameProgram_1.mono : ∀ a0 a1 k, LeO (slices_EqualFunc_impl_sameProgram_1.f k a0 a1) (slices_EqualFunc_impl_sameProgram_1.f (k + 1) a0 a1) := by
 intro a0 a1 k
 unfold slices_EqualFunc_impl_sameProgram_1.f
 exact LeO.ite (slices_EqualFunc_impl_sameProgram_1.mono_l k _ _ _) (LeO.refl _)
theorem slices_EqualFunc_impl_sameProgram_1.calls (k : Nat) (A0 : Option Addr) (c0 : Nat) (l0 : List S124) (A1 : Option Addr) (c1 : Nat) (l1 : List S124) (r : Bool) (w : World) (hr0 : Kd.C k124 w A0 l0.length l0) (hc0 : l0.length ≤ c0) (hr1 : Kd.C k124 w A1 l1.length l1) (hc1 : l1.length ≤ c1) (h : slices_EqualFunc_impl_sameProgram_1.f k l0 l1 = some r) :
 Calls Try.prog 167 #[.slice A0 l0.length c0, .slice A1 l1.length c1, .func (.func 168) #[] #[]] w fun e w' => e = .returned (.bool r) ∧ Below w.heap.size w w' := by
 have HR0 := zQ hr0
 have HC0 := zQ hc0
 have HR1 := zQ hr1
 have HC1 := zQ hc1
 clear hr0 hc0 hr1 hc1
 have HB := zQ (Below.refl w.heap.size w)
 have hu124 := Try.underlying124
 unfold slices_EqualFunc_impl_sameProgram_1.f at h
 by_cases c1 : (l0.length : Int) = (l1.length : Int)
 ·rw [if_pos c1] at h
  have H' := zQ h
  clear h
  have d1 : l0.length = l1.length := by omega
  have c1b0 : ((l0.length : Int) == (l1.length : Int)) = true := beq_iff_eq.mpr c1
  have c1b1 : ((l0.length : Int) != (l1.length : Int)) = false := bne_eq_false_iff_eq.mpr c1
  have c1b2 : (l0.length == l1.length) = true := beq_iff_eq.mpr d1
  have c1b3 : (l0.length != l1.length) = false := bne_eq_false_iff_eq.mpr d1
  clear c1 d1
  go_enter Try.func167, Try.ntmps167
  go_wp2
  go_loopg [17] k (fun kq v17 w' => ∃ (i : Int), v17 = .int .i64 i ∧ Aside0 (slices_EqualFunc_impl_sameProgram_1.l0 kq l0 l1 i = some r) ∧ Aside0 (kq ≤ k) ∧ Aside0 (Below w.heap.size w w'))
  case atStart => exact ⟨0, (by first | rfl | (simp; done)), H', ⟨Nat.le_refl _⟩, ⟨zB HB.out⟩⟩
  case round =>
   clear H'
   obtain ⟨i, rfl, HA, HK1, HB⟩ := hrel
   cases gk with
   | zero => exact absurd HA.out (by simp [slices_EqualFunc_impl_sameProgram_1.l0])
   | succ k1 =>
    have H := HA.out
    clear HA
    simp only [slices_EqualFunc_impl_sameProgram_1.l0] at H
    by_cases c2 : i < (l0.length : Int)
    ·rw [if_pos c2] at H
     by_cases c3 : 0 ≤ i
     ·rw [if_pos c3] at H
      by_cases c4 : i < (l1.length : Int)
      ·rw [if_pos c4] at H
       replace H := Option.bind_eq_some_iff.mp H
       obtain ⟨t, A40, H⟩ := H
       have A4 := zQ A40
       clear A40
       obtain ⟨adx, Ax0, kx0, e0_, hx0, lx0, gx0⟩ := at_T124 HR0.out i c3 c2
       cases e0_
       replace hx0 := zX HB.out hx0
       have HRSx0 := zQ gx0
       have HCSx0 := zQ lx0
       clear gx0 lx0
       obtain ⟨ady, Ay0, ky0, e0_, hy0, ly0, gy0⟩ := at_T124 HR1.out i c3 c4
       cases e0_
       replace hy0 := (HB.out.cell (World.block_lt_of_cell? w _ hy0)).trans hy0
       have hz0 := fun o => (World.cell?_alloc_lt _ o _ (World.block_lt_of_cell? _ _ hy0)).trans hy0
       have HRSy0 := zQ gy0
       have HCSy0 := zQ ly0
       clear gy0 ly0
       have c2b0 : decide (i < (l0.length : Int)) = true := decide_eq_true c2
       have c3b0 : decide (0 ≤ i) = true := decide_eq_true c3
       have c4b0 : decide (i < (l1.length : Int)) = true := decide_eq_true c4
       replace c2 := eq_true c2
       replace c3 := eq_true c3
       replace c4 := eq_true c4
       cases t with
       | true =>
        rw [if_pos rfl] at H
        have H' := zQ H
        clear H
        go_wp2_with (first | (go_at_call 168; (with_reducible refine (impl_sameProgram_1.calls k1 _ _ ((rd_T124 l0 i)).f0 _ _ ((rd_T124 l1 i)).f0 true _ (Kd.C_below HRSx0.out (zB HB.out)) HCSx0.out (Kd.C_below HRSy0.out (zB HB.out)) HCSy0.out A4.out).mono ?_); rintro e w6 ⟨rfl, hb⟩; have n0_ := zQ (below_step (zB HB.out) hb); clear HB; have HB := n0_; clear n0_; (try clear hb)))
        go_roundg k1
        case measure => have := HK1.out; omega
        case rel => exact ⟨(wrap64 (i + 1)), (by first | rfl | (simp; done) | (simp [*]; done)), H', ⟨by have := HK1.out; omega⟩, ⟨zB HB.out⟩⟩
       | false =>
        rw [if_neg (show ¬ (false = true) by decide)] at H
        obtain rfl := Option.some.inj H
        clear H
        go_wp2_with (first | (go_at_call 168; (with_reducible refine (impl_sameProgram_1.calls k1 _ _ ((rd_T124 l0 i)).f0 _ _ ((rd_T124 l1 i)).f0 false _ (Kd.C_below HRSx0.out (zB HB.out)) HCSx0.out (Kd.C_below HRSy0.out (zB HB.out)) HCSy0.out A4.out).mono ?_); rintro e w6 ⟨rfl, hb⟩; have n0_ := zQ (below_step (zB HB.out) hb); clear HB; have HB := n0_; clear n0_; (try clear hb)))
        go_ret
        exact ⟨by first | rfl | (simp; done), zB HB.out⟩
      ·rw [if_neg c4] at H
       exact absurd H (by simp)
     ·rw [if_neg c3] at H
      exact absurd H (by simp)
    ·rw [if_neg c2] at H
     obtain rfl := Option.some.inj H
     have c2b0 : decide (i < (l0.length : Int)) = false := decide_eq_false c2
     clear c2 H
     go_wp2
     go_ret
     exact ⟨by first | rfl | (simp; done), zB HB.out⟩
 ·rw [if_neg c1] at h
  obtain rfl := Option.some.inj h
  clear h
  have d1 : ¬ l0.length = l1.length := by omega
  have c1b0 : ((l0.length : Int) == (l1.length : Int)) = false := beq_eq_false_iff_ne.mpr c1
  have c1b1 : ((l0.length : Int) != (l1.length : Int)) = true := bne_iff_ne.mpr c1
  have c1b2 : (l0.length == l1.length) = false := beq_eq_false_iff_ne.mpr d1
  have c1b3 : (l0.length != l1.length) = true := bne_iff_ne.mpr d1
  clear c1 d1
  go_enter Try.func167, Try.ntmps167
  go_wp2
  go_ret
  exact ⟨by first | rfl | (simp; done), zB HB.out⟩

end Go.Proofs.Ytkegjmkdnfpfdaa.MFnExactSameProgram
