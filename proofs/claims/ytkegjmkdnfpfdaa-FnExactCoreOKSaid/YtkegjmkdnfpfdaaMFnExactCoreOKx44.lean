-- Text written by a program of this session (wip/tools: the kit's printer with additions of ours).
import Derived.Test.YtkegjmkdnfpfdaaMFnExactCoreOKx0
import Derived.Test.YtkegjmkdnfpfdaaMFnExactCoreOKx31
import Derived.Test.YtkegjmkdnfpfdaaMFnExactCoreOKx43
namespace Go.Proofs.Ytkegjmkdnfpfdaa.MFnExactCoreOK
open Go.RowKit Go.Proofs.YtkegjmkdnfpfdaaW.PrintWords Go.Proofs.YtkegjmkdnfpfdaaW.PrintLast Go.Proofs.YtkegjmkdnfpfdaaW.PrintMore
attribute [local go_sem] max2_int min2_int max_two min_two max_three min_three max_four min_four
set_option linter.unusedVariables false
set_option linter.unusedSimpArgs false

/-! ### impl_frameOK: function 177 -/
mutual
def impl_frameOK.j0 : Nat → List (S96) → Bool → Int → Int → List Int → Option (Bool)
 | 0, _, _, _, _, _ => none
 | k + 1, x7, x39, x320000, x320001, x320002 => if x39 = true then (some false) else ((impl_openAt.f k x7 x320001).bind fun t323 => (if (x320002.length : Int) = (t323.length : Int) then (impl_frameOK.l0 k t323 x320002 (x320002.length : Int) 0) else (some false)))
def impl_frameOK.l0 : Nat → List Int → List Int → Int → Int → Option (Bool)
 | 0, _, _, _, _ => none
 | k + 1, x8, x51, x52, x53 => if x53 < x52 then (if 0 ≤ x53 then (if x53 < (x51.length : Int) then (if x53 < (x8.length : Int) then ((impl_within.f (rd x51 x53) 1 (rd x8 x53)).bind fun t328 => (if t328 = true then (impl_frameOK.l0 k x8 x51 x52 (wrap64 (x53 + 1))) else (some false))) else (none)) else (none)) else (none)) else (some true)
end
def impl_frameOK.f (k : Nat) (l0 : List (S124)) (a1_0 : Int) (a1_1 : Int) (l1_2 : List Int) (a2 : Bool) : Option (Bool) := (impl_within.f a1_0 0 (wrap64 ((l0.length : Int) - 1))).bind fun t320 => (if t320 = true then (if 0 ≤ a1_0 then (if a1_0 < (l0.length : Int) then ((impl_within.f a1_1 0 (((rd_T124 l0 a1_0).f0).length : Int)).bind fun t322 => (if t322 = true then (if a2 = true then (impl_frameOK.j0 k ((rd_T124 l0 a1_0).f0) (a1_1 == (((rd_T124 l0 a1_0).f0).length : Int)) a1_0 a1_1 l1_2) else (impl_frameOK.j0 k ((rd_T124 l0 a1_0).f0) false a1_0 a1_1 l1_2)) else (impl_frameOK.j0 k ((rd_T124 l0 a1_0).f0) true a1_0 a1_1 l1_2))) else (none)) else (none)) else (some false))
theorem impl_frameOK.mono_l : ∀ k, (∀ y0 y1 y2 y3 y4, LeO (impl_frameOK.j0 k y0 y1 y2 y3 y4) (impl_frameOK.j0 (k + 1) y0 y1 y2 y3 y4)) ∧ (∀ y0 y1 y2 y3, LeO (impl_frameOK.l0 k y0 y1 y2 y3) (impl_frameOK.l0 (k + 1) y0 y1 y2 y3))
 | 0 => ⟨fun _ _ _ _ _ r h => by simp [impl_frameOK.j0] at h, fun _ _ _ _ r h => by simp [impl_frameOK.l0] at h⟩
 | k + 1 => by
  obtain ⟨ih0, ih1⟩ := impl_frameOK.mono_l k
  refine ⟨?_, ?_⟩
  ·intro y0 y1 y2 y3 y4
   unfold impl_frameOK.j0
   repeat' first
   | (with_reducible exact ih0 _ _ _ _ _)
   | (with_reducible exact ih1 _ _ _ _)
   | (with_reducible exact impl_openAt.mono _ _ _)
   | (with_reducible exact LeO.refl _)
   | (with_reducible exact LeO.none _)
   | (with_reducible refine LeO.ite ?_ ?_)
   | (with_reducible refine LeO.bind ?_ (fun _ => ?_))
   | exact ih0 _ _ _ _ _
   | exact ih1 _ _ _ _
   | exact impl_openAt.mono _ _ _
   | exact LeO.none _
   | refine LeO.ite ?_ ?_
   | refine LeO.bind ?_ (fun _ => ?_)
  ·intro y0 y1 y2 y3
   unfold impl_frameOK.l0
   repeat' first
   | (with_reducible exact ih0 _ _ _ _ _)
   | (with_reducible exact ih1 _ _ _ _)
   | (with_reducible exact impl_openAt.mono _ _ _)
   | (with_reducible exact LeO.refl _)
   | (with_reducible exact LeO.none _)
   | (with_reducible refine LeO.ite ?_ ?_)
   | (with_reducible refine LeO.bind ?_ (fun _ => ?_))
   | exact ih0 _ _ _ _ _
   | exact ih1 _ _ _ _
   | exact impl_openAt.mono _ _ _
   | exact LeO.none _
   | refine LeO.ite ?_ ?_
   | refine LeO.bind ?_ (fun _ => ?_)
theorem impl_frameOK.mono : ∀ a0 a1 a2 a3 a4 k, LeO (impl_frameOK.f k a0 a1 a2 a3 a4) (impl_frameOK.f (k + 1) a0 a1 a2 a3 a4) := by
 intro a0 a1 a2 a3 a4 k
 obtain ⟨ih0, ih1⟩ := impl_frameOK.mono_l k
 unfold impl_frameOK.f
 repeat' first
  | (with_reducible exact ih0 _ _ _ _ _)
  | (with_reducible exact ih1 _ _ _ _)
  | (with_reducible exact impl_openAt.mono _ _ _)
  | (with_reducible exact LeO.refl _)
  | (with_reducible exact LeO.none _)
  | (with_reducible refine LeO.ite ?_ ?_)
  | (with_reducible refine LeO.bind ?_ (fun _ => ?_))
  | exact ih0 _ _ _ _ _
  | exact ih1 _ _ _ _
  | exact impl_openAt.mono _ _ _
  | exact LeO.none _
  | refine LeO.ite ?_ ?_
  | refine LeO.bind ?_ (fun _ => ?_)
set_option maxHeartbeats 8000000 in
set_option maxRecDepth 100000 in
theorem impl_frameOK.calls (k : Nat) (A0 : Option Addr) (c0 : Nat) (l0 : List (S124)) (a1_0 : Int) (a1_1 : Int) (A1_2 : Option Addr) (c1_2 : Nat) (l1_2 : List Int) (a2 : Bool) (r : Bool) (w : World) (hr0 : Kd.C k124 w A0 l0.length l0) (hc0 : l0.length ≤ c0) (hr1_2 : Kd.C (Kd.int .i64) w A1_2 l1_2.length l1_2) (hc1_2 : l1_2.length ≤ c1_2) (h : impl_frameOK.f k l0 a1_0 a1_1 l1_2 a2 = some r) :
 Calls Try.prog 177 #[.slice A0 l0.length c0, .agg #[.int .i64 a1_0, .int .i64 a1_1, .slice A1_2 l1_2.length c1_2], .bool a2] w fun e w' => e = .returned (.bool r) ∧ Below w.heap.size w w' := by
 have hu184 := Try.underlying184
 have HR0 := zQ hr0
 have HC0 := zQ hc0
 clear hr0 hc0
 have HR1_2 := zQ hr1_2
 have HC1_2 := zQ hc1_2
 clear hr1_2 hc1_2
 have HB := zQ (Below.refl w.heap.size w)
 have H : ((impl_within.f a1_0 0 (wrap64 ((l0.length : Int) - 1))).bind fun t320 => (if t320 = true then (if 0 ≤ a1_0 then (if a1_0 < (l0.length : Int) then ((impl_within.f a1_1 0 (((rd_T124 l0 a1_0).f0).length : Int)).bind fun t322 => (if t322 = true then (if a2 = true then (impl_frameOK.j0 k ((rd_T124 l0 a1_0).f0) (a1_1 == (((rd_T124 l0 a1_0).f0).length : Int)) a1_0 a1_1 l1_2) else (impl_frameOK.j0 k ((rd_T124 l0 a1_0).f0) false a1_0 a1_1 l1_2)) else (impl_frameOK.j0 k ((rd_T124 l0 a1_0).f0) true a1_0 a1_1 l1_2))) else (none)) else (none)) else (some false))) = some r := h
 clear h
 replace H := Option.bind_eq_some_iff.mp H
 obtain ⟨t320, A40, H⟩ := H
 replace H : (if t320 = true then (if 0 ≤ a1_0 then (if a1_0 < (l0.length : Int) then ((impl_within.f a1_1 0 (((rd_T124 l0 a1_0).f0).length : Int)).bind fun t322 => (if t322 = true then (if a2 = true then (impl_frameOK.j0 k ((rd_T124 l0 a1_0).f0) (a1_1 == (((rd_T124 l0 a1_0).f0).length : Int)) a1_0 a1_1 l1_2) else (impl_frameOK.j0 k ((rd_T124 l0 a1_0).f0) false a1_0 a1_1 l1_2)) else (impl_frameOK.j0 k ((rd_T124 l0 a1_0).f0) true a1_0 a1_1 l1_2))) else (none)) else (none)) else (some false)) = some r := H
 have A4 := zQ A40
 clear A40
 by_cases c5 : t320 = true
 ·subst c5
  have H1 : (if 0 ≤ a1_0 then (if a1_0 < (l0.length : Int) then ((impl_within.f a1_1 0 (((rd_T124 l0 a1_0).f0).length : Int)).bind fun t322 => (if t322 = true then (if a2 = true then (impl_frameOK.j0 k ((rd_T124 l0 a1_0).f0) (a1_1 == (((rd_T124 l0 a1_0).f0).length : Int)) a1_0 a1_1 l1_2) else (impl_frameOK.j0 k ((rd_T124 l0 a1_0).f0) false a1_0 a1_1 l1_2)) else (impl_frameOK.j0 k ((rd_T124 l0 a1_0).f0) true a1_0 a1_1 l1_2))) else (none)) else (none)) = some r := by rw [if_pos rfl] at H; exact H
  clear H
  have H := H1
  clear H1
  by_cases c6 : 0 ≤ a1_0
  ·rw [if_pos c6] at H
   have c6b0 : decide (0 ≤ a1_0) = true := decide_eq_true c6
   clear c6
   by_cases c7 : a1_0 < (l0.length : Int)
   ·rw [if_pos c7] at H
    have c7b0 : decide (a1_0 < (l0.length : Int)) = true := decide_eq_true c7
    clear c7
    have HC8 := zQ H
    clear H
    go_enter Try.func177, Try.ntmps177
    go_upto_region 4 with (first | ((with_reducible refine gate_dst (N := 4) rfl ?_); (try (refine gate_guard (by rfl) ?_; dsimp only)); refine box_event ?hg (N := 4) ?hd (cs := #[.int .i64 a1_0, .int .i64 a1_1, .slice A1_2 l1_2.length c1_2]) (t := 184) ?hr ?_; (case hd => rfl); (case hg => rfl); (case hr => first | (go_simp; done) | (go_simp; rfl)); intro gb319 hg w9 hbox hb; have n0_ := zQ (below_step (zB HB.out) hb); have n1_ := zQ (hbox); have n2_ := zQ ((zG hg HB.out)); have n3_ := zQ ((zG hg HB.out)); clear HB; have HB := n0_; have BK319 := n1_; have GW319 := n2_; have GE319 := n3_; clear n0_ n1_ n2_ n3_; clear hb hbox hg; obtain ⟨hcz10_0, hcz10_1, hcz10_2, hfz10_0, hfz10_1, hfz10_2⟩ := zc3 BK319.out) | ((with_reducible refine gate_callee (f := 83) rfl ?_); refine goesL_ (some 16) rfl rfl Try.func83 (by kernel_rfl) rfl #[.int .i64 a1_0, .int .i64 0, .int .i64 (wrap64 ((l0.length : Int) - 1))] rfl (by (try simp only [List.map_toArray, List.map_cons, List.map_nil]); first | done | rfl | (simp only [List.length_drop, List.length_take]; rfl)) ?_; (with_reducible refine (impl_within.calls a1_0 0 (wrap64 ((l0.length : Int) - 1)) true _ A4.out).mono ?_); rintro e w' ⟨rfl, ⟨nd, rfl⟩⟩; refine ⟨_, rfl, ?_⟩; have p321 : 0 ≤ (a1_0 : Int) := zA; have q321 : a1_0 < (l0.length : Int) := zA; obtain ⟨ad321, A321_0, c321_0, e321, hx321_0, hl321_0, hi321_0⟩ := at_T124 HR0.out a1_0 p321 q321; cases e321; replace hx321_0 := zX HB.out hx321_0; have HR321_0 := zQ hi321_0; have HC321_0 := zQ hl321_0; clear hi321_0 hl321_0; replace p321 := eq_true p321; replace q321 := eq_true q321))
    (try simp only [Act.put, List.setIfInBounds_toArray, List.set_cons_zero, List.set_cons_succ])
    go_cut [39] (fun v39 wc => ∃ (kq : Nat) (x39_7 : Bool), v39 = .bool x39_7 ∧ Aside0 (impl_frameOK.j0 kq ((rd_T124 l0 a1_0).f0) x39_7 a1_0 a1_1 l1_2 = some r) ∧ Aside0 (kq ≤ k) ∧ Aside0 (wc.heap[gb319]? = some (.cells #[.int .i64 a1_0, .int .i64 a1_1, (.slice A1_2 l1_2.length c1_2)] 184 (0, 0))) ∧ Aside0 (Below w.heap.size w wc))
    case first =>
     have H := HC8.out
     clear HC8
     replace H := Option.bind_eq_some_iff.mp H
     obtain ⟨t322, A110, H⟩ := H
     replace H : (if t322 = true then (if a2 = true then (impl_frameOK.j0 k ((rd_T124 l0 a1_0).f0) (a1_1 == (((rd_T124 l0 a1_0).f0).length : Int)) a1_0 a1_1 l1_2) else (impl_frameOK.j0 k ((rd_T124 l0 a1_0).f0) false a1_0 a1_1 l1_2)) else (impl_frameOK.j0 k ((rd_T124 l0 a1_0).f0) true a1_0 a1_1 l1_2)) = some r := H
     have A11 := zQ A110
     clear A110
     by_cases c12 : t322 = true
     ·subst c12
      have H1 : (if a2 = true then (impl_frameOK.j0 k ((rd_T124 l0 a1_0).f0) (a1_1 == (((rd_T124 l0 a1_0).f0).length : Int)) a1_0 a1_1 l1_2) else (impl_frameOK.j0 k ((rd_T124 l0 a1_0).f0) false a1_0 a1_1 l1_2)) = some r := by rw [if_pos rfl] at H; exact H
      clear H
      have H := H1
      clear H1
      by_cases c13 : a2 = true
      ·subst c13
       have H1 : (impl_frameOK.j0 k ((rd_T124 l0 a1_0).f0) (a1_1 == (((rd_T124 l0 a1_0).f0).length : Int)) a1_0 a1_1 l1_2) = some r := by rw [if_pos rfl] at H; exact H
       clear H
       have H := H1
       clear H1
       have H' := zQ H
       clear H
       have hcz14_0 : w9.cell? ⟨gb319, 0, none⟩ = some (.int .i64 a1_0) := (blk_cell BK319.out 0).trans rfl
       have hcz14_1 : w9.cell? ⟨gb319, 1, none⟩ = some (.int .i64 a1_1) := (blk_cell BK319.out 1).trans rfl
       have hcz14_2 : w9.cell? ⟨gb319, 2, none⟩ = some (.slice A1_2 l1_2.length c1_2) := (blk_cell BK319.out 2).trans rfl
       have hfz14_0 := blk_frozen BK319.out 0
       have hfz14_1 := blk_frozen BK319.out 1
       have hfz14_2 := blk_frozen BK319.out 2
       go_wp2_with (first | ((with_reducible refine gate_callee (f := 83) rfl ?_); refine goesL_ (some 28) rfl rfl Try.func83 (by kernel_rfl) rfl #[.int .i64 a1_1, .int .i64 0, .int .i64 (((rd_T124 l0 a1_0).f0).length : Int)] rfl (by (try simp only [List.map_toArray, List.map_cons, List.map_nil]); first | done | rfl | (simp only [List.length_drop, List.length_take]; rfl)) ?_; (with_reducible refine (impl_within.calls a1_1 0 (((rd_T124 l0 a1_0).f0).length : Int) true _ A11.out).mono ?_); rintro e w' ⟨rfl, ⟨nd, rfl⟩⟩; refine ⟨_, rfl, ?_⟩))
       go_meet
       case rel => exact ⟨_, ((a1_1 == (((rd_T124 l0 a1_0).f0).length : Int))), (by first | rfl | (simp; done) | (simp [*]; done)), H', ⟨by first | omega | exact Nat.le_refl _⟩, ⟨by (with_reducible repeat (first | refine blk_drewN ?_ _ | refine blk_drew ?_ | refine blk_alloc ?_ _)); exact BK319.out⟩, ⟨zB HB.out⟩⟩
      ·replace c13 := Bool.eq_false_iff.mpr c13
       subst c13
       have H1 : (impl_frameOK.j0 k ((rd_T124 l0 a1_0).f0) false a1_0 a1_1 l1_2) = some r := by rw [if_neg (show ¬ (false = true) by decide)] at H; exact H
       clear H
       have H := H1
       clear H1
       have H' := zQ H
       clear H
       have hcz15_0 : w9.cell? ⟨gb319, 0, none⟩ = some (.int .i64 a1_0) := (blk_cell BK319.out 0).trans rfl
       have hcz15_1 : w9.cell? ⟨gb319, 1, none⟩ = some (.int .i64 a1_1) := (blk_cell BK319.out 1).trans rfl
       have hcz15_2 : w9.cell? ⟨gb319, 2, none⟩ = some (.slice A1_2 l1_2.length c1_2) := (blk_cell BK319.out 2).trans rfl
       have hfz15_0 := blk_frozen BK319.out 0
       have hfz15_1 := blk_frozen BK319.out 1
       have hfz15_2 := blk_frozen BK319.out 2
       go_wp2_with (first | ((with_reducible refine gate_callee (f := 83) rfl ?_); refine goesL_ (some 28) rfl rfl Try.func83 (by kernel_rfl) rfl #[.int .i64 a1_1, .int .i64 0, .int .i64 (((rd_T124 l0 a1_0).f0).length : Int)] rfl (by (try simp only [List.map_toArray, List.map_cons, List.map_nil]); first | done | rfl | (simp only [List.length_drop, List.length_take]; rfl)) ?_; (with_reducible refine (impl_within.calls a1_1 0 (((rd_T124 l0 a1_0).f0).length : Int) true _ A11.out).mono ?_); rintro e w' ⟨rfl, ⟨nd, rfl⟩⟩; refine ⟨_, rfl, ?_⟩))
       go_meet
       case rel => exact ⟨_, (false), (by first | rfl | (simp; done) | (simp [*]; done)), H', ⟨by first | omega | exact Nat.le_refl _⟩, ⟨by (with_reducible repeat (first | refine blk_drewN ?_ _ | refine blk_drew ?_ | refine blk_alloc ?_ _)); exact BK319.out⟩, ⟨zB HB.out⟩⟩
     ·replace c12 := Bool.eq_false_iff.mpr c12
      subst c12
      have H1 : (impl_frameOK.j0 k ((rd_T124 l0 a1_0).f0) true a1_0 a1_1 l1_2) = some r := by rw [if_neg (show ¬ (false = true) by decide)] at H; exact H
      clear H
      have H := H1
      clear H1
      have H' := zQ H
      clear H
      have hcz16_0 : w9.cell? ⟨gb319, 0, none⟩ = some (.int .i64 a1_0) := (blk_cell BK319.out 0).trans rfl
      have hcz16_1 : w9.cell? ⟨gb319, 1, none⟩ = some (.int .i64 a1_1) := (blk_cell BK319.out 1).trans rfl
      have hcz16_2 : w9.cell? ⟨gb319, 2, none⟩ = some (.slice A1_2 l1_2.length c1_2) := (blk_cell BK319.out 2).trans rfl
      have hfz16_0 := blk_frozen BK319.out 0
      have hfz16_1 := blk_frozen BK319.out 1
      have hfz16_2 := blk_frozen BK319.out 2
      go_wp2_with (first | ((with_reducible refine gate_callee (f := 83) rfl ?_); refine goesL_ (some 28) rfl rfl Try.func83 (by kernel_rfl) rfl #[.int .i64 a1_1, .int .i64 0, .int .i64 (((rd_T124 l0 a1_0).f0).length : Int)] rfl (by (try simp only [List.map_toArray, List.map_cons, List.map_nil]); first | done | rfl | (simp only [List.length_drop, List.length_take]; rfl)) ?_; (with_reducible refine (impl_within.calls a1_1 0 (((rd_T124 l0 a1_0).f0).length : Int) false _ A11.out).mono ?_); rintro e w' ⟨rfl, ⟨nd, rfl⟩⟩; refine ⟨_, rfl, ?_⟩))
      go_meet
      case rel => exact ⟨_, (true), (by first | rfl | (simp; done) | (simp [*]; done)), H', ⟨by first | omega | exact Nat.le_refl _⟩, ⟨by (with_reducible repeat (first | refine blk_drewN ?_ _ | refine blk_drew ?_ | refine blk_alloc ?_ _)); exact BK319.out⟩, ⟨zB HB.out⟩⟩
    case rest =>
     clear HC8
     try clear c1
     try clear p2
     try clear c3
     try clear p3
     try clear q3
     try clear hx3
     try clear c5
     try clear c6
     try clear c6b0
     try clear p6
     try clear c7
     try clear c7b0
     try clear c8
     try clear c12
     try clear c13
     try clear hcz10_0
     try clear hcz10_1
     try clear hcz10_2
     try clear hcz14_0
     try clear hcz14_1
     try clear hcz14_2
     try clear hcz15_0
     try clear hcz15_1
     try clear hcz15_2
     try clear hcz16_0
     try clear hcz16_1
     try clear hcz16_2
     try clear hfz10_0
     try clear hfz10_1
     try clear hfz10_2
     try clear hfz14_0
     try clear hfz14_1
     try clear hfz14_2
     try clear hfz15_0
     try clear hfz15_1
     try clear hfz15_2
     try clear hfz16_0
     try clear hfz16_1
     try clear hfz16_2
     try clear hx321_0
     try clear p321
     try clear q321
     obtain ⟨kq, x39_7, rfl, HA, HJ7, BK319, HB⟩ := hcut
     cases kq with
     | zero => exact absurd HA.out (by simp [impl_frameOK.j0])
     | succ kj7 =>
      have H := HA.out
      clear HA
      simp only [impl_frameOK.j0] at H
      by_cases c17 : x39_7 = true
      ·subst c17
       have H1 : (some false) = some r := by rw [if_pos rfl] at H; exact H
       clear H
       have H := H1
       clear H1
       obtain rfl := Option.some.inj H
       go_wp2
       go_ret
       exact ⟨by first | rfl | (simp [errW_none, errW_some] <;> rfl) | (simp [*, errW_none, errW_some] <;> rfl), zB HB.out⟩
      ·replace c17 := Bool.eq_false_iff.mpr c17
       subst c17
       have H1 : ((impl_openAt.f kj7 ((rd_T124 l0 a1_0).f0) a1_1).bind fun t323 => (if (l1_2.length : Int) = (t323.length : Int) then (impl_frameOK.l0 kj7 t323 l1_2 (l1_2.length : Int) 0) else (some false))) = some r := by rw [if_neg (show ¬ (false = true) by decide)] at H; exact H
       clear H
       have H := H1
       clear H1
       replace H := Option.bind_eq_some_iff.mp H
       obtain ⟨t323, A180, H⟩ := H
       replace H : (if (l1_2.length : Int) = (t323.length : Int) then (impl_frameOK.l0 kj7 t323 l1_2 (l1_2.length : Int) 0) else (some false)) = some r := H
       have A18 := zQ A180
       clear A180
       by_cases c19 : (l1_2.length : Int) = (t323.length : Int)
       ·rw [if_pos c19] at H
        have c19b0 : ((l1_2.length : Int) == (t323.length : Int)) = true := beq_iff_eq.mpr c19
        have c19b1 : ((l1_2.length : Int) != (t323.length : Int)) = false := bne_eq_false_iff_eq.mpr c19
        have c19b2 : (l1_2.length == t323.length) = true := by first | simpa using c19 | (simp at c19 ⊢; omega)
        clear c19
        have H' := zQ H
        clear H
        have hcz20_0 : wc.cell? ⟨gb319, 0, none⟩ = some (.int .i64 a1_0) := (blk_cell BK319.out 0).trans rfl
        have hcz20_1 : wc.cell? ⟨gb319, 1, none⟩ = some (.int .i64 a1_1) := (blk_cell BK319.out 1).trans rfl
        have hcz20_2 : wc.cell? ⟨gb319, 2, none⟩ = some (.slice A1_2 l1_2.length c1_2) := (blk_cell BK319.out 2).trans rfl
        have hfz20_0 := blk_frozen BK319.out 0
        have hfz20_1 := blk_frozen BK319.out 1
        have hfz20_2 := blk_frozen BK319.out 2
        go_wp2_with (first | ((with_reducible refine gate_callee (f := 230) rfl ?_); refine goesL_ (some 43) rfl rfl Try.func230 (by kernel_rfl) rfl #[.slice A321_0 ((rd_T124 l0 a1_0).f0).length c321_0, .int .i64 a1_1] rfl (by (try simp only [List.map_toArray, List.map_cons, List.map_nil]); first | done | rfl | (simp only [List.length_drop, List.length_take]; rfl)) ?_; (with_reducible refine (impl_openAt.calls kj7 _ _ ((rd_T124 l0 a1_0).f0) a1_1 t323 _ ?side1 ?side2 A18.out).mono ?_); (case side1 => exact zC (Kd.C_below HR321_0.out HB.out)); (case side2 => exact HC321_0.out); rintro e w21 ⟨v324, rfl, ho0, hb⟩; refine ⟨_, rfl, ?_⟩; have n0_ := zQ (Kd.R_lower ho0 (below_size (zB HB.out))); have n1_ := zQ (zL BK319.out hb); have n2_ := zQ (below_step (zB HB.out) hb); clear BK319; clear HB; have HO325 := n0_; have BK319 := n1_; have HB := n2_; clear n0_ n1_ n2_; (try clear hb); (try clear hb2); (try clear hk); (try clear hi); (try clear ho0); obtain ⟨hcz22_0, hcz22_1, hcz22_2, hfz22_0, hfz22_1, hfz22_2⟩ := zc3 BK319.out; obtain ⟨Ao23, co23, eo23⟩ := Kd.R_slice HO325.out; subst eo23))
        go_loopg [53] kj7 (fun kq v53 w' => ∃ (x53_2 : Int), v53 = .int .i64 x53_2 ∧ Aside0 (impl_frameOK.l0 kq t323 l1_2 (l1_2.length : Int) x53_2 = some r) ∧ Aside0 (kq ≤ kj7) ∧ Aside0 (Kd.R (Kd.int .i64) 3 w' w.heap.size (fun _ => True) (.slice Ao23 t323.length co23) t323) ∧ Aside0 (w'.heap[gb319]? = some (.cells #[.int .i64 a1_0, .int .i64 a1_1, (.slice A1_2 l1_2.length c1_2)] 184 (0, 0))) ∧ Aside0 (Below w.heap.size w w'))
        case atStart => exact ⟨(0), (by first | rfl | (simp; done) | (simp [*]; done)), H', ⟨Nat.le_refl _⟩, ⟨by (with_reducible repeat (first | apply Kd.R_alloc | apply Kd.R_drewN | apply Kd.R_drew)); exact HO325.out⟩, ⟨by (with_reducible repeat (first | refine blk_drewN ?_ _ | refine blk_drew ?_ | refine blk_alloc ?_ _)); exact BK319.out⟩, ⟨zB HB.out⟩⟩
        case round =>
         clear H'
         try clear c1
         try clear c2
         try clear p2
         try clear c3
         try clear p3
         try clear q3
         try clear hx3
         try clear c5
         try clear c6
         try clear c6b0
         try clear p6
         try clear c7
         try clear c7b0
         try clear c8
         try clear c12
         try clear c13
         try clear c17
         try clear c19
         try clear c19b0
         try clear c19b1
         try clear c19b2
         try clear c23
         try clear hcz10_0
         try clear hcz10_1
         try clear hcz10_2
         try clear hcz14_0
         try clear hcz14_1
         try clear hcz14_2
         try clear hcz15_0
         try clear hcz15_1
         try clear hcz15_2
         try clear hcz16_0
         try clear hcz16_1
         try clear hcz16_2
         try clear hcz20_0
         try clear hcz20_1
         try clear hcz20_2
         try clear hcz22_0
         try clear hcz22_1
         try clear hcz22_2
         try clear hfz10_0
         try clear hfz10_1
         try clear hfz10_2
         try clear hfz14_0
         try clear hfz14_1
         try clear hfz14_2
         try clear hfz15_0
         try clear hfz15_1
         try clear hfz15_2
         try clear hfz16_0
         try clear hfz16_1
         try clear hfz16_2
         try clear hfz20_0
         try clear hfz20_1
         try clear hfz20_2
         try clear hfz22_0
         try clear hfz22_1
         try clear hfz22_2
         try clear hx321_0
         try clear p2
         try clear p3
         try clear p321
         try clear p6
         try clear q3
         try clear q321
         obtain ⟨x53_2, rfl, HA, HK2, HO_8, BK319, HB⟩ := hrel
         cases gk with
         | zero => exact absurd HA.out (by simp [impl_frameOK.l0])
         | succ k2 =>
          have H := HA.out
          clear HA
          simp only [impl_frameOK.l0] at H
          by_cases c24 : x53_2 < (l1_2.length : Int)
          ·rw [if_pos c24] at H
           have c24b0 : decide (x53_2 < (l1_2.length : Int)) = true := decide_eq_true c24
           clear c24
           by_cases c25 : 0 ≤ x53_2
           ·rw [if_pos c25] at H
            have c25b0 : decide (0 ≤ x53_2) = true := decide_eq_true c25
            clear c25
            by_cases c26 : x53_2 < (l1_2.length : Int)
            ·rw [if_pos c26] at H
             have c26b0 : decide (x53_2 < (l1_2.length : Int)) = true := decide_eq_true c26
             clear c26
             by_cases c27 : x53_2 < (t323.length : Int)
             ·rw [if_pos c27] at H
              have c27b0 : decide (x53_2 < (t323.length : Int)) = true := decide_eq_true c27
              clear c27
              replace H := Option.bind_eq_some_iff.mp H
              obtain ⟨t328, A280, H⟩ := H
              replace H : (if t328 = true then (impl_frameOK.l0 k2 t323 l1_2 (l1_2.length : Int) (wrap64 (x53_2 + 1))) else (some false)) = some r := H
              have A28 := zQ A280
              clear A280
              by_cases c29 : t328 = true
              ·subst c29
               have H1 : (impl_frameOK.l0 k2 t323 l1_2 (l1_2.length : Int) (wrap64 (x53_2 + 1))) = some r := by rw [if_pos rfl] at H; exact H
               clear H
               have H := H1
               clear H1
               have H' := zQ H
               clear H
               have p326 : 0 ≤ (x53_2 : Int) := zA
               have q326 : x53_2 < (l1_2.length : Int) := zA
               obtain ⟨ad326, e326, hx326_0⟩ := Kd.at_int HR1_2.out x53_2 p326 q326
               cases e326
               replace hx326_0 := zX HB.out hx326_0
               replace p326 := eq_true p326
               replace q326 := eq_true q326
               have p327 : 0 ≤ (x53_2 : Int) := zA
               have q327 : x53_2 < (t323.length : Int) := zA
               obtain ⟨ad327, e327, hx327_0⟩ := Kd.at_int (Kd.R_reads' HO_8.out).2.2 x53_2 p327 q327
               cases e327
               replace p327 := eq_true p327
               replace q327 := eq_true q327
               go_wp2_with (first | ((with_reducible refine gate_callee (f := 83) rfl ?_); refine goesL_ (some 63) rfl rfl Try.func83 (by kernel_rfl) rfl #[.int .i64 (rd l1_2 x53_2), .int .i64 1, .int .i64 (rd t323 x53_2)] rfl (by (try simp only [List.map_toArray, List.map_cons, List.map_nil]); first | done | rfl | (simp only [List.length_drop, List.length_take]; rfl)) ?_; (with_reducible refine (impl_within.calls (rd l1_2 x53_2) 1 (rd t323 x53_2) true _ A28.out).mono ?_); rintro e w' ⟨rfl, ⟨nd, rfl⟩⟩; refine ⟨_, rfl, ?_⟩))
               go_roundg k2
               case measure => have := HJ7.out; have := HK2.out; omega
               case rel => exact ⟨(wrap64 (x53_2 + 1)), (by first | rfl | (simp; done) | (simp [*]; done)), H', ⟨by have := HJ7.out; have := HK2.out; omega⟩, ⟨by (with_reducible repeat (first | apply Kd.R_alloc | apply Kd.R_drewN | apply Kd.R_drew)); exact HO_8.out⟩, ⟨by (with_reducible repeat (first | refine blk_drewN ?_ _ | refine blk_drew ?_ | refine blk_alloc ?_ _)); exact BK319.out⟩, ⟨zB HB.out⟩⟩
              ·replace c29 := Bool.eq_false_iff.mpr c29
               subst c29
               have H1 : (some false) = some r := by rw [if_neg (show ¬ (false = true) by decide)] at H; exact H
               clear H
               have H := H1
               clear H1
               obtain rfl := Option.some.inj H
               have p326 : 0 ≤ (x53_2 : Int) := zA
               have q326 : x53_2 < (l1_2.length : Int) := zA
               obtain ⟨ad326, e326, hx326_0⟩ := Kd.at_int HR1_2.out x53_2 p326 q326
               cases e326
               replace hx326_0 := zX HB.out hx326_0
               replace p326 := eq_true p326
               replace q326 := eq_true q326
               have p327 : 0 ≤ (x53_2 : Int) := zA
               have q327 : x53_2 < (t323.length : Int) := zA
               obtain ⟨ad327, e327, hx327_0⟩ := Kd.at_int (Kd.R_reads' HO_8.out).2.2 x53_2 p327 q327
               cases e327
               replace p327 := eq_true p327
               replace q327 := eq_true q327
               go_wp2_with (first | ((with_reducible refine gate_callee (f := 83) rfl ?_); refine goesL_ (some 63) rfl rfl Try.func83 (by kernel_rfl) rfl #[.int .i64 (rd l1_2 x53_2), .int .i64 1, .int .i64 (rd t323 x53_2)] rfl (by (try simp only [List.map_toArray, List.map_cons, List.map_nil]); first | done | rfl | (simp only [List.length_drop, List.length_take]; rfl)) ?_; (with_reducible refine (impl_within.calls (rd l1_2 x53_2) 1 (rd t323 x53_2) false _ A28.out).mono ?_); rintro e w' ⟨rfl, ⟨nd, rfl⟩⟩; refine ⟨_, rfl, ?_⟩))
               go_ret
               exact ⟨by first | rfl | (simp [errW_none, errW_some] <;> rfl) | (simp [*, errW_none, errW_some] <;> rfl), zB HB.out⟩
             ·rw [if_neg c27] at H
              exact absurd H (by simp)
            ·rw [if_neg c26] at H
             exact absurd H (by simp)
           ·rw [if_neg c25] at H
            exact absurd H (by simp)
          ·rw [if_neg c24] at H
           have c24b0 : decide (x53_2 < (l1_2.length : Int)) = false := decide_eq_false c24
           clear c24
           obtain rfl := Option.some.inj H
           go_wp2
           go_ret
           exact ⟨by first | rfl | (simp [errW_none, errW_some] <;> rfl) | (simp [*, errW_none, errW_some] <;> rfl), zB HB.out⟩
       ·rw [if_neg c19] at H
        have c19b0 : ((l1_2.length : Int) == (t323.length : Int)) = false := beq_eq_false_iff_ne.mpr c19
        have c19b1 : ((l1_2.length : Int) != (t323.length : Int)) = true := bne_iff_ne.mpr c19
        have c19b2 : (l1_2.length == t323.length) = false := by first | simpa using c19 | (simp at c19 ⊢; omega)
        obtain rfl := Option.some.inj H
        have hcz30_0 : wc.cell? ⟨gb319, 0, none⟩ = some (.int .i64 a1_0) := (blk_cell BK319.out 0).trans rfl
        have hcz30_1 : wc.cell? ⟨gb319, 1, none⟩ = some (.int .i64 a1_1) := (blk_cell BK319.out 1).trans rfl
        have hcz30_2 : wc.cell? ⟨gb319, 2, none⟩ = some (.slice A1_2 l1_2.length c1_2) := (blk_cell BK319.out 2).trans rfl
        have hfz30_0 := blk_frozen BK319.out 0
        have hfz30_1 := blk_frozen BK319.out 1
        have hfz30_2 := blk_frozen BK319.out 2
        go_wp2_with (first | ((with_reducible refine gate_callee (f := 230) rfl ?_); refine goesL_ (some 43) rfl rfl Try.func230 (by kernel_rfl) rfl #[.slice A321_0 ((rd_T124 l0 a1_0).f0).length c321_0, .int .i64 a1_1] rfl (by (try simp only [List.map_toArray, List.map_cons, List.map_nil]); first | done | rfl | (simp only [List.length_drop, List.length_take]; rfl)) ?_; (with_reducible refine (impl_openAt.calls kj7 _ _ ((rd_T124 l0 a1_0).f0) a1_1 t323 _ ?side1 ?side2 A18.out).mono ?_); (case side1 => exact zC (Kd.C_below HR321_0.out HB.out)); (case side2 => exact HC321_0.out); rintro e w31 ⟨v324, rfl, ho0, hb⟩; refine ⟨_, rfl, ?_⟩; have n0_ := zQ (Kd.R_lower ho0 (below_size (zB HB.out))); have n1_ := zQ (zL BK319.out hb); have n2_ := zQ (below_step (zB HB.out) hb); clear BK319; clear HB; have HO325 := n0_; have BK319 := n1_; have HB := n2_; clear n0_ n1_ n2_; (try clear hb); (try clear hb2); (try clear hk); (try clear hi); (try clear ho0); obtain ⟨hcz32_0, hcz32_1, hcz32_2, hfz32_0, hfz32_1, hfz32_2⟩ := zc3 BK319.out; obtain ⟨Ao33, co33, eo33⟩ := Kd.R_slice HO325.out; subst eo33))
        go_ret
        exact ⟨by first | rfl | (simp [errW_none, errW_some] <;> rfl) | (simp [*, errW_none, errW_some] <;> rfl), zB HB.out⟩
   ·rw [if_neg c7] at H
    exact absurd H (by simp)
  ·rw [if_neg c6] at H
   exact absurd H (by simp)
 ·replace c5 := Bool.eq_false_iff.mpr c5
  subst c5
  have H1 : (some false) = some r := by rw [if_neg (show ¬ (false = true) by decide)] at H; exact H
  clear H
  have H := H1
  clear H1
  obtain rfl := Option.some.inj H
  go_enter Try.func177, Try.ntmps177
  go_wp2_with (first | ((with_reducible refine gate_dst (N := 4) rfl ?_); (try (refine gate_guard (by rfl) ?_; dsimp only)); refine box_event ?hg (N := 4) ?hd (cs := #[.int .i64 a1_0, .int .i64 a1_1, .slice A1_2 l1_2.length c1_2]) (t := 184) ?hr ?_; (case hd => rfl); (case hg => rfl); (case hr => first | (go_simp; done) | (go_simp; rfl)); intro gb319 hg w34 hbox hb; have n0_ := zQ (below_step (zB HB.out) hb); have n1_ := zQ (hbox); have n2_ := zQ ((zG hg HB.out)); have n3_ := zQ ((zG hg HB.out)); clear HB; have HB := n0_; have BK319 := n1_; have GW319 := n2_; have GE319 := n3_; clear n0_ n1_ n2_ n3_; clear hb hbox hg; obtain ⟨hcz35_0, hcz35_1, hcz35_2, hfz35_0, hfz35_1, hfz35_2⟩ := zc3 BK319.out) | ((with_reducible refine gate_callee (f := 83) rfl ?_); refine goesL_ (some 16) rfl rfl Try.func83 (by kernel_rfl) rfl #[.int .i64 a1_0, .int .i64 0, .int .i64 (wrap64 ((l0.length : Int) - 1))] rfl (by (try simp only [List.map_toArray, List.map_cons, List.map_nil]); first | done | rfl | (simp only [List.length_drop, List.length_take]; rfl)) ?_; (with_reducible refine (impl_within.calls a1_0 0 (wrap64 ((l0.length : Int) - 1)) false _ A4.out).mono ?_); rintro e w' ⟨rfl, ⟨nd, rfl⟩⟩; refine ⟨_, rfl, ?_⟩))
  go_ret
  exact ⟨by first | rfl | (simp [errW_none, errW_some] <;> rfl) | (simp [*, errW_none, errW_some] <;> rfl), zB HB.out⟩

end Go.Proofs.Ytkegjmkdnfpfdaa.MFnExactCoreOK
