-- By a program of this session.
import Derived.Test.YtkegjmkdnfpfdaaMFnExactCostsOfx0
import Derived.Test.YtkegjmkdnfpfdaaMFnExactCostsOfx36
namespace Go.Proofs.Ytkegjmkdnfpfdaa.MFnExactCostsOf
open Go.RowKit Go.Proofs.YtkegjmkdnfpfdaaW.PrintWords Go.Proofs.YtkegjmkdnfpfdaaW.PrintLast Go.Proofs.YtkegjmkdnfpfdaaW.PrintMore
attribute [local go_sem] max2_int min2_int max_two min_two max_three min_three max_four min_four
set_option linter.unusedVariables false
set_option linter.unusedSimpArgs false
set_option maxHeartbeats 8000000
set_option maxRecDepth 100000

/-! ### impl_behind: function 224 -/
def impl_behind.l0 : Nat → List (S144) → Int → Int → Int → Int → Int → Int → Int → Option (Int × Int × Int × Int × Int)
 | 0, _, _, _, _, _, _, _, _ => none
 | k + 1, x7, x8, x9, x403000, x403001, x403002, x403003, x403004 => if x9 < x8 then (if 0 ≤ x9 then (if x9 < (x7.length : Int) then ((impl_plus.f x403000 ((rd_T144 x7 x9).f0)).bind fun t406 => ((impl_plus.f x403001 ((rd_T144 x7 x9).f1)).bind fun t407 => ((impl_plus.f x403001 ((rd_T144 x7 x9).f2)).bind fun t408 => ((impl_plus.f x403003 ((rd_T144 x7 x9).f1)).bind fun t409 => ((impl_plus.f x403003 ((rd_T144 x7 x9).f2)).bind fun t410 => (impl_behind.l0 k x7 x8 (wrap64 (x9 + 1)) t406 t407 (mx x403002 t408) (mx ((rd_T144 x7 x9).f3) t409) (mx (mx x403004 ((rd_T144 x7 x9).f4)) t410))))))) else (none)) else (none)) else (some (x403000, x403001, x403002, x403003, x403004))
def impl_behind.f (k : Nat) (a0_0 : Int) (a0_1 : Int) (a0_2 : Int) (a0_3 : Int) (a0_4 : Int) (l1 : List (S144)) : Option (Int × Int × Int × Int × Int) := impl_behind.l0 k l1 (l1.length : Int) 0 a0_0 a0_1 a0_2 a0_3 a0_4
theorem impl_behind.mono_l : ∀ k, (∀ y0 y1 y2 y3 y4 y5 y6 y7, LeO (impl_behind.l0 k y0 y1 y2 y3 y4 y5 y6 y7) (impl_behind.l0 (k + 1) y0 y1 y2 y3 y4 y5 y6 y7))
 | 0 => fun _ _ _ _ _ _ _ _ r h => by simp [impl_behind.l0] at h
 | k + 1 => by
  have ih0 := impl_behind.mono_l k
  ·intro y0 y1 y2 y3 y4 y5 y6 y7
   unfold impl_behind.l0
   repeat' first
   | (with_reducible exact ih0 _ _ _ _ _ _ _ _)
   | (with_reducible exact LeO.refl _)
   | (with_reducible exact LeO.none _)
   | (with_reducible refine LeO.ite ?_ ?_)
   | (with_reducible refine LeO.bind ?_ (fun _ => ?_))
theorem impl_behind.mono : ∀ a0 a1 a2 a3 a4 a5 k, LeO (impl_behind.f k a0 a1 a2 a3 a4 a5) (impl_behind.f (k + 1) a0 a1 a2 a3 a4 a5) := by
 intro a0 a1 a2 a3 a4 a5 k
 have ih0 := impl_behind.mono_l k
 unfold impl_behind.f
 repeat' first
  | (with_reducible exact ih0 _ _ _ _ _ _ _ _)
  | (with_reducible exact LeO.refl _)
  | (with_reducible exact LeO.none _)
  | (with_reducible refine LeO.ite ?_ ?_)
  | (with_reducible refine LeO.bind ?_ (fun _ => ?_))
def impl_behind.T4 : Bool × List (List Nat × List Nat) := (true, [([], []), ([0], [0]), ([], []), ([2], [2]), ([1, 3], [1, 3]), ([], []), ([5], [5]), ([], []), ([7], [7]), ([6, 8, 4], [6, 8]), ([], []), ([10], [10]), ([], []), ([12], [12]), ([], []), ([14], [14]), ([13, 15, 9], [13, 15]), ([11, 16], [11, 16]), ([], []), ([18], [18]), ([], []), ([20], [20]), ([], []), ([22], [22]), ([21, 23, 16], [21, 23]), ([19, 24], [19, 24]), ([], []), ([26], [26]), ([], []), ([28], [28]), ([], []), ([30], [30]), ([], []), ([32], [32]), ([31, 33, 24], [31, 33]), ([27, 29, 34], [27, 29, 34]), ([4, 9, 17, 25, 35], [4, 9, 17, 25, 35]), ([36, 34, 0, 1, 2, 3, 4, 5, 6, 7, 8, 9, 10, 11, 12, 13, 14, 15, 16, 17, 18, 19, 20, 21, 22, 23, 24, 25, 26, 27, 28, 29, 30, 31, 32, 33, 34, 35, 36], [36])])
def impl_behind.B4 : List Nat := [0, 1, 0, 4, 15, 0, 32, 0, 128, 511, 0, 1024, 0, 4096, 0, 16384, 62463, 131071, 0, 262144, 0, 1048576, 0, 4194304, 15856639, 33420287, 0, 67108864, 0, 268435456, 0, 1073741824, 0, 4294967296, 16138761215, 34325263359, 68719476735, 137438953471]
theorem impl_behind.tab4 : rtab .any (opsOf Try.f224 4) = impl_behind.T4 := by kernel_rfl
theorem impl_behind.bits4 : waitsOk impl_behind.T4.2 impl_behind.B4 = true := by kernel_rfl
theorem impl_behind.calls (k : Nat) (a0_0 : Int) (a0_1 : Int) (a0_2 : Int) (a0_3 : Int) (a0_4 : Int) (A1 : Option Addr) (c1 : Nat) (l1 : List (S144)) (r1 : Int) (r2 : Int) (r3 : Int) (r4 : Int) (r5 : Int) (w : World) (hr1 : Kd.C k144 w A1 l1.length l1) (hc1 : l1.length ≤ c1) (h : impl_behind.f k a0_0 a0_1 a0_2 a0_3 a0_4 l1 = some (r1, r2, r3, r4, r5)) :
 Calls Try.prog 224 #[.agg #[.int .i64 a0_0, .int .i64 a0_1, .int .i64 a0_2, .int .i64 a0_3, .int .i64 a0_4], .slice A1 l1.length c1] w fun e w' => e = .returned (.agg #[.int .i64 r1, .int .i64 r2, .int .i64 r3, .int .i64 r4, .int .i64 r5]) ∧ Below w.heap.size w w' := by
 have hu144 := Try.underlying144
 have HR1 := zQ hr1
 have HC1 := zQ hc1
 clear hr1 hc1
 have HB := zQ (Below.refl w.heap.size w)
 have H : (impl_behind.l0 k l1 (l1.length : Int) 0 a0_0 a0_1 a0_2 a0_3 a0_4) = some (r1, r2, r3, r4, r5) := h
 clear h
 have H' := zQ H
 clear H
 go_enter Try.func224, Try.ntmps224
 go_wp2_with (first | ((with_reducible refine gate_dst (N := 2) rfl ?_); refine box_event ?hg (N := 2) ?hd (cs := #[.int .i64 a0_0, .int .i64 a0_1, .int .i64 a0_2, .int .i64 a0_3, .int .i64 a0_4]) (t := 144) ?hr ?_; (case hd => rfl); (case hg => rfl); (case hr => first | (go_simp; done) | (go_simp; rfl)); intro gb402 hg w3 hbox hb; have n0_ := zQ (below_step (zB HB.out) hb); have n1_ := zQ (hbox); have n2_ := zQ ((zG hg HB.out)); have n3_ := zQ ((zG hg HB.out)); clear HB; have HB := n0_; have BK402 := n1_; have GW402 := n2_; have GE402 := n3_; clear n0_ n1_ n2_ n3_; clear hb hbox hg) | ((with_reducible refine gate_dst (N := 4) rfl ?_); refine box_event ?hg (N := 4) ?hd (cs := #[.int .i64 0, .int .i64 0, .int .i64 0, .int .i64 0, .int .i64 0]) (t := 144) ?hr ?_; (case hd => rfl); (case hg => rfl); (case hr => first | (go_simp; done) | (go_simp; rfl)); intro gb403 hg w4 hbox hb; have n0_ := zQ (zL BK402.out hb); have n1_ := zQ (below_step (zB HB.out) hb); have n2_ := zQ (hbox); have n3_ := zQ ((zG hg HB.out)); have n4_ := zQ ((zG hg HB.out)); have n5_ := zQ ((zN hg BK402.out)); have n6_ := zQ ((zM hg BK402.out)); clear BK402; clear HB; have BK402 := n0_; have HB := n1_; have BK403 := n2_; have GW403 := n3_; have GE403 := n4_; have NB402_403 := n5_; have NB403_402 := n6_; clear n0_ n1_ n2_ n3_ n4_ n5_ n6_; clear hb hbox hg))
 go_loopg [9] k (fun kq v9 w' => ∃ (x9_1 : Int) (x403000_1 : Int) (x403001_1 : Int) (x403002_1 : Int) (x403003_1 : Int) (x403004_1 : Int), v9 = .int .i64 x9_1 ∧ Aside0 (impl_behind.l0 kq l1 (l1.length : Int) x9_1 x403000_1 x403001_1 x403002_1 x403003_1 x403004_1 = some (r1, r2, r3, r4, r5)) ∧ Aside0 (kq ≤ k) ∧ Aside0 (w'.heap[gb402]? = some (.cells #[.int .i64 x403000_1, .int .i64 x403001_1, .int .i64 x403002_1, .int .i64 x403003_1, .int .i64 x403004_1] 144 (0, 0))) ∧ Aside0 (w'.heap[gb403]? = some (.cells #[.int .i64 0, .int .i64 0, .int .i64 0, .int .i64 0, .int .i64 0] 144 (0, 0))) ∧ Aside0 (Below w.heap.size w w'))
 case atStart => exact ⟨(0), (a0_0), (a0_1), (a0_2), (a0_3), (a0_4), (by first | rfl | (simp; done) | (simp [*]; done)), H', ⟨Nat.le_refl _⟩, ⟨by (with_reducible repeat (first | refine blk_drewN ?_ _ | refine blk_drew ?_ | refine blk_alloc ?_ _)); exact BK402.out⟩, ⟨by (with_reducible repeat (first | refine blk_drewN ?_ _ | refine blk_drew ?_ | refine blk_alloc ?_ _)); exact BK403.out⟩, ⟨zB HB.out⟩⟩
 case round =>
  clear H'
  try clear c1
  try clear c2
  try clear p2
  obtain ⟨x9_1, x403000_1, x403001_1, x403002_1, x403003_1, x403004_1, rfl, HA, HK1, BK402, BK403, HB⟩ := hrel
  cases gk with
  | zero => exact absurd HA.out (by simp [impl_behind.l0])
  | succ k1 =>
   have H := HA.out
   clear HA
   simp only [impl_behind.l0] at H
   by_cases c5 : x9_1 < (l1.length : Int)
   ·rw [if_pos c5] at H
    have c5b0 : decide (x9_1 < (l1.length : Int)) = true := decide_eq_true c5
    clear c5
    by_cases c6 : 0 ≤ x9_1
    ·rw [if_pos c6] at H
     have c6b0 : decide (0 ≤ x9_1) = true := decide_eq_true c6
     clear c6
     by_cases c7 : x9_1 < (l1.length : Int)
     ·rw [if_pos c7] at H
      have c7b0 : decide (x9_1 < (l1.length : Int)) = true := decide_eq_true c7
      clear c7
      replace H := Option.bind_eq_some_iff.mp H
      obtain ⟨t406, A80, H⟩ := H
      replace H : ((impl_plus.f x403001_1 ((rd_T144 l1 x9_1).f1)).bind fun t407 => ((impl_plus.f x403001_1 ((rd_T144 l1 x9_1).f2)).bind fun t408 => ((impl_plus.f x403003_1 ((rd_T144 l1 x9_1).f1)).bind fun t409 => ((impl_plus.f x403003_1 ((rd_T144 l1 x9_1).f2)).bind fun t410 => (impl_behind.l0 k1 l1 (l1.length : Int) (wrap64 (x9_1 + 1)) t406 t407 (mx x403002_1 t408) (mx ((rd_T144 l1 x9_1).f3) t409) (mx (mx x403004_1 ((rd_T144 l1 x9_1).f4)) t410)))))) = some (r1, r2, r3, r4, r5) := H
      have A8 := zQ A80
      clear A80
      replace H := Option.bind_eq_some_iff.mp H
      obtain ⟨t407, A90, H⟩ := H
      replace H : ((impl_plus.f x403001_1 ((rd_T144 l1 x9_1).f2)).bind fun t408 => ((impl_plus.f x403003_1 ((rd_T144 l1 x9_1).f1)).bind fun t409 => ((impl_plus.f x403003_1 ((rd_T144 l1 x9_1).f2)).bind fun t410 => (impl_behind.l0 k1 l1 (l1.length : Int) (wrap64 (x9_1 + 1)) t406 t407 (mx x403002_1 t408) (mx ((rd_T144 l1 x9_1).f3) t409) (mx (mx x403004_1 ((rd_T144 l1 x9_1).f4)) t410))))) = some (r1, r2, r3, r4, r5) := H
      have A9 := zQ A90
      clear A90
      replace H := Option.bind_eq_some_iff.mp H
      obtain ⟨t408, A100, H⟩ := H
      replace H : ((impl_plus.f x403003_1 ((rd_T144 l1 x9_1).f1)).bind fun t409 => ((impl_plus.f x403003_1 ((rd_T144 l1 x9_1).f2)).bind fun t410 => (impl_behind.l0 k1 l1 (l1.length : Int) (wrap64 (x9_1 + 1)) t406 t407 (mx x403002_1 t408) (mx ((rd_T144 l1 x9_1).f3) t409) (mx (mx x403004_1 ((rd_T144 l1 x9_1).f4)) t410)))) = some (r1, r2, r3, r4, r5) := H
      have A10 := zQ A100
      clear A100
      obtain ⟨ji11, hji11⟩ : ∃ j_ : Int, (mx x403002_1 t408) = j_ := ⟨_, rfl⟩
      replace H : ((impl_plus.f x403003_1 ((rd_T144 l1 x9_1).f1)).bind fun t409 => ((impl_plus.f x403003_1 ((rd_T144 l1 x9_1).f2)).bind fun t410 => (impl_behind.l0 k1 l1 (l1.length : Int) (wrap64 (x9_1 + 1)) t406 t407 ji11 (mx ((rd_T144 l1 x9_1).f3) t409) (mx (mx x403004_1 ((rd_T144 l1 x9_1).f4)) t410)))) = some (r1, r2, r3, r4, r5) := by first | (rw [hji11] at H; exact H) | (simp only [hji11] at H ⊢; exact H)
      (try rw [hji11] at A8)
      (try rw [hji11] at A9)
      (try rw [hji11] at A10)
      have hji11_ : (if x403002_1 < t408 then t408 else x403002_1) = ji11 := hji11
      replace H := Option.bind_eq_some_iff.mp H
      obtain ⟨t409, A120, H⟩ := H
      replace H : ((impl_plus.f x403003_1 ((rd_T144 l1 x9_1).f2)).bind fun t410 => (impl_behind.l0 k1 l1 (l1.length : Int) (wrap64 (x9_1 + 1)) t406 t407 ji11 (mx ((rd_T144 l1 x9_1).f3) t409) (mx (mx x403004_1 ((rd_T144 l1 x9_1).f4)) t410))) = some (r1, r2, r3, r4, r5) := H
      have A12 := zQ A120
      clear A120
      obtain ⟨ji13, hji13⟩ : ∃ j_ : Int, (mx ((rd_T144 l1 x9_1).f3) t409) = j_ := ⟨_, rfl⟩
      replace H : ((impl_plus.f x403003_1 ((rd_T144 l1 x9_1).f2)).bind fun t410 => (impl_behind.l0 k1 l1 (l1.length : Int) (wrap64 (x9_1 + 1)) t406 t407 ji11 ji13 (mx (mx x403004_1 ((rd_T144 l1 x9_1).f4)) t410))) = some (r1, r2, r3, r4, r5) := by first | (rw [hji13] at H; exact H) | (simp only [hji13] at H ⊢; exact H)
      (try rw [hji13] at A8)
      (try rw [hji13] at A9)
      (try rw [hji13] at A10)
      (try rw [hji13] at A12)
      have hji13_ : (if ((rd_T144 l1 x9_1).f3) < t409 then t409 else ((rd_T144 l1 x9_1).f3)) = ji13 := hji13
      replace H := Option.bind_eq_some_iff.mp H
      obtain ⟨t410, A140, H⟩ := H
      replace H : (impl_behind.l0 k1 l1 (l1.length : Int) (wrap64 (x9_1 + 1)) t406 t407 ji11 ji13 (mx (mx x403004_1 ((rd_T144 l1 x9_1).f4)) t410)) = some (r1, r2, r3, r4, r5) := H
      have A14 := zQ A140
      clear A140
      obtain ⟨ji15, hji15⟩ : ∃ j_ : Int, (mx x403004_1 ((rd_T144 l1 x9_1).f4)) = j_ := ⟨_, rfl⟩
      replace H : (impl_behind.l0 k1 l1 (l1.length : Int) (wrap64 (x9_1 + 1)) t406 t407 ji11 ji13 (mx (ji15) t410)) = some (r1, r2, r3, r4, r5) := by first | (rw [hji15] at H; exact H) | (simp only [hji15] at H ⊢; exact H)
      (try rw [hji15] at A8)
      (try rw [hji15] at A9)
      (try rw [hji15] at A10)
      (try rw [hji15] at A12)
      (try rw [hji15] at A14)
      have hji15_ : (if x403004_1 < ((rd_T144 l1 x9_1).f4) then ((rd_T144 l1 x9_1).f4) else x403004_1) = ji15 := hji15
      obtain ⟨ji16, hji16⟩ : ∃ j_ : Int, (mx (ji15) t410) = j_ := ⟨_, rfl⟩
      replace H : (impl_behind.l0 k1 l1 (l1.length : Int) (wrap64 (x9_1 + 1)) t406 t407 ji11 ji13 ji16) = some (r1, r2, r3, r4, r5) := by first | (rw [hji16] at H; exact H) | (simp only [hji16] at H ⊢; exact H)
      (try rw [hji16] at A8)
      (try rw [hji16] at A9)
      (try rw [hji16] at A10)
      (try rw [hji16] at A12)
      (try rw [hji16] at A14)
      have hji16_ : (if (ji15) < t410 then t410 else (ji15)) = ji16 := hji16
      have H' := zQ H
      clear H
      have p404 : 0 ≤ (x9_1 : Int) := zA
      have q404 : x9_1 < (l1.length : Int) := zA
      obtain ⟨ad404, e404, hx404_0, hx404_1, hx404_2, hx404_3, hx404_4⟩ := at_T144 HR1.out x9_1 p404 q404
      cases e404
      replace hx404_0 := zX HB.out hx404_0
      replace hx404_1 := zX HB.out hx404_1
      replace hx404_2 := zX HB.out hx404_2
      replace hx404_3 := zX HB.out hx404_3
      replace hx404_4 := zX HB.out hx404_4
      replace p404 := eq_true p404
      replace q404 := eq_true q404
      try go_wp2_with (first | ((with_reducible refine gate_dst (N := 6) rfl ?_); refine box_event ?hg (N := 6) ?hd (cs := #[.int .i64 0, .int .i64 0, .int .i64 0, .int .i64 0, .int .i64 0]) (t := 144) ?hr ?_; (case hd => rfl); (case hg => rfl); (case hr => first | (go_simp; done) | (go_simp; rfl)); intro gb405 hg w17 hbox hb; have n0_ := zQ (zL BK402.out hb); have n1_ := zQ (zL BK403.out hb); have n2_ := zQ (below_step (zB HB.out) hb); have n3_ := zQ (hbox); have n4_ := zQ ((zG hg HB.out)); have n5_ := zQ ((zG hg HB.out)); have n6_ := zQ ((zN hg BK402.out)); have n7_ := zQ ((zM hg BK402.out)); have n8_ := zQ ((zN hg BK403.out)); have n9_ := zQ ((zM hg BK403.out)); clear BK402; clear BK403; clear HB; have BK402 := n0_; have BK403 := n1_; have HB := n2_; have BK405 := n3_; have GW405 := n4_; have GE405 := n5_; have NB402_405 := n6_; have NB405_402 := n7_; have NB403_405 := n8_; have NB405_403 := n9_; clear n0_ n1_ n2_ n3_ n4_ n5_ n6_ n7_ n8_ n9_; clear hb hbox hg; have hnb18 := NB405_402.out; have hnc18 := NB402_405.out; have hnb19 := NB405_403.out; have hnc19 := NB403_405.out; obtain ⟨hcz20_0, hcz20_1, hcz20_2, hcz20_3, hcz20_4, hfz20_0, hfz20_1, hfz20_2, hfz20_3, hfz20_4⟩ := zc5 BK405.out))
      have n0_ : Aside0 ((((((w17.setCell ⟨gb405, 0, none⟩ (.int .i64 ((rd_T144 l1 x9_1).f0))).setCell ⟨gb405, 1, none⟩ (.int .i64 ((rd_T144 l1 x9_1).f1))).setCell ⟨gb405, 2, none⟩ (.int .i64 ((rd_T144 l1 x9_1).f2))).setCell ⟨gb405, 3, none⟩ (.int .i64 ((rd_T144 l1 x9_1).f3))).setCell ⟨gb405, 4, none⟩ (.int .i64 ((rd_T144 l1 x9_1).f4))).heap[gb402]? = some (.cells #[.int .i64 x403000_1, .int .i64 x403001_1, .int .i64 x403002_1, .int .i64 x403003_1, .int .i64 x403004_1] 144 (0, 0))) := ⟨zF BK402.out⟩
      have n1_ : Aside0 ((((((w17.setCell ⟨gb405, 0, none⟩ (.int .i64 ((rd_T144 l1 x9_1).f0))).setCell ⟨gb405, 1, none⟩ (.int .i64 ((rd_T144 l1 x9_1).f1))).setCell ⟨gb405, 2, none⟩ (.int .i64 ((rd_T144 l1 x9_1).f2))).setCell ⟨gb405, 3, none⟩ (.int .i64 ((rd_T144 l1 x9_1).f3))).setCell ⟨gb405, 4, none⟩ (.int .i64 ((rd_T144 l1 x9_1).f4))).heap[gb403]? = some (.cells #[.int .i64 0, .int .i64 0, .int .i64 0, .int .i64 0, .int .i64 0] 144 (0, 0))) := ⟨zF BK403.out⟩
      have n2_ : Aside0 ((((((w17.setCell ⟨gb405, 0, none⟩ (.int .i64 ((rd_T144 l1 x9_1).f0))).setCell ⟨gb405, 1, none⟩ (.int .i64 ((rd_T144 l1 x9_1).f1))).setCell ⟨gb405, 2, none⟩ (.int .i64 ((rd_T144 l1 x9_1).f2))).setCell ⟨gb405, 3, none⟩ (.int .i64 ((rd_T144 l1 x9_1).f3))).setCell ⟨gb405, 4, none⟩ (.int .i64 ((rd_T144 l1 x9_1).f4))).heap[gb405]? = some (.cells #[.int .i64 ((rd_T144 l1 x9_1).f0), .int .i64 ((rd_T144 l1 x9_1).f1), .int .i64 ((rd_T144 l1 x9_1).f2), .int .i64 ((rd_T144 l1 x9_1).f3), .int .i64 ((rd_T144 l1 x9_1).f4)] 144 (0, 0))) := ⟨zP BK405.out⟩
      have n3_ : Aside0 (Below w.heap.size w (((((w17.setCell ⟨gb405, 0, none⟩ (.int .i64 ((rd_T144 l1 x9_1).f0))).setCell ⟨gb405, 1, none⟩ (.int .i64 ((rd_T144 l1 x9_1).f1))).setCell ⟨gb405, 2, none⟩ (.int .i64 ((rd_T144 l1 x9_1).f2))).setCell ⟨gb405, 3, none⟩ (.int .i64 ((rd_T144 l1 x9_1).f3))).setCell ⟨gb405, 4, none⟩ (.int .i64 ((rd_T144 l1 x9_1).f4)))) := ⟨zB HB.out⟩
      (try clear BK402)
      (try clear BK403)
      (try clear BK405)
      (try clear HB)
      generalize (((((w17.setCell ⟨gb405, 0, none⟩ (.int .i64 ((rd_T144 l1 x9_1).f0))).setCell ⟨gb405, 1, none⟩ (.int .i64 ((rd_T144 l1 x9_1).f1))).setCell ⟨gb405, 2, none⟩ (.int .i64 ((rd_T144 l1 x9_1).f2))).setCell ⟨gb405, 3, none⟩ (.int .i64 ((rd_T144 l1 x9_1).f3))).setCell ⟨gb405, 4, none⟩ (.int .i64 ((rd_T144 l1 x9_1).f4))) = w21 at n0_ n1_ n2_ n3_ ⊢
      have BK402 := n0_
      have BK403 := n1_
      have BK405 := n2_
      have HB := n3_
      clear n0_ n1_ n2_ n3_
      have n0_ := zQ (blk_drew BK402.out)
      have n1_ := zQ (blk_drew BK403.out)
      have n2_ := zQ (blk_drew BK405.out)
      have n3_ := zQ (below_drew1 HB.out)
      clear BK402
      clear BK403
      clear BK405
      clear HB
      have BK402 := n0_
      have BK403 := n1_
      have BK405 := n2_
      have HB := n3_
      clear n0_ n1_ n2_ n3_
      refine start_ (n := 38) (S := fun w' => w'.cell? ⟨gb402, 0, none⟩ = some (.int .i64 x403000_1) ∧ w'.cell? ⟨gb402, 1, none⟩ = some (.int .i64 x403001_1) ∧ w'.cell? ⟨gb402, 2, none⟩ = some (.int .i64 x403002_1) ∧ w'.cell? ⟨gb402, 3, none⟩ = some (.int .i64 x403003_1) ∧ w'.cell? ⟨gb402, 4, none⟩ = some (.int .i64 x403004_1) ∧ w'.cell? ⟨gb405, 0, none⟩ = some (.int .i64 ((rd_T144 l1 x9_1).f0)) ∧ w'.cell? ⟨gb405, 1, none⟩ = some (.int .i64 ((rd_T144 l1 x9_1).f1)) ∧ w'.cell? ⟨gb405, 2, none⟩ = some (.int .i64 ((rd_T144 l1 x9_1).f2)) ∧ w'.cell? ⟨gb405, 3, none⟩ = some (.int .i64 ((rd_T144 l1 x9_1).f3)) ∧ w'.cell? ⟨gb405, 4, none⟩ = some (.int .i64 ((rd_T144 l1 x9_1).f4))) (ds := [37]) #[false, false, false, false, false, false, false, false, false, false, false, false, false, false, false, false, false, false, false, false, false, false, false, false, false, false, false, false, false, false, false, false, false, false, false, false, false, false] (by kernel_rfl) rfl rfl ⟨(blk_cell BK402.out 0).trans rfl, (blk_cell BK402.out 1).trans rfl, (blk_cell BK402.out 2).trans rfl, (blk_cell BK402.out 3).trans rfl, (blk_cell BK402.out 4).trans rfl, (blk_cell BK405.out 0).trans rfl, (blk_cell BK405.out 1).trans rfl, (blk_cell BK405.out 2).trans rfl, (blk_cell BK405.out 3).trans rfl, (blk_cell BK405.out 4).trans rfl⟩ (fun hHeld => ?_); refine with_tabW impl_behind.tab4 impl_behind.bits4 (fun HT_ HW_ => ?_)
      generalize w21.drew = w22 at BK402 BK403 BK405 HB hHeld ⊢
      refine pure_ (i := 0) (N := some 13) (v := ?_) (a' := ?_) #[true, false, false, false, false, false, false, false, false, false, false, false, false, false, false, false, false, false, false, false, false, false, false, false, false, false, false, false, false, false, false, false, false, false, false, false, false, false] rfl rfl (any_of HT_.out (by kernel_rfl)) (fun _ _ _ h => h) (Or.inl ⟨by rfl, ?_⟩) ?_ ?_
      rotate_left
      ·intro w'
       go_simp
       with_reducible rfl
      rotate_left
      ·simp only [Act.put, List.setIfInBounds_toArray, List.set_cons_zero, List.set_cons_succ, i64_w, i32_w]
       rfl
      refine pure_ (i := 2) (N := some 15) (v := ?_) (a' := ?_) #[true, false, true, false, false, false, false, false, false, false, false, false, false, false, false, false, false, false, false, false, false, false, false, false, false, false, false, false, false, false, false, false, false, false, false, false, false, false] rfl rfl (any_of HT_.out (by kernel_rfl)) (fun _ _ _ h => h) (Or.inl ⟨by rfl, ?_⟩) ?_ ?_
      rotate_left
      ·intro w'
       go_simp
       with_reducible rfl
      rotate_left
      ·simp only [Act.put, List.setIfInBounds_toArray, List.set_cons_zero, List.set_cons_succ, i64_w, i32_w]
       rfl
      refine pure_ (i := 5) (N := some 18) (v := ?_) (a' := ?_) #[true, false, true, false, false, true, false, false, false, false, false, false, false, false, false, false, false, false, false, false, false, false, false, false, false, false, false, false, false, false, false, false, false, false, false, false, false, false] rfl rfl (any_of HT_.out (by kernel_rfl)) (fun _ _ _ h => h) (Or.inl ⟨by rfl, ?_⟩) ?_ ?_
      rotate_left
      ·intro w'
       go_simp
       with_reducible rfl
      rotate_left
      ·simp only [Act.put, List.setIfInBounds_toArray, List.set_cons_zero, List.set_cons_succ, i64_w, i32_w]
       rfl
      refine pure_ (i := 7) (N := some 20) (v := ?_) (a' := ?_) #[true, false, true, false, false, true, false, true, false, false, false, false, false, false, false, false, false, false, false, false, false, false, false, false, false, false, false, false, false, false, false, false, false, false, false, false, false, false] rfl rfl (any_of HT_.out (by kernel_rfl)) (fun _ _ _ h => h) (Or.inl ⟨by rfl, ?_⟩) ?_ ?_
      rotate_left
      ·intro w'
       go_simp
       with_reducible rfl
      rotate_left
      ·simp only [Act.put, List.setIfInBounds_toArray, List.set_cons_zero, List.set_cons_succ, i64_w, i32_w]
       rfl
      refine pure_ (i := 10) (N := some 23) (v := ?_) (a' := ?_) #[true, false, true, false, false, true, false, true, false, false, true, false, false, false, false, false, false, false, false, false, false, false, false, false, false, false, false, false, false, false, false, false, false, false, false, false, false, false] rfl rfl (any_of HT_.out (by kernel_rfl)) (fun _ _ _ h => h) (Or.inl ⟨by rfl, ?_⟩) ?_ ?_
      rotate_left
      ·intro w'
       go_simp
       with_reducible rfl
      rotate_left
      ·simp only [Act.put, List.setIfInBounds_toArray, List.set_cons_zero, List.set_cons_succ, i64_w, i32_w]
       rfl
      refine pure_ (i := 12) (N := some 25) (v := ?_) (a' := ?_) #[true, false, true, false, false, true, false, true, false, false, true, false, true, false, false, false, false, false, false, false, false, false, false, false, false, false, false, false, false, false, false, false, false, false, false, false, false, false] rfl rfl (any_of HT_.out (by kernel_rfl)) (fun _ _ _ h => h) (Or.inl ⟨by rfl, ?_⟩) ?_ ?_
      rotate_left
      ·intro w'
       go_simp
       with_reducible rfl
      rotate_left
      ·simp only [Act.put, List.setIfInBounds_toArray, List.set_cons_zero, List.set_cons_succ, i64_w, i32_w]
       rfl
      refine pure_ (i := 14) (N := some 27) (v := ?_) (a' := ?_) #[true, false, true, false, false, true, false, true, false, false, true, false, true, false, true, false, false, false, false, false, false, false, false, false, false, false, false, false, false, false, false, false, false, false, false, false, false, false] rfl rfl (any_of HT_.out (by kernel_rfl)) (fun _ _ _ h => h) (Or.inl ⟨by rfl, ?_⟩) ?_ ?_
      rotate_left
      ·intro w'
       go_simp
       with_reducible rfl
      rotate_left
      ·simp only [Act.put, List.setIfInBounds_toArray, List.set_cons_zero, List.set_cons_succ, i64_w, i32_w]
       rfl
      refine pure_ (i := 18) (N := some 31) (v := ?_) (a' := ?_) #[true, false, true, false, false, true, false, true, false, false, true, false, true, false, true, false, false, false, true, false, false, false, false, false, false, false, false, false, false, false, false, false, false, false, false, false, false, false] rfl rfl (any_of HT_.out (by kernel_rfl)) (fun _ _ _ h => h) (Or.inl ⟨by rfl, ?_⟩) ?_ ?_
      rotate_left
      ·intro w'
       go_simp
       with_reducible rfl
      rotate_left
      ·simp only [Act.put, List.setIfInBounds_toArray, List.set_cons_zero, List.set_cons_succ, i64_w, i32_w]
       rfl
      refine pure_ (i := 20) (N := some 33) (v := ?_) (a' := ?_) #[true, false, true, false, false, true, false, true, false, false, true, false, true, false, true, false, false, false, true, false, true, false, false, false, false, false, false, false, false, false, false, false, false, false, false, false, false, false] rfl rfl (any_of HT_.out (by kernel_rfl)) (fun _ _ _ h => h) (Or.inl ⟨by rfl, ?_⟩) ?_ ?_
      rotate_left
      ·intro w'
       go_simp
       with_reducible rfl
      rotate_left
      ·simp only [Act.put, List.setIfInBounds_toArray, List.set_cons_zero, List.set_cons_succ, i64_w, i32_w]
       rfl
      refine pure_ (i := 22) (N := some 35) (v := ?_) (a' := ?_) #[true, false, true, false, false, true, false, true, false, false, true, false, true, false, true, false, false, false, true, false, true, false, true, false, false, false, false, false, false, false, false, false, false, false, false, false, false, false] rfl rfl (any_of HT_.out (by kernel_rfl)) (fun _ _ _ h => h) (Or.inl ⟨by rfl, ?_⟩) ?_ ?_
      rotate_left
      ·intro w'
       go_simp
       with_reducible rfl
      rotate_left
      ·simp only [Act.put, List.setIfInBounds_toArray, List.set_cons_zero, List.set_cons_succ, i64_w, i32_w]
       rfl
      refine pure_ (i := 26) (N := some 39) (v := ?_) (a' := ?_) #[true, false, true, false, false, true, false, true, false, false, true, false, true, false, true, false, false, false, true, false, true, false, true, false, false, false, true, false, false, false, false, false, false, false, false, false, false, false] rfl rfl (any_of HT_.out (by kernel_rfl)) (fun _ _ _ h => h) (Or.inl ⟨by rfl, ?_⟩) ?_ ?_
      rotate_left
      ·intro w'
       go_simp
       with_reducible rfl
      rotate_left
      ·simp only [Act.put, List.setIfInBounds_toArray, List.set_cons_zero, List.set_cons_succ, i64_w, i32_w]
       rfl
      refine pure_ (i := 28) (N := some 41) (v := ?_) (a' := ?_) #[true, false, true, false, false, true, false, true, false, false, true, false, true, false, true, false, false, false, true, false, true, false, true, false, false, false, true, false, true, false, false, false, false, false, false, false, false, false] rfl rfl (any_of HT_.out (by kernel_rfl)) (fun _ _ _ h => h) (Or.inl ⟨by rfl, ?_⟩) ?_ ?_
      rotate_left
      ·intro w'
       go_simp
       with_reducible rfl
      rotate_left
      ·simp only [Act.put, List.setIfInBounds_toArray, List.set_cons_zero, List.set_cons_succ, i64_w, i32_w]
       rfl
      refine pure_ (i := 30) (N := some 43) (v := ?_) (a' := ?_) #[true, false, true, false, false, true, false, true, false, false, true, false, true, false, true, false, false, false, true, false, true, false, true, false, false, false, true, false, true, false, true, false, false, false, false, false, false, false] rfl rfl (any_of HT_.out (by kernel_rfl)) (fun _ _ _ h => h) (Or.inl ⟨by rfl, ?_⟩) ?_ ?_
      rotate_left
      ·intro w'
       go_simp
       with_reducible rfl
      rotate_left
      ·simp only [Act.put, List.setIfInBounds_toArray, List.set_cons_zero, List.set_cons_succ, i64_w, i32_w]
       rfl
      refine pure_ (i := 32) (N := some 45) (v := ?_) (a' := ?_) #[true, false, true, false, false, true, false, true, false, false, true, false, true, false, true, false, false, false, true, false, true, false, true, false, false, false, true, false, true, false, true, false, true, false, false, false, false, false] rfl rfl (any_of HT_.out (by kernel_rfl)) (fun _ _ _ h => h) (Or.inl ⟨by rfl, ?_⟩) ?_ ?_
      rotate_left
      ·intro w'
       go_simp
       with_reducible rfl
      rotate_left
      ·simp only [Act.put, List.setIfInBounds_toArray, List.set_cons_zero, List.set_cons_succ, i64_w, i32_w]
       rfl
      refine take_ (i := 1) (N := some 14) (v := ?_) (a' := ?_) #[true, true, true, false, false, true, false, true, false, false, true, false, true, false, true, false, false, false, true, false, true, false, true, false, false, false, true, false, true, false, true, false, true, false, false, false, false, false] rfl rfl (take_ofW HT_.out HW_.out (by kernel_rfl)) (fun _ _ _ h => h) (Or.inl ⟨by rfl, ?_⟩) hHeld ?_ ?_
      rotate_left
      ·rintro w' ⟨s0, s1, s2, s3, s4, s5, s6, s7, s8, s9⟩
       go_simp
       with_reducible rfl
      rotate_left
      ·simp only [Act.put, List.setIfInBounds_toArray, List.set_cons_zero, List.set_cons_succ, i64_w, i32_w]
       rfl
      refine take_ (i := 3) (N := some 16) (v := ?_) (a' := ?_) #[true, true, true, true, false, true, false, true, false, false, true, false, true, false, true, false, false, false, true, false, true, false, true, false, false, false, true, false, true, false, true, false, true, false, false, false, false, false] rfl rfl (take_ofW HT_.out HW_.out (by kernel_rfl)) (fun _ _ _ h => h) (Or.inl ⟨by rfl, ?_⟩) hHeld ?_ ?_
      rotate_left
      ·rintro w' ⟨s0, s1, s2, s3, s4, s5, s6, s7, s8, s9⟩
       go_simp
       with_reducible rfl
      rotate_left
      ·simp only [Act.put, List.setIfInBounds_toArray, List.set_cons_zero, List.set_cons_succ, i64_w, i32_w]
       rfl
      refine take_ (i := 6) (N := some 19) (v := ?_) (a' := ?_) #[true, true, true, true, false, true, true, true, false, false, true, false, true, false, true, false, false, false, true, false, true, false, true, false, false, false, true, false, true, false, true, false, true, false, false, false, false, false] rfl rfl (take_ofW HT_.out HW_.out (by kernel_rfl)) (fun _ _ _ h => h) (Or.inl ⟨by rfl, ?_⟩) hHeld ?_ ?_
      rotate_left
      ·rintro w' ⟨s0, s1, s2, s3, s4, s5, s6, s7, s8, s9⟩
       go_simp
       with_reducible rfl
      rotate_left
      ·simp only [Act.put, List.setIfInBounds_toArray, List.set_cons_zero, List.set_cons_succ, i64_w, i32_w]
       rfl
      refine take_ (i := 8) (N := some 21) (v := ?_) (a' := ?_) #[true, true, true, true, false, true, true, true, true, false, true, false, true, false, true, false, false, false, true, false, true, false, true, false, false, false, true, false, true, false, true, false, true, false, false, false, false, false] rfl rfl (take_ofW HT_.out HW_.out (by kernel_rfl)) (fun _ _ _ h => h) (Or.inl ⟨by rfl, ?_⟩) hHeld ?_ ?_
      rotate_left
      ·rintro w' ⟨s0, s1, s2, s3, s4, s5, s6, s7, s8, s9⟩
       go_simp
       with_reducible rfl
      rotate_left
      ·simp only [Act.put, List.setIfInBounds_toArray, List.set_cons_zero, List.set_cons_succ, i64_w, i32_w]
       rfl
      refine take_ (i := 11) (N := some 24) (v := ?_) (a' := ?_) #[true, true, true, true, false, true, true, true, true, false, true, true, true, false, true, false, false, false, true, false, true, false, true, false, false, false, true, false, true, false, true, false, true, false, false, false, false, false] rfl rfl (take_ofW HT_.out HW_.out (by kernel_rfl)) (fun _ _ _ h => h) (Or.inl ⟨by rfl, ?_⟩) hHeld ?_ ?_
      rotate_left
      ·rintro w' ⟨s0, s1, s2, s3, s4, s5, s6, s7, s8, s9⟩
       go_simp
       with_reducible rfl
      rotate_left
      ·simp only [Act.put, List.setIfInBounds_toArray, List.set_cons_zero, List.set_cons_succ, i64_w, i32_w]
       rfl
      refine take_ (i := 13) (N := some 26) (v := ?_) (a' := ?_) #[true, true, true, true, false, true, true, true, true, false, true, true, true, true, true, false, false, false, true, false, true, false, true, false, false, false, true, false, true, false, true, false, true, false, false, false, false, false] rfl rfl (take_ofW HT_.out HW_.out (by kernel_rfl)) (fun _ _ _ h => h) (Or.inl ⟨by rfl, ?_⟩) hHeld ?_ ?_
      rotate_left
      ·rintro w' ⟨s0, s1, s2, s3, s4, s5, s6, s7, s8, s9⟩
       go_simp
       with_reducible rfl
      rotate_left
      ·simp only [Act.put, List.setIfInBounds_toArray, List.set_cons_zero, List.set_cons_succ, i64_w, i32_w]
       rfl
      refine take_ (i := 15) (N := some 28) (v := ?_) (a' := ?_) #[true, true, true, true, false, true, true, true, true, false, true, true, true, true, true, true, false, false, true, false, true, false, true, false, false, false, true, false, true, false, true, false, true, false, false, false, false, false] rfl rfl (take_ofW HT_.out HW_.out (by kernel_rfl)) (fun _ _ _ h => h) (Or.inl ⟨by rfl, ?_⟩) hHeld ?_ ?_
      rotate_left
      ·rintro w' ⟨s0, s1, s2, s3, s4, s5, s6, s7, s8, s9⟩
       go_simp
       with_reducible rfl
      rotate_left
      ·simp only [Act.put, List.setIfInBounds_toArray, List.set_cons_zero, List.set_cons_succ, i64_w, i32_w]
       rfl
      refine take_ (i := 19) (N := some 32) (v := ?_) (a' := ?_) #[true, true, true, true, false, true, true, true, true, false, true, true, true, true, true, true, false, false, true, true, true, false, true, false, false, false, true, false, true, false, true, false, true, false, false, false, false, false] rfl rfl (take_ofW HT_.out HW_.out (by kernel_rfl)) (fun _ _ _ h => h) (Or.inl ⟨by rfl, ?_⟩) hHeld ?_ ?_
      rotate_left
      ·rintro w' ⟨s0, s1, s2, s3, s4, s5, s6, s7, s8, s9⟩
       go_simp
       with_reducible rfl
      rotate_left
      ·simp only [Act.put, List.setIfInBounds_toArray, List.set_cons_zero, List.set_cons_succ, i64_w, i32_w]
       rfl
      refine take_ (i := 21) (N := some 34) (v := ?_) (a' := ?_) #[true, true, true, true, false, true, true, true, true, false, true, true, true, true, true, true, false, false, true, true, true, true, true, false, false, false, true, false, true, false, true, false, true, false, false, false, false, false] rfl rfl (take_ofW HT_.out HW_.out (by kernel_rfl)) (fun _ _ _ h => h) (Or.inl ⟨by rfl, ?_⟩) hHeld ?_ ?_
      rotate_left
      ·rintro w' ⟨s0, s1, s2, s3, s4, s5, s6, s7, s8, s9⟩
       go_simp
       with_reducible rfl
      rotate_left
      ·simp only [Act.put, List.setIfInBounds_toArray, List.set_cons_zero, List.set_cons_succ, i64_w, i32_w]
       rfl
      refine take_ (i := 23) (N := some 36) (v := ?_) (a' := ?_) #[true, true, true, true, false, true, true, true, true, false, true, true, true, true, true, true, false, false, true, true, true, true, true, true, false, false, true, false, true, false, true, false, true, false, false, false, false, false] rfl rfl (take_ofW HT_.out HW_.out (by kernel_rfl)) (fun _ _ _ h => h) (Or.inl ⟨by rfl, ?_⟩) hHeld ?_ ?_
      rotate_left
      ·rintro w' ⟨s0, s1, s2, s3, s4, s5, s6, s7, s8, s9⟩
       go_simp
       with_reducible rfl
      rotate_left
      ·simp only [Act.put, List.setIfInBounds_toArray, List.set_cons_zero, List.set_cons_succ, i64_w, i32_w]
       rfl
      refine take_ (i := 27) (N := some 40) (v := ?_) (a' := ?_) #[true, true, true, true, false, true, true, true, true, false, true, true, true, true, true, true, false, false, true, true, true, true, true, true, false, false, true, true, true, false, true, false, true, false, false, false, false, false] rfl rfl (take_ofW HT_.out HW_.out (by kernel_rfl)) (fun _ _ _ h => h) (Or.inl ⟨by rfl, ?_⟩) hHeld ?_ ?_
      rotate_left
      ·rintro w' ⟨s0, s1, s2, s3, s4, s5, s6, s7, s8, s9⟩
       go_simp
       with_reducible rfl
      rotate_left
      ·simp only [Act.put, List.setIfInBounds_toArray, List.set_cons_zero, List.set_cons_succ, i64_w, i32_w]
       rfl
      refine take_ (i := 29) (N := some 42) (v := ?_) (a' := ?_) #[true, true, true, true, false, true, true, true, true, false, true, true, true, true, true, true, false, false, true, true, true, true, true, true, false, false, true, true, true, true, true, false, true, false, false, false, false, false] rfl rfl (take_ofW HT_.out HW_.out (by kernel_rfl)) (fun _ _ _ h => h) (Or.inl ⟨by rfl, ?_⟩) hHeld ?_ ?_
      rotate_left
      ·rintro w' ⟨s0, s1, s2, s3, s4, s5, s6, s7, s8, s9⟩
       go_simp
       with_reducible rfl
      rotate_left
      ·simp only [Act.put, List.setIfInBounds_toArray, List.set_cons_zero, List.set_cons_succ, i64_w, i32_w]
       rfl
      refine take_ (i := 31) (N := some 44) (v := ?_) (a' := ?_) #[true, true, true, true, false, true, true, true, true, false, true, true, true, true, true, true, false, false, true, true, true, true, true, true, false, false, true, true, true, true, true, true, true, false, false, false, false, false] rfl rfl (take_ofW HT_.out HW_.out (by kernel_rfl)) (fun _ _ _ h => h) (Or.inl ⟨by rfl, ?_⟩) hHeld ?_ ?_
      rotate_left
      ·rintro w' ⟨s0, s1, s2, s3, s4, s5, s6, s7, s8, s9⟩
       go_simp
       with_reducible rfl
      rotate_left
      ·simp only [Act.put, List.setIfInBounds_toArray, List.set_cons_zero, List.set_cons_succ, i64_w, i32_w]
       rfl
      refine take_ (i := 33) (N := some 46) (v := ?_) (a' := ?_) #[true, true, true, true, false, true, true, true, true, false, true, true, true, true, true, true, false, false, true, true, true, true, true, true, false, false, true, true, true, true, true, true, true, true, false, false, false, false] rfl rfl (take_ofW HT_.out HW_.out (by kernel_rfl)) (fun _ _ _ h => h) (Or.inl ⟨by rfl, ?_⟩) hHeld ?_ ?_
      rotate_left
      ·rintro w' ⟨s0, s1, s2, s3, s4, s5, s6, s7, s8, s9⟩
       go_simp
       with_reducible rfl
      rotate_left
      ·simp only [Act.put, List.setIfInBounds_toArray, List.set_cons_zero, List.set_cons_succ, i64_w, i32_w]
       rfl
      refine one_ (i := 4) (N := some 17) #[true, true, true, true, true, true, true, true, true, false, true, true, true, true, true, true, false, false, true, true, true, true, true, true, false, false, true, true, true, true, true, true, true, true, false, false, false, false] rfl rfl (one_of HT_.out (by kernel_rfl)) (by decide) (fun K hK => ?_)
      refine goes_ Try.func257 (by kernel_rfl) rfl #[.int .i64 x403000_1, .int .i64 ((rd_T144 l1 x9_1).f0)] (by rfl) rfl rfl zS ?_
      with_reducible refine (impl_plus.calls x403000_1 ((rd_T144 l1 x9_1).f0) t406 _ A8.out).mono ?_
      rintro e w23 ⟨rfl, hb⟩
      refine ⟨_, rfl, ?_⟩
      have n0_ := zQ (zL BK402.out hb)
      have n1_ := zQ (zL BK403.out hb)
      have n2_ := zQ (zL BK405.out hb)
      have n3_ := zQ (below_step (zB HB.out) hb)
      clear BK402
      clear BK403
      clear BK405
      clear HB
      have BK402 := n0_
      have BK403 := n1_
      have BK405 := n2_
      have HB := n3_
      clear n0_ n1_ n2_ n3_
      (try clear hb)
      (try clear hb2)
      (try clear hk)
      (try clear hi)
      refine hK.out _ _ ⟨(blk_cell BK402.out 0).trans rfl, (blk_cell BK402.out 1).trans rfl, (blk_cell BK402.out 2).trans rfl, (blk_cell BK402.out 3).trans rfl, (blk_cell BK402.out 4).trans rfl, (blk_cell BK405.out 0).trans rfl, (blk_cell BK405.out 1).trans rfl, (blk_cell BK405.out 2).trans rfl, (blk_cell BK405.out 3).trans rfl, (blk_cell BK405.out 4).trans rfl⟩ (fun hHeld => ?_)
      clear hK K
      refine norm_ (a' := ?_) ?_ ?_
      rotate_left
      ·show Act.put _ (some 17) _ = _
       simp only [Act.put, List.setIfInBounds_toArray, List.set_cons_zero, List.set_cons_succ, i64_w, i32_w]
       rfl
      refine one_ (i := 9) (N := some 22) #[true, true, true, true, true, true, true, true, true, true, true, true, true, true, true, true, false, false, true, true, true, true, true, true, false, false, true, true, true, true, true, true, true, true, false, false, false, false] rfl rfl (one_of HT_.out (by kernel_rfl)) (by decide) (fun K hK => ?_)
      refine goes_ Try.func257 (by kernel_rfl) rfl #[.int .i64 x403001_1, .int .i64 ((rd_T144 l1 x9_1).f1)] (by rfl) rfl rfl zS ?_
      with_reducible refine (impl_plus.calls x403001_1 ((rd_T144 l1 x9_1).f1) t407 _ A9.out).mono ?_
      rintro e w24 ⟨rfl, hb⟩
      refine ⟨_, rfl, ?_⟩
      have n0_ := zQ (zL BK402.out hb)
      have n1_ := zQ (zL BK403.out hb)
      have n2_ := zQ (zL BK405.out hb)
      have n3_ := zQ (below_step (zB HB.out) hb)
      clear BK402
      clear BK403
      clear BK405
      clear HB
      have BK402 := n0_
      have BK403 := n1_
      have BK405 := n2_
      have HB := n3_
      clear n0_ n1_ n2_ n3_
      (try clear hb)
      (try clear hb2)
      (try clear hk)
      (try clear hi)
      refine hK.out _ _ ⟨(blk_cell BK402.out 0).trans rfl, (blk_cell BK402.out 1).trans rfl, (blk_cell BK402.out 2).trans rfl, (blk_cell BK402.out 3).trans rfl, (blk_cell BK402.out 4).trans rfl, (blk_cell BK405.out 0).trans rfl, (blk_cell BK405.out 1).trans rfl, (blk_cell BK405.out 2).trans rfl, (blk_cell BK405.out 3).trans rfl, (blk_cell BK405.out 4).trans rfl⟩ (fun hHeld => ?_)
      clear hK K
      refine norm_ (a' := ?_) ?_ ?_
      rotate_left
      ·show Act.put _ (some 22) _ = _
       simp only [Act.put, List.setIfInBounds_toArray, List.set_cons_zero, List.set_cons_succ, i64_w, i32_w]
       rfl
      refine one_ (i := 16) (N := some 29) #[true, true, true, true, true, true, true, true, true, true, true, true, true, true, true, true, true, false, true, true, true, true, true, true, false, false, true, true, true, true, true, true, true, true, false, false, false, false] rfl rfl (one_of HT_.out (by kernel_rfl)) (by decide) (fun K hK => ?_)
      refine goes_ Try.func257 (by kernel_rfl) rfl #[.int .i64 x403001_1, .int .i64 ((rd_T144 l1 x9_1).f2)] (by rfl) rfl rfl zS ?_
      with_reducible refine (impl_plus.calls x403001_1 ((rd_T144 l1 x9_1).f2) t408 _ A10.out).mono ?_
      rintro e w25 ⟨rfl, hb⟩
      refine ⟨_, rfl, ?_⟩
      have n0_ := zQ (zL BK402.out hb)
      have n1_ := zQ (zL BK403.out hb)
      have n2_ := zQ (zL BK405.out hb)
      have n3_ := zQ (below_step (zB HB.out) hb)
      clear BK402
      clear BK403
      clear BK405
      clear HB
      have BK402 := n0_
      have BK403 := n1_
      have BK405 := n2_
      have HB := n3_
      clear n0_ n1_ n2_ n3_
      (try clear hb)
      (try clear hb2)
      (try clear hk)
      (try clear hi)
      refine hK.out _ _ ⟨(blk_cell BK402.out 0).trans rfl, (blk_cell BK402.out 1).trans rfl, (blk_cell BK402.out 2).trans rfl, (blk_cell BK402.out 3).trans rfl, (blk_cell BK402.out 4).trans rfl, (blk_cell BK405.out 0).trans rfl, (blk_cell BK405.out 1).trans rfl, (blk_cell BK405.out 2).trans rfl, (blk_cell BK405.out 3).trans rfl, (blk_cell BK405.out 4).trans rfl⟩ (fun hHeld => ?_)
      clear hK K
      refine norm_ (a' := ?_) ?_ ?_
      rotate_left
      ·show Act.put _ (some 29) _ = _
       simp only [Act.put, List.setIfInBounds_toArray, List.set_cons_zero, List.set_cons_succ, i64_w, i32_w]
       rfl
      refine pure_ (i := 17) (N := some 30) (v := ?_) (a' := ?_) #[true, true, true, true, true, true, true, true, true, true, true, true, true, true, true, true, true, true, true, true, true, true, true, true, false, false, true, true, true, true, true, true, true, true, false, false, false, false] rfl rfl (any_of HT_.out (by kernel_rfl)) (fun _ _ _ h => h) (Or.inl ⟨by rfl, ?_⟩) ?_ ?_
      rotate_left
      ·intro w'
       go_simp
       with_reducible rfl
      rotate_left
      ·simp only [Act.put, List.setIfInBounds_toArray, List.set_cons_zero, List.set_cons_succ, i64_w, i32_w]
       rfl
      refine one_ (i := 24) (N := some 37) #[true, true, true, true, true, true, true, true, true, true, true, true, true, true, true, true, true, true, true, true, true, true, true, true, true, false, true, true, true, true, true, true, true, true, false, false, false, false] rfl rfl (one_of HT_.out (by kernel_rfl)) (by decide) (fun K hK => ?_)
      refine goes_ Try.func257 (by kernel_rfl) rfl #[.int .i64 x403003_1, .int .i64 ((rd_T144 l1 x9_1).f1)] (by rfl) rfl rfl zS ?_
      with_reducible refine (impl_plus.calls x403003_1 ((rd_T144 l1 x9_1).f1) t409 _ A12.out).mono ?_
      rintro e w26 ⟨rfl, hb⟩
      refine ⟨_, rfl, ?_⟩
      have n0_ := zQ (zL BK402.out hb)
      have n1_ := zQ (zL BK403.out hb)
      have n2_ := zQ (zL BK405.out hb)
      have n3_ := zQ (below_step (zB HB.out) hb)
      clear BK402
      clear BK403
      clear BK405
      clear HB
      have BK402 := n0_
      have BK403 := n1_
      have BK405 := n2_
      have HB := n3_
      clear n0_ n1_ n2_ n3_
      (try clear hb)
      (try clear hb2)
      (try clear hk)
      (try clear hi)
      refine hK.out _ _ ⟨(blk_cell BK402.out 0).trans rfl, (blk_cell BK402.out 1).trans rfl, (blk_cell BK402.out 2).trans rfl, (blk_cell BK402.out 3).trans rfl, (blk_cell BK402.out 4).trans rfl, (blk_cell BK405.out 0).trans rfl, (blk_cell BK405.out 1).trans rfl, (blk_cell BK405.out 2).trans rfl, (blk_cell BK405.out 3).trans rfl, (blk_cell BK405.out 4).trans rfl⟩ (fun hHeld => ?_)
      clear hK K
      refine norm_ (a' := ?_) ?_ ?_
      rotate_left
      ·show Act.put _ (some 37) _ = _
       simp only [Act.put, List.setIfInBounds_toArray, List.set_cons_zero, List.set_cons_succ, i64_w, i32_w]
       rfl
      refine pure_ (i := 25) (N := some 38) (v := ?_) (a' := ?_) #[true, true, true, true, true, true, true, true, true, true, true, true, true, true, true, true, true, true, true, true, true, true, true, true, true, true, true, true, true, true, true, true, true, true, false, false, false, false] rfl rfl (any_of HT_.out (by kernel_rfl)) (fun _ _ _ h => h) (Or.inl ⟨by rfl, ?_⟩) ?_ ?_
      rotate_left
      ·intro w'
       go_simp
       with_reducible rfl
      rotate_left
      ·simp only [Act.put, List.setIfInBounds_toArray, List.set_cons_zero, List.set_cons_succ, i64_w, i32_w]
       rfl
      refine one_ (i := 34) (N := some 47) #[true, true, true, true, true, true, true, true, true, true, true, true, true, true, true, true, true, true, true, true, true, true, true, true, true, true, true, true, true, true, true, true, true, true, true, false, false, false] rfl rfl (one_of HT_.out (by kernel_rfl)) (by decide) (fun K hK => ?_)
      refine goes_ Try.func257 (by kernel_rfl) rfl #[.int .i64 x403003_1, .int .i64 ((rd_T144 l1 x9_1).f2)] (by rfl) rfl rfl zS ?_
      with_reducible refine (impl_plus.calls x403003_1 ((rd_T144 l1 x9_1).f2) t410 _ A14.out).mono ?_
      rintro e w27 ⟨rfl, hb⟩
      refine ⟨_, rfl, ?_⟩
      have n0_ := zQ (zL BK402.out hb)
      have n1_ := zQ (zL BK403.out hb)
      have n2_ := zQ (zL BK405.out hb)
      have n3_ := zQ (below_step (zB HB.out) hb)
      clear BK402
      clear BK403
      clear BK405
      clear HB
      have BK402 := n0_
      have BK403 := n1_
      have BK405 := n2_
      have HB := n3_
      clear n0_ n1_ n2_ n3_
      (try clear hb)
      (try clear hb2)
      (try clear hk)
      (try clear hi)
      refine hK.out _ _ ⟨(blk_cell BK402.out 0).trans rfl, (blk_cell BK402.out 1).trans rfl, (blk_cell BK402.out 2).trans rfl, (blk_cell BK402.out 3).trans rfl, (blk_cell BK402.out 4).trans rfl, (blk_cell BK405.out 0).trans rfl, (blk_cell BK405.out 1).trans rfl, (blk_cell BK405.out 2).trans rfl, (blk_cell BK405.out 3).trans rfl, (blk_cell BK405.out 4).trans rfl⟩ (fun hHeld => ?_)
      clear hK K
      refine norm_ (a' := ?_) ?_ ?_
      rotate_left
      ·show Act.put _ (some 47) _ = _
       simp only [Act.put, List.setIfInBounds_toArray, List.set_cons_zero, List.set_cons_succ, i64_w, i32_w]
       rfl
      refine pure_ (i := 35) (N := some 48) (v := ?_) (a' := ?_) #[true, true, true, true, true, true, true, true, true, true, true, true, true, true, true, true, true, true, true, true, true, true, true, true, true, true, true, true, true, true, true, true, true, true, true, true, false, false] rfl rfl (any_of HT_.out (by kernel_rfl)) (fun _ _ _ h => h) (Or.inl ⟨by rfl, ?_⟩) ?_ ?_
      rotate_left
      ·intro w'
       go_simp
       with_reducible rfl
      rotate_left
      ·simp only [Act.put, List.setIfInBounds_toArray, List.set_cons_zero, List.set_cons_succ, i64_w, i32_w]
       rfl
      refine pure_ (i := 36) (N := some 49) (v := ?_) (a' := ?_) #[true, true, true, true, true, true, true, true, true, true, true, true, true, true, true, true, true, true, true, true, true, true, true, true, true, true, true, true, true, true, true, true, true, true, true, true, true, false] rfl rfl (any_of HT_.out (by kernel_rfl)) (fun _ _ _ h => h) (Or.inl ⟨by rfl, ?_⟩) ?_ ?_
      rotate_left
      ·intro w'
       go_simp
       with_reducible rfl
      rotate_left
      ·simp only [Act.put, List.setIfInBounds_toArray, List.set_cons_zero, List.set_cons_succ, i64_w, i32_w]
       rfl
      refine last_ (i := 37) (N := none) #[true, true, true, true, true, true, true, true, true, true, true, true, true, true, true, true, true, true, true, true, true, true, true, true, true, true, true, true, true, true, true, true, true, true, true, true, true, true] rfl rfl (one_of HT_.out (by kernel_rfl)) (by decide) (fun K hK => ?_)
      have hs28 : w27.cell? ⟨gb402, 0, none⟩ = some (.int .i64 x403000_1) := (blk_cell BK402.out 0).trans rfl
      have hfs28 := blk_frozen BK402.out 0
      have hns28_1 := NB403_402.out
      have hns28_2 := NB405_402.out
      have hms28_1 := NB402_403.out
      have hms28_2 := NB402_405.out
      have hs29 : w27.cell? ⟨gb402, 1, none⟩ = some (.int .i64 x403001_1) := (blk_cell BK402.out 1).trans rfl
      have hfs29 := blk_frozen BK402.out 1
      have hns29_1 := NB403_402.out
      have hns29_2 := NB405_402.out
      have hms29_1 := NB402_403.out
      have hms29_2 := NB402_405.out
      have hs30 : w27.cell? ⟨gb402, 2, none⟩ = some (.int .i64 x403002_1) := (blk_cell BK402.out 2).trans rfl
      have hfs30 := blk_frozen BK402.out 2
      have hns30_1 := NB403_402.out
      have hns30_2 := NB405_402.out
      have hms30_1 := NB402_403.out
      have hms30_2 := NB402_405.out
      have hs31 : w27.cell? ⟨gb402, 3, none⟩ = some (.int .i64 x403003_1) := (blk_cell BK402.out 3).trans rfl
      have hfs31 := blk_frozen BK402.out 3
      have hns31_1 := NB403_402.out
      have hns31_2 := NB405_402.out
      have hms31_1 := NB402_403.out
      have hms31_2 := NB402_405.out
      have hs32 : w27.cell? ⟨gb402, 4, none⟩ = some (.int .i64 x403004_1) := (blk_cell BK402.out 4).trans rfl
      have hfs32 := blk_frozen BK402.out 4
      have hns32_1 := NB403_402.out
      have hns32_2 := NB405_402.out
      have hms32_1 := NB402_403.out
      have hms32_2 := NB402_405.out
      refine skip_ (w1 := ?_) (by rfl) rfl ?_ ?_
      rotate_left
      ·go_simp
       rfl
      refine hK.out _ _ ?_
      clear hK K
      refine done_ (done_of HT_.out (by kernel_rfl)) ?_
      try go_wp2
      go_roundg k1
      case measure => have := HK1.out; omega
      case rel => exact ⟨(wrap64 (x9_1 + 1)), (t406), (t407), (ji11), (ji13), (ji16), (by first | rfl | (simp; done) | (simp [*]; done)), H', ⟨by have := HK1.out; omega⟩, ⟨zP BK402.out⟩, ⟨zF BK403.out⟩, ⟨zB HB.out⟩⟩
     ·rw [if_neg c7] at H
      exact absurd H (by simp)
    ·rw [if_neg c6] at H
     exact absurd H (by simp)
   ·rw [if_neg c5] at H
    have c5b0 : decide (x9_1 < (l1.length : Int)) = false := decide_eq_false c5
    clear c5
    simp only [Option.some.injEq, Prod.mk.injEq] at H
    obtain ⟨rfl, rfl, rfl, rfl, rfl⟩ := H
    have hnb33 := NB402_403.out
    have hnc33 := NB403_402.out
    obtain ⟨hcz34_0, hcz34_1, hcz34_2, hcz34_3, hcz34_4, hfz34_0, hfz34_1, hfz34_2, hfz34_3, hfz34_4⟩ := zc5 BK402.out
    obtain ⟨hcz35_0, hcz35_1, hcz35_2, hcz35_3, hcz35_4, hfz35_0, hfz35_1, hfz35_2, hfz35_3, hfz35_4⟩ := zc5 BK403.out
    go_wp2
    refine bodyPost_ret (results_cell_row rfl _ _ gb403 144 #[.int .i64 x403000_1, .int .i64 x403001_1, .int .i64 x403002_1, .int .i64 x403003_1, .int .i64 x403004_1] (0, 0) _ rfl (zP BK403.out) Try.underlying144 rfl (by kernel_rfl)) rfl ?_
    exact ⟨by first | rfl | (simp [errW_none, errW_some] <;> rfl) | (simp [*, errW_none, errW_some] <;> rfl), zB HB.out⟩

end Go.Proofs.Ytkegjmkdnfpfdaa.MFnExactCostsOf
