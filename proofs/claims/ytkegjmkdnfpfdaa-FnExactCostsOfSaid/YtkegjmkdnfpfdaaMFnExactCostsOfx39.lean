-- By a program of this session.
import Derived.Test.YtkegjmkdnfpfdaaMFnExactCostsOfx0
import Derived.Test.YtkegjmkdnfpfdaaMFnExactCostsOfx36
import Derived.Test.YtkegjmkdnfpfdaaMFnExactCostsOfx37
namespace Go.Proofs.Ytkegjmkdnfpfdaa.MFnExactCostsOf
open Go.RowKit Go.Proofs.YtkegjmkdnfpfdaaW.PrintWords Go.Proofs.YtkegjmkdnfpfdaaW.PrintLast Go.Proofs.YtkegjmkdnfpfdaaW.PrintMore
attribute [local go_sem] max2_int min2_int max_two min_two max_three min_three max_four min_four
set_option linter.unusedVariables false
set_option linter.unusedSimpArgs false
set_option maxHeartbeats 8000000
set_option maxRecDepth 100000

/-! ### impl_repeated: function 227 -/
def impl_repeated.l0 : Nat → Int → Int → Int → Int → Int → Int → Int → Int → Int → Int → Int → Int → Option (Int × Int × Int × Int × Int)
 | 0, _, _, _, _, _, _, _, _, _, _, _, _ => none
 | k + 1, x7, x8, x415000, x415001, x415002, x415003, x415004, x422000, x422001, x422002, x422003, x422004 => if x8 < x7 then ((impl_behind.f k x422000 x422001 x422002 x422003 x422004 (([(⟨x415000, x415001, x415002, x415003, x415004⟩ : S144)] : List (S144)))).bind fun bt425 => (impl_repeated.l0 k x7 (wrap64 (x8 + 1)) x415000 x415001 x415002 x415003 x415004 bt425.1 bt425.2.1 bt425.2.2.1 bt425.2.2.2.1 bt425.2.2.2.2)) else (some (x422000, x422001, x422002, x422003, x422004))
def impl_repeated.f (k : Nat) (a0_0 : Int) (a0_1 : Int) (a0_2 : Int) (a0_3 : Int) (a0_4 : Int) (a1 : Int) : Option (Int × Int × Int × Int × Int) := (impl_oneCost.f 0 false).bind fun bt416 => (impl_repeated.l0 k a1 0 a0_0 a0_1 a0_2 a0_3 a0_4 bt416.1 bt416.2.1 bt416.2.2.1 bt416.2.2.2.1 bt416.2.2.2.2)
theorem impl_repeated.mono_l : ∀ k, (∀ y0 y1 y2 y3 y4 y5 y6 y7 y8 y9 y10 y11, LeO (impl_repeated.l0 k y0 y1 y2 y3 y4 y5 y6 y7 y8 y9 y10 y11) (impl_repeated.l0 (k + 1) y0 y1 y2 y3 y4 y5 y6 y7 y8 y9 y10 y11))
 | 0 => fun _ _ _ _ _ _ _ _ _ _ _ _ r h => by simp [impl_repeated.l0] at h
 | k + 1 => by
  have ih0 := impl_repeated.mono_l k
  ·intro y0 y1 y2 y3 y4 y5 y6 y7 y8 y9 y10 y11
   unfold impl_repeated.l0
   repeat' first
   | (with_reducible exact ih0 _ _ _ _ _ _ _ _ _ _ _ _)
   | (with_reducible exact impl_behind.mono _ _ _ _ _ _ _)
   | (with_reducible exact LeO.refl _)
   | (with_reducible exact LeO.none _)
   | (with_reducible refine LeO.ite ?_ ?_)
   | (with_reducible refine LeO.bind ?_ (fun _ => ?_))
theorem impl_repeated.mono : ∀ a0 a1 a2 a3 a4 a5 k, LeO (impl_repeated.f k a0 a1 a2 a3 a4 a5) (impl_repeated.f (k + 1) a0 a1 a2 a3 a4 a5) := by
 intro a0 a1 a2 a3 a4 a5 k
 have ih0 := impl_repeated.mono_l k
 unfold impl_repeated.f
 repeat' first
  | (with_reducible exact ih0 _ _ _ _ _ _ _ _ _ _ _ _)
  | (with_reducible exact impl_behind.mono _ _ _ _ _ _ _)
  | (with_reducible exact LeO.refl _)
  | (with_reducible exact LeO.none _)
  | (with_reducible refine LeO.ite ?_ ?_)
  | (with_reducible refine LeO.bind ?_ (fun _ => ?_))
theorem impl_repeated.calls (k : Nat) (a0_0 : Int) (a0_1 : Int) (a0_2 : Int) (a0_3 : Int) (a0_4 : Int) (a1 : Int) (r1 : Int) (r2 : Int) (r3 : Int) (r4 : Int) (r5 : Int) (w : World) (h : impl_repeated.f k a0_0 a0_1 a0_2 a0_3 a0_4 a1 = some (r1, r2, r3, r4, r5)) :
 Calls Try.prog 227 #[.agg #[.int .i64 a0_0, .int .i64 a0_1, .int .i64 a0_2, .int .i64 a0_3, .int .i64 a0_4], .int .i64 a1] w fun e w' => e = .returned (.agg #[.int .i64 r1, .int .i64 r2, .int .i64 r3, .int .i64 r4, .int .i64 r5]) ∧ Below w.heap.size w w' := by
 have hu144 := Try.underlying144
 have HB := zQ (Below.refl w.heap.size w)
 have H : ((impl_oneCost.f 0 false).bind fun bt416 => (impl_repeated.l0 k a1 0 a0_0 a0_1 a0_2 a0_3 a0_4 bt416.1 bt416.2.1 bt416.2.2.1 bt416.2.2.2.1 bt416.2.2.2.2)) = some (r1, r2, r3, r4, r5) := h
 clear h
 replace H := Option.bind_eq_some_iff.mp H
 obtain ⟨⟨t416, t417, t418, t419, t420⟩, A30, H⟩ := H
 replace H : (impl_repeated.l0 k a1 0 a0_0 a0_1 a0_2 a0_3 a0_4 t416 t417 t418 t419 t420) = some (r1, r2, r3, r4, r5) := H
 have A3 := zQ A30
 clear A30
 have H' := zQ H
 clear H
 go_enter Try.func227, Try.ntmps227
 go_wp2_with (first | ((with_reducible refine gate_dst (N := 2) rfl ?_); refine box_event ?hg (N := 2) ?hd (cs := #[.int .i64 a0_0, .int .i64 a0_1, .int .i64 a0_2, .int .i64 a0_3, .int .i64 a0_4]) (t := 144) ?hr ?_; (case hd => rfl); (case hg => rfl); (case hr => first | (go_simp; done) | (go_simp; rfl)); intro gb414 hg w4 hbox hb; have n0_ := zQ (below_step (zB HB.out) hb); have n1_ := zQ (hbox); have n2_ := zQ ((zG hg HB.out)); have n3_ := zQ ((zG hg HB.out)); clear HB; have HB := n0_; have BK414 := n1_; have GW414 := n2_; have GE414 := n3_; clear n0_ n1_ n2_ n3_; clear hb hbox hg) | ((with_reducible refine gate_dst (N := 4) rfl ?_); refine box_event ?hg (N := 4) ?hd (cs := #[.int .i64 0, .int .i64 0, .int .i64 0, .int .i64 0, .int .i64 0]) (t := 144) ?hr ?_; (case hd => rfl); (case hg => rfl); (case hr => first | (go_simp; done) | (go_simp; rfl)); intro gb415 hg w5 hbox hb; have n0_ := zQ (zL BK414.out hb); have n1_ := zQ (below_step (zB HB.out) hb); have n2_ := zQ (hbox); have n3_ := zQ ((zG hg HB.out)); have n4_ := zQ ((zG hg HB.out)); have n5_ := zQ ((zN hg BK414.out)); have n6_ := zQ ((zM hg BK414.out)); clear BK414; clear HB; have BK414 := n0_; have HB := n1_; have BK415 := n2_; have GW415 := n3_; have GE415 := n4_; have NB414_415 := n5_; have NB415_414 := n6_; clear n0_ n1_ n2_ n3_ n4_ n5_ n6_; clear hb hbox hg) | ((with_reducible refine gate_callee (f := 223) rfl ?_); refine goesL_ (some 6) rfl rfl Try.func223 (by kernel_rfl) rfl #[.int .i64 0, .bool false] rfl zS ?_; (with_reducible refine (impl_oneCost.calls 0 false t416 t417 t418 t419 t420 _ A3.out).mono ?_); rintro e w6 ⟨rfl, hb⟩; refine ⟨_, rfl, ?_⟩; have n0_ := zQ (zL BK414.out hb); have n1_ := zQ (zL BK415.out hb); have n2_ := zQ (below_step (zB HB.out) hb); clear BK414; clear BK415; clear HB; have BK414 := n0_; have BK415 := n1_; have HB := n2_; clear n0_ n1_ n2_; (try clear hb); (try clear hb2); (try clear hk); (try clear hi)) | ((with_reducible refine gate_dst (N := 5) rfl ?_); refine box_event ?hg (N := 5) ?hd (cs := #[.int .i64 0, .int .i64 0, .int .i64 0, .int .i64 0, .int .i64 0]) (t := 144) ?hr ?_; (case hd => rfl); (case hg => rfl); (case hr => first | (go_simp; done) | (go_simp; rfl)); intro gb421 hg w7 hbox hb; have n0_ := zQ (zL BK414.out hb); have n1_ := zQ (zL BK415.out hb); have n2_ := zQ (below_step (zB HB.out) hb); have n3_ := zQ (hbox); have n4_ := zQ ((zG hg HB.out)); have n5_ := zQ ((zG hg HB.out)); have n6_ := zQ ((zN hg BK414.out)); have n7_ := zQ ((zM hg BK414.out)); have n8_ := zQ ((zN hg BK415.out)); have n9_ := zQ ((zM hg BK415.out)); clear BK414; clear BK415; clear HB; have BK414 := n0_; have BK415 := n1_; have HB := n2_; have BK421 := n3_; have GW421 := n4_; have GE421 := n5_; have NB414_421 := n6_; have NB421_414 := n7_; have NB415_421 := n8_; have NB421_415 := n9_; clear n0_ n1_ n2_ n3_ n4_ n5_ n6_ n7_ n8_ n9_; clear hb hbox hg; have hnb8 := NB421_414.out; have hnc8 := NB414_421.out; have hnb9 := NB421_415.out; have hnc9 := NB415_421.out; obtain ⟨hcz10_0, hcz10_1, hcz10_2, hcz10_3, hcz10_4, hfz10_0, hfz10_1, hfz10_2, hfz10_3, hfz10_4⟩ := zc5 BK421.out))
 go_loopg [8] k (fun kq v8 w' => ∃ (x8_1 : Int) (x422000_1 : Int) (x422001_1 : Int) (x422002_1 : Int) (x422003_1 : Int) (x422004_1 : Int), v8 = .int .i64 x8_1 ∧ Aside0 (impl_repeated.l0 kq a1 x8_1 a0_0 a0_1 a0_2 a0_3 a0_4 x422000_1 x422001_1 x422002_1 x422003_1 x422004_1 = some (r1, r2, r3, r4, r5)) ∧ Aside0 (kq ≤ k) ∧ Aside0 (w'.heap[gb414]? = some (.cells #[.int .i64 a0_0, .int .i64 a0_1, .int .i64 a0_2, .int .i64 a0_3, .int .i64 a0_4] 144 (0, 0))) ∧ Aside0 (w'.heap[gb415]? = some (.cells #[.int .i64 0, .int .i64 0, .int .i64 0, .int .i64 0, .int .i64 0] 144 (0, 0))) ∧ Aside0 (w'.heap[gb421]? = some (.cells #[.int .i64 x422000_1, .int .i64 x422001_1, .int .i64 x422002_1, .int .i64 x422003_1, .int .i64 x422004_1] 144 (0, 0))) ∧ Aside0 (Below w.heap.size w w'))
 case atStart => exact ⟨(0), (t416), (t417), (t418), (t419), (t420), (by first | rfl | (simp; done) | (simp [*]; done)), H', ⟨Nat.le_refl _⟩, ⟨zF BK414.out⟩, ⟨zF BK415.out⟩, ⟨zP BK421.out⟩, ⟨zB HB.out⟩⟩
 case round =>
  clear H'
  try clear c2
  try clear p2
  try clear c8
  try clear c9
  try clear hcz10_0
  try clear hcz10_1
  try clear hcz10_2
  try clear hcz10_3
  try clear hcz10_4
  try clear hfz10_0
  try clear hfz10_1
  try clear hfz10_2
  try clear hfz10_3
  try clear hfz10_4
  obtain ⟨x8_1, x422000_1, x422001_1, x422002_1, x422003_1, x422004_1, rfl, HA, HK1, BK414, BK415, BK421, HB⟩ := hrel
  cases gk with
  | zero => exact absurd HA.out (by simp [impl_repeated.l0])
  | succ k1 =>
   have H := HA.out
   clear HA
   simp only [impl_repeated.l0] at H
   by_cases c11 : x8_1 < a1
   ·rw [if_pos c11] at H
    have c11b0 : decide (x8_1 < a1) = true := decide_eq_true c11
    clear c11
    obtain ⟨y422, hy422⟩ : ∃ y_ : List (S144), y_ = (([(⟨a0_0, a0_1, a0_2, a0_3, a0_4⟩ : S144)] : List (S144))) := ⟨_, rfl⟩
    replace H : ((impl_behind.f k1 x422000_1 x422001_1 x422002_1 x422003_1 x422004_1 y422).bind fun bt425 => (impl_repeated.l0 k1 a1 (wrap64 (x8_1 + 1)) a0_0 a0_1 a0_2 a0_3 a0_4 bt425.1 bt425.2.1 bt425.2.2.1 bt425.2.2.2.1 bt425.2.2.2.2)) = some (r1, r2, r3, r4, r5) := by first | (rw [hy422]; with_reducible exact H) | (have H2_ := (Option.bind_some _ _).symm.trans H; rw [hy422]; with_reducible exact H2_) | (have H2_ := (Option.bind_some _ _).symm.trans H; with_reducible exact H2_) | with_reducible exact H | (rw [hy422]; exact H) | exact H
    have Ny422 := zQ hy422
    clear hy422
    replace H := Option.bind_eq_some_iff.mp H
    obtain ⟨⟨t425, t426, t427, t428, t429⟩, A120, H⟩ := H
    replace H : (impl_repeated.l0 k1 a1 (wrap64 (x8_1 + 1)) a0_0 a0_1 a0_2 a0_3 a0_4 t425 t426 t427 t428 t429) = some (r1, r2, r3, r4, r5) := H
    have A12 := zQ A120
    clear A120
    have H' := zQ H
    clear H
    have hnb13 := NB421_414.out
    have hnc13 := NB414_421.out
    have hnb14 := NB421_415.out
    have hnc14 := NB415_421.out
    obtain ⟨hcz15_0, hcz15_1, hcz15_2, hcz15_3, hcz15_4, hfz15_0, hfz15_1, hfz15_2, hfz15_3, hfz15_4⟩ := zc5 BK421.out
    have hnb16 := NB414_415.out
    have hnc16 := NB415_414.out
    obtain ⟨hcz17_0, hcz17_1, hcz17_2, hcz17_3, hcz17_4, hfz17_0, hfz17_1, hfz17_2, hfz17_3, hfz17_4⟩ := zc5 BK414.out
    go_wp2_with (first | ((with_reducible refine gate_dst (N := 12) rfl ?_); refine Kd.R_lit k144 _ 144 ?hg (N := 12) ?hd (xs := ([(⟨a0_0, a0_1, a0_2, a0_3, a0_4⟩ : S144)] : List (S144))) (inner := [.int .i64 a0_0, .int .i64 a0_1, .int .i64 a0_2, .int .i64 a0_3, .int .i64 a0_4]) (ok := fun _ => True) (okp := fun _ => True) ?hr ?hp (fun _ hk => hk) trivial (Below.refl _ _) (Nat.le_refl _) (by simp) ?_; (case hd => rfl); (case hg => rfl); (case hr => first | (go_simp; done) | (go_simp; rfl)); (case hp => exact (Reps.c5 (show Kd.M k144 _ _ _ (⟨a0_0, a0_1, a0_2, a0_3, a0_4⟩ : S144) [.int .i64 a0_0, .int .i64 a0_1, .int .i64 a0_2, .int .i64 a0_3, .int .i64 a0_4] from (k144_mkM _ _ _ (⟨a0_0, a0_1, a0_2, a0_3, a0_4⟩ : S144) )) (Reps.none _ _))); intro v423 w18 ho19 hb hg_ hnew_; clear hg_ hnew_; (first | rw [← Ny422.out] at ho19 | (simp only [Int.reduceToNat] at ho19; rw [← Ny422.out] at ho19)); have n0_ := zQ (Kd.R_lower (Kd.R_newB (Kd.R_newB (Kd.R_newB ho19 (g := gb414) (o := .cells #[.int .i64 a0_0, .int .i64 a0_1, .int .i64 a0_2, .int .i64 a0_3, .int .i64 a0_4] 144 (0, 0)) (zK BK414.out)) (g := gb415) (o := .cells #[.int .i64 0, .int .i64 0, .int .i64 0, .int .i64 0, .int .i64 0] 144 (0, 0)) (zK BK415.out)) (g := gb421) (o := .cells #[.int .i64 x422000_1, .int .i64 x422001_1, .int .i64 x422002_1, .int .i64 x422003_1, .int .i64 x422004_1] 144 (0, 0)) (zK BK421.out)) (below_size (zB HB.out))); have n1_ := zQ (zL BK414.out hb); have n2_ := zQ (zL BK415.out hb); have n3_ := zQ (zL BK421.out hb); have n4_ := zQ (below_step (zB HB.out) hb); clear BK414; clear BK415; clear BK421; clear HB; have HO424 := n0_; have BK414 := n1_; have BK415 := n2_; have BK421 := n3_; have HB := n4_; clear n0_ n1_ n2_ n3_ n4_; clear hb ho19; obtain ⟨Ao20, co20, eo20⟩ := Kd.R_slice HO424.out; subst eo20) | ((with_reducible refine gate_callee (f := 224) rfl ?_); refine goesL_ (some 13) rfl rfl Try.func224 (by kernel_rfl) rfl #[.agg #[.int .i64 x422000_1, .int .i64 x422001_1, .int .i64 x422002_1, .int .i64 x422003_1, .int .i64 x422004_1], .slice Ao20 y422.length co20] rfl zS ?_; (with_reducible refine (impl_behind.calls k1 x422000_1 x422001_1 x422002_1 x422003_1 x422004_1 _ _ y422 t425 t426 t427 t428 t429 _ ?side1 ?side2 A12.out).mono ?_); (case side1 => exact zC (Kd.R_reads' HO424.out).2.2); (case side2 => exact (Kd.R_reads' HO424.out).2.1); rintro e w21 ⟨rfl, hb⟩; refine ⟨_, rfl, ?_⟩; have n0_ := zQ (Kd.R_below (zR HO424.out) hb); have n1_ := zQ (zL BK414.out hb); have n2_ := zQ (zL BK415.out hb); have n3_ := zQ (zL BK421.out hb); have n4_ := zQ (below_step (zB HB.out) hb); clear HO424; clear BK414; clear BK415; clear BK421; clear HB; have HO424 := n0_; have BK414 := n1_; have BK415 := n2_; have BK421 := n3_; have HB := n4_; clear n0_ n1_ n2_ n3_ n4_; (try clear hb); (try clear hb2); (try clear hk); (try clear hi); obtain ⟨hcz22_0, hcz22_1, hcz22_2, hcz22_3, hcz22_4, hfz22_0, hfz22_1, hfz22_2, hfz22_3, hfz22_4⟩ := zc5 BK421.out))
    go_roundg k1
    case measure => have := HK1.out; omega
    case rel => exact ⟨(wrap64 (x8_1 + 1)), (t425), (t426), (t427), (t428), (t429), (by first | rfl | (simp; done) | (simp [*]; done)), H', ⟨by have := HK1.out; omega⟩, ⟨zF BK414.out⟩, ⟨zF BK415.out⟩, ⟨zP BK421.out⟩, ⟨zB HB.out⟩⟩
   ·rw [if_neg c11] at H
    have c11b0 : decide (x8_1 < a1) = false := decide_eq_false c11
    clear c11
    simp only [Option.some.injEq, Prod.mk.injEq] at H
    obtain ⟨rfl, rfl, rfl, rfl, rfl⟩ := H
    have hnb23 := NB421_414.out
    have hnc23 := NB414_421.out
    have hnb24 := NB421_415.out
    have hnc24 := NB415_421.out
    obtain ⟨hcz25_0, hcz25_1, hcz25_2, hcz25_3, hcz25_4, hfz25_0, hfz25_1, hfz25_2, hfz25_3, hfz25_4⟩ := zc5 BK421.out
    have hnb26 := NB415_414.out
    have hnc26 := NB414_415.out
    obtain ⟨hcz27_0, hcz27_1, hcz27_2, hcz27_3, hcz27_4, hfz27_0, hfz27_1, hfz27_2, hfz27_3, hfz27_4⟩ := zc5 BK415.out
    go_wp2
    refine bodyPost_ret (results_cell_row rfl _ _ gb415 144 #[.int .i64 x422000_1, .int .i64 x422001_1, .int .i64 x422002_1, .int .i64 x422003_1, .int .i64 x422004_1] (0, 0) _ rfl (zP BK415.out) Try.underlying144 rfl (by kernel_rfl)) rfl ?_
    exact ⟨by first | rfl | (simp [errW_none, errW_some] <;> rfl) | (simp [*, errW_none, errW_some] <;> rfl), zB HB.out⟩

end Go.Proofs.Ytkegjmkdnfpfdaa.MFnExactCostsOf
