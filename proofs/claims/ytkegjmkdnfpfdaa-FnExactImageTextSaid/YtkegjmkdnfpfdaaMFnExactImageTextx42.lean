-- By a program of this session.
import Derived.Test.YtkegjmkdnfpfdaaMFnExactImageTextx0
import Derived.Test.YtkegjmkdnfpfdaaMFnExactImageTextx39
import Derived.Test.YtkegjmkdnfpfdaaMFnExactImageTextx40
import Derived.Test.YtkegjmkdnfpfdaaMFnExactImageTextx41
namespace Go.Proofs.Ytkegjmkdnfpfdaa.MFnExactImageText
open Go.RowKit Go.Proofs.YtkegjmkdnfpfdaaW.PrintWords Go.Proofs.YtkegjmkdnfpfdaaW.PrintLast Go.Proofs.YtkegjmkdnfpfdaaW.PrintMore
attribute [local go_sem] max2_int min2_int max_two min_two max_three min_three max_four min_four
set_option linter.unusedVariables false
set_option linter.unusedSimpArgs false
set_option maxHeartbeats 8000000
set_option maxRecDepth 100000

/-! ### impl_ImageText: function 53 -/
mutual
def impl_ImageText.l0 : Nat → ByteArray → List Int → Int → Int → List Int → List (S124) → List (S135) → List Bool → Option (ByteArray × Int)
 | 0, _, _, _, _, _, _, _, _ => none
 | k + 1, x4, x23, x24, x25, x350000, x350001, x350002, x350003 => if x25 < x24 then (if 0 ≤ x25 then (if x25 < (x23.length : Int) then ((impl_put.f k (rd x23 x25) 1).bind fun t353 => (if x4.size + t353.size ≤ 9223372036854775807 then (impl_ImageText.l0 k (x4 ++ t353) x23 x24 (wrap64 (x25 + 1)) x350000 x350001 x350002 x350003) else (none))) else (none)) else (none)) else ((impl_put.f k (x350001.length : Int) 1).bind fun t354 => (if x4.size + t354.size ≤ 9223372036854775807 then (impl_ImageText.l1 k (x4 ++ t354) x350001 (x350001.length : Int) 0 x350000 x350001 x350002 x350003) else (none)))
def impl_ImageText.l1 : Nat → ByteArray → List (S124) → Int → Int → List Int → List (S124) → List (S135) → List Bool → Option (ByteArray × Int)
 | 0, _, _, _, _, _, _, _, _ => none
 | k + 1, x4, x41, x42, x43, x350000, x350001, x350002, x350003 => if x43 < x42 then (if 0 ≤ x43 then (if x43 < (x41.length : Int) then ((impl_codeText.f ((rd_T124 x41 x43).f0)).bind fun t357 => ((impl_put.f k (t357.size : Int) 2).bind fun t358 => (if t358.size + t357.size ≤ 9223372036854775807 then (if x4.size + (t358 ++ t357).size ≤ 9223372036854775807 then (impl_ImageText.l1 k (x4 ++ (t358 ++ t357)) x41 x42 (wrap64 (x43 + 1)) x350000 x350001 x350002 x350003) else (none)) else (none)))) else (none)) else (none)) else ((impl_put.f k (x350002.length : Int) 1).bind fun t359 => (if x4.size + t359.size ≤ 9223372036854775807 then (impl_ImageText.l2 k (x4 ++ t359) x350002 (x350002.length : Int) 0 x350000 x350001 x350002 x350003) else (none)))
def impl_ImageText.l2 : Nat → ByteArray → List (S135) → Int → Int → List Int → List (S124) → List (S135) → List Bool → Option (ByteArray × Int)
 | 0, _, _, _, _, _, _, _, _ => none
 | k + 1, x4, x65, x66, x67, x350000, x350001, x350002, x350003 => if x67 < x66 then (if 0 ≤ x67 then (if x67 < (x65.length : Int) then ((impl_put.f k ((rd_T135 x65 x67).f0) 1).bind fun t362 => ((impl_put.f k ((rd_T135 x65 x67).f1) 4).bind fun t363 => (if t362.size + t363.size ≤ 9223372036854775807 then ((impl_put.f k ((rd_T135 x65 x67).f2) 4).bind fun t364 => (if (t362 ++ t363).size + t364.size ≤ 9223372036854775807 then ((impl_put.f k ((rd_T135 x65 x67).f3) 1).bind fun t365 => (if ((t362 ++ t363) ++ t364).size + t365.size ≤ 9223372036854775807 then ((impl_put.f k ((rd_T135 x65 x67).f4) 1).bind fun t366 => (if (((t362 ++ t363) ++ t364) ++ t365).size + t366.size ≤ 9223372036854775807 then ((impl_put.f k ((rd_T135 x65 x67).f5) 1).bind fun t367 => (if ((((t362 ++ t363) ++ t364) ++ t365) ++ t366).size + t367.size ≤ 9223372036854775807 then (if x4.size + (((((t362 ++ t363) ++ t364) ++ t365) ++ t366) ++ t367).size ≤ 9223372036854775807 then (impl_ImageText.l2 k (x4 ++ (((((t362 ++ t363) ++ t364) ++ t365) ++ t366) ++ t367)) x65 x66 (wrap64 (x67 + 1)) x350000 x350001 x350002 x350003) else (none)) else (none))) else (none))) else (none))) else (none))) else (none)))) else (none)) else (none)) else (impl_ImageText.l3 k x4 0 x350003 (x350003.length : Int) 0)
def impl_ImageText.l3 : Nat → ByteArray → Int → List Bool → Int → Int → Option (ByteArray × Int)
 | 0, _, _, _, _, _ => none
 | k + 1, x4, x12, x98, x99, x100 => if x100 < x99 then (if 0 ≤ x100 then (if x100 < (x98.length : Int) then ((impl_bit.f (rdOf false x98 x100)).bind fun t369 => (impl_ImageText.l3 k x4 (Go.bits .or .i64 x12 (shl .i64 t369 x100)) x98 x99 (wrap64 (x100 + 1)))) else (none)) else (none)) else ((impl_put.f k x12 1).bind fun t370 => (if x4.size + t370.size ≤ 9223372036854775807 then ((impl_FrameText.f k (x4 ++ t370)).bind fun bt371 => (some (bt371.1, bt371.2))) else (none)))
end
def impl_ImageText.f (k : Nat) (l0_0 : List Int) (l0_1 : List (S124)) (l0_2 : List (S135)) (l0_3 : List Bool) : Option (ByteArray × Int) := (impl_isProgram.f k l0_0 l0_1 l0_2 l0_3).bind fun t350 => (if t350 = true then ((impl_put.f k (l0_0.length : Int) 1).bind fun t351 => (impl_ImageText.l0 k t351 l0_0 (l0_0.length : Int) 0 l0_0 l0_1 l0_2 l0_3)) else (some ((⟨#[]⟩ : ByteArray), 1)))
theorem impl_ImageText.mono_l : ∀ k, (∀ y0 y1 y2 y3 y4 y5 y6 y7, LeO (impl_ImageText.l0 k y0 y1 y2 y3 y4 y5 y6 y7) (impl_ImageText.l0 (k + 1) y0 y1 y2 y3 y4 y5 y6 y7)) ∧ (∀ y0 y1 y2 y3 y4 y5 y6 y7, LeO (impl_ImageText.l1 k y0 y1 y2 y3 y4 y5 y6 y7) (impl_ImageText.l1 (k + 1) y0 y1 y2 y3 y4 y5 y6 y7)) ∧ (∀ y0 y1 y2 y3 y4 y5 y6 y7, LeO (impl_ImageText.l2 k y0 y1 y2 y3 y4 y5 y6 y7) (impl_ImageText.l2 (k + 1) y0 y1 y2 y3 y4 y5 y6 y7)) ∧ (∀ y0 y1 y2 y3 y4, LeO (impl_ImageText.l3 k y0 y1 y2 y3 y4) (impl_ImageText.l3 (k + 1) y0 y1 y2 y3 y4))
 | 0 => ⟨fun _ _ _ _ _ _ _ _ r h => by simp [impl_ImageText.l0] at h, fun _ _ _ _ _ _ _ _ r h => by simp [impl_ImageText.l1] at h, fun _ _ _ _ _ _ _ _ r h => by simp [impl_ImageText.l2] at h, fun _ _ _ _ _ r h => by simp [impl_ImageText.l3] at h⟩
 | k + 1 => by
  obtain ⟨ih0, ih1, ih2, ih3⟩ := impl_ImageText.mono_l k
  refine ⟨?_, ?_, ?_, ?_⟩
  ·intro y0 y1 y2 y3 y4 y5 y6 y7
   unfold impl_ImageText.l0
   repeat' first
   | (with_reducible exact ih0 _ _ _ _ _ _ _ _)
   | (with_reducible exact ih1 _ _ _ _ _ _ _ _)
   | (with_reducible exact ih2 _ _ _ _ _ _ _ _)
   | (with_reducible exact ih3 _ _ _ _ _)
   | (with_reducible exact impl_FrameText.mono _ _)
   | (with_reducible exact impl_isProgram.mono _ _ _ _ _)
   | (with_reducible exact impl_put.mono _ _ _)
   | (with_reducible exact LeO.refl _)
   | (with_reducible exact LeO.none _)
   | (with_reducible refine LeO.ite ?_ ?_)
   | (with_reducible refine LeO.bind ?_ (fun _ => ?_))
  ·intro y0 y1 y2 y3 y4 y5 y6 y7
   unfold impl_ImageText.l1
   repeat' first
   | (with_reducible exact ih0 _ _ _ _ _ _ _ _)
   | (with_reducible exact ih1 _ _ _ _ _ _ _ _)
   | (with_reducible exact ih2 _ _ _ _ _ _ _ _)
   | (with_reducible exact ih3 _ _ _ _ _)
   | (with_reducible exact impl_FrameText.mono _ _)
   | (with_reducible exact impl_isProgram.mono _ _ _ _ _)
   | (with_reducible exact impl_put.mono _ _ _)
   | (with_reducible exact LeO.refl _)
   | (with_reducible exact LeO.none _)
   | (with_reducible refine LeO.ite ?_ ?_)
   | (with_reducible refine LeO.bind ?_ (fun _ => ?_))
  ·intro y0 y1 y2 y3 y4 y5 y6 y7
   unfold impl_ImageText.l2
   repeat' first
   | (with_reducible exact ih0 _ _ _ _ _ _ _ _)
   | (with_reducible exact ih1 _ _ _ _ _ _ _ _)
   | (with_reducible exact ih2 _ _ _ _ _ _ _ _)
   | (with_reducible exact ih3 _ _ _ _ _)
   | (with_reducible exact impl_FrameText.mono _ _)
   | (with_reducible exact impl_isProgram.mono _ _ _ _ _)
   | (with_reducible exact impl_put.mono _ _ _)
   | (with_reducible exact LeO.refl _)
   | (with_reducible exact LeO.none _)
   | (with_reducible refine LeO.ite ?_ ?_)
   | (with_reducible refine LeO.bind ?_ (fun _ => ?_))
  ·intro y0 y1 y2 y3 y4
   unfold impl_ImageText.l3
   repeat' first
   | (with_reducible exact ih0 _ _ _ _ _ _ _ _)
   | (with_reducible exact ih1 _ _ _ _ _ _ _ _)
   | (with_reducible exact ih2 _ _ _ _ _ _ _ _)
   | (with_reducible exact ih3 _ _ _ _ _)
   | (with_reducible exact impl_FrameText.mono _ _)
   | (with_reducible exact impl_isProgram.mono _ _ _ _ _)
   | (with_reducible exact impl_put.mono _ _ _)
   | (with_reducible exact LeO.refl _)
   | (with_reducible exact LeO.none _)
   | (with_reducible refine LeO.ite ?_ ?_)
   | (with_reducible refine LeO.bind ?_ (fun _ => ?_))
theorem impl_ImageText.mono : ∀ a0 a1 a2 a3 k, LeO (impl_ImageText.f k a0 a1 a2 a3) (impl_ImageText.f (k + 1) a0 a1 a2 a3) := by
 intro a0 a1 a2 a3 k
 obtain ⟨ih0, ih1, ih2, ih3⟩ := impl_ImageText.mono_l k
 unfold impl_ImageText.f
 repeat' first
  | (with_reducible exact ih0 _ _ _ _ _ _ _ _)
  | (with_reducible exact ih1 _ _ _ _ _ _ _ _)
  | (with_reducible exact ih2 _ _ _ _ _ _ _ _)
  | (with_reducible exact ih3 _ _ _ _ _)
  | (with_reducible exact impl_FrameText.mono _ _)
  | (with_reducible exact impl_isProgram.mono _ _ _ _ _)
  | (with_reducible exact impl_put.mono _ _ _)
  | (with_reducible exact LeO.refl _)
  | (with_reducible exact LeO.none _)
  | (with_reducible refine LeO.ite ?_ ?_)
  | (with_reducible refine LeO.bind ?_ (fun _ => ?_))
def impl_ImageText.T20 : Bool × List (List Nat × List Nat) := (true, [([], []), ([], []), ([1], [1]), ([2], [2]), ([], []), ([4], [4]), ([5, 3], [5]), ([3, 6], [3, 6]), ([], []), ([8], [8]), ([9, 6], [9]), ([7, 10], [7, 10]), ([], []), ([12], [12]), ([13, 10], [13]), ([11, 14], [11, 14]), ([], []), ([16], [16]), ([17, 14], [17]), ([15, 18], [15, 18]), ([], []), ([20], [20]), ([21, 18], [21]), ([19, 22], [19, 22]), ([0, 23], [0, 23]), ([24, 22, 0, 1, 2, 3, 4, 5, 6, 7, 8, 9, 10, 11, 12, 13, 14, 15, 16, 17, 18, 19, 20, 21, 22, 23, 24], [0, 24])])
def impl_ImageText.B20 : List Nat := [0, 0, 2, 6, 0, 16, 62, 126, 0, 256, 894, 2046, 0, 4096, 14206, 32766, 0, 65536, 227198, 524286, 0, 1048576, 3635070, 8388606, 16777215, 33554431]
theorem impl_ImageText.tab20 : rtab .any (opsOf Try.f53 20) = impl_ImageText.T20 := by kernel_rfl
theorem impl_ImageText.bits20 : waitsOk impl_ImageText.T20.2 impl_ImageText.B20 = true := by kernel_rfl
theorem impl_ImageText.calls (k : Nat) (A0_0 : Option Addr) (c0_0 : Nat) (l0_0 : List Int) (A0_1 : Option Addr) (c0_1 : Nat) (l0_1 : List (S124)) (A0_2 : Option Addr) (c0_2 : Nat) (l0_2 : List (S135)) (A0_3 : Option Addr) (c0_3 : Nat) (l0_3 : List Bool) (r1 : ByteArray) (r2 : Int) (w : World) (hr0_0 : Kd.C (Kd.int .i64) w A0_0 l0_0.length l0_0) (hc0_0 : l0_0.length ≤ c0_0) (hr0_1 : Kd.C k124 w A0_1 l0_1.length l0_1) (hc0_1 : l0_1.length ≤ c0_1) (hr0_2 : Kd.C k135 w A0_2 l0_2.length l0_2) (hc0_2 : l0_2.length ≤ c0_2) (hr0_3 : Kd.C Kd.bool w A0_3 l0_3.length l0_3) (hc0_3 : l0_3.length ≤ c0_3) (h : impl_ImageText.f k l0_0 l0_1 l0_2 l0_3 = some (r1, r2)) :
 Calls Try.prog 53 #[.agg #[.slice A0_0 l0_0.length c0_0, .slice A0_1 l0_1.length c0_1, .slice A0_2 l0_2.length c0_2, .slice A0_3 l0_3.length c0_3]] w fun e w' => e = .returned (.tuple #[.string r1, .int .i64 r2]) ∧ Below w.heap.size w w' := by
 have hu64 := Try.underlying64
 have hu124 := Try.underlying124
 have hu135 := Try.underlying135
 have HR0_0 := zQ hr0_0
 have HC0_0 := zQ hc0_0
 clear hr0_0 hc0_0
 have HR0_1 := zQ hr0_1
 have HC0_1 := zQ hc0_1
 clear hr0_1 hc0_1
 have HR0_2 := zQ hr0_2
 have HC0_2 := zQ hc0_2
 clear hr0_2 hc0_2
 have HR0_3 := zQ hr0_3
 have HC0_3 := zQ hc0_3
 clear hr0_3 hc0_3
 have HB := zQ (Below.refl w.heap.size w)
 have H : ((impl_isProgram.f k l0_0 l0_1 l0_2 l0_3).bind fun t350 => (if t350 = true then ((impl_put.f k (l0_0.length : Int) 1).bind fun t351 => (impl_ImageText.l0 k t351 l0_0 (l0_0.length : Int) 0 l0_0 l0_1 l0_2 l0_3)) else (some ((⟨#[]⟩ : ByteArray), 1)))) = some (r1, r2) := h
 clear h
 replace H := Option.bind_eq_some_iff.mp H
 obtain ⟨t350, A20, H⟩ := H
 replace H : (if t350 = true then ((impl_put.f k (l0_0.length : Int) 1).bind fun t351 => (impl_ImageText.l0 k t351 l0_0 (l0_0.length : Int) 0 l0_0 l0_1 l0_2 l0_3)) else (some ((⟨#[]⟩ : ByteArray), 1))) = some (r1, r2) := H
 have A2 := zQ A20
 clear A20
 by_cases c3 : t350 = true
 ·subst c3
  have H1 : ((impl_put.f k (l0_0.length : Int) 1).bind fun t351 => (impl_ImageText.l0 k t351 l0_0 (l0_0.length : Int) 0 l0_0 l0_1 l0_2 l0_3)) = some (r1, r2) := by rw [if_pos rfl] at H; exact H
  clear H
  have H := H1
  clear H1
  replace H := Option.bind_eq_some_iff.mp H
  obtain ⟨t351, A40, H⟩ := H
  replace H : (impl_ImageText.l0 k t351 l0_0 (l0_0.length : Int) 0 l0_0 l0_1 l0_2 l0_3) = some (r1, r2) := H
  have A4 := zQ A40
  clear A40
  have H' := zQ H
  clear H
  go_enter Try.func53, Try.ntmps53
  go_wp2_with (first | ((with_reducible refine gate_dst (N := 1) rfl ?_); refine box_event ?hg (N := 1) ?hd (cs := #[.slice A0_0 l0_0.length c0_0, .slice A0_1 l0_1.length c0_1, .slice A0_2 l0_2.length c0_2, .slice A0_3 l0_3.length c0_3]) (t := 64) ?hr ?_; (case hd => rfl); (case hg => rfl); (case hr => first | (go_simp; done) | (go_simp; rfl)); intro gb349 hg w5 hbox hb; have n0_ := zQ (below_step (zB HB.out) hb); have n1_ := zQ (hbox); have n2_ := zQ ((zG hg HB.out)); have n3_ := zQ ((zG hg HB.out)); clear HB; have HB := n0_; have BK349 := n1_; have GW349 := n2_; have GE349 := n3_; clear n0_ n1_ n2_ n3_; clear hb hbox hg; obtain ⟨hcz6_0, hcz6_1, hcz6_2, hcz6_3, hfz6_0, hfz6_1, hfz6_2, hfz6_3⟩ := zc4 BK349.out) | ((with_reducible refine gate_callee (f := 102) rfl ?_); refine goesL_ (some 16) rfl rfl Try.func102 (by kernel_rfl) rfl #[.agg #[.slice A0_0 l0_0.length c0_0, .slice A0_1 l0_1.length c0_1, .slice A0_2 l0_2.length c0_2, .slice A0_3 l0_3.length c0_3]] rfl zS ?_; (with_reducible refine (impl_isProgram.calls k _ _ l0_0 _ _ l0_1 _ _ l0_2 _ _ l0_3 true _ ?side1 ?side2 ?side3 ?side4 ?side5 ?side6 ?side7 ?side8 A2.out).mono ?_); (case side1 => exact zE HR0_0 HB); (case side2 => exact HC0_0.out); (case side3 => exact zE HR0_1 HB); (case side4 => exact HC0_1.out); (case side5 => exact zE HR0_2 HB); (case side6 => exact HC0_2.out); (case side7 => exact zE HR0_3 HB); (case side8 => exact HC0_3.out); rintro e w7 ⟨rfl, hb⟩; refine ⟨_, rfl, ?_⟩; have n0_ := zQ (zL BK349.out hb); have n1_ := zQ (below_step (zB HB.out) hb); clear BK349; clear HB; have BK349 := n0_; have HB := n1_; clear n0_ n1_; (try clear hb); (try clear hb2); (try clear hk); (try clear hi); obtain ⟨hcz8_0, hcz8_1, hcz8_2, hcz8_3, hfz8_0, hfz8_1, hfz8_2, hfz8_3⟩ := zc4 BK349.out) | ((with_reducible refine gate_callee (f := 111) rfl ?_); refine goesL_ (some 21) rfl rfl Try.func111 (by kernel_rfl) rfl #[.int .i64 (l0_0.length : Int), .int .i64 1] rfl zS ?_; (with_reducible refine (impl_put.calls k (l0_0.length : Int) 1 t351 _ A4.out).mono ?_); rintro e w9 ⟨rfl, hb⟩; refine ⟨_, rfl, ?_⟩; have n0_ := zQ (zL BK349.out hb); have n1_ := zQ (below_step (zB HB.out) hb); clear BK349; clear HB; have BK349 := n0_; have HB := n1_; clear n0_ n1_; (try clear hb); (try clear hb2); (try clear hk); (try clear hi); obtain ⟨hcz10_0, hcz10_1, hcz10_2, hcz10_3, hfz10_0, hfz10_1, hfz10_2, hfz10_3⟩ := zc4 BK349.out))
  go_loopg [4, 25] k (fun kq v4 v25 w' => ∃ (x4_1 : ByteArray) (x25_1 : Int), v4 = .string x4_1 ∧ v25 = .int .i64 x25_1 ∧ Aside0 (impl_ImageText.l0 kq x4_1 l0_0 (l0_0.length : Int) x25_1 l0_0 l0_1 l0_2 l0_3 = some (r1, r2)) ∧ Aside0 (kq ≤ k) ∧ Aside0 (w'.heap[gb349]? = some (.cells #[(.slice A0_0 l0_0.length c0_0), (.slice A0_1 l0_1.length c0_1), (.slice A0_2 l0_2.length c0_2), (.slice A0_3 l0_3.length c0_3)] 64 (0, 0))) ∧ Aside0 (Below w.heap.size w w'))
  case atStart => exact ⟨(t351), (0), (by first | rfl | (simp; done) | (simp [*]; done)), (by first | rfl | (simp; done) | (simp [*]; done)), H', ⟨Nat.le_refl _⟩, ⟨by (with_reducible repeat (first | refine blk_drewN ?_ _ | refine blk_drew ?_ | refine blk_alloc ?_ _)); exact BK349.out⟩, ⟨zB HB.out⟩⟩
  case round =>
   clear H'
   try clear c1
   try clear p2
   try clear c3
   try clear c5
   try clear c10
   try clear hcz10_0
   try clear hcz10_1
   try clear hcz10_2
   try clear hcz10_3
   try clear hcz6_0
   try clear hcz6_1
   try clear hcz6_2
   try clear hcz6_3
   try clear hcz8_0
   try clear hcz8_1
   try clear hcz8_2
   try clear hcz8_3
   try clear hfz10_0
   try clear hfz10_1
   try clear hfz10_2
   try clear hfz10_3
   try clear hfz6_0
   try clear hfz6_1
   try clear hfz6_2
   try clear hfz6_3
   try clear hfz8_0
   try clear hfz8_1
   try clear hfz8_2
   try clear hfz8_3
   obtain ⟨x4_1, x25_1, rfl, rfl, HA, HK1, BK349, HB⟩ := hrel
   cases gk with
   | zero => exact absurd HA.out (by simp [impl_ImageText.l0])
   | succ k1 =>
    have H := HA.out
    clear HA
    simp only [impl_ImageText.l0] at H
    by_cases c11 : x25_1 < (l0_0.length : Int)
    ·rw [if_pos c11] at H
     have c11b0 : decide (x25_1 < (l0_0.length : Int)) = true := decide_eq_true c11
     clear c11
     by_cases c12 : 0 ≤ x25_1
     ·rw [if_pos c12] at H
      have c12b0 : decide (0 ≤ x25_1) = true := decide_eq_true c12
      clear c12
      by_cases c13 : x25_1 < (l0_0.length : Int)
      ·rw [if_pos c13] at H
       have c13b0 : decide (x25_1 < (l0_0.length : Int)) = true := decide_eq_true c13
       clear c13
       replace H := Option.bind_eq_some_iff.mp H
       obtain ⟨t353, A140, H⟩ := H
       replace H : (if x4_1.size + t353.size ≤ 9223372036854775807 then (impl_ImageText.l0 k1 (x4_1 ++ t353) l0_0 (l0_0.length : Int) (wrap64 (x25_1 + 1)) l0_0 l0_1 l0_2 l0_3) else (none)) = some (r1, r2) := H
       have A14 := zQ A140
       clear A140
       by_cases c15 : x4_1.size + t353.size ≤ 9223372036854775807
       ·rw [if_pos c15] at H
        have c15b0 := eq_true c15
        have c15b1 : decide (x4_1.size + t353.size ≤ 9223372036854775807) = true := decide_eq_true c15
        try have c15b2 : (9223372036854775807 < x4_1.size + t353.size) = False := eq_false (Nat.not_lt.2 c15)
        have H' := zQ H
        clear H
        have p352 : 0 ≤ (x25_1 : Int) := zA
        have q352 : x25_1 < (l0_0.length : Int) := zA
        obtain ⟨ad352, e352, hx352_0⟩ := Kd.at_int HR0_0.out x25_1 p352 q352
        cases e352
        replace hx352_0 := zX HB.out hx352_0
        replace p352 := eq_true p352
        replace q352 := eq_true q352
        go_wp2_with (first | ((with_reducible refine gate_callee (f := 111) rfl ?_); refine goesL_ (some 31) rfl rfl Try.func111 (by kernel_rfl) rfl #[.int .i64 (rd l0_0 x25_1), .int .i64 1] rfl zS ?_; (with_reducible refine (impl_put.calls k1 (rd l0_0 x25_1) 1 t353 _ A14.out).mono ?_); rintro e w16 ⟨rfl, hb⟩; refine ⟨_, rfl, ?_⟩; have n0_ := zQ (zL BK349.out hb); have n1_ := zQ (below_step (zB HB.out) hb); clear BK349; clear HB; have BK349 := n0_; have HB := n1_; clear n0_ n1_; (try clear hb); (try clear hb2); (try clear hk); (try clear hi)))
        go_roundg k1
        case measure => have := HK1.out; omega
        case rel => exact ⟨(x4_1 ++ t353), (wrap64 (x25_1 + 1)), (by first | rfl | (simp; done) | (simp [*]; done)), (by first | rfl | (simp; done) | (simp [*]; done)), H', ⟨by have := HK1.out; omega⟩, ⟨by (with_reducible repeat (first | refine blk_drewN ?_ _ | refine blk_drew ?_ | refine blk_alloc ?_ _)); exact BK349.out⟩, ⟨zB HB.out⟩⟩
       ·rw [if_neg c15] at H
        exact absurd H (by simp)
      ·rw [if_neg c13] at H
       exact absurd H (by simp)
     ·rw [if_neg c12] at H
      exact absurd H (by simp)
    ·rw [if_neg c11] at H
     have c11b0 : decide (x25_1 < (l0_0.length : Int)) = false := decide_eq_false c11
     clear c11
     replace H := Option.bind_eq_some_iff.mp H
     obtain ⟨t354, A170, H⟩ := H
     replace H : (if x4_1.size + t354.size ≤ 9223372036854775807 then (impl_ImageText.l1 k1 (x4_1 ++ t354) l0_1 (l0_1.length : Int) 0 l0_0 l0_1 l0_2 l0_3) else (none)) = some (r1, r2) := H
     have A17 := zQ A170
     clear A170
     by_cases c18 : x4_1.size + t354.size ≤ 9223372036854775807
     ·rw [if_pos c18] at H
      have c18b0 := eq_true c18
      have c18b1 : decide (x4_1.size + t354.size ≤ 9223372036854775807) = true := decide_eq_true c18
      try have c18b2 : (9223372036854775807 < x4_1.size + t354.size) = False := eq_false (Nat.not_lt.2 c18)
      have H' := zQ H
      clear H
      obtain ⟨hcz19_0, hcz19_1, hcz19_2, hcz19_3, hfz19_0, hfz19_1, hfz19_2, hfz19_3⟩ := zc4 BK349.out
      go_wp2_with (first | ((with_reducible refine gate_callee (f := 111) rfl ?_); refine goesL_ (some 38) rfl rfl Try.func111 (by kernel_rfl) rfl #[.int .i64 (l0_1.length : Int), .int .i64 1] rfl zS ?_; (with_reducible refine (impl_put.calls k1 (l0_1.length : Int) 1 t354 _ A17.out).mono ?_); rintro e w20 ⟨rfl, hb⟩; refine ⟨_, rfl, ?_⟩; have n0_ := zQ (zL BK349.out hb); have n1_ := zQ (below_step (zB HB.out) hb); clear BK349; clear HB; have BK349 := n0_; have HB := n1_; clear n0_ n1_; (try clear hb); (try clear hb2); (try clear hk); (try clear hi); obtain ⟨hcz21_0, hcz21_1, hcz21_2, hcz21_3, hfz21_0, hfz21_1, hfz21_2, hfz21_3⟩ := zc4 BK349.out))
      go_loopg [4, 43] k1 (fun kq v4 v43 w' => ∃ (x4_2 : ByteArray) (x43_2 : Int), v4 = .string x4_2 ∧ v43 = .int .i64 x43_2 ∧ Aside0 (impl_ImageText.l1 kq x4_2 l0_1 (l0_1.length : Int) x43_2 l0_0 l0_1 l0_2 l0_3 = some (r1, r2)) ∧ Aside0 (kq ≤ k1) ∧ Aside0 (w'.heap[gb349]? = some (.cells #[(.slice A0_0 l0_0.length c0_0), (.slice A0_1 l0_1.length c0_1), (.slice A0_2 l0_2.length c0_2), (.slice A0_3 l0_3.length c0_3)] 64 (0, 0))) ∧ Aside0 (Below w.heap.size w w'))
      case atStart => exact ⟨(x4_1 ++ t354), (0), (by first | rfl | (simp; done) | (simp [*]; done)), (by first | rfl | (simp; done) | (simp [*]; done)), H', ⟨Nat.le_refl _⟩, ⟨by (with_reducible repeat (first | refine blk_drewN ?_ _ | refine blk_drew ?_ | refine blk_alloc ?_ _)); exact BK349.out⟩, ⟨zB HB.out⟩⟩
      case round =>
       clear H'
       try clear c1
       try clear p2
       try clear c3
       try clear p3
       try clear q3
       try clear hx3
       try clear c5
       try clear p6
       try clear c10
       try clear c11
       try clear c11b0
       try clear c12
       try clear c12b0
       try clear c13
       try clear c13b0
       try clear c15
       try clear c15b0
       try clear c15b1
       try clear c15b2
       try clear c18
       try clear c18b0
       try clear c18b1
       try clear c18b2
       try clear hcz10_0
       try clear hcz10_1
       try clear hcz10_2
       try clear hcz10_3
       try clear hcz19_0
       try clear hcz19_1
       try clear hcz19_2
       try clear hcz19_3
       try clear hcz21_0
       try clear hcz21_1
       try clear hcz21_2
       try clear hcz21_3
       try clear hcz6_0
       try clear hcz6_1
       try clear hcz6_2
       try clear hcz6_3
       try clear hcz8_0
       try clear hcz8_1
       try clear hcz8_2
       try clear hcz8_3
       try clear hfz10_0
       try clear hfz10_1
       try clear hfz10_2
       try clear hfz10_3
       try clear hfz19_0
       try clear hfz19_1
       try clear hfz19_2
       try clear hfz19_3
       try clear hfz21_0
       try clear hfz21_1
       try clear hfz21_2
       try clear hfz21_3
       try clear hfz6_0
       try clear hfz6_1
       try clear hfz6_2
       try clear hfz6_3
       try clear hfz8_0
       try clear hfz8_1
       try clear hfz8_2
       try clear hfz8_3
       try clear hx352_0
       try clear p2
       try clear p352
       try clear q352
       obtain ⟨x4_2, x43_2, rfl, rfl, HA, HK2, BK349, HB⟩ := hrel
       cases gk with
       | zero => exact absurd HA.out (by simp [impl_ImageText.l1])
       | succ k2 =>
        have H := HA.out
        clear HA
        simp only [impl_ImageText.l1] at H
        by_cases c22 : x43_2 < (l0_1.length : Int)
        ·rw [if_pos c22] at H
         have c22b0 : decide (x43_2 < (l0_1.length : Int)) = true := decide_eq_true c22
         clear c22
         by_cases c23 : 0 ≤ x43_2
         ·rw [if_pos c23] at H
          have c23b0 : decide (0 ≤ x43_2) = true := decide_eq_true c23
          clear c23
          by_cases c24 : x43_2 < (l0_1.length : Int)
          ·rw [if_pos c24] at H
           have c24b0 : decide (x43_2 < (l0_1.length : Int)) = true := decide_eq_true c24
           clear c24
           replace H := Option.bind_eq_some_iff.mp H
           obtain ⟨t357, A250, H⟩ := H
           replace H : ((impl_put.f k2 (t357.size : Int) 2).bind fun t358 => (if t358.size + t357.size ≤ 9223372036854775807 then (if x4_2.size + (t358 ++ t357).size ≤ 9223372036854775807 then (impl_ImageText.l1 k2 (x4_2 ++ (t358 ++ t357)) l0_1 (l0_1.length : Int) (wrap64 (x43_2 + 1)) l0_0 l0_1 l0_2 l0_3) else (none)) else (none))) = some (r1, r2) := H
           have A25 := zQ A250
           clear A250
           replace H := Option.bind_eq_some_iff.mp H
           obtain ⟨t358, A260, H⟩ := H
           replace H : (if t358.size + t357.size ≤ 9223372036854775807 then (if x4_2.size + (t358 ++ t357).size ≤ 9223372036854775807 then (impl_ImageText.l1 k2 (x4_2 ++ (t358 ++ t357)) l0_1 (l0_1.length : Int) (wrap64 (x43_2 + 1)) l0_0 l0_1 l0_2 l0_3) else (none)) else (none)) = some (r1, r2) := H
           have A26 := zQ A260
           clear A260
           by_cases c27 : t358.size + t357.size ≤ 9223372036854775807
           ·rw [if_pos c27] at H
            have c27b0 := eq_true c27
            have c27b1 : decide (t358.size + t357.size ≤ 9223372036854775807) = true := decide_eq_true c27
            try have c27b2 : (9223372036854775807 < t358.size + t357.size) = False := eq_false (Nat.not_lt.2 c27)
            by_cases c28 : x4_2.size + (t358 ++ t357).size ≤ 9223372036854775807
            ·rw [if_pos c28] at H
             have c28b0 := eq_true c28
             have c28b1 : decide (x4_2.size + (t358 ++ t357).size ≤ 9223372036854775807) = true := decide_eq_true c28
             try have c28b2 : (9223372036854775807 < x4_2.size + (t358 ++ t357).size) = False := eq_false (Nat.not_lt.2 c28)
             (try have c28q := c28b2)
             (try simp only [ByteArray.size_append] at c28q)
             have H' := zQ H
             clear H
             have p355 : 0 ≤ (x43_2 : Int) := zA
             have q355 : x43_2 < (l0_1.length : Int) := zA
             obtain ⟨ad355, A355_0, c355_0, e355, hx355_0, hl355_0, hi355_0⟩ := at_T124 HR0_1.out x43_2 p355 q355
             cases e355
             replace hx355_0 := zX HB.out hx355_0
             have HR355_0 := zQ hi355_0
             have HC355_0 := zQ hl355_0
             clear hi355_0 hl355_0
             replace p355 := eq_true p355
             replace q355 := eq_true q355
             go_wp2_with (first | ((with_reducible refine gate_dst (N := 8) rfl ?_); refine box_event ?hg (N := 8) ?hd (cs := #[.slice none 0 0]) (t := 124) ?hr ?_; (case hd => rfl); (case hg => rfl); (case hr => first | (go_simp; done) | (go_simp; rfl)); intro gb356 hg w29 hbox hb; have n0_ := zQ (zL BK349.out hb); have n1_ := zQ (below_step (zB HB.out) hb); have n2_ := zQ (hbox); have n3_ := zQ ((zG hg HB.out)); have n4_ := zQ ((zG hg HB.out)); have n5_ := zQ ((zN hg BK349.out)); have n6_ := zQ ((zM hg BK349.out)); clear BK349; clear HB; have BK349 := n0_; have HB := n1_; have BK356 := n2_; have GW356 := n3_; have GE356 := n4_; have NB349_356 := n5_; have NB356_349 := n6_; clear n0_ n1_ n2_ n3_ n4_ n5_ n6_; clear hb hbox hg; have hnb30 := NB356_349.out; have hnc30 := NB349_356.out; obtain ⟨hcz31_0, hfz31_0⟩ := zc1 BK356.out) | ((with_reducible refine gate_callee (f := 112) rfl ?_); refine goesL_ (some 49) rfl rfl Try.func112 (by kernel_rfl) rfl #[.slice A355_0 ((rd_T124 l0_1 x43_2).f0).length c355_0] rfl zS ?_; (with_reducible refine (impl_codeText.calls _ _ ((rd_T124 l0_1 x43_2).f0) t357 _ ?side1 ?side2 A25.out).mono ?_); (case side1 => exact Kd.C_below HR355_0.out (zB HB.out)); (case side2 => exact HC355_0.out); rintro e w32 ⟨rfl, hb⟩; refine ⟨_, rfl, ?_⟩; have n0_ := zQ (zL BK349.out hb); have n1_ := zQ (blk_below (g := gb356) (o := .cells #[.slice A355_0 ((rd_T124 l0_1 x43_2).f0).length c355_0] 124 (0, 0)) (zP BK356.out) hb); have n2_ := zQ (below_step (zB HB.out) hb); clear BK349; clear BK356; clear HB; have BK349 := n0_; have BK356 := n1_; have HB := n2_; clear n0_ n1_ n2_; (try clear hb); (try clear hb2); (try clear hk); (try clear hi)) | ((with_reducible refine gate_callee (f := 111) rfl ?_); refine goesL_ (some 53) rfl rfl Try.func111 (by kernel_rfl) rfl #[.int .i64 (t357.size : Int), .int .i64 2] rfl zS ?_; (with_reducible refine (impl_put.calls k2 (t357.size : Int) 2 t358 _ A26.out).mono ?_); rintro e w33 ⟨rfl, hb⟩; refine ⟨_, rfl, ?_⟩; have n0_ := zQ (zL BK349.out hb); have n1_ := zQ (zL BK356.out hb); have n2_ := zQ (below_step (zB HB.out) hb); clear BK349; clear BK356; clear HB; have BK349 := n0_; have BK356 := n1_; have HB := n2_; clear n0_ n1_ n2_; (try clear hb); (try clear hb2); (try clear hk); (try clear hi)))
             go_roundg k2
             case measure => have := HK1.out; have := HK2.out; omega
             case rel => exact ⟨(x4_2 ++ (t358 ++ t357)), (wrap64 (x43_2 + 1)), (by first | rfl | (simp; done) | (simp [*]; done)), (by first | rfl | (simp; done) | (simp [*]; done)), H', ⟨by have := HK1.out; have := HK2.out; omega⟩, ⟨by (with_reducible repeat (first | refine blk_drewN ?_ _ | refine blk_drew ?_ | refine blk_alloc ?_ _)); exact BK349.out⟩, ⟨zB HB.out⟩⟩
            ·rw [if_neg c28] at H
             exact absurd H (by simp)
           ·rw [if_neg c27] at H
            exact absurd H (by simp)
          ·rw [if_neg c24] at H
           exact absurd H (by simp)
         ·rw [if_neg c23] at H
          exact absurd H (by simp)
        ·rw [if_neg c22] at H
         have c22b0 : decide (x43_2 < (l0_1.length : Int)) = false := decide_eq_false c22
         clear c22
         replace H := Option.bind_eq_some_iff.mp H
         obtain ⟨t359, A340, H⟩ := H
         replace H : (if x4_2.size + t359.size ≤ 9223372036854775807 then (impl_ImageText.l2 k2 (x4_2 ++ t359) l0_2 (l0_2.length : Int) 0 l0_0 l0_1 l0_2 l0_3) else (none)) = some (r1, r2) := H
         have A34 := zQ A340
         clear A340
         by_cases c35 : x4_2.size + t359.size ≤ 9223372036854775807
         ·rw [if_pos c35] at H
          have c35b0 := eq_true c35
          have c35b1 : decide (x4_2.size + t359.size ≤ 9223372036854775807) = true := decide_eq_true c35
          try have c35b2 : (9223372036854775807 < x4_2.size + t359.size) = False := eq_false (Nat.not_lt.2 c35)
          have H' := zQ H
          clear H
          obtain ⟨hcz36_0, hcz36_1, hcz36_2, hcz36_3, hfz36_0, hfz36_1, hfz36_2, hfz36_3⟩ := zc4 BK349.out
          go_wp2_with (first | ((with_reducible refine gate_callee (f := 111) rfl ?_); refine goesL_ (some 62) rfl rfl Try.func111 (by kernel_rfl) rfl #[.int .i64 (l0_2.length : Int), .int .i64 1] rfl zS ?_; (with_reducible refine (impl_put.calls k2 (l0_2.length : Int) 1 t359 _ A34.out).mono ?_); rintro e w37 ⟨rfl, hb⟩; refine ⟨_, rfl, ?_⟩; have n0_ := zQ (zL BK349.out hb); have n1_ := zQ (below_step (zB HB.out) hb); clear BK349; clear HB; have BK349 := n0_; have HB := n1_; clear n0_ n1_; (try clear hb); (try clear hb2); (try clear hk); (try clear hi); obtain ⟨hcz38_0, hcz38_1, hcz38_2, hcz38_3, hfz38_0, hfz38_1, hfz38_2, hfz38_3⟩ := zc4 BK349.out))
          go_loopg [4, 67] k2 (fun kq v4 v67 w' => ∃ (x4_3 : ByteArray) (x67_3 : Int), v4 = .string x4_3 ∧ v67 = .int .i64 x67_3 ∧ Aside0 (impl_ImageText.l2 kq x4_3 l0_2 (l0_2.length : Int) x67_3 l0_0 l0_1 l0_2 l0_3 = some (r1, r2)) ∧ Aside0 (kq ≤ k2) ∧ Aside0 (w'.heap[gb349]? = some (.cells #[(.slice A0_0 l0_0.length c0_0), (.slice A0_1 l0_1.length c0_1), (.slice A0_2 l0_2.length c0_2), (.slice A0_3 l0_3.length c0_3)] 64 (0, 0))) ∧ Aside0 (Below w.heap.size w w'))
          case atStart => exact ⟨(x4_2 ++ t359), (0), (by first | rfl | (simp; done) | (simp [*]; done)), (by first | rfl | (simp; done) | (simp [*]; done)), H', ⟨Nat.le_refl _⟩, ⟨by (with_reducible repeat (first | refine blk_drewN ?_ _ | refine blk_drew ?_ | refine blk_alloc ?_ _)); exact BK349.out⟩, ⟨zB HB.out⟩⟩
          case round =>
           clear H'
           try clear c1
           try clear c2
           try clear p2
           try clear c3
           try clear p3
           try clear q3
           try clear hx3
           try clear c5
           try clear p6
           try clear c10
           try clear c11
           try clear c11b0
           try clear c12
           try clear c12b0
           try clear c13
           try clear c13b0
           try clear c15
           try clear c15b0
           try clear c15b1
           try clear c15b2
           try clear c18
           try clear c18b0
           try clear c18b1
           try clear c18b2
           try clear c22
           try clear c22b0
           try clear c23
           try clear c23b0
           try clear c24
           try clear c24b0
           try clear c27
           try clear c27b0
           try clear c27b1
           try clear c27b2
           try clear c28
           try clear c28b0
           try clear c28b1
           try clear c28b2
           try clear c30
           try clear c35
           try clear c35b0
           try clear c35b1
           try clear c35b2
           try clear p35
           try clear q35
           try clear hx35
           try clear hcz10_0
           try clear hcz10_1
           try clear hcz10_2
           try clear hcz10_3
           try clear hcz19_0
           try clear hcz19_1
           try clear hcz19_2
           try clear hcz19_3
           try clear hcz21_0
           try clear hcz21_1
           try clear hcz21_2
           try clear hcz21_3
           try clear hcz31_0
           try clear hcz36_0
           try clear hcz36_1
           try clear hcz36_2
           try clear hcz36_3
           try clear hcz38_0
           try clear hcz38_1
           try clear hcz38_2
           try clear hcz38_3
           try clear hcz6_0
           try clear hcz6_1
           try clear hcz6_2
           try clear hcz6_3
           try clear hcz8_0
           try clear hcz8_1
           try clear hcz8_2
           try clear hcz8_3
           try clear hfz10_0
           try clear hfz10_1
           try clear hfz10_2
           try clear hfz10_3
           try clear hfz19_0
           try clear hfz19_1
           try clear hfz19_2
           try clear hfz19_3
           try clear hfz21_0
           try clear hfz21_1
           try clear hfz21_2
           try clear hfz21_3
           try clear hfz31_0
           try clear hfz36_0
           try clear hfz36_1
           try clear hfz36_2
           try clear hfz36_3
           try clear hfz38_0
           try clear hfz38_1
           try clear hfz38_2
           try clear hfz38_3
           try clear hfz6_0
           try clear hfz6_1
           try clear hfz6_2
           try clear hfz6_3
           try clear hfz8_0
           try clear hfz8_1
           try clear hfz8_2
           try clear hfz8_3
           try clear hx352_0
           try clear hx355_0
           try clear p2
           try clear p3
           try clear p352
           try clear p355
           try clear p6
           try clear q3
           try clear q352
           try clear q355
           obtain ⟨x4_3, x67_3, rfl, rfl, HA, HK3, BK349, HB⟩ := hrel
           cases gk with
           | zero => exact absurd HA.out (by simp [impl_ImageText.l2])
           | succ k3 =>
            have H := HA.out
            clear HA
            simp only [impl_ImageText.l2] at H
            by_cases c39 : x67_3 < (l0_2.length : Int)
            ·rw [if_pos c39] at H
             have c39b0 : decide (x67_3 < (l0_2.length : Int)) = true := decide_eq_true c39
             clear c39
             by_cases c40 : 0 ≤ x67_3
             ·rw [if_pos c40] at H
              have c40b0 : decide (0 ≤ x67_3) = true := decide_eq_true c40
              clear c40
              by_cases c41 : x67_3 < (l0_2.length : Int)
              ·rw [if_pos c41] at H
               have c41b0 : decide (x67_3 < (l0_2.length : Int)) = true := decide_eq_true c41
               clear c41
               replace H := Option.bind_eq_some_iff.mp H
               obtain ⟨t362, A420, H⟩ := H
               replace H : ((impl_put.f k3 ((rd_T135 l0_2 x67_3).f1) 4).bind fun t363 => (if t362.size + t363.size ≤ 9223372036854775807 then ((impl_put.f k3 ((rd_T135 l0_2 x67_3).f2) 4).bind fun t364 => (if (t362 ++ t363).size + t364.size ≤ 9223372036854775807 then ((impl_put.f k3 ((rd_T135 l0_2 x67_3).f3) 1).bind fun t365 => (if ((t362 ++ t363) ++ t364).size + t365.size ≤ 9223372036854775807 then ((impl_put.f k3 ((rd_T135 l0_2 x67_3).f4) 1).bind fun t366 => (if (((t362 ++ t363) ++ t364) ++ t365).size + t366.size ≤ 9223372036854775807 then ((impl_put.f k3 ((rd_T135 l0_2 x67_3).f5) 1).bind fun t367 => (if ((((t362 ++ t363) ++ t364) ++ t365) ++ t366).size + t367.size ≤ 9223372036854775807 then (if x4_3.size + (((((t362 ++ t363) ++ t364) ++ t365) ++ t366) ++ t367).size ≤ 9223372036854775807 then (impl_ImageText.l2 k3 (x4_3 ++ (((((t362 ++ t363) ++ t364) ++ t365) ++ t366) ++ t367)) l0_2 (l0_2.length : Int) (wrap64 (x67_3 + 1)) l0_0 l0_1 l0_2 l0_3) else (none)) else (none))) else (none))) else (none))) else (none))) else (none))) = some (r1, r2) := H
               have A42 := zQ A420
               clear A420
               replace H := Option.bind_eq_some_iff.mp H
               obtain ⟨t363, A430, H⟩ := H
               replace H : (if t362.size + t363.size ≤ 9223372036854775807 then ((impl_put.f k3 ((rd_T135 l0_2 x67_3).f2) 4).bind fun t364 => (if (t362 ++ t363).size + t364.size ≤ 9223372036854775807 then ((impl_put.f k3 ((rd_T135 l0_2 x67_3).f3) 1).bind fun t365 => (if ((t362 ++ t363) ++ t364).size + t365.size ≤ 9223372036854775807 then ((impl_put.f k3 ((rd_T135 l0_2 x67_3).f4) 1).bind fun t366 => (if (((t362 ++ t363) ++ t364) ++ t365).size + t366.size ≤ 9223372036854775807 then ((impl_put.f k3 ((rd_T135 l0_2 x67_3).f5) 1).bind fun t367 => (if ((((t362 ++ t363) ++ t364) ++ t365) ++ t366).size + t367.size ≤ 9223372036854775807 then (if x4_3.size + (((((t362 ++ t363) ++ t364) ++ t365) ++ t366) ++ t367).size ≤ 9223372036854775807 then (impl_ImageText.l2 k3 (x4_3 ++ (((((t362 ++ t363) ++ t364) ++ t365) ++ t366) ++ t367)) l0_2 (l0_2.length : Int) (wrap64 (x67_3 + 1)) l0_0 l0_1 l0_2 l0_3) else (none)) else (none))) else (none))) else (none))) else (none))) else (none)) = some (r1, r2) := H
               have A43 := zQ A430
               clear A430
               by_cases c44 : t362.size + t363.size ≤ 9223372036854775807
               ·rw [if_pos c44] at H
                have c44b0 := eq_true c44
                have c44b1 : decide (t362.size + t363.size ≤ 9223372036854775807) = true := decide_eq_true c44
                try have c44b2 : (9223372036854775807 < t362.size + t363.size) = False := eq_false (Nat.not_lt.2 c44)
                replace H := Option.bind_eq_some_iff.mp H
                obtain ⟨t364, A450, H⟩ := H
                replace H : (if (t362 ++ t363).size + t364.size ≤ 9223372036854775807 then ((impl_put.f k3 ((rd_T135 l0_2 x67_3).f3) 1).bind fun t365 => (if ((t362 ++ t363) ++ t364).size + t365.size ≤ 9223372036854775807 then ((impl_put.f k3 ((rd_T135 l0_2 x67_3).f4) 1).bind fun t366 => (if (((t362 ++ t363) ++ t364) ++ t365).size + t366.size ≤ 9223372036854775807 then ((impl_put.f k3 ((rd_T135 l0_2 x67_3).f5) 1).bind fun t367 => (if ((((t362 ++ t363) ++ t364) ++ t365) ++ t366).size + t367.size ≤ 9223372036854775807 then (if x4_3.size + (((((t362 ++ t363) ++ t364) ++ t365) ++ t366) ++ t367).size ≤ 9223372036854775807 then (impl_ImageText.l2 k3 (x4_3 ++ (((((t362 ++ t363) ++ t364) ++ t365) ++ t366) ++ t367)) l0_2 (l0_2.length : Int) (wrap64 (x67_3 + 1)) l0_0 l0_1 l0_2 l0_3) else (none)) else (none))) else (none))) else (none))) else (none)) = some (r1, r2) := H
                have A45 := zQ A450
                clear A450
                by_cases c46 : (t362 ++ t363).size + t364.size ≤ 9223372036854775807
                ·rw [if_pos c46] at H
                 have c46b0 := eq_true c46
                 have c46b1 : decide ((t362 ++ t363).size + t364.size ≤ 9223372036854775807) = true := decide_eq_true c46
                 try have c46b2 : (9223372036854775807 < (t362 ++ t363).size + t364.size) = False := eq_false (Nat.not_lt.2 c46)
                 (try have c46q := c46b2)
                 (try simp only [ByteArray.size_append] at c46q)
                 replace H := Option.bind_eq_some_iff.mp H
                 obtain ⟨t365, A470, H⟩ := H
                 replace H : (if ((t362 ++ t363) ++ t364).size + t365.size ≤ 9223372036854775807 then ((impl_put.f k3 ((rd_T135 l0_2 x67_3).f4) 1).bind fun t366 => (if (((t362 ++ t363) ++ t364) ++ t365).size + t366.size ≤ 9223372036854775807 then ((impl_put.f k3 ((rd_T135 l0_2 x67_3).f5) 1).bind fun t367 => (if ((((t362 ++ t363) ++ t364) ++ t365) ++ t366).size + t367.size ≤ 9223372036854775807 then (if x4_3.size + (((((t362 ++ t363) ++ t364) ++ t365) ++ t366) ++ t367).size ≤ 9223372036854775807 then (impl_ImageText.l2 k3 (x4_3 ++ (((((t362 ++ t363) ++ t364) ++ t365) ++ t366) ++ t367)) l0_2 (l0_2.length : Int) (wrap64 (x67_3 + 1)) l0_0 l0_1 l0_2 l0_3) else (none)) else (none))) else (none))) else (none)) = some (r1, r2) := H
                 have A47 := zQ A470
                 clear A470
                 by_cases c48 : ((t362 ++ t363) ++ t364).size + t365.size ≤ 9223372036854775807
                 ·rw [if_pos c48] at H
                  have c48b0 := eq_true c48
                  have c48b1 : decide (((t362 ++ t363) ++ t364).size + t365.size ≤ 9223372036854775807) = true := decide_eq_true c48
                  try have c48b2 : (9223372036854775807 < ((t362 ++ t363) ++ t364).size + t365.size) = False := eq_false (Nat.not_lt.2 c48)
                  (try have c48q := c48b2)
                  (try simp only [ByteArray.size_append] at c48q)
                  replace H := Option.bind_eq_some_iff.mp H
                  obtain ⟨t366, A490, H⟩ := H
                  replace H : (if (((t362 ++ t363) ++ t364) ++ t365).size + t366.size ≤ 9223372036854775807 then ((impl_put.f k3 ((rd_T135 l0_2 x67_3).f5) 1).bind fun t367 => (if ((((t362 ++ t363) ++ t364) ++ t365) ++ t366).size + t367.size ≤ 9223372036854775807 then (if x4_3.size + (((((t362 ++ t363) ++ t364) ++ t365) ++ t366) ++ t367).size ≤ 9223372036854775807 then (impl_ImageText.l2 k3 (x4_3 ++ (((((t362 ++ t363) ++ t364) ++ t365) ++ t366) ++ t367)) l0_2 (l0_2.length : Int) (wrap64 (x67_3 + 1)) l0_0 l0_1 l0_2 l0_3) else (none)) else (none))) else (none)) = some (r1, r2) := H
                  have A49 := zQ A490
                  clear A490
                  by_cases c50 : (((t362 ++ t363) ++ t364) ++ t365).size + t366.size ≤ 9223372036854775807
                  ·rw [if_pos c50] at H
                   have c50b0 := eq_true c50
                   have c50b1 : decide ((((t362 ++ t363) ++ t364) ++ t365).size + t366.size ≤ 9223372036854775807) = true := decide_eq_true c50
                   try have c50b2 : (9223372036854775807 < (((t362 ++ t363) ++ t364) ++ t365).size + t366.size) = False := eq_false (Nat.not_lt.2 c50)
                   (try have c50q := c50b2)
                   (try simp only [ByteArray.size_append] at c50q)
                   replace H := Option.bind_eq_some_iff.mp H
                   obtain ⟨t367, A510, H⟩ := H
                   replace H : (if ((((t362 ++ t363) ++ t364) ++ t365) ++ t366).size + t367.size ≤ 9223372036854775807 then (if x4_3.size + (((((t362 ++ t363) ++ t364) ++ t365) ++ t366) ++ t367).size ≤ 9223372036854775807 then (impl_ImageText.l2 k3 (x4_3 ++ (((((t362 ++ t363) ++ t364) ++ t365) ++ t366) ++ t367)) l0_2 (l0_2.length : Int) (wrap64 (x67_3 + 1)) l0_0 l0_1 l0_2 l0_3) else (none)) else (none)) = some (r1, r2) := H
                   have A51 := zQ A510
                   clear A510
                   by_cases c52 : ((((t362 ++ t363) ++ t364) ++ t365) ++ t366).size + t367.size ≤ 9223372036854775807
                   ·rw [if_pos c52] at H
                    have c52b0 := eq_true c52
                    have c52b1 : decide (((((t362 ++ t363) ++ t364) ++ t365) ++ t366).size + t367.size ≤ 9223372036854775807) = true := decide_eq_true c52
                    try have c52b2 : (9223372036854775807 < ((((t362 ++ t363) ++ t364) ++ t365) ++ t366).size + t367.size) = False := eq_false (Nat.not_lt.2 c52)
                    (try have c52q := c52b2)
                    (try simp only [ByteArray.size_append] at c52q)
                    by_cases c53 : x4_3.size + (((((t362 ++ t363) ++ t364) ++ t365) ++ t366) ++ t367).size ≤ 9223372036854775807
                    ·rw [if_pos c53] at H
                     have c53b0 := eq_true c53
                     have c53b1 : decide (x4_3.size + (((((t362 ++ t363) ++ t364) ++ t365) ++ t366) ++ t367).size ≤ 9223372036854775807) = true := decide_eq_true c53
                     try have c53b2 : (9223372036854775807 < x4_3.size + (((((t362 ++ t363) ++ t364) ++ t365) ++ t366) ++ t367).size) = False := eq_false (Nat.not_lt.2 c53)
                     (try have c53q := c53b2)
                     (try simp only [ByteArray.size_append] at c53q)
                     have H' := zQ H
                     clear H
                     have p360 : 0 ≤ (x67_3 : Int) := zA
                     have q360 : x67_3 < (l0_2.length : Int) := zA
                     obtain ⟨ad360, e360, hx360_0, hx360_1, hx360_2, hx360_3, hx360_4, hx360_5⟩ := at_T135 HR0_2.out x67_3 p360 q360
                     cases e360
                     replace hx360_0 := zX HB.out hx360_0
                     replace hx360_1 := zX HB.out hx360_1
                     replace hx360_2 := zX HB.out hx360_2
                     replace hx360_3 := zX HB.out hx360_3
                     replace hx360_4 := zX HB.out hx360_4
                     replace hx360_5 := zX HB.out hx360_5
                     replace p360 := eq_true p360
                     replace q360 := eq_true q360
                     try go_wp2_with (first | ((with_reducible refine gate_dst (N := 11) rfl ?_); refine box_event ?hg (N := 11) ?hd (cs := #[.int .i64 0, .int .i64 0, .int .i64 0, .int .i64 0, .int .i64 0, .int .i64 0]) (t := 135) ?hr ?_; (case hd => rfl); (case hg => rfl); (case hr => first | (go_simp; done) | (go_simp; rfl)); intro gb361 hg w54 hbox hb; have n0_ := zQ (zL BK349.out hb); have n1_ := zQ (below_step (zB HB.out) hb); have n2_ := zQ (hbox); have n3_ := zQ ((zG hg HB.out)); have n4_ := zQ ((zG hg HB.out)); have n5_ := zQ ((zN hg BK349.out)); have n6_ := zQ ((zM hg BK349.out)); clear BK349; clear HB; have BK349 := n0_; have HB := n1_; have BK361 := n2_; have GW361 := n3_; have GE361 := n4_; have NB349_361 := n5_; have NB361_349 := n6_; clear n0_ n1_ n2_ n3_ n4_ n5_ n6_; clear hb hbox hg; have hnb55 := NB361_349.out; have hnc55 := NB349_361.out; obtain ⟨hcz56_0, hcz56_1, hcz56_2, hcz56_3, hcz56_4, hcz56_5, hfz56_0, hfz56_1, hfz56_2, hfz56_3, hfz56_4, hfz56_5⟩ := zc6 BK361.out))
                     have n0_ : Aside0 (((((((w54.setCell ⟨gb361, 0, none⟩ (.int .i64 ((rd_T135 l0_2 x67_3).f0))).setCell ⟨gb361, 1, none⟩ (.int .i64 ((rd_T135 l0_2 x67_3).f1))).setCell ⟨gb361, 2, none⟩ (.int .i64 ((rd_T135 l0_2 x67_3).f2))).setCell ⟨gb361, 3, none⟩ (.int .i64 ((rd_T135 l0_2 x67_3).f3))).setCell ⟨gb361, 4, none⟩ (.int .i64 ((rd_T135 l0_2 x67_3).f4))).setCell ⟨gb361, 5, none⟩ (.int .i64 ((rd_T135 l0_2 x67_3).f5))).heap[gb349]? = some (.cells #[.slice A0_0 l0_0.length c0_0, .slice A0_1 l0_1.length c0_1, .slice (some ad360) l0_2.length c0_2, .slice A0_3 l0_3.length c0_3] 64 (0, 0))) := ⟨zF BK349.out⟩
                     have n1_ : Aside0 (((((((w54.setCell ⟨gb361, 0, none⟩ (.int .i64 ((rd_T135 l0_2 x67_3).f0))).setCell ⟨gb361, 1, none⟩ (.int .i64 ((rd_T135 l0_2 x67_3).f1))).setCell ⟨gb361, 2, none⟩ (.int .i64 ((rd_T135 l0_2 x67_3).f2))).setCell ⟨gb361, 3, none⟩ (.int .i64 ((rd_T135 l0_2 x67_3).f3))).setCell ⟨gb361, 4, none⟩ (.int .i64 ((rd_T135 l0_2 x67_3).f4))).setCell ⟨gb361, 5, none⟩ (.int .i64 ((rd_T135 l0_2 x67_3).f5))).heap[gb361]? = some (.cells #[.int .i64 ((rd_T135 l0_2 x67_3).f0), .int .i64 ((rd_T135 l0_2 x67_3).f1), .int .i64 ((rd_T135 l0_2 x67_3).f2), .int .i64 ((rd_T135 l0_2 x67_3).f3), .int .i64 ((rd_T135 l0_2 x67_3).f4), .int .i64 ((rd_T135 l0_2 x67_3).f5)] 135 (0, 0))) := ⟨zP BK361.out⟩
                     have n2_ : Aside0 (Below w.heap.size w ((((((w54.setCell ⟨gb361, 0, none⟩ (.int .i64 ((rd_T135 l0_2 x67_3).f0))).setCell ⟨gb361, 1, none⟩ (.int .i64 ((rd_T135 l0_2 x67_3).f1))).setCell ⟨gb361, 2, none⟩ (.int .i64 ((rd_T135 l0_2 x67_3).f2))).setCell ⟨gb361, 3, none⟩ (.int .i64 ((rd_T135 l0_2 x67_3).f3))).setCell ⟨gb361, 4, none⟩ (.int .i64 ((rd_T135 l0_2 x67_3).f4))).setCell ⟨gb361, 5, none⟩ (.int .i64 ((rd_T135 l0_2 x67_3).f5)))) := ⟨zB HB.out⟩
                     (try clear BK349)
                     (try clear BK361)
                     (try clear HB)
                     generalize ((((((w54.setCell ⟨gb361, 0, none⟩ (.int .i64 ((rd_T135 l0_2 x67_3).f0))).setCell ⟨gb361, 1, none⟩ (.int .i64 ((rd_T135 l0_2 x67_3).f1))).setCell ⟨gb361, 2, none⟩ (.int .i64 ((rd_T135 l0_2 x67_3).f2))).setCell ⟨gb361, 3, none⟩ (.int .i64 ((rd_T135 l0_2 x67_3).f3))).setCell ⟨gb361, 4, none⟩ (.int .i64 ((rd_T135 l0_2 x67_3).f4))).setCell ⟨gb361, 5, none⟩ (.int .i64 ((rd_T135 l0_2 x67_3).f5))) = w57 at n0_ n1_ n2_ ⊢
                     have BK349 := n0_
                     have BK361 := n1_
                     have HB := n2_
                     clear n0_ n1_ n2_
                     have n0_ := zQ (blk_drew BK349.out)
                     have n1_ := zQ (blk_drew BK361.out)
                     have n2_ := zQ (below_drew1 HB.out)
                     clear BK349
                     clear BK361
                     clear HB
                     have BK349 := n0_
                     have BK361 := n1_
                     have HB := n2_
                     clear n0_ n1_ n2_
                     refine start_ (n := 26) (S := fun w' => w'.cell? ⟨gb361, 0, none⟩ = some (.int .i64 ((rd_T135 l0_2 x67_3).f0)) ∧ w'.cell? ⟨gb361, 1, none⟩ = some (.int .i64 ((rd_T135 l0_2 x67_3).f1)) ∧ w'.cell? ⟨gb361, 2, none⟩ = some (.int .i64 ((rd_T135 l0_2 x67_3).f2)) ∧ w'.cell? ⟨gb361, 3, none⟩ = some (.int .i64 ((rd_T135 l0_2 x67_3).f3)) ∧ w'.cell? ⟨gb361, 4, none⟩ = some (.int .i64 ((rd_T135 l0_2 x67_3).f4)) ∧ w'.cell? ⟨gb361, 5, none⟩ = some (.int .i64 ((rd_T135 l0_2 x67_3).f5))) (ds := []) #[false, false, false, false, false, false, false, false, false, false, false, false, false, false, false, false, false, false, false, false, false, false, false, false, false, false] (by kernel_rfl) rfl rfl (zd6 BK361.out) (fun hHeld => ?_); refine with_tabW impl_ImageText.tab20 impl_ImageText.bits20 (fun HT_ HW_ => ?_)
                     generalize w57.drew = w58 at BK349 BK361 HB hHeld ⊢
                     refine pure_ (i := 0) (N := some 71) (v := ?_) (a' := ?_) #[true, false, false, false, false, false, false, false, false, false, false, false, false, false, false, false, false, false, false, false, false, false, false, false, false, false] rfl rfl (any_of HT_.out (by kernel_rfl)) (fun _ _ _ h => h) (Or.inl ⟨by rfl, ?_⟩) ?_ ?_
                     rotate_left
                     ·intro w'
                      go_simp
                      with_reducible rfl
                     rotate_left
                     ·simp only [Act.put, List.setIfInBounds_toArray, List.set_cons_zero, List.set_cons_succ, i64_w, i32_w]
                      rfl
                     refine pure_ (i := 1) (N := some 72) (v := ?_) (a' := ?_) #[true, true, false, false, false, false, false, false, false, false, false, false, false, false, false, false, false, false, false, false, false, false, false, false, false, false] rfl rfl (any_of HT_.out (by kernel_rfl)) (fun _ _ _ h => h) (Or.inl ⟨by rfl, ?_⟩) ?_ ?_
                     rotate_left
                     ·intro w'
                      go_simp
                      with_reducible rfl
                     rotate_left
                     ·simp only [Act.put, List.setIfInBounds_toArray, List.set_cons_zero, List.set_cons_succ, i64_w, i32_w]
                      rfl
                     refine pure_ (i := 4) (N := some 75) (v := ?_) (a' := ?_) #[true, true, false, false, true, false, false, false, false, false, false, false, false, false, false, false, false, false, false, false, false, false, false, false, false, false] rfl rfl (any_of HT_.out (by kernel_rfl)) (fun _ _ _ h => h) (Or.inl ⟨by rfl, ?_⟩) ?_ ?_
                     rotate_left
                     ·intro w'
                      go_simp
                      with_reducible rfl
                     rotate_left
                     ·simp only [Act.put, List.setIfInBounds_toArray, List.set_cons_zero, List.set_cons_succ, i64_w, i32_w]
                      rfl
                     refine pure_ (i := 8) (N := some 79) (v := ?_) (a' := ?_) #[true, true, false, false, true, false, false, false, true, false, false, false, false, false, false, false, false, false, false, false, false, false, false, false, false, false] rfl rfl (any_of HT_.out (by kernel_rfl)) (fun _ _ _ h => h) (Or.inl ⟨by rfl, ?_⟩) ?_ ?_
                     rotate_left
                     ·intro w'
                      go_simp
                      with_reducible rfl
                     rotate_left
                     ·simp only [Act.put, List.setIfInBounds_toArray, List.set_cons_zero, List.set_cons_succ, i64_w, i32_w]
                      rfl
                     refine pure_ (i := 12) (N := some 83) (v := ?_) (a' := ?_) #[true, true, false, false, true, false, false, false, true, false, false, false, true, false, false, false, false, false, false, false, false, false, false, false, false, false] rfl rfl (any_of HT_.out (by kernel_rfl)) (fun _ _ _ h => h) (Or.inl ⟨by rfl, ?_⟩) ?_ ?_
                     rotate_left
                     ·intro w'
                      go_simp
                      with_reducible rfl
                     rotate_left
                     ·simp only [Act.put, List.setIfInBounds_toArray, List.set_cons_zero, List.set_cons_succ, i64_w, i32_w]
                      rfl
                     refine pure_ (i := 16) (N := some 87) (v := ?_) (a' := ?_) #[true, true, false, false, true, false, false, false, true, false, false, false, true, false, false, false, true, false, false, false, false, false, false, false, false, false] rfl rfl (any_of HT_.out (by kernel_rfl)) (fun _ _ _ h => h) (Or.inl ⟨by rfl, ?_⟩) ?_ ?_
                     rotate_left
                     ·intro w'
                      go_simp
                      with_reducible rfl
                     rotate_left
                     ·simp only [Act.put, List.setIfInBounds_toArray, List.set_cons_zero, List.set_cons_succ, i64_w, i32_w]
                      rfl
                     refine pure_ (i := 20) (N := some 91) (v := ?_) (a' := ?_) #[true, true, false, false, true, false, false, false, true, false, false, false, true, false, false, false, true, false, false, false, true, false, false, false, false, false] rfl rfl (any_of HT_.out (by kernel_rfl)) (fun _ _ _ h => h) (Or.inl ⟨by rfl, ?_⟩) ?_ ?_
                     rotate_left
                     ·intro w'
                      go_simp
                      with_reducible rfl
                     rotate_left
                     ·simp only [Act.put, List.setIfInBounds_toArray, List.set_cons_zero, List.set_cons_succ, i64_w, i32_w]
                      rfl
                     refine take_ (i := 2) (N := some 73) (v := ?_) (a' := ?_) #[true, true, true, false, true, false, false, false, true, false, false, false, true, false, false, false, true, false, false, false, true, false, false, false, false, false] rfl rfl (take_ofW HT_.out HW_.out (by kernel_rfl)) (fun _ _ _ h => h) (Or.inl ⟨by rfl, ?_⟩) hHeld ?_ ?_
                     rotate_left
                     ·rintro w' ⟨s0, s1, s2, s3, s4, s5⟩
                      go_simp
                      with_reducible rfl
                     rotate_left
                     ·simp only [Act.put, List.setIfInBounds_toArray, List.set_cons_zero, List.set_cons_succ, i64_w, i32_w]
                      rfl
                     refine take_ (i := 5) (N := some 76) (v := ?_) (a' := ?_) #[true, true, true, false, true, true, false, false, true, false, false, false, true, false, false, false, true, false, false, false, true, false, false, false, false, false] rfl rfl (take_ofW HT_.out HW_.out (by kernel_rfl)) (fun _ _ _ h => h) (Or.inl ⟨by rfl, ?_⟩) hHeld ?_ ?_
                     rotate_left
                     ·rintro w' ⟨s0, s1, s2, s3, s4, s5⟩
                      go_simp
                      with_reducible rfl
                     rotate_left
                     ·simp only [Act.put, List.setIfInBounds_toArray, List.set_cons_zero, List.set_cons_succ, i64_w, i32_w]
                      rfl
                     refine take_ (i := 9) (N := some 80) (v := ?_) (a' := ?_) #[true, true, true, false, true, true, false, false, true, true, false, false, true, false, false, false, true, false, false, false, true, false, false, false, false, false] rfl rfl (take_ofW HT_.out HW_.out (by kernel_rfl)) (fun _ _ _ h => h) (Or.inl ⟨by rfl, ?_⟩) hHeld ?_ ?_
                     rotate_left
                     ·rintro w' ⟨s0, s1, s2, s3, s4, s5⟩
                      go_simp
                      with_reducible rfl
                     rotate_left
                     ·simp only [Act.put, List.setIfInBounds_toArray, List.set_cons_zero, List.set_cons_succ, i64_w, i32_w]
                      rfl
                     refine take_ (i := 13) (N := some 84) (v := ?_) (a' := ?_) #[true, true, true, false, true, true, false, false, true, true, false, false, true, true, false, false, true, false, false, false, true, false, false, false, false, false] rfl rfl (take_ofW HT_.out HW_.out (by kernel_rfl)) (fun _ _ _ h => h) (Or.inl ⟨by rfl, ?_⟩) hHeld ?_ ?_
                     rotate_left
                     ·rintro w' ⟨s0, s1, s2, s3, s4, s5⟩
                      go_simp
                      with_reducible rfl
                     rotate_left
                     ·simp only [Act.put, List.setIfInBounds_toArray, List.set_cons_zero, List.set_cons_succ, i64_w, i32_w]
                      rfl
                     refine take_ (i := 17) (N := some 88) (v := ?_) (a' := ?_) #[true, true, true, false, true, true, false, false, true, true, false, false, true, true, false, false, true, true, false, false, true, false, false, false, false, false] rfl rfl (take_ofW HT_.out HW_.out (by kernel_rfl)) (fun _ _ _ h => h) (Or.inl ⟨by rfl, ?_⟩) hHeld ?_ ?_
                     rotate_left
                     ·rintro w' ⟨s0, s1, s2, s3, s4, s5⟩
                      go_simp
                      with_reducible rfl
                     rotate_left
                     ·simp only [Act.put, List.setIfInBounds_toArray, List.set_cons_zero, List.set_cons_succ, i64_w, i32_w]
                      rfl
                     refine take_ (i := 21) (N := some 92) (v := ?_) (a' := ?_) #[true, true, true, false, true, true, false, false, true, true, false, false, true, true, false, false, true, true, false, false, true, true, false, false, false, false] rfl rfl (take_ofW HT_.out HW_.out (by kernel_rfl)) (fun _ _ _ h => h) (Or.inl ⟨by rfl, ?_⟩) hHeld ?_ ?_
                     rotate_left
                     ·rintro w' ⟨s0, s1, s2, s3, s4, s5⟩
                      go_simp
                      with_reducible rfl
                     rotate_left
                     ·simp only [Act.put, List.setIfInBounds_toArray, List.set_cons_zero, List.set_cons_succ, i64_w, i32_w]
                      rfl
                     refine one_ (i := 3) (N := some 74) #[true, true, true, true, true, true, false, false, true, true, false, false, true, true, false, false, true, true, false, false, true, true, false, false, false, false] rfl rfl (one_of HT_.out (by kernel_rfl)) (by decide) (fun K hK => ?_)
                     refine goes_ Try.func111 (by kernel_rfl) rfl #[.int .i64 ((rd_T135 l0_2 x67_3).f0), .int .i64 1] (by rfl) rfl rfl zS ?_
                     with_reducible refine (impl_put.calls k3 ((rd_T135 l0_2 x67_3).f0) 1 t362 _ A42.out).mono ?_
                     rintro e w59 ⟨rfl, hb⟩
                     refine ⟨_, rfl, ?_⟩
                     have n0_ := zQ (zL BK349.out hb)
                     have n1_ := zQ (zL BK361.out hb)
                     have n2_ := zQ (below_step (zB HB.out) hb)
                     clear BK349
                     clear BK361
                     clear HB
                     have BK349 := n0_
                     have BK361 := n1_
                     have HB := n2_
                     clear n0_ n1_ n2_
                     (try clear hb)
                     (try clear hb2)
                     (try clear hk)
                     (try clear hi)
                     refine hK.out _ _ (zd6 BK361.out) (fun hHeld => ?_)
                     clear hK K
                     refine norm_ (a' := ?_) ?_ ?_
                     rotate_left
                     ·show Act.put _ (some 74) _ = _
                      simp only [Act.put, List.setIfInBounds_toArray, List.set_cons_zero, List.set_cons_succ, i64_w, i32_w]
                      rfl
                     refine one_ (i := 6) (N := some 77) #[true, true, true, true, true, true, true, false, true, true, false, false, true, true, false, false, true, true, false, false, true, true, false, false, false, false] rfl rfl (one_of HT_.out (by kernel_rfl)) (by decide) (fun K hK => ?_)
                     refine goes_ Try.func111 (by kernel_rfl) rfl #[.int .i64 ((rd_T135 l0_2 x67_3).f1), .int .i64 4] (by rfl) rfl rfl zS ?_
                     with_reducible refine (impl_put.calls k3 ((rd_T135 l0_2 x67_3).f1) 4 t363 _ A43.out).mono ?_
                     rintro e w60 ⟨rfl, hb⟩
                     refine ⟨_, rfl, ?_⟩
                     have n0_ := zQ (zL BK349.out hb)
                     have n1_ := zQ (zL BK361.out hb)
                     have n2_ := zQ (below_step (zB HB.out) hb)
                     clear BK349
                     clear BK361
                     clear HB
                     have BK349 := n0_
                     have BK361 := n1_
                     have HB := n2_
                     clear n0_ n1_ n2_
                     (try clear hb)
                     (try clear hb2)
                     (try clear hk)
                     (try clear hi)
                     refine hK.out _ _ (zd6 BK361.out) (fun hHeld => ?_)
                     clear hK K
                     refine norm_ (a' := ?_) ?_ ?_
                     rotate_left
                     ·show Act.put _ (some 77) _ = _
                      simp only [Act.put, List.setIfInBounds_toArray, List.set_cons_zero, List.set_cons_succ, i64_w, i32_w]
                      rfl
                     refine pure_ (i := 7) (N := some 78) (v := ?_) (a' := ?_) #[true, true, true, true, true, true, true, true, true, true, false, false, true, true, false, false, true, true, false, false, true, true, false, false, false, false] rfl rfl (any_of HT_.out (by kernel_rfl)) (fun _ _ _ h => h) (Or.inl ⟨by rfl, ?_⟩) ?_ ?_
                     rotate_left
                     ·intro w'
                      go_simp
                      with_reducible rfl
                     rotate_left
                     ·simp only [Act.put, List.setIfInBounds_toArray, List.set_cons_zero, List.set_cons_succ, i64_w, i32_w]
                      rfl
                     refine one_ (i := 10) (N := some 81) #[true, true, true, true, true, true, true, true, true, true, true, false, true, true, false, false, true, true, false, false, true, true, false, false, false, false] rfl rfl (one_of HT_.out (by kernel_rfl)) (by decide) (fun K hK => ?_)
                     refine goes_ Try.func111 (by kernel_rfl) rfl #[.int .i64 ((rd_T135 l0_2 x67_3).f2), .int .i64 4] (by rfl) rfl rfl zS ?_
                     with_reducible refine (impl_put.calls k3 ((rd_T135 l0_2 x67_3).f2) 4 t364 _ A45.out).mono ?_
                     rintro e w61 ⟨rfl, hb⟩
                     refine ⟨_, rfl, ?_⟩
                     have n0_ := zQ (zL BK349.out hb)
                     have n1_ := zQ (zL BK361.out hb)
                     have n2_ := zQ (below_step (zB HB.out) hb)
                     clear BK349
                     clear BK361
                     clear HB
                     have BK349 := n0_
                     have BK361 := n1_
                     have HB := n2_
                     clear n0_ n1_ n2_
                     (try clear hb)
                     (try clear hb2)
                     (try clear hk)
                     (try clear hi)
                     refine hK.out _ _ (zd6 BK361.out) (fun hHeld => ?_)
                     clear hK K
                     refine norm_ (a' := ?_) ?_ ?_
                     rotate_left
                     ·show Act.put _ (some 81) _ = _
                      simp only [Act.put, List.setIfInBounds_toArray, List.set_cons_zero, List.set_cons_succ, i64_w, i32_w]
                      rfl
                     refine pure_ (i := 11) (N := some 82) (v := ?_) (a' := ?_) #[true, true, true, true, true, true, true, true, true, true, true, true, true, true, false, false, true, true, false, false, true, true, false, false, false, false] rfl rfl (any_of HT_.out (by kernel_rfl)) (fun _ _ _ h => h) (Or.inl ⟨by rfl, ?_⟩) ?_ ?_
                     rotate_left
                     ·intro w'
                      go_simp
                      with_reducible rfl
                     rotate_left
                     ·simp only [Act.put, List.setIfInBounds_toArray, List.set_cons_zero, List.set_cons_succ, i64_w, i32_w]
                      rfl
                     refine one_ (i := 14) (N := some 85) #[true, true, true, true, true, true, true, true, true, true, true, true, true, true, true, false, true, true, false, false, true, true, false, false, false, false] rfl rfl (one_of HT_.out (by kernel_rfl)) (by decide) (fun K hK => ?_)
                     refine goes_ Try.func111 (by kernel_rfl) rfl #[.int .i64 ((rd_T135 l0_2 x67_3).f3), .int .i64 1] (by rfl) rfl rfl zS ?_
                     with_reducible refine (impl_put.calls k3 ((rd_T135 l0_2 x67_3).f3) 1 t365 _ A47.out).mono ?_
                     rintro e w62 ⟨rfl, hb⟩
                     refine ⟨_, rfl, ?_⟩
                     have n0_ := zQ (zL BK349.out hb)
                     have n1_ := zQ (zL BK361.out hb)
                     have n2_ := zQ (below_step (zB HB.out) hb)
                     clear BK349
                     clear BK361
                     clear HB
                     have BK349 := n0_
                     have BK361 := n1_
                     have HB := n2_
                     clear n0_ n1_ n2_
                     (try clear hb)
                     (try clear hb2)
                     (try clear hk)
                     (try clear hi)
                     refine hK.out _ _ (zd6 BK361.out) (fun hHeld => ?_)
                     clear hK K
                     refine norm_ (a' := ?_) ?_ ?_
                     rotate_left
                     ·show Act.put _ (some 85) _ = _
                      simp only [Act.put, List.setIfInBounds_toArray, List.set_cons_zero, List.set_cons_succ, i64_w, i32_w]
                      rfl
                     refine pure_ (i := 15) (N := some 86) (v := ?_) (a' := ?_) #[true, true, true, true, true, true, true, true, true, true, true, true, true, true, true, true, true, true, false, false, true, true, false, false, false, false] rfl rfl (any_of HT_.out (by kernel_rfl)) (fun _ _ _ h => h) (Or.inl ⟨by rfl, ?_⟩) ?_ ?_
                     rotate_left
                     ·intro w'
                      go_simp
                      with_reducible rfl
                     rotate_left
                     ·simp only [Act.put, List.setIfInBounds_toArray, List.set_cons_zero, List.set_cons_succ, i64_w, i32_w]
                      rfl
                     refine one_ (i := 18) (N := some 89) #[true, true, true, true, true, true, true, true, true, true, true, true, true, true, true, true, true, true, true, false, true, true, false, false, false, false] rfl rfl (one_of HT_.out (by kernel_rfl)) (by decide) (fun K hK => ?_)
                     refine goes_ Try.func111 (by kernel_rfl) rfl #[.int .i64 ((rd_T135 l0_2 x67_3).f4), .int .i64 1] (by rfl) rfl rfl zS ?_
                     with_reducible refine (impl_put.calls k3 ((rd_T135 l0_2 x67_3).f4) 1 t366 _ A49.out).mono ?_
                     rintro e w63 ⟨rfl, hb⟩
                     refine ⟨_, rfl, ?_⟩
                     have n0_ := zQ (zL BK349.out hb)
                     have n1_ := zQ (zL BK361.out hb)
                     have n2_ := zQ (below_step (zB HB.out) hb)
                     clear BK349
                     clear BK361
                     clear HB
                     have BK349 := n0_
                     have BK361 := n1_
                     have HB := n2_
                     clear n0_ n1_ n2_
                     (try clear hb)
                     (try clear hb2)
                     (try clear hk)
                     (try clear hi)
                     refine hK.out _ _ (zd6 BK361.out) (fun hHeld => ?_)
                     clear hK K
                     refine norm_ (a' := ?_) ?_ ?_
                     rotate_left
                     ·show Act.put _ (some 89) _ = _
                      simp only [Act.put, List.setIfInBounds_toArray, List.set_cons_zero, List.set_cons_succ, i64_w, i32_w]
                      rfl
                     refine pure_ (i := 19) (N := some 90) (v := ?_) (a' := ?_) #[true, true, true, true, true, true, true, true, true, true, true, true, true, true, true, true, true, true, true, true, true, true, false, false, false, false] rfl rfl (any_of HT_.out (by kernel_rfl)) (fun _ _ _ h => h) (Or.inl ⟨by rfl, ?_⟩) ?_ ?_
                     rotate_left
                     ·intro w'
                      go_simp
                      with_reducible rfl
                     rotate_left
                     ·simp only [Act.put, List.setIfInBounds_toArray, List.set_cons_zero, List.set_cons_succ, i64_w, i32_w]
                      rfl
                     refine one_ (i := 22) (N := some 93) #[true, true, true, true, true, true, true, true, true, true, true, true, true, true, true, true, true, true, true, true, true, true, true, false, false, false] rfl rfl (one_of HT_.out (by kernel_rfl)) (by decide) (fun K hK => ?_)
                     refine goes_ Try.func111 (by kernel_rfl) rfl #[.int .i64 ((rd_T135 l0_2 x67_3).f5), .int .i64 1] (by rfl) rfl rfl zS ?_
                     with_reducible refine (impl_put.calls k3 ((rd_T135 l0_2 x67_3).f5) 1 t367 _ A51.out).mono ?_
                     rintro e w64 ⟨rfl, hb⟩
                     refine ⟨_, rfl, ?_⟩
                     have n0_ := zQ (zL BK349.out hb)
                     have n1_ := zQ (zL BK361.out hb)
                     have n2_ := zQ (below_step (zB HB.out) hb)
                     clear BK349
                     clear BK361
                     clear HB
                     have BK349 := n0_
                     have BK361 := n1_
                     have HB := n2_
                     clear n0_ n1_ n2_
                     (try clear hb)
                     (try clear hb2)
                     (try clear hk)
                     (try clear hi)
                     refine hK.out _ _ (zd6 BK361.out) (fun hHeld => ?_)
                     clear hK K
                     refine norm_ (a' := ?_) ?_ ?_
                     rotate_left
                     ·show Act.put _ (some 93) _ = _
                      simp only [Act.put, List.setIfInBounds_toArray, List.set_cons_zero, List.set_cons_succ, i64_w, i32_w]
                      rfl
                     refine pure_ (i := 23) (N := some 94) (v := ?_) (a' := ?_) #[true, true, true, true, true, true, true, true, true, true, true, true, true, true, true, true, true, true, true, true, true, true, true, true, false, false] rfl rfl (any_of HT_.out (by kernel_rfl)) (fun _ _ _ h => h) (Or.inl ⟨by rfl, ?_⟩) ?_ ?_
                     rotate_left
                     ·intro w'
                      go_simp
                      with_reducible rfl
                     rotate_left
                     ·simp only [Act.put, List.setIfInBounds_toArray, List.set_cons_zero, List.set_cons_succ, i64_w, i32_w]
                      rfl
                     refine pure_ (i := 24) (N := some 95) (v := ?_) (a' := ?_) #[true, true, true, true, true, true, true, true, true, true, true, true, true, true, true, true, true, true, true, true, true, true, true, true, true, false] rfl rfl (any_of HT_.out (by kernel_rfl)) (fun _ _ _ h => h) (Or.inl ⟨by rfl, ?_⟩) ?_ ?_
                     rotate_left
                     ·intro w'
                      go_simp
                      with_reducible rfl
                     rotate_left
                     ·simp only [Act.put, List.setIfInBounds_toArray, List.set_cons_zero, List.set_cons_succ, i64_w, i32_w]
                      rfl
                     refine pure_ (i := 25) (N := some 4) (v := ?_) (a' := ?_) #[true, true, true, true, true, true, true, true, true, true, true, true, true, true, true, true, true, true, true, true, true, true, true, true, true, true] rfl rfl (any_of HT_.out (by kernel_rfl)) (fun _ _ _ h => h) (Or.inl ⟨by rfl, ?_⟩) ?_ ?_
                     rotate_left
                     ·intro w'
                      go_simp
                      with_reducible rfl
                     rotate_left
                     ·simp only [Act.put, List.setIfInBounds_toArray, List.set_cons_zero, List.set_cons_succ, i64_w, i32_w]
                      rfl
                     refine done_ (done_of HT_.out (by kernel_rfl)) ?_
                     try go_wp2
                     go_roundg k3
                     case measure => have := HK1.out; have := HK2.out; have := HK3.out; omega
                     case rel => exact ⟨(x4_3 ++ (((((t362 ++ t363) ++ t364) ++ t365) ++ t366) ++ t367)), (wrap64 (x67_3 + 1)), (by first | rfl | (simp; done) | (simp [*]; done)), (by first | rfl | (simp; done) | (simp [*]; done)), H', ⟨by have := HK1.out; have := HK2.out; have := HK3.out; omega⟩, ⟨by (with_reducible repeat (first | refine blk_drewN ?_ _ | refine blk_drew ?_ | refine blk_alloc ?_ _)); exact BK349.out⟩, ⟨zB HB.out⟩⟩
                    ·rw [if_neg c53] at H
                     exact absurd H (by simp)
                   ·rw [if_neg c52] at H
                    exact absurd H (by simp)
                  ·rw [if_neg c50] at H
                   exact absurd H (by simp)
                 ·rw [if_neg c48] at H
                  exact absurd H (by simp)
                ·rw [if_neg c46] at H
                 exact absurd H (by simp)
               ·rw [if_neg c44] at H
                exact absurd H (by simp)
              ·rw [if_neg c41] at H
               exact absurd H (by simp)
             ·rw [if_neg c40] at H
              exact absurd H (by simp)
            ·rw [if_neg c39] at H
             have c39b0 : decide (x67_3 < (l0_2.length : Int)) = false := decide_eq_false c39
             clear c39
             have H' := zQ H
             clear H
             obtain ⟨hcz65_0, hcz65_1, hcz65_2, hcz65_3, hfz65_0, hfz65_1, hfz65_2, hfz65_3⟩ := zc4 BK349.out
             go_wp2
             go_loopg [12, 100] k3 (fun kq v12 v100 w' => ∃ (x12_4 : Int) (x100_4 : Int), v12 = .int .i64 x12_4 ∧ v100 = .int .i64 x100_4 ∧ Aside0 (impl_ImageText.l3 kq x4_3 x12_4 l0_3 (l0_3.length : Int) x100_4 = some (r1, r2)) ∧ Aside0 (kq ≤ k3) ∧ Aside0 (w'.heap[gb349]? = some (.cells #[(.slice A0_0 l0_0.length c0_0), (.slice A0_1 l0_1.length c0_1), (.slice A0_2 l0_2.length c0_2), (.slice A0_3 l0_3.length c0_3)] 64 (0, 0))) ∧ Aside0 (Below w.heap.size w w'))
             case atStart => exact ⟨(0), (0), (by first | rfl | (simp; done) | (simp [*]; done)), (by first | rfl | (simp; done) | (simp [*]; done)), H', ⟨Nat.le_refl _⟩, ⟨by (with_reducible repeat (first | refine blk_drewN ?_ _ | refine blk_drew ?_ | refine blk_alloc ?_ _)); exact BK349.out⟩, ⟨zB HB.out⟩⟩
             case round =>
              clear H'
              try clear c1
              try clear c2
              try clear p2
              try clear c3
              try clear p3
              try clear q3
              try clear hx3
              try clear c4
              try clear c5
              try clear p6
              try clear c10
              try clear c11
              try clear c11b0
              try clear c12
              try clear c12b0
              try clear c13
              try clear c13b0
              try clear c15
              try clear c15b0
              try clear c15b1
              try clear c15b2
              try clear c18
              try clear c18b0
              try clear c18b1
              try clear c18b2
              try clear c22
              try clear c22b0
              try clear c23
              try clear c23b0
              try clear c24
              try clear c24b0
              try clear c27
              try clear c27b0
              try clear c27b1
              try clear c27b2
              try clear c28
              try clear c28b0
              try clear c28b1
              try clear c28b2
              try clear c30
              try clear c35
              try clear c35b0
              try clear c35b1
              try clear c35b2
              try clear p35
              try clear q35
              try clear hx35
              try clear p36
              try clear q36
              try clear hx36
              try clear c39
              try clear c39b0
              try clear c40
              try clear c40b0
              try clear c41
              try clear c41b0
              try clear c44
              try clear c44b0
              try clear c44b1
              try clear c44b2
              try clear c46
              try clear c46b0
              try clear c46b1
              try clear c46b2
              try clear c48
              try clear c48b0
              try clear c48b1
              try clear c48b2
              try clear c50
              try clear c50b0
              try clear c50b1
              try clear c50b2
              try clear c52
              try clear c52b0
              try clear c52b1
              try clear c52b2
              try clear c53
              try clear c53b0
              try clear c53b1
              try clear c53b2
              try clear c55
              try clear p64
              try clear hcz10_0
              try clear hcz10_1
              try clear hcz10_2
              try clear hcz10_3
              try clear hcz19_0
              try clear hcz19_1
              try clear hcz19_2
              try clear hcz19_3
              try clear hcz21_0
              try clear hcz21_1
              try clear hcz21_2
              try clear hcz21_3
              try clear hcz31_0
              try clear hcz36_0
              try clear hcz36_1
              try clear hcz36_2
              try clear hcz36_3
              try clear hcz38_0
              try clear hcz38_1
              try clear hcz38_2
              try clear hcz38_3
              try clear hcz56_0
              try clear hcz56_1
              try clear hcz56_2
              try clear hcz56_3
              try clear hcz56_4
              try clear hcz56_5
              try clear hcz65_0
              try clear hcz65_1
              try clear hcz65_2
              try clear hcz65_3
              try clear hcz6_0
              try clear hcz6_1
              try clear hcz6_2
              try clear hcz6_3
              try clear hcz8_0
              try clear hcz8_1
              try clear hcz8_2
              try clear hcz8_3
              try clear hfz10_0
              try clear hfz10_1
              try clear hfz10_2
              try clear hfz10_3
              try clear hfz19_0
              try clear hfz19_1
              try clear hfz19_2
              try clear hfz19_3
              try clear hfz21_0
              try clear hfz21_1
              try clear hfz21_2
              try clear hfz21_3
              try clear hfz31_0
              try clear hfz36_0
              try clear hfz36_1
              try clear hfz36_2
              try clear hfz36_3
              try clear hfz38_0
              try clear hfz38_1
              try clear hfz38_2
              try clear hfz38_3
              try clear hfz56_0
              try clear hfz56_1
              try clear hfz56_2
              try clear hfz56_3
              try clear hfz56_4
              try clear hfz56_5
              try clear hfz65_0
              try clear hfz65_1
              try clear hfz65_2
              try clear hfz65_3
              try clear hfz6_0
              try clear hfz6_1
              try clear hfz6_2
              try clear hfz6_3
              try clear hfz8_0
              try clear hfz8_1
              try clear hfz8_2
              try clear hfz8_3
              try clear hx352_0
              try clear hx355_0
              try clear hx360_0
              try clear hx360_1
              try clear hx360_2
              try clear hx360_3
              try clear hx360_4
              try clear hx360_5
              try clear p2
              try clear p3
              try clear p35
              try clear p352
              try clear p355
              try clear p360
              try clear p6
              try clear q3
              try clear q35
              try clear q352
              try clear q355
              try clear q360
              obtain ⟨x12_4, x100_4, rfl, rfl, HA, HK4, BK349, HB⟩ := hrel
              cases gk with
              | zero => exact absurd HA.out (by simp [impl_ImageText.l3])
              | succ k4 =>
               have H := HA.out
               clear HA
               simp only [impl_ImageText.l3] at H
               by_cases c66 : x100_4 < (l0_3.length : Int)
               ·rw [if_pos c66] at H
                have c66b0 : decide (x100_4 < (l0_3.length : Int)) = true := decide_eq_true c66
                clear c66
                by_cases c67 : 0 ≤ x100_4
                ·rw [if_pos c67] at H
                 have c67b0 : decide (0 ≤ x100_4) = true := decide_eq_true c67
                 clear c67
                 by_cases c68 : x100_4 < (l0_3.length : Int)
                 ·rw [if_pos c68] at H
                  have c68b0 : decide (x100_4 < (l0_3.length : Int)) = true := decide_eq_true c68
                  clear c68
                  replace H := Option.bind_eq_some_iff.mp H
                  obtain ⟨t369, A690, H⟩ := H
                  replace H : (impl_ImageText.l3 k4 x4_3 (Go.bits .or .i64 x12_4 (shl .i64 t369 x100_4)) l0_3 (l0_3.length : Int) (wrap64 (x100_4 + 1))) = some (r1, r2) := H
                  have A69 := zQ A690
                  clear A690
                  have c70b0 := eq_true (of_decide_eq_true (by first | (with_reducible assumption) | assumption) : 0 ≤ x100_4)
                  obtain ⟨ji71, hji71⟩ : ∃ j_ : Int, (shl .i64 t369 x100_4) = j_ := ⟨_, rfl⟩
                  replace H : (impl_ImageText.l3 k4 x4_3 (Go.bits .or .i64 x12_4 (ji71)) l0_3 (l0_3.length : Int) (wrap64 (x100_4 + 1))) = some (r1, r2) := by first | (rw [hji71] at H; exact H) | (simp only [hji71] at H ⊢; exact H)
                  (try rw [hji71] at A69)
                  have hji71_ : (IntKind.i64.wrap (t369 * 2 ^ min x100_4.toNat 64)) = ji71 := hji71
                  have hji71z : x100_4 ≤ 64 → (IntKind.i64.wrap (t369 * 2 ^ x100_4.toNat)) = ji71 := shl_small hji71
                  have hji71y : (wrap64 (t369 * 2 ^ min x100_4.toNat 64)) = ji71 := (i64_w _).symm.trans hji71_
                  have hji71x : x100_4 ≤ 64 → (wrap64 (t369 * 2 ^ x100_4.toNat)) = ji71 := fun h_ => (i64_w _).symm.trans (hji71z h_)
                  have H' := zQ H
                  clear H
                  have p368 : 0 ≤ (x100_4 : Int) := zA
                  have q368 : x100_4 < (l0_3.length : Int) := zA
                  obtain ⟨ad368, e368, hx368_0⟩ := Kd.at_bool HR0_3.out x100_4 p368 q368
                  cases e368
                  replace hx368_0 := zX HB.out hx368_0
                  replace p368 := eq_true p368
                  replace q368 := eq_true q368
                  go_wp2_with (first | ((with_reducible refine gate_callee (f := 113) rfl ?_); refine goesL_ (some 107) rfl rfl Try.func113 (by kernel_rfl) rfl #[.bool (rdOf false l0_3 x100_4)] rfl zS ?_; (with_reducible refine (impl_bit.calls (rdOf false l0_3 x100_4) t369 _ A69.out).mono ?_); rintro e w' ⟨rfl, ⟨nd, rfl⟩⟩; refine ⟨_, rfl, ?_⟩))
                  go_roundg k4
                  case measure => have := HK1.out; have := HK2.out; have := HK3.out; have := HK4.out; omega
                  case rel => exact ⟨(Go.bits .or .i64 x12_4 (ji71)), (wrap64 (x100_4 + 1)), (by first | rfl | (simp; done) | (simp only [← hji71] <;> (first | rfl | simp)) | (simp [*]; done)), (by first | rfl | (simp; done) | (simp [*]; done)), H', ⟨by have := HK1.out; have := HK2.out; have := HK3.out; have := HK4.out; omega⟩, ⟨by (with_reducible repeat (first | refine blk_drewN ?_ _ | refine blk_drew ?_ | refine blk_alloc ?_ _)); exact BK349.out⟩, ⟨zB HB.out⟩⟩
                 ·rw [if_neg c68] at H
                  exact absurd H (by simp)
                ·rw [if_neg c67] at H
                 exact absurd H (by simp)
               ·rw [if_neg c66] at H
                have c66b0 : decide (x100_4 < (l0_3.length : Int)) = false := decide_eq_false c66
                clear c66
                replace H := Option.bind_eq_some_iff.mp H
                obtain ⟨t370, A720, H⟩ := H
                replace H : (if x4_3.size + t370.size ≤ 9223372036854775807 then ((impl_FrameText.f k4 (x4_3 ++ t370)).bind fun bt371 => (some (bt371.1, bt371.2))) else (none)) = some (r1, r2) := H
                have A72 := zQ A720
                clear A720
                by_cases c73 : x4_3.size + t370.size ≤ 9223372036854775807
                ·rw [if_pos c73] at H
                 have c73b0 := eq_true c73
                 have c73b1 : decide (x4_3.size + t370.size ≤ 9223372036854775807) = true := decide_eq_true c73
                 try have c73b2 : (9223372036854775807 < x4_3.size + t370.size) = False := eq_false (Nat.not_lt.2 c73)
                 replace H := Option.bind_eq_some_iff.mp H
                 obtain ⟨⟨t371, t372⟩, A740, H⟩ := H
                 replace H : (some (t371, t372)) = some (r1, r2) := H
                 have A74 := zQ A740
                 clear A740
                 simp only [Option.some.injEq, Prod.mk.injEq] at H
                 obtain ⟨rfl, rfl⟩ := H
                 go_wp2_with (first | ((with_reducible refine gate_callee (f := 111) rfl ?_); refine goesL_ (some 114) rfl rfl Try.func111 (by kernel_rfl) rfl #[.int .i64 x12_4, .int .i64 1] rfl zS ?_; (with_reducible refine (impl_put.calls k4 x12_4 1 t370 _ A72.out).mono ?_); rintro e w75 ⟨rfl, hb⟩; refine ⟨_, rfl, ?_⟩; have n0_ := zQ (zL BK349.out hb); have n1_ := zQ (below_step (zB HB.out) hb); clear BK349; clear HB; have BK349 := n0_; have HB := n1_; clear n0_ n1_; (try clear hb); (try clear hb2); (try clear hk); (try clear hi)) | ((with_reducible refine gate_callee (f := 114) rfl ?_); refine goesL_ (some 116) rfl rfl Try.func114 (by kernel_rfl) rfl #[.string (x4_3 ++ t370)] rfl zS ?_; (with_reducible refine (impl_FrameText.calls k4 (x4_3 ++ t370) t371 t372 _ A74.out).mono ?_); rintro e w76 ⟨rfl, hb⟩; refine ⟨_, rfl, ?_⟩; have n0_ := zQ (zL BK349.out hb); have n1_ := zQ (below_step (zB HB.out) hb); clear BK349; clear HB; have BK349 := n0_; have HB := n1_; clear n0_ n1_; (try clear hb); (try clear hb2); (try clear hk); (try clear hi)))
                 go_ret2
                 exact ⟨by first | rfl | (simp [errW_none, errW_some] <;> rfl) | (simp [*, errW_none, errW_some] <;> rfl), zB HB.out⟩
                ·rw [if_neg c73] at H
                 exact absurd H (by simp)
         ·rw [if_neg c35] at H
          exact absurd H (by simp)
     ·rw [if_neg c18] at H
      exact absurd H (by simp)
 ·replace c3 := Bool.eq_false_iff.mpr c3
  subst c3
  have H1 : (some ((⟨#[]⟩ : ByteArray), 1)) = some (r1, r2) := by rw [if_neg (show ¬ (false = true) by decide)] at H; exact H
  clear H
  have H := H1
  clear H1
  simp only [Option.some.injEq, Prod.mk.injEq] at H
  obtain ⟨rfl, rfl⟩ := H
  go_enter Try.func53, Try.ntmps53
  go_wp2_with (first | ((with_reducible refine gate_dst (N := 1) rfl ?_); refine box_event ?hg (N := 1) ?hd (cs := #[.slice A0_0 l0_0.length c0_0, .slice A0_1 l0_1.length c0_1, .slice A0_2 l0_2.length c0_2, .slice A0_3 l0_3.length c0_3]) (t := 64) ?hr ?_; (case hd => rfl); (case hg => rfl); (case hr => first | (go_simp; done) | (go_simp; rfl)); intro gb349 hg w77 hbox hb; have n0_ := zQ (below_step (zB HB.out) hb); have n1_ := zQ (hbox); have n2_ := zQ ((zG hg HB.out)); have n3_ := zQ ((zG hg HB.out)); clear HB; have HB := n0_; have BK349 := n1_; have GW349 := n2_; have GE349 := n3_; clear n0_ n1_ n2_ n3_; clear hb hbox hg; obtain ⟨hcz78_0, hcz78_1, hcz78_2, hcz78_3, hfz78_0, hfz78_1, hfz78_2, hfz78_3⟩ := zc4 BK349.out) | ((with_reducible refine gate_callee (f := 102) rfl ?_); refine goesL_ (some 16) rfl rfl Try.func102 (by kernel_rfl) rfl #[.agg #[.slice A0_0 l0_0.length c0_0, .slice A0_1 l0_1.length c0_1, .slice A0_2 l0_2.length c0_2, .slice A0_3 l0_3.length c0_3]] rfl zS ?_; (with_reducible refine (impl_isProgram.calls k _ _ l0_0 _ _ l0_1 _ _ l0_2 _ _ l0_3 false _ ?side1 ?side2 ?side3 ?side4 ?side5 ?side6 ?side7 ?side8 A2.out).mono ?_); (case side1 => exact zE HR0_0 HB); (case side2 => exact HC0_0.out); (case side3 => exact zE HR0_1 HB); (case side4 => exact HC0_1.out); (case side5 => exact zE HR0_2 HB); (case side6 => exact HC0_2.out); (case side7 => exact zE HR0_3 HB); (case side8 => exact HC0_3.out); rintro e w79 ⟨rfl, hb⟩; refine ⟨_, rfl, ?_⟩; have n0_ := zQ (zL BK349.out hb); have n1_ := zQ (below_step (zB HB.out) hb); clear BK349; clear HB; have BK349 := n0_; have HB := n1_; clear n0_ n1_; (try clear hb); (try clear hb2); (try clear hk); (try clear hi)))
  go_ret2
  exact ⟨by first | rfl | (simp [errW_none, errW_some] <;> rfl) | (simp [*, errW_none, errW_some] <;> rfl), zB HB.out⟩

end Go.Proofs.Ytkegjmkdnfpfdaa.MFnExactImageText
