-- By a program of this session.
import Derived.Test.YtkegjmkdnfpfdaaMFnExactImageTextx0
import Derived.Test.YtkegjmkdnfpfdaaMFnExactImageTextx24
import Derived.Test.YtkegjmkdnfpfdaaMFnExactImageTextx25
namespace Go.Proofs.Ytkegjmkdnfpfdaa.MFnExactImageText
open Go.RowKit Go.Proofs.YtkegjmkdnfpfdaaW.PrintWords Go.Proofs.YtkegjmkdnfpfdaaW.PrintLast Go.Proofs.YtkegjmkdnfpfdaaW.PrintMore
attribute [local go_sem] max2_int min2_int max_two min_two max_three min_three max_four min_four
set_option linter.unusedVariables false
set_option linter.unusedSimpArgs false
set_option maxHeartbeats 8000000
set_option maxRecDepth 100000

/-! ### spec_l08Text: function 101 -/
mutual
def spec_l08Text.l0 : Nat → ByteArray → Int → List Int → List (S124) → List (S135) → List Bool → Option (ByteArray)
 | 0, _, _, _, _, _, _ => none
 | k + 1, x3, x4, x252000, x252001, x252002, x252003 => if x4 < (x252000.length : Int) then (if 0 ≤ x4 then ((spec_l01Put.f k (rd x252000 x4) 1).bind fun t254 => (if x3.size + t254.size ≤ 9223372036854775807 then (spec_l08Text.l0 k (x3 ++ t254) (wrap64 (x4 + 1)) x252000 x252001 x252002 x252003) else (none))) else (none)) else ((spec_l01Put.f k (x252001.length : Int) 1).bind fun t255 => (if x3.size + t255.size ≤ 9223372036854775807 then (spec_l08Text.l1 k (x3 ++ t255) 0 x252000 x252001 x252002 x252003) else (none)))
def spec_l08Text.l1 : Nat → ByteArray → Int → List Int → List (S124) → List (S135) → List Bool → Option (ByteArray)
 | 0, _, _, _, _, _, _ => none
 | k + 1, x3, x5, x252000, x252001, x252002, x252003 => if x5 < (x252001.length : Int) then (if 0 ≤ x5 then ((spec_l02Bytes.f k ((rd_T124 x252001 x5).f0)).bind fun t257 => ((spec_l01Put.f k (t257.size : Int) 2).bind fun t258 => (if t258.size + t257.size ≤ 9223372036854775807 then (if x3.size + (t258 ++ t257).size ≤ 9223372036854775807 then (spec_l08Text.l1 k (x3 ++ (t258 ++ t257)) (wrap64 (x5 + 1)) x252000 x252001 x252002 x252003) else (none)) else (none)))) else (none)) else ((spec_l01Put.f k (x252002.length : Int) 1).bind fun t259 => (if x3.size + t259.size ≤ 9223372036854775807 then (spec_l08Text.l2 k (x3 ++ t259) 0 x252000 x252001 x252002 x252003) else (none)))
def spec_l08Text.l2 : Nat → ByteArray → Int → List Int → List (S124) → List (S135) → List Bool → Option (ByteArray)
 | 0, _, _, _, _, _, _ => none
 | k + 1, x3, x7, x252000, x252001, x252002, x252003 => if x7 < (x252002.length : Int) then (if 0 ≤ x7 then ((spec_l01Put.f k ((rd_T135 x252002 x7).f0) 1).bind fun t267 => ((spec_l01Put.f k ((rd_T135 x252002 x7).f1) 4).bind fun t268 => (if t267.size + t268.size ≤ 9223372036854775807 then ((spec_l01Put.f k ((rd_T135 x252002 x7).f2) 4).bind fun t269 => (if (t267 ++ t268).size + t269.size ≤ 9223372036854775807 then ((spec_l01Put.f k ((rd_T135 x252002 x7).f3) 1).bind fun t270 => (if ((t267 ++ t268) ++ t269).size + t270.size ≤ 9223372036854775807 then ((spec_l01Put.f k ((rd_T135 x252002 x7).f4) 1).bind fun t271 => (if (((t267 ++ t268) ++ t269) ++ t270).size + t271.size ≤ 9223372036854775807 then ((spec_l01Put.f k ((rd_T135 x252002 x7).f5) 1).bind fun t272 => (if ((((t267 ++ t268) ++ t269) ++ t270) ++ t271).size + t272.size ≤ 9223372036854775807 then (if x3.size + (((((t267 ++ t268) ++ t269) ++ t270) ++ t271) ++ t272).size ≤ 9223372036854775807 then (spec_l08Text.l2 k (x3 ++ (((((t267 ++ t268) ++ t269) ++ t270) ++ t271) ++ t272)) (wrap64 (x7 + 1)) x252000 x252001 x252002 x252003) else (none)) else (none))) else (none))) else (none))) else (none))) else (none)))) else (none)) else ((spec_l08Bits.f k x252003).bind fun t260 => ((some (([(t260) % 256] : List Int) : List Int)).bind fun y261 => (if x3.size + (strOfNums y261).size ≤ 9223372036854775807 then ((spec_l01Frame.f k (x3 ++ (strOfNums y261))).bind fun t264 => (some t264)) else (none))))
end
def spec_l08Text.f (k : Nat) (l0_0 : List Int) (l0_1 : List (S124)) (l0_2 : List (S135)) (l0_3 : List Bool) : Option (ByteArray) := (spec_l01Put.f k (l0_0.length : Int) 1).bind fun t252 => (spec_l08Text.l0 k t252 0 l0_0 l0_1 l0_2 l0_3)
theorem spec_l08Text.mono_l : ∀ k, (∀ y0 y1 y2 y3 y4 y5, LeO (spec_l08Text.l0 k y0 y1 y2 y3 y4 y5) (spec_l08Text.l0 (k + 1) y0 y1 y2 y3 y4 y5)) ∧ (∀ y0 y1 y2 y3 y4 y5, LeO (spec_l08Text.l1 k y0 y1 y2 y3 y4 y5) (spec_l08Text.l1 (k + 1) y0 y1 y2 y3 y4 y5)) ∧ (∀ y0 y1 y2 y3 y4 y5, LeO (spec_l08Text.l2 k y0 y1 y2 y3 y4 y5) (spec_l08Text.l2 (k + 1) y0 y1 y2 y3 y4 y5))
 | 0 => ⟨fun _ _ _ _ _ _ r h => by simp [spec_l08Text.l0] at h, fun _ _ _ _ _ _ r h => by simp [spec_l08Text.l1] at h, fun _ _ _ _ _ _ r h => by simp [spec_l08Text.l2] at h⟩
 | k + 1 => by
  obtain ⟨ih0, ih1, ih2⟩ := spec_l08Text.mono_l k
  refine ⟨?_, ?_, ?_⟩
  ·intro y0 y1 y2 y3 y4 y5
   unfold spec_l08Text.l0
   repeat' first
   | (with_reducible exact ih0 _ _ _ _ _ _)
   | (with_reducible exact ih1 _ _ _ _ _ _)
   | (with_reducible exact ih2 _ _ _ _ _ _)
   | (with_reducible exact spec_l01Frame.mono _ _)
   | (with_reducible exact spec_l01Put.mono _ _ _)
   | (with_reducible exact spec_l02Bytes.mono _ _)
   | (with_reducible exact spec_l08Bits.mono _ _)
   | (with_reducible exact LeO.refl _)
   | (with_reducible exact LeO.none _)
   | (with_reducible refine LeO.ite ?_ ?_)
   | (with_reducible refine LeO.bind ?_ (fun _ => ?_))
  ·intro y0 y1 y2 y3 y4 y5
   unfold spec_l08Text.l1
   repeat' first
   | (with_reducible exact ih0 _ _ _ _ _ _)
   | (with_reducible exact ih1 _ _ _ _ _ _)
   | (with_reducible exact ih2 _ _ _ _ _ _)
   | (with_reducible exact spec_l01Frame.mono _ _)
   | (with_reducible exact spec_l01Put.mono _ _ _)
   | (with_reducible exact spec_l02Bytes.mono _ _)
   | (with_reducible exact spec_l08Bits.mono _ _)
   | (with_reducible exact LeO.refl _)
   | (with_reducible exact LeO.none _)
   | (with_reducible refine LeO.ite ?_ ?_)
   | (with_reducible refine LeO.bind ?_ (fun _ => ?_))
  ·intro y0 y1 y2 y3 y4 y5
   unfold spec_l08Text.l2
   repeat' first
   | (with_reducible exact ih0 _ _ _ _ _ _)
   | (with_reducible exact ih1 _ _ _ _ _ _)
   | (with_reducible exact ih2 _ _ _ _ _ _)
   | (with_reducible exact spec_l01Frame.mono _ _)
   | (with_reducible exact spec_l01Put.mono _ _ _)
   | (with_reducible exact spec_l02Bytes.mono _ _)
   | (with_reducible exact spec_l08Bits.mono _ _)
   | (with_reducible exact LeO.refl _)
   | (with_reducible exact LeO.none _)
   | (with_reducible refine LeO.ite ?_ ?_)
   | (with_reducible refine LeO.bind ?_ (fun _ => ?_))
theorem spec_l08Text.mono : ∀ a0 a1 a2 a3 k, LeO (spec_l08Text.f k a0 a1 a2 a3) (spec_l08Text.f (k + 1) a0 a1 a2 a3) := by
 intro a0 a1 a2 a3 k
 obtain ⟨ih0, ih1, ih2⟩ := spec_l08Text.mono_l k
 unfold spec_l08Text.f
 repeat' first
  | (with_reducible exact ih0 _ _ _ _ _ _)
  | (with_reducible exact ih1 _ _ _ _ _ _)
  | (with_reducible exact ih2 _ _ _ _ _ _)
  | (with_reducible exact spec_l01Frame.mono _ _)
  | (with_reducible exact spec_l01Put.mono _ _ _)
  | (with_reducible exact spec_l02Bytes.mono _ _)
  | (with_reducible exact spec_l08Bits.mono _ _)
  | (with_reducible exact LeO.refl _)
  | (with_reducible exact LeO.none _)
  | (with_reducible refine LeO.ite ?_ ?_)
  | (with_reducible refine LeO.bind ?_ (fun _ => ?_))
def spec_l08Text.T17 : Bool × List (List Nat × List Nat) := (true, [([], []), ([], []), ([1], [1]), ([2], [2]), ([], []), ([4], [4]), ([5, 3], [5]), ([3, 6], [3, 6]), ([], []), ([8], [8]), ([9, 6], [9]), ([7, 10], [7, 10]), ([], []), ([12], [12]), ([13, 10], [13]), ([11, 14], [11, 14]), ([], []), ([16], [16]), ([17, 14], [17]), ([15, 18], [15, 18]), ([], []), ([20], [20]), ([21, 18], [21]), ([19, 22], [19, 22]), ([0, 23], [0, 23]), ([24, 22, 0, 1, 2, 3, 4, 5, 6, 7, 8, 9, 10, 11, 12, 13, 14, 15, 16, 17, 18, 19, 20, 21, 22, 23, 24], [0, 24])])
def spec_l08Text.B17 : List Nat := [0, 0, 2, 6, 0, 16, 62, 126, 0, 256, 894, 2046, 0, 4096, 14206, 32766, 0, 65536, 227198, 524286, 0, 1048576, 3635070, 8388606, 16777215, 33554431]
theorem spec_l08Text.tab17 : rtab .any (opsOf Try.f101 17) = spec_l08Text.T17 := by kernel_rfl
theorem spec_l08Text.bits17 : waitsOk spec_l08Text.T17.2 spec_l08Text.B17 = true := by kernel_rfl
theorem spec_l08Text.calls (k : Nat) (A0_0 : Option Addr) (c0_0 : Nat) (l0_0 : List Int) (A0_1 : Option Addr) (c0_1 : Nat) (l0_1 : List (S124)) (A0_2 : Option Addr) (c0_2 : Nat) (l0_2 : List (S135)) (A0_3 : Option Addr) (c0_3 : Nat) (l0_3 : List Bool) (r : ByteArray) (w : World) (hr0_0 : Kd.C (Kd.int .i64) w A0_0 l0_0.length l0_0) (hc0_0 : l0_0.length ≤ c0_0) (hr0_1 : Kd.C k124 w A0_1 l0_1.length l0_1) (hc0_1 : l0_1.length ≤ c0_1) (hr0_2 : Kd.C k135 w A0_2 l0_2.length l0_2) (hc0_2 : l0_2.length ≤ c0_2) (hr0_3 : Kd.C Kd.bool w A0_3 l0_3.length l0_3) (hc0_3 : l0_3.length ≤ c0_3) (h : spec_l08Text.f k l0_0 l0_1 l0_2 l0_3 = some r) :
 Calls Try.prog 101 #[.agg #[.slice A0_0 l0_0.length c0_0, .slice A0_1 l0_1.length c0_1, .slice A0_2 l0_2.length c0_2, .slice A0_3 l0_3.length c0_3]] w fun e w' => e = .returned (.string r) ∧ Below w.heap.size w w' := by
 have hu64 := Try.underlying64
 have hu135 := Try.underlying135
 have HR0_0 := zQ hr0_0
 have HC0_0 := zQ hc0_0
 clear hr0_0 hc0_0
 have HR0_1 := zQ hr0_1
 have HC0_1 := zQ hc0_1
 clear hr0_1 hc0_1
 have HR0_2 := zQ hr0_2
 have HC0_2 := zQ hc0_2
 clear hr0_2 hc0_2
 have HR0_3 := zQ hr0_3
 have HC0_3 := zQ hc0_3
 clear hr0_3 hc0_3
 have HB := zQ (Below.refl w.heap.size w)
 have H : ((spec_l01Put.f k (l0_0.length : Int) 1).bind fun t252 => (spec_l08Text.l0 k t252 0 l0_0 l0_1 l0_2 l0_3)) = some r := h
 clear h
 replace H := Option.bind_eq_some_iff.mp H
 obtain ⟨t252, A20, H⟩ := H
 replace H : (spec_l08Text.l0 k t252 0 l0_0 l0_1 l0_2 l0_3) = some r := H
 have A2 := zQ A20
 clear A20
 have H' := zQ H
 clear H
 go_enter Try.func101, Try.ntmps101
 go_wp2_with (first | ((with_reducible refine gate_dst (N := 1) rfl ?_); refine box_event ?hg (N := 1) ?hd (cs := #[.slice A0_0 l0_0.length c0_0, .slice A0_1 l0_1.length c0_1, .slice A0_2 l0_2.length c0_2, .slice A0_3 l0_3.length c0_3]) (t := 64) ?hr ?_; (case hd => rfl); (case hg => rfl); (case hr => first | (go_simp; done) | (go_simp; rfl)); intro gb251 hg w3 hbox hb; have n0_ := zQ (below_step (zB HB.out) hb); have n1_ := zQ (hbox); have n2_ := zQ ((zG hg HB.out)); have n3_ := zQ ((zG hg HB.out)); clear HB; have HB := n0_; have BK251 := n1_; have GW251 := n2_; have GE251 := n3_; clear n0_ n1_ n2_ n3_; clear hb hbox hg; obtain ⟨hcz4_0, hcz4_1, hcz4_2, hcz4_3, hfz4_0, hfz4_1, hfz4_2, hfz4_3⟩ := zc4 BK251.out) | ((with_reducible refine gate_callee (f := 160) rfl ?_); refine goesL_ (some 12) rfl rfl Try.func160 (by kernel_rfl) rfl #[.int .i64 (l0_0.length : Int), .int .i64 1] rfl zS ?_; (with_reducible refine (spec_l01Put.calls k (l0_0.length : Int) 1 t252 _ A2.out).mono ?_); rintro e w5 ⟨rfl, hb⟩; refine ⟨_, rfl, ?_⟩; have n0_ := zQ (zL BK251.out hb); have n1_ := zQ (below_step (zB HB.out) hb); clear BK251; clear HB; have BK251 := n0_; have HB := n1_; clear n0_ n1_; (try clear hb); (try clear hb2); (try clear hk); (try clear hi)))
 go_loopg [3, 4] k (fun kq v3 v4 w' => ∃ (x3_1 : ByteArray) (x4_1 : Int), v3 = .string x3_1 ∧ v4 = .int .i64 x4_1 ∧ Aside0 (spec_l08Text.l0 kq x3_1 x4_1 l0_0 l0_1 l0_2 l0_3 = some r) ∧ Aside0 (kq ≤ k) ∧ Aside0 (w'.heap[gb251]? = some (.cells #[(.slice A0_0 l0_0.length c0_0), (.slice A0_1 l0_1.length c0_1), (.slice A0_2 l0_2.length c0_2), (.slice A0_3 l0_3.length c0_3)] 64 (0, 0))) ∧ Aside0 (Below w.heap.size w w'))
 case atStart => exact ⟨(t252), (0), (by first | rfl | (simp; done) | (simp [*]; done)), (by first | rfl | (simp; done) | (simp [*]; done)), H', ⟨Nat.le_refl _⟩, ⟨by (with_reducible repeat (first | refine blk_drewN ?_ _ | refine blk_drew ?_ | refine blk_alloc ?_ _)); exact BK251.out⟩, ⟨zB HB.out⟩⟩
 case round =>
  clear H'
  try clear c1
  try clear p2
  try clear hcz4_0
  try clear hcz4_1
  try clear hcz4_2
  try clear hcz4_3
  try clear hfz4_0
  try clear hfz4_1
  try clear hfz4_2
  try clear hfz4_3
  obtain ⟨x3_1, x4_1, rfl, rfl, HA, HK1, BK251, HB⟩ := hrel
  cases gk with
  | zero => exact absurd HA.out (by simp [spec_l08Text.l0])
  | succ k1 =>
   have H := HA.out
   clear HA
   simp only [spec_l08Text.l0] at H
   by_cases c6 : x4_1 < (l0_0.length : Int)
   ·rw [if_pos c6] at H
    have c6b0 : decide (x4_1 < (l0_0.length : Int)) = true := decide_eq_true c6
    clear c6
    by_cases c7 : 0 ≤ x4_1
    ·rw [if_pos c7] at H
     have c7b0 : decide (0 ≤ x4_1) = true := decide_eq_true c7
     clear c7
     replace H := Option.bind_eq_some_iff.mp H
     obtain ⟨t254, A80, H⟩ := H
     replace H : (if x3_1.size + t254.size ≤ 9223372036854775807 then (spec_l08Text.l0 k1 (x3_1 ++ t254) (wrap64 (x4_1 + 1)) l0_0 l0_1 l0_2 l0_3) else (none)) = some r := H
     have A8 := zQ A80
     clear A80
     by_cases c9 : x3_1.size + t254.size ≤ 9223372036854775807
     ·rw [if_pos c9] at H
      have c9b0 := eq_true c9
      have c9b1 : decide (x3_1.size + t254.size ≤ 9223372036854775807) = true := decide_eq_true c9
      try have c9b2 : (9223372036854775807 < x3_1.size + t254.size) = False := eq_false (Nat.not_lt.2 c9)
      have H' := zQ H
      clear H
      obtain ⟨hcz10_0, hcz10_1, hcz10_2, hcz10_3, hfz10_0, hfz10_1, hfz10_2, hfz10_3⟩ := zc4 BK251.out
      have p253 : 0 ≤ (x4_1 : Int) := zA
      have q253 : x4_1 < (l0_0.length : Int) := zA
      obtain ⟨ad253, e253, hx253_0⟩ := Kd.at_int HR0_0.out x4_1 p253 q253
      cases e253
      replace hx253_0 := zX HB.out hx253_0
      replace p253 := eq_true p253
      replace q253 := eq_true q253
      go_wp2_with (first | ((with_reducible refine gate_callee (f := 160) rfl ?_); refine goesL_ (some 26) rfl rfl Try.func160 (by kernel_rfl) rfl #[.int .i64 (rd l0_0 x4_1), .int .i64 1] rfl zS ?_; (with_reducible refine (spec_l01Put.calls k1 (rd l0_0 x4_1) 1 t254 _ A8.out).mono ?_); rintro e w11 ⟨rfl, hb⟩; refine ⟨_, rfl, ?_⟩; have n0_ := zQ (zL BK251.out hb); have n1_ := zQ (below_step (zB HB.out) hb); clear BK251; clear HB; have BK251 := n0_; have HB := n1_; clear n0_ n1_; (try clear hb); (try clear hb2); (try clear hk); (try clear hi)))
      go_roundg k1
      case measure => have := HK1.out; omega
      case rel => exact ⟨(x3_1 ++ t254), (wrap64 (x4_1 + 1)), (by first | rfl | (simp; done) | (simp [*]; done)), (by first | rfl | (simp; done) | (simp [*]; done)), H', ⟨by have := HK1.out; omega⟩, ⟨by (with_reducible repeat (first | refine blk_drewN ?_ _ | refine blk_drew ?_ | refine blk_alloc ?_ _)); exact BK251.out⟩, ⟨zB HB.out⟩⟩
     ·rw [if_neg c9] at H
      exact absurd H (by simp)
    ·rw [if_neg c7] at H
     exact absurd H (by simp)
   ·rw [if_neg c6] at H
    have c6b0 : decide (x4_1 < (l0_0.length : Int)) = false := decide_eq_false c6
    clear c6
    replace H := Option.bind_eq_some_iff.mp H
    obtain ⟨t255, A120, H⟩ := H
    replace H : (if x3_1.size + t255.size ≤ 9223372036854775807 then (spec_l08Text.l1 k1 (x3_1 ++ t255) 0 l0_0 l0_1 l0_2 l0_3) else (none)) = some r := H
    have A12 := zQ A120
    clear A120
    by_cases c13 : x3_1.size + t255.size ≤ 9223372036854775807
    ·rw [if_pos c13] at H
     have c13b0 := eq_true c13
     have c13b1 : decide (x3_1.size + t255.size ≤ 9223372036854775807) = true := decide_eq_true c13
     try have c13b2 : (9223372036854775807 < x3_1.size + t255.size) = False := eq_false (Nat.not_lt.2 c13)
     have H' := zQ H
     clear H
     obtain ⟨hcz14_0, hcz14_1, hcz14_2, hcz14_3, hfz14_0, hfz14_1, hfz14_2, hfz14_3⟩ := zc4 BK251.out
     go_wp2_with (first | ((with_reducible refine gate_callee (f := 160) rfl ?_); refine goesL_ (some 32) rfl rfl Try.func160 (by kernel_rfl) rfl #[.int .i64 (l0_1.length : Int), .int .i64 1] rfl zS ?_; (with_reducible refine (spec_l01Put.calls k1 (l0_1.length : Int) 1 t255 _ A12.out).mono ?_); rintro e w15 ⟨rfl, hb⟩; refine ⟨_, rfl, ?_⟩; have n0_ := zQ (zL BK251.out hb); have n1_ := zQ (below_step (zB HB.out) hb); clear BK251; clear HB; have BK251 := n0_; have HB := n1_; clear n0_ n1_; (try clear hb); (try clear hb2); (try clear hk); (try clear hi)))
     go_loopg [3, 5] k1 (fun kq v3 v5 w' => ∃ (x3_2 : ByteArray) (x5_2 : Int), v3 = .string x3_2 ∧ v5 = .int .i64 x5_2 ∧ Aside0 (spec_l08Text.l1 kq x3_2 x5_2 l0_0 l0_1 l0_2 l0_3 = some r) ∧ Aside0 (kq ≤ k1) ∧ Aside0 (w'.heap[gb251]? = some (.cells #[(.slice A0_0 l0_0.length c0_0), (.slice A0_1 l0_1.length c0_1), (.slice A0_2 l0_2.length c0_2), (.slice A0_3 l0_3.length c0_3)] 64 (0, 0))) ∧ Aside0 (Below w.heap.size w w'))
     case atStart => exact ⟨(x3_1 ++ t255), (0), (by first | rfl | (simp; done) | (simp [*]; done)), (by first | rfl | (simp; done) | (simp [*]; done)), H', ⟨Nat.le_refl _⟩, ⟨by (with_reducible repeat (first | refine blk_drewN ?_ _ | refine blk_drew ?_ | refine blk_alloc ?_ _)); exact BK251.out⟩, ⟨zB HB.out⟩⟩
     case round =>
      clear H'
      try clear c1
      try clear p2
      try clear q2
      try clear hx2
      try clear c6
      try clear c6b0
      try clear p6
      try clear c7
      try clear c7b0
      try clear c9
      try clear c9b0
      try clear c9b1
      try clear c9b2
      try clear c10
      try clear c13
      try clear c13b0
      try clear c13b1
      try clear c13b2
      try clear hcz10_0
      try clear hcz10_1
      try clear hcz10_2
      try clear hcz10_3
      try clear hcz14_0
      try clear hcz14_1
      try clear hcz14_2
      try clear hcz14_3
      try clear hcz4_0
      try clear hcz4_1
      try clear hcz4_2
      try clear hcz4_3
      try clear hfz10_0
      try clear hfz10_1
      try clear hfz10_2
      try clear hfz10_3
      try clear hfz14_0
      try clear hfz14_1
      try clear hfz14_2
      try clear hfz14_3
      try clear hfz4_0
      try clear hfz4_1
      try clear hfz4_2
      try clear hfz4_3
      try clear hx253_0
      try clear p2
      try clear p253
      try clear q253
      obtain ⟨x3_2, x5_2, rfl, rfl, HA, HK2, BK251, HB⟩ := hrel
      cases gk with
      | zero => exact absurd HA.out (by simp [spec_l08Text.l1])
      | succ k2 =>
       have H := HA.out
       clear HA
       simp only [spec_l08Text.l1] at H
       by_cases c16 : x5_2 < (l0_1.length : Int)
       ·rw [if_pos c16] at H
        have c16b0 : decide (x5_2 < (l0_1.length : Int)) = true := decide_eq_true c16
        clear c16
        by_cases c17 : 0 ≤ x5_2
        ·rw [if_pos c17] at H
         have c17b0 : decide (0 ≤ x5_2) = true := decide_eq_true c17
         clear c17
         replace H := Option.bind_eq_some_iff.mp H
         obtain ⟨t257, A180, H⟩ := H
         replace H : ((spec_l01Put.f k2 (t257.size : Int) 2).bind fun t258 => (if t258.size + t257.size ≤ 9223372036854775807 then (if x3_2.size + (t258 ++ t257).size ≤ 9223372036854775807 then (spec_l08Text.l1 k2 (x3_2 ++ (t258 ++ t257)) (wrap64 (x5_2 + 1)) l0_0 l0_1 l0_2 l0_3) else (none)) else (none))) = some r := H
         have A18 := zQ A180
         clear A180
         replace H := Option.bind_eq_some_iff.mp H
         obtain ⟨t258, A190, H⟩ := H
         replace H : (if t258.size + t257.size ≤ 9223372036854775807 then (if x3_2.size + (t258 ++ t257).size ≤ 9223372036854775807 then (spec_l08Text.l1 k2 (x3_2 ++ (t258 ++ t257)) (wrap64 (x5_2 + 1)) l0_0 l0_1 l0_2 l0_3) else (none)) else (none)) = some r := H
         have A19 := zQ A190
         clear A190
         by_cases c20 : t258.size + t257.size ≤ 9223372036854775807
         ·rw [if_pos c20] at H
          have c20b0 := eq_true c20
          have c20b1 : decide (t258.size + t257.size ≤ 9223372036854775807) = true := decide_eq_true c20
          try have c20b2 : (9223372036854775807 < t258.size + t257.size) = False := eq_false (Nat.not_lt.2 c20)
          by_cases c21 : x3_2.size + (t258 ++ t257).size ≤ 9223372036854775807
          ·rw [if_pos c21] at H
           have c21b0 := eq_true c21
           have c21b1 : decide (x3_2.size + (t258 ++ t257).size ≤ 9223372036854775807) = true := decide_eq_true c21
           try have c21b2 : (9223372036854775807 < x3_2.size + (t258 ++ t257).size) = False := eq_false (Nat.not_lt.2 c21)
           (try have c21q := c21b2)
           (try simp only [ByteArray.size_append] at c21q)
           have H' := zQ H
           clear H
           obtain ⟨hcz22_0, hcz22_1, hcz22_2, hcz22_3, hfz22_0, hfz22_1, hfz22_2, hfz22_3⟩ := zc4 BK251.out
           have p256 : 0 ≤ (x5_2 : Int) := zA
           have q256 : x5_2 < (l0_1.length : Int) := zA
           obtain ⟨ad256, A256_0, c256_0, e256, hx256_0, hl256_0, hi256_0⟩ := at_T124 HR0_1.out x5_2 p256 q256
           cases e256
           replace hx256_0 := zX HB.out hx256_0
           have HR256_0 := zQ hi256_0
           have HC256_0 := zQ hl256_0
           clear hi256_0 hl256_0
           replace p256 := eq_true p256
           replace q256 := eq_true q256
           go_wp2_with (first | ((with_reducible refine gate_callee (f := 161) rfl ?_); refine goesL_ (some 47) rfl rfl Try.func161 (by kernel_rfl) rfl #[.slice A256_0 ((rd_T124 l0_1 x5_2).f0).length c256_0] rfl zS ?_; (with_reducible refine (spec_l02Bytes.calls k2 _ _ ((rd_T124 l0_1 x5_2).f0) t257 _ ?side1 ?side2 A18.out).mono ?_); (case side1 => exact zE HR256_0 HB); (case side2 => exact HC256_0.out); rintro e w23 ⟨rfl, hb⟩; refine ⟨_, rfl, ?_⟩; have n0_ := zQ (zL BK251.out hb); have n1_ := zQ (below_step (zB HB.out) hb); clear BK251; clear HB; have BK251 := n0_; have HB := n1_; clear n0_ n1_; (try clear hb); (try clear hb2); (try clear hk); (try clear hi)) | ((with_reducible refine gate_callee (f := 160) rfl ?_); refine goesL_ (some 51) rfl rfl Try.func160 (by kernel_rfl) rfl #[.int .i64 (t257.size : Int), .int .i64 2] rfl zS ?_; (with_reducible refine (spec_l01Put.calls k2 (t257.size : Int) 2 t258 _ A19.out).mono ?_); rintro e w24 ⟨rfl, hb⟩; refine ⟨_, rfl, ?_⟩; have n0_ := zQ (zL BK251.out hb); have n1_ := zQ (below_step (zB HB.out) hb); clear BK251; clear HB; have BK251 := n0_; have HB := n1_; clear n0_ n1_; (try clear hb); (try clear hb2); (try clear hk); (try clear hi)))
           go_roundg k2
           case measure => have := HK1.out; have := HK2.out; omega
           case rel => exact ⟨(x3_2 ++ (t258 ++ t257)), (wrap64 (x5_2 + 1)), (by first | rfl | (simp; done) | (simp [*]; done)), (by first | rfl | (simp; done) | (simp [*]; done)), H', ⟨by have := HK1.out; have := HK2.out; omega⟩, ⟨by (with_reducible repeat (first | refine blk_drewN ?_ _ | refine blk_drew ?_ | refine blk_alloc ?_ _)); exact BK251.out⟩, ⟨zB HB.out⟩⟩
          ·rw [if_neg c21] at H
           exact absurd H (by simp)
         ·rw [if_neg c20] at H
          exact absurd H (by simp)
        ·rw [if_neg c17] at H
         exact absurd H (by simp)
       ·rw [if_neg c16] at H
        have c16b0 : decide (x5_2 < (l0_1.length : Int)) = false := decide_eq_false c16
        clear c16
        replace H := Option.bind_eq_some_iff.mp H
        obtain ⟨t259, A250, H⟩ := H
        replace H : (if x3_2.size + t259.size ≤ 9223372036854775807 then (spec_l08Text.l2 k2 (x3_2 ++ t259) 0 l0_0 l0_1 l0_2 l0_3) else (none)) = some r := H
        have A25 := zQ A250
        clear A250
        by_cases c26 : x3_2.size + t259.size ≤ 9223372036854775807
        ·rw [if_pos c26] at H
         have c26b0 := eq_true c26
         have c26b1 : decide (x3_2.size + t259.size ≤ 9223372036854775807) = true := decide_eq_true c26
         try have c26b2 : (9223372036854775807 < x3_2.size + t259.size) = False := eq_false (Nat.not_lt.2 c26)
         have H' := zQ H
         clear H
         obtain ⟨hcz27_0, hcz27_1, hcz27_2, hcz27_3, hfz27_0, hfz27_1, hfz27_2, hfz27_3⟩ := zc4 BK251.out
         go_wp2_with (first | ((with_reducible refine gate_callee (f := 160) rfl ?_); refine goesL_ (some 59) rfl rfl Try.func160 (by kernel_rfl) rfl #[.int .i64 (l0_2.length : Int), .int .i64 1] rfl zS ?_; (with_reducible refine (spec_l01Put.calls k2 (l0_2.length : Int) 1 t259 _ A25.out).mono ?_); rintro e w28 ⟨rfl, hb⟩; refine ⟨_, rfl, ?_⟩; have n0_ := zQ (zL BK251.out hb); have n1_ := zQ (below_step (zB HB.out) hb); clear BK251; clear HB; have BK251 := n0_; have HB := n1_; clear n0_ n1_; (try clear hb); (try clear hb2); (try clear hk); (try clear hi)))
         go_loopg [3, 7] k2 (fun kq v3 v7 w' => ∃ (x3_3 : ByteArray) (x7_3 : Int), v3 = .string x3_3 ∧ v7 = .int .i64 x7_3 ∧ Aside0 (spec_l08Text.l2 kq x3_3 x7_3 l0_0 l0_1 l0_2 l0_3 = some r) ∧ Aside0 (kq ≤ k2) ∧ Aside0 (w'.heap[gb251]? = some (.cells #[(.slice A0_0 l0_0.length c0_0), (.slice A0_1 l0_1.length c0_1), (.slice A0_2 l0_2.length c0_2), (.slice A0_3 l0_3.length c0_3)] 64 (0, 0))) ∧ Aside0 (Below w.heap.size w w'))
         case atStart => exact ⟨(x3_2 ++ t259), (0), (by first | rfl | (simp; done) | (simp [*]; done)), (by first | rfl | (simp; done) | (simp [*]; done)), H', ⟨Nat.le_refl _⟩, ⟨by (with_reducible repeat (first | refine blk_drewN ?_ _ | refine blk_drew ?_ | refine blk_alloc ?_ _)); exact BK251.out⟩, ⟨zB HB.out⟩⟩
         case round =>
          clear H'
          try clear c1
          try clear c2
          try clear p2
          try clear q2
          try clear hx2
          try clear c6
          try clear c6b0
          try clear p6
          try clear c7
          try clear c7b0
          try clear c9
          try clear c9b0
          try clear c9b1
          try clear c9b2
          try clear c10
          try clear c13
          try clear c13b0
          try clear c13b1
          try clear c13b2
          try clear c16
          try clear c16b0
          try clear c17
          try clear c17b0
          try clear c20
          try clear c20b0
          try clear c20b1
          try clear c20b2
          try clear c21
          try clear c21b0
          try clear c21b1
          try clear c21b2
          try clear c25
          try clear p25
          try clear q25
          try clear hx25
          try clear c26
          try clear c26b0
          try clear c26b1
          try clear c26b2
          try clear hcz10_0
          try clear hcz10_1
          try clear hcz10_2
          try clear hcz10_3
          try clear hcz14_0
          try clear hcz14_1
          try clear hcz14_2
          try clear hcz14_3
          try clear hcz22_0
          try clear hcz22_1
          try clear hcz22_2
          try clear hcz22_3
          try clear hcz27_0
          try clear hcz27_1
          try clear hcz27_2
          try clear hcz27_3
          try clear hcz4_0
          try clear hcz4_1
          try clear hcz4_2
          try clear hcz4_3
          try clear hfz10_0
          try clear hfz10_1
          try clear hfz10_2
          try clear hfz10_3
          try clear hfz14_0
          try clear hfz14_1
          try clear hfz14_2
          try clear hfz14_3
          try clear hfz22_0
          try clear hfz22_1
          try clear hfz22_2
          try clear hfz22_3
          try clear hfz27_0
          try clear hfz27_1
          try clear hfz27_2
          try clear hfz27_3
          try clear hfz4_0
          try clear hfz4_1
          try clear hfz4_2
          try clear hfz4_3
          try clear hx253_0
          try clear hx256_0
          try clear p2
          try clear p253
          try clear p256
          try clear p6
          try clear q2
          try clear q253
          try clear q256
          obtain ⟨x3_3, x7_3, rfl, rfl, HA, HK3, BK251, HB⟩ := hrel
          cases gk with
          | zero => exact absurd HA.out (by simp [spec_l08Text.l2])
          | succ k3 =>
           have H := HA.out
           clear HA
           simp only [spec_l08Text.l2] at H
           by_cases c29 : x7_3 < (l0_2.length : Int)
           ·rw [if_pos c29] at H
            have c29b0 : decide (x7_3 < (l0_2.length : Int)) = true := decide_eq_true c29
            clear c29
            by_cases c30 : 0 ≤ x7_3
            ·rw [if_pos c30] at H
             have c30b0 : decide (0 ≤ x7_3) = true := decide_eq_true c30
             clear c30
             replace H := Option.bind_eq_some_iff.mp H
             obtain ⟨t267, A310, H⟩ := H
             replace H : ((spec_l01Put.f k3 ((rd_T135 l0_2 x7_3).f1) 4).bind fun t268 => (if t267.size + t268.size ≤ 9223372036854775807 then ((spec_l01Put.f k3 ((rd_T135 l0_2 x7_3).f2) 4).bind fun t269 => (if (t267 ++ t268).size + t269.size ≤ 9223372036854775807 then ((spec_l01Put.f k3 ((rd_T135 l0_2 x7_3).f3) 1).bind fun t270 => (if ((t267 ++ t268) ++ t269).size + t270.size ≤ 9223372036854775807 then ((spec_l01Put.f k3 ((rd_T135 l0_2 x7_3).f4) 1).bind fun t271 => (if (((t267 ++ t268) ++ t269) ++ t270).size + t271.size ≤ 9223372036854775807 then ((spec_l01Put.f k3 ((rd_T135 l0_2 x7_3).f5) 1).bind fun t272 => (if ((((t267 ++ t268) ++ t269) ++ t270) ++ t271).size + t272.size ≤ 9223372036854775807 then (if x3_3.size + (((((t267 ++ t268) ++ t269) ++ t270) ++ t271) ++ t272).size ≤ 9223372036854775807 then (spec_l08Text.l2 k3 (x3_3 ++ (((((t267 ++ t268) ++ t269) ++ t270) ++ t271) ++ t272)) (wrap64 (x7_3 + 1)) l0_0 l0_1 l0_2 l0_3) else (none)) else (none))) else (none))) else (none))) else (none))) else (none))) = some r := H
             have A31 := zQ A310
             clear A310
             replace H := Option.bind_eq_some_iff.mp H
             obtain ⟨t268, A320, H⟩ := H
             replace H : (if t267.size + t268.size ≤ 9223372036854775807 then ((spec_l01Put.f k3 ((rd_T135 l0_2 x7_3).f2) 4).bind fun t269 => (if (t267 ++ t268).size + t269.size ≤ 9223372036854775807 then ((spec_l01Put.f k3 ((rd_T135 l0_2 x7_3).f3) 1).bind fun t270 => (if ((t267 ++ t268) ++ t269).size + t270.size ≤ 9223372036854775807 then ((spec_l01Put.f k3 ((rd_T135 l0_2 x7_3).f4) 1).bind fun t271 => (if (((t267 ++ t268) ++ t269) ++ t270).size + t271.size ≤ 9223372036854775807 then ((spec_l01Put.f k3 ((rd_T135 l0_2 x7_3).f5) 1).bind fun t272 => (if ((((t267 ++ t268) ++ t269) ++ t270) ++ t271).size + t272.size ≤ 9223372036854775807 then (if x3_3.size + (((((t267 ++ t268) ++ t269) ++ t270) ++ t271) ++ t272).size ≤ 9223372036854775807 then (spec_l08Text.l2 k3 (x3_3 ++ (((((t267 ++ t268) ++ t269) ++ t270) ++ t271) ++ t272)) (wrap64 (x7_3 + 1)) l0_0 l0_1 l0_2 l0_3) else (none)) else (none))) else (none))) else (none))) else (none))) else (none)) = some r := H
             have A32 := zQ A320
             clear A320
             by_cases c33 : t267.size + t268.size ≤ 9223372036854775807
             ·rw [if_pos c33] at H
              have c33b0 := eq_true c33
              have c33b1 : decide (t267.size + t268.size ≤ 9223372036854775807) = true := decide_eq_true c33
              try have c33b2 : (9223372036854775807 < t267.size + t268.size) = False := eq_false (Nat.not_lt.2 c33)
              replace H := Option.bind_eq_some_iff.mp H
              obtain ⟨t269, A340, H⟩ := H
              replace H : (if (t267 ++ t268).size + t269.size ≤ 9223372036854775807 then ((spec_l01Put.f k3 ((rd_T135 l0_2 x7_3).f3) 1).bind fun t270 => (if ((t267 ++ t268) ++ t269).size + t270.size ≤ 9223372036854775807 then ((spec_l01Put.f k3 ((rd_T135 l0_2 x7_3).f4) 1).bind fun t271 => (if (((t267 ++ t268) ++ t269) ++ t270).size + t271.size ≤ 9223372036854775807 then ((spec_l01Put.f k3 ((rd_T135 l0_2 x7_3).f5) 1).bind fun t272 => (if ((((t267 ++ t268) ++ t269) ++ t270) ++ t271).size + t272.size ≤ 9223372036854775807 then (if x3_3.size + (((((t267 ++ t268) ++ t269) ++ t270) ++ t271) ++ t272).size ≤ 9223372036854775807 then (spec_l08Text.l2 k3 (x3_3 ++ (((((t267 ++ t268) ++ t269) ++ t270) ++ t271) ++ t272)) (wrap64 (x7_3 + 1)) l0_0 l0_1 l0_2 l0_3) else (none)) else (none))) else (none))) else (none))) else (none)) = some r := H
              have A34 := zQ A340
              clear A340
              by_cases c35 : (t267 ++ t268).size + t269.size ≤ 9223372036854775807
              ·rw [if_pos c35] at H
               have c35b0 := eq_true c35
               have c35b1 : decide ((t267 ++ t268).size + t269.size ≤ 9223372036854775807) = true := decide_eq_true c35
               try have c35b2 : (9223372036854775807 < (t267 ++ t268).size + t269.size) = False := eq_false (Nat.not_lt.2 c35)
               (try have c35q := c35b2)
               (try simp only [ByteArray.size_append] at c35q)
               replace H := Option.bind_eq_some_iff.mp H
               obtain ⟨t270, A360, H⟩ := H
               replace H : (if ((t267 ++ t268) ++ t269).size + t270.size ≤ 9223372036854775807 then ((spec_l01Put.f k3 ((rd_T135 l0_2 x7_3).f4) 1).bind fun t271 => (if (((t267 ++ t268) ++ t269) ++ t270).size + t271.size ≤ 9223372036854775807 then ((spec_l01Put.f k3 ((rd_T135 l0_2 x7_3).f5) 1).bind fun t272 => (if ((((t267 ++ t268) ++ t269) ++ t270) ++ t271).size + t272.size ≤ 9223372036854775807 then (if x3_3.size + (((((t267 ++ t268) ++ t269) ++ t270) ++ t271) ++ t272).size ≤ 9223372036854775807 then (spec_l08Text.l2 k3 (x3_3 ++ (((((t267 ++ t268) ++ t269) ++ t270) ++ t271) ++ t272)) (wrap64 (x7_3 + 1)) l0_0 l0_1 l0_2 l0_3) else (none)) else (none))) else (none))) else (none)) = some r := H
               have A36 := zQ A360
               clear A360
               by_cases c37 : ((t267 ++ t268) ++ t269).size + t270.size ≤ 9223372036854775807
               ·rw [if_pos c37] at H
                have c37b0 := eq_true c37
                have c37b1 : decide (((t267 ++ t268) ++ t269).size + t270.size ≤ 9223372036854775807) = true := decide_eq_true c37
                try have c37b2 : (9223372036854775807 < ((t267 ++ t268) ++ t269).size + t270.size) = False := eq_false (Nat.not_lt.2 c37)
                (try have c37q := c37b2)
                (try simp only [ByteArray.size_append] at c37q)
                replace H := Option.bind_eq_some_iff.mp H
                obtain ⟨t271, A380, H⟩ := H
                replace H : (if (((t267 ++ t268) ++ t269) ++ t270).size + t271.size ≤ 9223372036854775807 then ((spec_l01Put.f k3 ((rd_T135 l0_2 x7_3).f5) 1).bind fun t272 => (if ((((t267 ++ t268) ++ t269) ++ t270) ++ t271).size + t272.size ≤ 9223372036854775807 then (if x3_3.size + (((((t267 ++ t268) ++ t269) ++ t270) ++ t271) ++ t272).size ≤ 9223372036854775807 then (spec_l08Text.l2 k3 (x3_3 ++ (((((t267 ++ t268) ++ t269) ++ t270) ++ t271) ++ t272)) (wrap64 (x7_3 + 1)) l0_0 l0_1 l0_2 l0_3) else (none)) else (none))) else (none)) = some r := H
                have A38 := zQ A380
                clear A380
                by_cases c39 : (((t267 ++ t268) ++ t269) ++ t270).size + t271.size ≤ 9223372036854775807
                ·rw [if_pos c39] at H
                 have c39b0 := eq_true c39
                 have c39b1 : decide ((((t267 ++ t268) ++ t269) ++ t270).size + t271.size ≤ 9223372036854775807) = true := decide_eq_true c39
                 try have c39b2 : (9223372036854775807 < (((t267 ++ t268) ++ t269) ++ t270).size + t271.size) = False := eq_false (Nat.not_lt.2 c39)
                 (try have c39q := c39b2)
                 (try simp only [ByteArray.size_append] at c39q)
                 replace H := Option.bind_eq_some_iff.mp H
                 obtain ⟨t272, A400, H⟩ := H
                 replace H : (if ((((t267 ++ t268) ++ t269) ++ t270) ++ t271).size + t272.size ≤ 9223372036854775807 then (if x3_3.size + (((((t267 ++ t268) ++ t269) ++ t270) ++ t271) ++ t272).size ≤ 9223372036854775807 then (spec_l08Text.l2 k3 (x3_3 ++ (((((t267 ++ t268) ++ t269) ++ t270) ++ t271) ++ t272)) (wrap64 (x7_3 + 1)) l0_0 l0_1 l0_2 l0_3) else (none)) else (none)) = some r := H
                 have A40 := zQ A400
                 clear A400
                 by_cases c41 : ((((t267 ++ t268) ++ t269) ++ t270) ++ t271).size + t272.size ≤ 9223372036854775807
                 ·rw [if_pos c41] at H
                  have c41b0 := eq_true c41
                  have c41b1 : decide (((((t267 ++ t268) ++ t269) ++ t270) ++ t271).size + t272.size ≤ 9223372036854775807) = true := decide_eq_true c41
                  try have c41b2 : (9223372036854775807 < ((((t267 ++ t268) ++ t269) ++ t270) ++ t271).size + t272.size) = False := eq_false (Nat.not_lt.2 c41)
                  (try have c41q := c41b2)
                  (try simp only [ByteArray.size_append] at c41q)
                  by_cases c42 : x3_3.size + (((((t267 ++ t268) ++ t269) ++ t270) ++ t271) ++ t272).size ≤ 9223372036854775807
                  ·rw [if_pos c42] at H
                   have c42b0 := eq_true c42
                   have c42b1 : decide (x3_3.size + (((((t267 ++ t268) ++ t269) ++ t270) ++ t271) ++ t272).size ≤ 9223372036854775807) = true := decide_eq_true c42
                   try have c42b2 : (9223372036854775807 < x3_3.size + (((((t267 ++ t268) ++ t269) ++ t270) ++ t271) ++ t272).size) = False := eq_false (Nat.not_lt.2 c42)
                   (try have c42q := c42b2)
                   (try simp only [ByteArray.size_append] at c42q)
                   have H' := zQ H
                   clear H
                   obtain ⟨hcz43_0, hcz43_1, hcz43_2, hcz43_3, hfz43_0, hfz43_1, hfz43_2, hfz43_3⟩ := zc4 BK251.out
                   have p265 : 0 ≤ (x7_3 : Int) := zA
                   have q265 : x7_3 < (l0_2.length : Int) := zA
                   obtain ⟨ad265, e265, hx265_0, hx265_1, hx265_2, hx265_3, hx265_4, hx265_5⟩ := at_T135 HR0_2.out x7_3 p265 q265
                   cases e265
                   replace hx265_0 := zX HB.out hx265_0
                   replace hx265_1 := zX HB.out hx265_1
                   replace hx265_2 := zX HB.out hx265_2
                   replace hx265_3 := zX HB.out hx265_3
                   replace hx265_4 := zX HB.out hx265_4
                   replace hx265_5 := zX HB.out hx265_5
                   replace p265 := eq_true p265
                   replace q265 := eq_true q265
                   try go_wp2_with (first | ((with_reducible refine gate_dst (N := 8) rfl ?_); refine box_event ?hg (N := 8) ?hd (cs := #[.int .i64 0, .int .i64 0, .int .i64 0, .int .i64 0, .int .i64 0, .int .i64 0]) (t := 135) ?hr ?_; (case hd => rfl); (case hg => rfl); (case hr => first | (go_simp; done) | (go_simp; rfl)); intro gb266 hg w44 hbox hb; have n0_ := zQ (zL BK251.out hb); have n1_ := zQ (below_step (zB HB.out) hb); have n2_ := zQ (hbox); have n3_ := zQ ((zG hg HB.out)); have n4_ := zQ ((zG hg HB.out)); have n5_ := zQ ((zN hg BK251.out)); have n6_ := zQ ((zM hg BK251.out)); clear BK251; clear HB; have BK251 := n0_; have HB := n1_; have BK266 := n2_; have GW266 := n3_; have GE266 := n4_; have NB251_266 := n5_; have NB266_251 := n6_; clear n0_ n1_ n2_ n3_ n4_ n5_ n6_; clear hb hbox hg; have hnb45 := NB266_251.out; have hnc45 := NB251_266.out; obtain ⟨hcz46_0, hcz46_1, hcz46_2, hcz46_3, hcz46_4, hcz46_5, hfz46_0, hfz46_1, hfz46_2, hfz46_3, hfz46_4, hfz46_5⟩ := zc6 BK266.out))
                   have n0_ : Aside0 (((((((w44.setCell ⟨gb266, 0, none⟩ (.int .i64 ((rd_T135 l0_2 x7_3).f0))).setCell ⟨gb266, 1, none⟩ (.int .i64 ((rd_T135 l0_2 x7_3).f1))).setCell ⟨gb266, 2, none⟩ (.int .i64 ((rd_T135 l0_2 x7_3).f2))).setCell ⟨gb266, 3, none⟩ (.int .i64 ((rd_T135 l0_2 x7_3).f3))).setCell ⟨gb266, 4, none⟩ (.int .i64 ((rd_T135 l0_2 x7_3).f4))).setCell ⟨gb266, 5, none⟩ (.int .i64 ((rd_T135 l0_2 x7_3).f5))).heap[gb251]? = some (.cells #[.slice A0_0 l0_0.length c0_0, .slice A0_1 l0_1.length c0_1, .slice (some ad265) l0_2.length c0_2, .slice A0_3 l0_3.length c0_3] 64 (0, 0))) := ⟨zF BK251.out⟩
                   have n1_ : Aside0 (((((((w44.setCell ⟨gb266, 0, none⟩ (.int .i64 ((rd_T135 l0_2 x7_3).f0))).setCell ⟨gb266, 1, none⟩ (.int .i64 ((rd_T135 l0_2 x7_3).f1))).setCell ⟨gb266, 2, none⟩ (.int .i64 ((rd_T135 l0_2 x7_3).f2))).setCell ⟨gb266, 3, none⟩ (.int .i64 ((rd_T135 l0_2 x7_3).f3))).setCell ⟨gb266, 4, none⟩ (.int .i64 ((rd_T135 l0_2 x7_3).f4))).setCell ⟨gb266, 5, none⟩ (.int .i64 ((rd_T135 l0_2 x7_3).f5))).heap[gb266]? = some (.cells #[.int .i64 ((rd_T135 l0_2 x7_3).f0), .int .i64 ((rd_T135 l0_2 x7_3).f1), .int .i64 ((rd_T135 l0_2 x7_3).f2), .int .i64 ((rd_T135 l0_2 x7_3).f3), .int .i64 ((rd_T135 l0_2 x7_3).f4), .int .i64 ((rd_T135 l0_2 x7_3).f5)] 135 (0, 0))) := ⟨zP BK266.out⟩
                   have n2_ : Aside0 (Below w.heap.size w ((((((w44.setCell ⟨gb266, 0, none⟩ (.int .i64 ((rd_T135 l0_2 x7_3).f0))).setCell ⟨gb266, 1, none⟩ (.int .i64 ((rd_T135 l0_2 x7_3).f1))).setCell ⟨gb266, 2, none⟩ (.int .i64 ((rd_T135 l0_2 x7_3).f2))).setCell ⟨gb266, 3, none⟩ (.int .i64 ((rd_T135 l0_2 x7_3).f3))).setCell ⟨gb266, 4, none⟩ (.int .i64 ((rd_T135 l0_2 x7_3).f4))).setCell ⟨gb266, 5, none⟩ (.int .i64 ((rd_T135 l0_2 x7_3).f5)))) := ⟨zB HB.out⟩
                   (try clear BK251)
                   (try clear BK266)
                   (try clear HB)
                   generalize ((((((w44.setCell ⟨gb266, 0, none⟩ (.int .i64 ((rd_T135 l0_2 x7_3).f0))).setCell ⟨gb266, 1, none⟩ (.int .i64 ((rd_T135 l0_2 x7_3).f1))).setCell ⟨gb266, 2, none⟩ (.int .i64 ((rd_T135 l0_2 x7_3).f2))).setCell ⟨gb266, 3, none⟩ (.int .i64 ((rd_T135 l0_2 x7_3).f3))).setCell ⟨gb266, 4, none⟩ (.int .i64 ((rd_T135 l0_2 x7_3).f4))).setCell ⟨gb266, 5, none⟩ (.int .i64 ((rd_T135 l0_2 x7_3).f5))) = w47 at n0_ n1_ n2_ ⊢
                   have BK251 := n0_
                   have BK266 := n1_
                   have HB := n2_
                   clear n0_ n1_ n2_
                   have n0_ := zQ (blk_drew BK251.out)
                   have n1_ := zQ (blk_drew BK266.out)
                   have n2_ := zQ (below_drew1 HB.out)
                   clear BK251
                   clear BK266
                   clear HB
                   have BK251 := n0_
                   have BK266 := n1_
                   have HB := n2_
                   clear n0_ n1_ n2_
                   refine start_ (n := 26) (S := fun w' => w'.cell? ⟨gb266, 0, none⟩ = some (.int .i64 ((rd_T135 l0_2 x7_3).f0)) ∧ w'.cell? ⟨gb266, 1, none⟩ = some (.int .i64 ((rd_T135 l0_2 x7_3).f1)) ∧ w'.cell? ⟨gb266, 2, none⟩ = some (.int .i64 ((rd_T135 l0_2 x7_3).f2)) ∧ w'.cell? ⟨gb266, 3, none⟩ = some (.int .i64 ((rd_T135 l0_2 x7_3).f3)) ∧ w'.cell? ⟨gb266, 4, none⟩ = some (.int .i64 ((rd_T135 l0_2 x7_3).f4)) ∧ w'.cell? ⟨gb266, 5, none⟩ = some (.int .i64 ((rd_T135 l0_2 x7_3).f5))) (ds := []) #[false, false, false, false, false, false, false, false, false, false, false, false, false, false, false, false, false, false, false, false, false, false, false, false, false, false] (by kernel_rfl) rfl rfl (zd6 BK266.out) (fun hHeld => ?_); refine with_tabW spec_l08Text.tab17 spec_l08Text.bits17 (fun HT_ HW_ => ?_)
                   generalize w47.drew = w48 at BK251 BK266 HB hHeld ⊢
                   refine pure_ (i := 0) (N := some 73) (v := ?_) (a' := ?_) #[true, false, false, false, false, false, false, false, false, false, false, false, false, false, false, false, false, false, false, false, false, false, false, false, false, false] rfl rfl (any_of HT_.out (by kernel_rfl)) (fun _ _ _ h => h) (Or.inl ⟨by rfl, ?_⟩) ?_ ?_
                   rotate_left
                   ·intro w'
                    go_simp
                    with_reducible rfl
                   rotate_left
                   ·simp only [Act.put, List.setIfInBounds_toArray, List.set_cons_zero, List.set_cons_succ, i64_w, i32_w]
                    rfl
                   refine pure_ (i := 1) (N := some 74) (v := ?_) (a' := ?_) #[true, true, false, false, false, false, false, false, false, false, false, false, false, false, false, false, false, false, false, false, false, false, false, false, false, false] rfl rfl (any_of HT_.out (by kernel_rfl)) (fun _ _ _ h => h) (Or.inl ⟨by rfl, ?_⟩) ?_ ?_
                   rotate_left
                   ·intro w'
                    go_simp
                    with_reducible rfl
                   rotate_left
                   ·simp only [Act.put, List.setIfInBounds_toArray, List.set_cons_zero, List.set_cons_succ, i64_w, i32_w]
                    rfl
                   refine pure_ (i := 4) (N := some 77) (v := ?_) (a' := ?_) #[true, true, false, false, true, false, false, false, false, false, false, false, false, false, false, false, false, false, false, false, false, false, false, false, false, false] rfl rfl (any_of HT_.out (by kernel_rfl)) (fun _ _ _ h => h) (Or.inl ⟨by rfl, ?_⟩) ?_ ?_
                   rotate_left
                   ·intro w'
                    go_simp
                    with_reducible rfl
                   rotate_left
                   ·simp only [Act.put, List.setIfInBounds_toArray, List.set_cons_zero, List.set_cons_succ, i64_w, i32_w]
                    rfl
                   refine pure_ (i := 8) (N := some 81) (v := ?_) (a' := ?_) #[true, true, false, false, true, false, false, false, true, false, false, false, false, false, false, false, false, false, false, false, false, false, false, false, false, false] rfl rfl (any_of HT_.out (by kernel_rfl)) (fun _ _ _ h => h) (Or.inl ⟨by rfl, ?_⟩) ?_ ?_
                   rotate_left
                   ·intro w'
                    go_simp
                    with_reducible rfl
                   rotate_left
                   ·simp only [Act.put, List.setIfInBounds_toArray, List.set_cons_zero, List.set_cons_succ, i64_w, i32_w]
                    rfl
                   refine pure_ (i := 12) (N := some 85) (v := ?_) (a' := ?_) #[true, true, false, false, true, false, false, false, true, false, false, false, true, false, false, false, false, false, false, false, false, false, false, false, false, false] rfl rfl (any_of HT_.out (by kernel_rfl)) (fun _ _ _ h => h) (Or.inl ⟨by rfl, ?_⟩) ?_ ?_
                   rotate_left
                   ·intro w'
                    go_simp
                    with_reducible rfl
                   rotate_left
                   ·simp only [Act.put, List.setIfInBounds_toArray, List.set_cons_zero, List.set_cons_succ, i64_w, i32_w]
                    rfl
                   refine pure_ (i := 16) (N := some 89) (v := ?_) (a' := ?_) #[true, true, false, false, true, false, false, false, true, false, false, false, true, false, false, false, true, false, false, false, false, false, false, false, false, false] rfl rfl (any_of HT_.out (by kernel_rfl)) (fun _ _ _ h => h) (Or.inl ⟨by rfl, ?_⟩) ?_ ?_
                   rotate_left
                   ·intro w'
                    go_simp
                    with_reducible rfl
                   rotate_left
                   ·simp only [Act.put, List.setIfInBounds_toArray, List.set_cons_zero, List.set_cons_succ, i64_w, i32_w]
                    rfl
                   refine pure_ (i := 20) (N := some 93) (v := ?_) (a' := ?_) #[true, true, false, false, true, false, false, false, true, false, false, false, true, false, false, false, true, false, false, false, true, false, false, false, false, false] rfl rfl (any_of HT_.out (by kernel_rfl)) (fun _ _ _ h => h) (Or.inl ⟨by rfl, ?_⟩) ?_ ?_
                   rotate_left
                   ·intro w'
                    go_simp
                    with_reducible rfl
                   rotate_left
                   ·simp only [Act.put, List.setIfInBounds_toArray, List.set_cons_zero, List.set_cons_succ, i64_w, i32_w]
                    rfl
                   refine take_ (i := 2) (N := some 75) (v := ?_) (a' := ?_) #[true, true, true, false, true, false, false, false, true, false, false, false, true, false, false, false, true, false, false, false, true, false, false, false, false, false] rfl rfl (take_ofW HT_.out HW_.out (by kernel_rfl)) (fun _ _ _ h => h) (Or.inl ⟨by rfl, ?_⟩) hHeld ?_ ?_
                   rotate_left
                   ·rintro w' ⟨s0, s1, s2, s3, s4, s5⟩
                    go_simp
                    with_reducible rfl
                   rotate_left
                   ·simp only [Act.put, List.setIfInBounds_toArray, List.set_cons_zero, List.set_cons_succ, i64_w, i32_w]
                    rfl
                   refine take_ (i := 5) (N := some 78) (v := ?_) (a' := ?_) #[true, true, true, false, true, true, false, false, true, false, false, false, true, false, false, false, true, false, false, false, true, false, false, false, false, false] rfl rfl (take_ofW HT_.out HW_.out (by kernel_rfl)) (fun _ _ _ h => h) (Or.inl ⟨by rfl, ?_⟩) hHeld ?_ ?_
                   rotate_left
                   ·rintro w' ⟨s0, s1, s2, s3, s4, s5⟩
                    go_simp
                    with_reducible rfl
                   rotate_left
                   ·simp only [Act.put, List.setIfInBounds_toArray, List.set_cons_zero, List.set_cons_succ, i64_w, i32_w]
                    rfl
                   refine take_ (i := 9) (N := some 82) (v := ?_) (a' := ?_) #[true, true, true, false, true, true, false, false, true, true, false, false, true, false, false, false, true, false, false, false, true, false, false, false, false, false] rfl rfl (take_ofW HT_.out HW_.out (by kernel_rfl)) (fun _ _ _ h => h) (Or.inl ⟨by rfl, ?_⟩) hHeld ?_ ?_
                   rotate_left
                   ·rintro w' ⟨s0, s1, s2, s3, s4, s5⟩
                    go_simp
                    with_reducible rfl
                   rotate_left
                   ·simp only [Act.put, List.setIfInBounds_toArray, List.set_cons_zero, List.set_cons_succ, i64_w, i32_w]
                    rfl
                   refine take_ (i := 13) (N := some 86) (v := ?_) (a' := ?_) #[true, true, true, false, true, true, false, false, true, true, false, false, true, true, false, false, true, false, false, false, true, false, false, false, false, false] rfl rfl (take_ofW HT_.out HW_.out (by kernel_rfl)) (fun _ _ _ h => h) (Or.inl ⟨by rfl, ?_⟩) hHeld ?_ ?_
                   rotate_left
                   ·rintro w' ⟨s0, s1, s2, s3, s4, s5⟩
                    go_simp
                    with_reducible rfl
                   rotate_left
                   ·simp only [Act.put, List.setIfInBounds_toArray, List.set_cons_zero, List.set_cons_succ, i64_w, i32_w]
                    rfl
                   refine take_ (i := 17) (N := some 90) (v := ?_) (a' := ?_) #[true, true, true, false, true, true, false, false, true, true, false, false, true, true, false, false, true, true, false, false, true, false, false, false, false, false] rfl rfl (take_ofW HT_.out HW_.out (by kernel_rfl)) (fun _ _ _ h => h) (Or.inl ⟨by rfl, ?_⟩) hHeld ?_ ?_
                   rotate_left
                   ·rintro w' ⟨s0, s1, s2, s3, s4, s5⟩
                    go_simp
                    with_reducible rfl
                   rotate_left
                   ·simp only [Act.put, List.setIfInBounds_toArray, List.set_cons_zero, List.set_cons_succ, i64_w, i32_w]
                    rfl
                   refine take_ (i := 21) (N := some 94) (v := ?_) (a' := ?_) #[true, true, true, false, true, true, false, false, true, true, false, false, true, true, false, false, true, true, false, false, true, true, false, false, false, false] rfl rfl (take_ofW HT_.out HW_.out (by kernel_rfl)) (fun _ _ _ h => h) (Or.inl ⟨by rfl, ?_⟩) hHeld ?_ ?_
                   rotate_left
                   ·rintro w' ⟨s0, s1, s2, s3, s4, s5⟩
                    go_simp
                    with_reducible rfl
                   rotate_left
                   ·simp only [Act.put, List.setIfInBounds_toArray, List.set_cons_zero, List.set_cons_succ, i64_w, i32_w]
                    rfl
                   refine one_ (i := 3) (N := some 76) #[true, true, true, true, true, true, false, false, true, true, false, false, true, true, false, false, true, true, false, false, true, true, false, false, false, false] rfl rfl (one_of HT_.out (by kernel_rfl)) (by decide) (fun K hK => ?_)
                   refine goes_ Try.func160 (by kernel_rfl) rfl #[.int .i64 ((rd_T135 l0_2 x7_3).f0), .int .i64 1] (by rfl) rfl rfl zS ?_
                   with_reducible refine (spec_l01Put.calls k3 ((rd_T135 l0_2 x7_3).f0) 1 t267 _ A31.out).mono ?_
                   rintro e w49 ⟨rfl, hb⟩
                   refine ⟨_, rfl, ?_⟩
                   have n0_ := zQ (zL BK251.out hb)
                   have n1_ := zQ (zL BK266.out hb)
                   have n2_ := zQ (below_step (zB HB.out) hb)
                   clear BK251
                   clear BK266
                   clear HB
                   have BK251 := n0_
                   have BK266 := n1_
                   have HB := n2_
                   clear n0_ n1_ n2_
                   (try clear hb)
                   (try clear hb2)
                   (try clear hk)
                   (try clear hi)
                   refine hK.out _ _ (zd6 BK266.out) (fun hHeld => ?_)
                   clear hK K
                   refine norm_ (a' := ?_) ?_ ?_
                   rotate_left
                   ·show Act.put _ (some 76) _ = _
                    simp only [Act.put, List.setIfInBounds_toArray, List.set_cons_zero, List.set_cons_succ, i64_w, i32_w]
                    rfl
                   refine one_ (i := 6) (N := some 79) #[true, true, true, true, true, true, true, false, true, true, false, false, true, true, false, false, true, true, false, false, true, true, false, false, false, false] rfl rfl (one_of HT_.out (by kernel_rfl)) (by decide) (fun K hK => ?_)
                   refine goes_ Try.func160 (by kernel_rfl) rfl #[.int .i64 ((rd_T135 l0_2 x7_3).f1), .int .i64 4] (by rfl) rfl rfl zS ?_
                   with_reducible refine (spec_l01Put.calls k3 ((rd_T135 l0_2 x7_3).f1) 4 t268 _ A32.out).mono ?_
                   rintro e w50 ⟨rfl, hb⟩
                   refine ⟨_, rfl, ?_⟩
                   have n0_ := zQ (zL BK251.out hb)
                   have n1_ := zQ (zL BK266.out hb)
                   have n2_ := zQ (below_step (zB HB.out) hb)
                   clear BK251
                   clear BK266
                   clear HB
                   have BK251 := n0_
                   have BK266 := n1_
                   have HB := n2_
                   clear n0_ n1_ n2_
                   (try clear hb)
                   (try clear hb2)
                   (try clear hk)
                   (try clear hi)
                   refine hK.out _ _ (zd6 BK266.out) (fun hHeld => ?_)
                   clear hK K
                   refine norm_ (a' := ?_) ?_ ?_
                   rotate_left
                   ·show Act.put _ (some 79) _ = _
                    simp only [Act.put, List.setIfInBounds_toArray, List.set_cons_zero, List.set_cons_succ, i64_w, i32_w]
                    rfl
                   refine pure_ (i := 7) (N := some 80) (v := ?_) (a' := ?_) #[true, true, true, true, true, true, true, true, true, true, false, false, true, true, false, false, true, true, false, false, true, true, false, false, false, false] rfl rfl (any_of HT_.out (by kernel_rfl)) (fun _ _ _ h => h) (Or.inl ⟨by rfl, ?_⟩) ?_ ?_
                   rotate_left
                   ·intro w'
                    go_simp
                    with_reducible rfl
                   rotate_left
                   ·simp only [Act.put, List.setIfInBounds_toArray, List.set_cons_zero, List.set_cons_succ, i64_w, i32_w]
                    rfl
                   refine one_ (i := 10) (N := some 83) #[true, true, true, true, true, true, true, true, true, true, true, false, true, true, false, false, true, true, false, false, true, true, false, false, false, false] rfl rfl (one_of HT_.out (by kernel_rfl)) (by decide) (fun K hK => ?_)
                   refine goes_ Try.func160 (by kernel_rfl) rfl #[.int .i64 ((rd_T135 l0_2 x7_3).f2), .int .i64 4] (by rfl) rfl rfl zS ?_
                   with_reducible refine (spec_l01Put.calls k3 ((rd_T135 l0_2 x7_3).f2) 4 t269 _ A34.out).mono ?_
                   rintro e w51 ⟨rfl, hb⟩
                   refine ⟨_, rfl, ?_⟩
                   have n0_ := zQ (zL BK251.out hb)
                   have n1_ := zQ (zL BK266.out hb)
                   have n2_ := zQ (below_step (zB HB.out) hb)
                   clear BK251
                   clear BK266
                   clear HB
                   have BK251 := n0_
                   have BK266 := n1_
                   have HB := n2_
                   clear n0_ n1_ n2_
                   (try clear hb)
                   (try clear hb2)
                   (try clear hk)
                   (try clear hi)
                   refine hK.out _ _ (zd6 BK266.out) (fun hHeld => ?_)
                   clear hK K
                   refine norm_ (a' := ?_) ?_ ?_
                   rotate_left
                   ·show Act.put _ (some 83) _ = _
                    simp only [Act.put, List.setIfInBounds_toArray, List.set_cons_zero, List.set_cons_succ, i64_w, i32_w]
                    rfl
                   refine pure_ (i := 11) (N := some 84) (v := ?_) (a' := ?_) #[true, true, true, true, true, true, true, true, true, true, true, true, true, true, false, false, true, true, false, false, true, true, false, false, false, false] rfl rfl (any_of HT_.out (by kernel_rfl)) (fun _ _ _ h => h) (Or.inl ⟨by rfl, ?_⟩) ?_ ?_
                   rotate_left
                   ·intro w'
                    go_simp
                    with_reducible rfl
                   rotate_left
                   ·simp only [Act.put, List.setIfInBounds_toArray, List.set_cons_zero, List.set_cons_succ, i64_w, i32_w]
                    rfl
                   refine one_ (i := 14) (N := some 87) #[true, true, true, true, true, true, true, true, true, true, true, true, true, true, true, false, true, true, false, false, true, true, false, false, false, false] rfl rfl (one_of HT_.out (by kernel_rfl)) (by decide) (fun K hK => ?_)
                   refine goes_ Try.func160 (by kernel_rfl) rfl #[.int .i64 ((rd_T135 l0_2 x7_3).f3), .int .i64 1] (by rfl) rfl rfl zS ?_
                   with_reducible refine (spec_l01Put.calls k3 ((rd_T135 l0_2 x7_3).f3) 1 t270 _ A36.out).mono ?_
                   rintro e w52 ⟨rfl, hb⟩
                   refine ⟨_, rfl, ?_⟩
                   have n0_ := zQ (zL BK251.out hb)
                   have n1_ := zQ (zL BK266.out hb)
                   have n2_ := zQ (below_step (zB HB.out) hb)
                   clear BK251
                   clear BK266
                   clear HB
                   have BK251 := n0_
                   have BK266 := n1_
                   have HB := n2_
                   clear n0_ n1_ n2_
                   (try clear hb)
                   (try clear hb2)
                   (try clear hk)
                   (try clear hi)
                   refine hK.out _ _ (zd6 BK266.out) (fun hHeld => ?_)
                   clear hK K
                   refine norm_ (a' := ?_) ?_ ?_
                   rotate_left
                   ·show Act.put _ (some 87) _ = _
                    simp only [Act.put, List.setIfInBounds_toArray, List.set_cons_zero, List.set_cons_succ, i64_w, i32_w]
                    rfl
                   refine pure_ (i := 15) (N := some 88) (v := ?_) (a' := ?_) #[true, true, true, true, true, true, true, true, true, true, true, true, true, true, true, true, true, true, false, false, true, true, false, false, false, false] rfl rfl (any_of HT_.out (by kernel_rfl)) (fun _ _ _ h => h) (Or.inl ⟨by rfl, ?_⟩) ?_ ?_
                   rotate_left
                   ·intro w'
                    go_simp
                    with_reducible rfl
                   rotate_left
                   ·simp only [Act.put, List.setIfInBounds_toArray, List.set_cons_zero, List.set_cons_succ, i64_w, i32_w]
                    rfl
                   refine one_ (i := 18) (N := some 91) #[true, true, true, true, true, true, true, true, true, true, true, true, true, true, true, true, true, true, true, false, true, true, false, false, false, false] rfl rfl (one_of HT_.out (by kernel_rfl)) (by decide) (fun K hK => ?_)
                   refine goes_ Try.func160 (by kernel_rfl) rfl #[.int .i64 ((rd_T135 l0_2 x7_3).f4), .int .i64 1] (by rfl) rfl rfl zS ?_
                   with_reducible refine (spec_l01Put.calls k3 ((rd_T135 l0_2 x7_3).f4) 1 t271 _ A38.out).mono ?_
                   rintro e w53 ⟨rfl, hb⟩
                   refine ⟨_, rfl, ?_⟩
                   have n0_ := zQ (zL BK251.out hb)
                   have n1_ := zQ (zL BK266.out hb)
                   have n2_ := zQ (below_step (zB HB.out) hb)
                   clear BK251
                   clear BK266
                   clear HB
                   have BK251 := n0_
                   have BK266 := n1_
                   have HB := n2_
                   clear n0_ n1_ n2_
                   (try clear hb)
                   (try clear hb2)
                   (try clear hk)
                   (try clear hi)
                   refine hK.out _ _ (zd6 BK266.out) (fun hHeld => ?_)
                   clear hK K
                   refine norm_ (a' := ?_) ?_ ?_
                   rotate_left
                   ·show Act.put _ (some 91) _ = _
                    simp only [Act.put, List.setIfInBounds_toArray, List.set_cons_zero, List.set_cons_succ, i64_w, i32_w]
                    rfl
                   refine pure_ (i := 19) (N := some 92) (v := ?_) (a' := ?_) #[true, true, true, true, true, true, true, true, true, true, true, true, true, true, true, true, true, true, true, true, true, true, false, false, false, false] rfl rfl (any_of HT_.out (by kernel_rfl)) (fun _ _ _ h => h) (Or.inl ⟨by rfl, ?_⟩) ?_ ?_
                   rotate_left
                   ·intro w'
                    go_simp
                    with_reducible rfl
                   rotate_left
                   ·simp only [Act.put, List.setIfInBounds_toArray, List.set_cons_zero, List.set_cons_succ, i64_w, i32_w]
                    rfl
                   refine one_ (i := 22) (N := some 95) #[true, true, true, true, true, true, true, true, true, true, true, true, true, true, true, true, true, true, true, true, true, true, true, false, false, false] rfl rfl (one_of HT_.out (by kernel_rfl)) (by decide) (fun K hK => ?_)
                   refine goes_ Try.func160 (by kernel_rfl) rfl #[.int .i64 ((rd_T135 l0_2 x7_3).f5), .int .i64 1] (by rfl) rfl rfl zS ?_
                   with_reducible refine (spec_l01Put.calls k3 ((rd_T135 l0_2 x7_3).f5) 1 t272 _ A40.out).mono ?_
                   rintro e w54 ⟨rfl, hb⟩
                   refine ⟨_, rfl, ?_⟩
                   have n0_ := zQ (zL BK251.out hb)
                   have n1_ := zQ (zL BK266.out hb)
                   have n2_ := zQ (below_step (zB HB.out) hb)
                   clear BK251
                   clear BK266
                   clear HB
                   have BK251 := n0_
                   have BK266 := n1_
                   have HB := n2_
                   clear n0_ n1_ n2_
                   (try clear hb)
                   (try clear hb2)
                   (try clear hk)
                   (try clear hi)
                   refine hK.out _ _ (zd6 BK266.out) (fun hHeld => ?_)
                   clear hK K
                   refine norm_ (a' := ?_) ?_ ?_
                   rotate_left
                   ·show Act.put _ (some 95) _ = _
                    simp only [Act.put, List.setIfInBounds_toArray, List.set_cons_zero, List.set_cons_succ, i64_w, i32_w]
                    rfl
                   refine pure_ (i := 23) (N := some 96) (v := ?_) (a' := ?_) #[true, true, true, true, true, true, true, true, true, true, true, true, true, true, true, true, true, true, true, true, true, true, true, true, false, false] rfl rfl (any_of HT_.out (by kernel_rfl)) (fun _ _ _ h => h) (Or.inl ⟨by rfl, ?_⟩) ?_ ?_
                   rotate_left
                   ·intro w'
                    go_simp
                    with_reducible rfl
                   rotate_left
                   ·simp only [Act.put, List.setIfInBounds_toArray, List.set_cons_zero, List.set_cons_succ, i64_w, i32_w]
                    rfl
                   refine pure_ (i := 24) (N := some 97) (v := ?_) (a' := ?_) #[true, true, true, true, true, true, true, true, true, true, true, true, true, true, true, true, true, true, true, true, true, true, true, true, true, false] rfl rfl (any_of HT_.out (by kernel_rfl)) (fun _ _ _ h => h) (Or.inl ⟨by rfl, ?_⟩) ?_ ?_
                   rotate_left
                   ·intro w'
                    go_simp
                    with_reducible rfl
                   rotate_left
                   ·simp only [Act.put, List.setIfInBounds_toArray, List.set_cons_zero, List.set_cons_succ, i64_w, i32_w]
                    rfl
                   refine pure_ (i := 25) (N := some 3) (v := ?_) (a' := ?_) #[true, true, true, true, true, true, true, true, true, true, true, true, true, true, true, true, true, true, true, true, true, true, true, true, true, true] rfl rfl (any_of HT_.out (by kernel_rfl)) (fun _ _ _ h => h) (Or.inl ⟨by rfl, ?_⟩) ?_ ?_
                   rotate_left
                   ·intro w'
                    go_simp
                    with_reducible rfl
                   rotate_left
                   ·simp only [Act.put, List.setIfInBounds_toArray, List.set_cons_zero, List.set_cons_succ, i64_w, i32_w]
                    rfl
                   refine done_ (done_of HT_.out (by kernel_rfl)) ?_
                   try go_wp2
                   go_roundg k3
                   case measure => have := HK1.out; have := HK2.out; have := HK3.out; omega
                   case rel => exact ⟨(x3_3 ++ (((((t267 ++ t268) ++ t269) ++ t270) ++ t271) ++ t272)), (wrap64 (x7_3 + 1)), (by first | rfl | (simp; done) | (simp [*]; done)), (by first | rfl | (simp; done) | (simp [*]; done)), H', ⟨by have := HK1.out; have := HK2.out; have := HK3.out; omega⟩, ⟨by (with_reducible repeat (first | refine blk_drewN ?_ _ | refine blk_drew ?_ | refine blk_alloc ?_ _)); exact BK251.out⟩, ⟨zB HB.out⟩⟩
                  ·rw [if_neg c42] at H
                   exact absurd H (by simp)
                 ·rw [if_neg c41] at H
                  exact absurd H (by simp)
                ·rw [if_neg c39] at H
                 exact absurd H (by simp)
               ·rw [if_neg c37] at H
                exact absurd H (by simp)
              ·rw [if_neg c35] at H
               exact absurd H (by simp)
             ·rw [if_neg c33] at H
              exact absurd H (by simp)
            ·rw [if_neg c30] at H
             exact absurd H (by simp)
           ·rw [if_neg c29] at H
            have c29b0 : decide (x7_3 < (l0_2.length : Int)) = false := decide_eq_false c29
            clear c29
            replace H := Option.bind_eq_some_iff.mp H
            obtain ⟨t260, A550, H⟩ := H
            replace H : ((some (([(t260) % 256] : List Int) : List Int)).bind fun y261 => (if x3_3.size + (strOfNums y261).size ≤ 9223372036854775807 then ((spec_l01Frame.f k3 (x3_3 ++ (strOfNums y261))).bind fun t264 => (some t264)) else (none))) = some r := H
            have A55 := zQ A550
            clear A550
            obtain ⟨y261, hy261⟩ : ∃ y_ : List Int, y_ = (([(t260) % 256] : List Int)) := ⟨_, rfl⟩
            replace H : (if x3_3.size + (strOfNums y261).size ≤ 9223372036854775807 then ((spec_l01Frame.f k3 (x3_3 ++ (strOfNums y261))).bind fun t264 => (some t264)) else (none)) = some r := by first | (rw [hy261]; with_reducible exact H) | (have H2_ := (Option.bind_some _ _).symm.trans H; rw [hy261]; with_reducible exact H2_) | (have H2_ := (Option.bind_some _ _).symm.trans H; with_reducible exact H2_) | with_reducible exact H | (rw [hy261]; exact H) | exact H
            have Ny261 := zQ hy261
            clear hy261
            by_cases c56 : x3_3.size + (strOfNums y261).size ≤ 9223372036854775807
            ·rw [if_pos c56] at H
             have c56b0 := eq_true c56
             have c56b1 : decide (x3_3.size + (strOfNums y261).size ≤ 9223372036854775807) = true := decide_eq_true c56
             try have c56b2 : (9223372036854775807 < x3_3.size + (strOfNums y261).size) = False := eq_false (Nat.not_lt.2 c56)
             replace H := Option.bind_eq_some_iff.mp H
             obtain ⟨t264, A570, H⟩ := H
             replace H : (some t264) = some r := H
             have A57 := zQ A570
             clear A570
             obtain rfl := Option.some.inj H
             obtain ⟨hcz58_0, hcz58_1, hcz58_2, hcz58_3, hfz58_0, hfz58_1, hfz58_2, hfz58_3⟩ := zc4 BK251.out
             go_wp2_with (first | ((with_reducible refine gate_callee (f := 163) rfl ?_); refine goesL_ (some 101) rfl rfl Try.func163 (by kernel_rfl) rfl #[.slice A0_3 l0_3.length c0_3] rfl zS ?_; (with_reducible refine (spec_l08Bits.calls k3 _ _ l0_3 t260 _ ?side1 ?side2 A55.out).mono ?_); (case side1 => exact zE HR0_3 HB); (case side2 => exact HC0_3.out); rintro e w' ⟨rfl, ⟨nd, rfl⟩⟩; refine ⟨_, rfl, ?_⟩) | ((with_reducible refine gate_dst (N := 103) rfl ?_); refine Kd.R_lit (Kd.int .u8) _ 5 ?hg (N := 103) ?hd (xs := ([(t260) % 256] : List Int)) (inner := [.int .u8 ((t260) % 256)]) (ok := fun _ => True) (okp := fun _ => True) ?hr ?hp (fun _ hk => hk) trivial (Below.refl _ _) (Nat.le_refl _) (by simp) ?_; (case hd => rfl); (case hg => rfl); (case hr => first | (go_simp; done) | (go_simp; rfl)); (case hp => exact (Reps.one (show Kd.M (Kd.int .u8) _ _ _ ((t260) % 256) [.int .u8 ((t260) % 256)] from rfl) (Reps.none _ _))); intro v262 w59 ho60 hb hg_ hnew_; clear hg_ hnew_; (first | rw [← Ny261.out] at ho60 | (simp only [Int.reduceToNat] at ho60; rw [← Ny261.out] at ho60)); have n0_ := zQ (Kd.R_lower ho60 (below_size (zB HB.out))); have n1_ := zQ (zL BK251.out hb); have n2_ := zQ (below_step (zB HB.out) hb); clear BK251; clear HB; have HO263 := n0_; have BK251 := n1_; have HB := n2_; clear n0_ n1_ n2_; clear hb ho60; have hcv61 := own_string (P := Try.prog) Try.underlying195 Try.underlying5 Try.underlying9 (Kd.own_of_R HO263.out)) | ((with_reducible refine gate_callee (f := 162) rfl ?_); refine goesL_ (some 106) rfl rfl Try.func162 (by kernel_rfl) rfl #[.string (x3_3 ++ (strOfNums y261))] rfl zS ?_; (with_reducible refine (spec_l01Frame.calls k3 (x3_3 ++ (strOfNums y261)) t264 _ A57.out).mono ?_); rintro e w62 ⟨rfl, hb⟩; refine ⟨_, rfl, ?_⟩; have n0_ := zQ (Kd.R_below (zR HO263.out) hb); have n1_ := zQ (zL BK251.out hb); have n2_ := zQ (below_step (zB HB.out) hb); clear HO263; clear BK251; clear HB; have HO263 := n0_; have BK251 := n1_; have HB := n2_; clear n0_ n1_ n2_; (try clear hb); (try clear hb2); (try clear hk); (try clear hi)))
             go_ret
             exact ⟨by first | rfl | (simp [errW_none, errW_some] <;> rfl) | (simp [*, errW_none, errW_some] <;> rfl), zB HB.out⟩
            ·rw [if_neg c56] at H
             exact absurd H (by simp)
        ·rw [if_neg c26] at H
         exact absurd H (by simp)
    ·rw [if_neg c13] at H
     exact absurd H (by simp)

end Go.Proofs.Ytkegjmkdnfpfdaa.MFnExactImageText
