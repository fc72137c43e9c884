-- By a program of this session.
import Derived.Test.YtkegjmkdnfpfdaaMFnExactImageTextx0
import Derived.Test.YtkegjmkdnfpfdaaMFnExactImageTextx24
namespace Go.Proofs.Ytkegjmkdnfpfdaa.MFnExactImageText
open Go.RowKit Go.Proofs.YtkegjmkdnfpfdaaW.PrintWords Go.Proofs.YtkegjmkdnfpfdaaW.PrintLast Go.Proofs.YtkegjmkdnfpfdaaW.PrintMore
attribute [local go_sem] max2_int min2_int max_two min_two max_three min_three max_four min_four
set_option linter.unusedVariables false
set_option linter.unusedSimpArgs false
set_option maxHeartbeats 8000000
set_option maxRecDepth 100000

/-! ### spec_l01Frame: function 162 -/
def spec_l01Frame.f (k : Nat) (a0 : ByteArray) : Option (ByteArray) := (spec_l01Put.f k (a0.size : Int) 4).bind fun t246 => (if 4 + t246.size ≤ 9223372036854775807 then (if ((⟨#[80, 76, 67, 49]⟩ : ByteArray) ++ t246).size + a0.size ≤ 9223372036854775807 then ((spec_l01Sum.f k (((⟨#[80, 76, 67, 49]⟩ : ByteArray) ++ t246) ++ a0)).bind fun t247 => ((spec_l01Put.f k t247 2).bind fun t248 => (if (((⟨#[80, 76, 67, 49]⟩ : ByteArray) ++ t246) ++ a0).size + t248.size ≤ 9223372036854775807 then (some ((((⟨#[80, 76, 67, 49]⟩ : ByteArray) ++ t246) ++ a0) ++ t248)) else (none)))) else (none)) else (none))
theorem spec_l01Frame.mono : ∀ a0 k, LeO (spec_l01Frame.f k a0) (spec_l01Frame.f (k + 1) a0) := by
 intro a0 k
 unfold spec_l01Frame.f
 repeat' first
  | (with_reducible exact spec_l01Put.mono _ _ _)
  | (with_reducible exact spec_l01Sum.mono _ _)
  | (with_reducible exact LeO.refl _)
  | (with_reducible exact LeO.none _)
  | (with_reducible refine LeO.ite ?_ ?_)
  | (with_reducible refine LeO.bind ?_ (fun _ => ?_))
theorem spec_l01Frame.calls (k : Nat) (a0 : ByteArray) (r : ByteArray) (w : World) (h : spec_l01Frame.f k a0 = some r) :
 Calls Try.prog 162 #[.string a0] w fun e w' => e = .returned (.string r) ∧ Below w.heap.size w w' := by
 have HB := zQ (Below.refl w.heap.size w)
 have H : ((spec_l01Put.f k (a0.size : Int) 4).bind fun t246 => (if 4 + t246.size ≤ 9223372036854775807 then (if ((⟨#[80, 76, 67, 49]⟩ : ByteArray) ++ t246).size + a0.size ≤ 9223372036854775807 then ((spec_l01Sum.f k (((⟨#[80, 76, 67, 49]⟩ : ByteArray) ++ t246) ++ a0)).bind fun t247 => ((spec_l01Put.f k t247 2).bind fun t248 => (if (((⟨#[80, 76, 67, 49]⟩ : ByteArray) ++ t246) ++ a0).size + t248.size ≤ 9223372036854775807 then (some ((((⟨#[80, 76, 67, 49]⟩ : ByteArray) ++ t246) ++ a0) ++ t248)) else (none)))) else (none)) else (none))) = some r := h
 clear h
 replace H := Option.bind_eq_some_iff.mp H
 obtain ⟨t246, A20, H⟩ := H
 replace H : (if 4 + t246.size ≤ 9223372036854775807 then (if ((⟨#[80, 76, 67, 49]⟩ : ByteArray) ++ t246).size + a0.size ≤ 9223372036854775807 then ((spec_l01Sum.f k (((⟨#[80, 76, 67, 49]⟩ : ByteArray) ++ t246) ++ a0)).bind fun t247 => ((spec_l01Put.f k t247 2).bind fun t248 => (if (((⟨#[80, 76, 67, 49]⟩ : ByteArray) ++ t246) ++ a0).size + t248.size ≤ 9223372036854775807 then (some ((((⟨#[80, 76, 67, 49]⟩ : ByteArray) ++ t246) ++ a0) ++ t248)) else (none)))) else (none)) else (none)) = some r := H
 have A2 := zQ A20
 clear A20
 by_cases c3 : 4 + t246.size ≤ 9223372036854775807
 ·rw [if_pos c3] at H
  have c3b0 := eq_true c3
  have c3b1 : decide (4 + t246.size ≤ 9223372036854775807) = true := decide_eq_true c3
  try have c3b2 : (9223372036854775807 < 4 + t246.size) = False := eq_false (Nat.not_lt.2 c3)
  by_cases c4 : ((⟨#[80, 76, 67, 49]⟩ : ByteArray) ++ t246).size + a0.size ≤ 9223372036854775807
  ·rw [if_pos c4] at H
   have c4b0 := eq_true c4
   have c4b1 : decide (((⟨#[80, 76, 67, 49]⟩ : ByteArray) ++ t246).size + a0.size ≤ 9223372036854775807) = true := decide_eq_true c4
   try have c4b2 : (9223372036854775807 < ((⟨#[80, 76, 67, 49]⟩ : ByteArray) ++ t246).size + a0.size) = False := eq_false (Nat.not_lt.2 c4)
   (try have c4q := c4b2)
   (try simp only [ByteArray.size_append] at c4q)
   (try rw [show (⟨#[80, 76, 67, 49]⟩ : ByteArray).size = 4 from rfl] at c4q)
   replace H := Option.bind_eq_some_iff.mp H
   obtain ⟨t247, A50, H⟩ := H
   replace H : ((spec_l01Put.f k t247 2).bind fun t248 => (if (((⟨#[80, 76, 67, 49]⟩ : ByteArray) ++ t246) ++ a0).size + t248.size ≤ 9223372036854775807 then (some ((((⟨#[80, 76, 67, 49]⟩ : ByteArray) ++ t246) ++ a0) ++ t248)) else (none))) = some r := H
   have A5 := zQ A50
   clear A50
   replace H := Option.bind_eq_some_iff.mp H
   obtain ⟨t248, A60, H⟩ := H
   replace H : (if (((⟨#[80, 76, 67, 49]⟩ : ByteArray) ++ t246) ++ a0).size + t248.size ≤ 9223372036854775807 then (some ((((⟨#[80, 76, 67, 49]⟩ : ByteArray) ++ t246) ++ a0) ++ t248)) else (none)) = some r := H
   have A6 := zQ A60
   clear A60
   by_cases c7 : (((⟨#[80, 76, 67, 49]⟩ : ByteArray) ++ t246) ++ a0).size + t248.size ≤ 9223372036854775807
   ·rw [if_pos c7] at H
    have c7b0 := eq_true c7
    have c7b1 : decide ((((⟨#[80, 76, 67, 49]⟩ : ByteArray) ++ t246) ++ a0).size + t248.size ≤ 9223372036854775807) = true := decide_eq_true c7
    try have c7b2 : (9223372036854775807 < (((⟨#[80, 76, 67, 49]⟩ : ByteArray) ++ t246) ++ a0).size + t248.size) = False := eq_false (Nat.not_lt.2 c7)
    (try have c7q := c7b2)
    (try simp only [ByteArray.size_append] at c7q)
    (try rw [show (⟨#[80, 76, 67, 49]⟩ : ByteArray).size = 4 from rfl] at c7q)
    obtain rfl := Option.some.inj H
    go_enter Try.func162, Try.ntmps162
    go_wp2_with (first | ((with_reducible refine gate_callee (f := 160) rfl ?_); refine goesL_ (some 6) rfl rfl Try.func160 (by kernel_rfl) rfl #[.int .i64 (a0.size : Int), .int .i64 4] rfl zS ?_; (with_reducible refine (spec_l01Put.calls k (a0.size : Int) 4 t246 _ A2.out).mono ?_); rintro e w8 ⟨rfl, hb⟩; refine ⟨_, rfl, ?_⟩; have n0_ := zQ (below_step (zB HB.out) hb); clear HB; have HB := n0_; clear n0_; (try clear hb); (try clear hb2); (try clear hk); (try clear hi)) | ((with_reducible refine gate_callee (f := 217) rfl ?_); refine goesL_ (some 12) rfl rfl Try.func217 (by kernel_rfl) rfl #[.string (((⟨#[80, 76, 67, 49]⟩ : ByteArray) ++ t246) ++ a0)] rfl zS ?_; (with_reducible refine (spec_l01Sum.calls k (((⟨#[80, 76, 67, 49]⟩ : ByteArray) ++ t246) ++ a0) t247 _ A5.out).mono ?_); rintro e w' ⟨rfl, ⟨nd, rfl⟩⟩; refine ⟨_, rfl, ?_⟩) | ((with_reducible refine gate_callee (f := 160) rfl ?_); refine goesL_ (some 13) rfl rfl Try.func160 (by kernel_rfl) rfl #[.int .i64 t247, .int .i64 2] rfl zS ?_; (with_reducible refine (spec_l01Put.calls k t247 2 t248 _ A6.out).mono ?_); rintro e w9 ⟨rfl, hb⟩; refine ⟨_, rfl, ?_⟩; have n0_ := zQ (below_step (zB HB.out) hb); clear HB; have HB := n0_; clear n0_; (try clear hb); (try clear hb2); (try clear hk); (try clear hi)))
    go_ret
    exact ⟨by first | rfl | (simp [errW_none, errW_some] <;> rfl) | (simp [*, errW_none, errW_some] <;> rfl), zB HB.out⟩
   ·rw [if_neg c7] at H
    exact absurd H (by simp)
  ·rw [if_neg c4] at H
   exact absurd H (by simp)
 ·rw [if_neg c3] at H
  exact absurd H (by simp)

/-! ### spec_l06Bit: function 189 -/
def spec_l06Bit.f (a0 : Bool) : Option (Int) := if a0 = true then (some 1) else (some 0)
theorem spec_l06Bit.calls (a0 : Bool) (r : Int) (w : World) (h : spec_l06Bit.f a0 = some r) :
 Calls Try.prog 189 #[.bool a0] w fun e w' => e = .returned (.int .i64 r) ∧ Drawn0 w w' := by
 have H : (if a0 = true then (some 1) else (some 0)) = some r := h
 clear h
 by_cases c2 : a0 = true
 ·subst c2
  have H1 : (some 1) = some r := by rw [if_pos rfl] at H; exact H
  clear H
  have H := H1
  clear H1
  obtain rfl := Option.some.inj H
  go_enter Try.func189, Try.ntmps189
  go_wp2
  go_ret
  exact ⟨by first | rfl | (simp; done) | (simp [*]; done), zD⟩
 ·replace c2 := Bool.eq_false_iff.mpr c2
  subst c2
  have H1 : (some 0) = some r := by rw [if_neg (show ¬ (false = true) by decide)] at H; exact H
  clear H
  have H := H1
  clear H1
  obtain rfl := Option.some.inj H
  go_enter Try.func189, Try.ntmps189
  go_wp2
  go_ret
  exact ⟨by first | rfl | (simp; done) | (simp [*]; done), zD⟩

/-! ### spec_l08Bits: function 163 -/
def spec_l08Bits.l0 : Nat → List Bool → Int → Int → Option (Int)
 | 0, _, _, _ => none
 | k + 1, x0, x3, x4 => if x4 ≥ 0 then (if 0 ≤ x4 then (if x4 < (x0.length : Int) then ((spec_l06Bit.f (rdOf false x0 x4)).bind fun t250 => (spec_l08Bits.l0 k x0 (wrap64 ((wrap64 (2 * x3)) + t250)) (wrap64 (x4 - 1)))) else (none)) else (none)) else (some x3)
def spec_l08Bits.f (k : Nat) (l0 : List Bool) : Option (Int) := spec_l08Bits.l0 k l0 0 (wrap64 ((l0.length : Int) - 1))
theorem spec_l08Bits.mono_l : ∀ k, (∀ y0 y1 y2, LeO (spec_l08Bits.l0 k y0 y1 y2) (spec_l08Bits.l0 (k + 1) y0 y1 y2))
 | 0 => fun _ _ _ r h => by simp [spec_l08Bits.l0] at h
 | k + 1 => by
  have ih0 := spec_l08Bits.mono_l k
  ·intro y0 y1 y2
   unfold spec_l08Bits.l0
   repeat' first
   | (with_reducible exact ih0 _ _ _)
   | (with_reducible exact LeO.refl _)
   | (with_reducible exact LeO.none _)
   | (with_reducible refine LeO.ite ?_ ?_)
   | (with_reducible refine LeO.bind ?_ (fun _ => ?_))
theorem spec_l08Bits.mono : ∀ a0 k, LeO (spec_l08Bits.f k a0) (spec_l08Bits.f (k + 1) a0) := by
 intro a0 k
 have ih0 := spec_l08Bits.mono_l k
 unfold spec_l08Bits.f
 repeat' first
  | (with_reducible exact ih0 _ _ _)
  | (with_reducible exact LeO.refl _)
  | (with_reducible exact LeO.none _)
  | (with_reducible refine LeO.ite ?_ ?_)
  | (with_reducible refine LeO.bind ?_ (fun _ => ?_))
theorem spec_l08Bits.calls (k : Nat) (A0 : Option Addr) (c0 : Nat) (l0 : List Bool) (r : Int) (w : World) (hr0 : Kd.C Kd.bool w A0 l0.length l0) (hc0 : l0.length ≤ c0) (h : spec_l08Bits.f k l0 = some r) :
 Calls Try.prog 163 #[.slice A0 l0.length c0] w fun e w' => e = .returned (.int .i64 r) ∧ Drawn0 w w' := by
 have HR0 := zQ hr0
 have HC0 := zQ hc0
 clear hr0 hc0
 have H : (spec_l08Bits.l0 k l0 0 (wrap64 ((l0.length : Int) - 1))) = some r := h
 clear h
 have H' := zQ H
 clear H
 go_enter Try.func163, Try.ntmps163
 go_wp2
 go_loopg [3, 4] k (fun kq v3 v4 w' => ∃ (x3_1 : Int) (x4_1 : Int), v3 = .int .i64 x3_1 ∧ v4 = .int .i64 x4_1 ∧ Aside0 (spec_l08Bits.l0 kq l0 x3_1 x4_1 = some r) ∧ Aside0 (kq ≤ k) ∧ Drawn0 w w')
 case atStart => exact ⟨(0), (wrap64 ((l0.length : Int) - 1)), (by first | rfl | (simp; done) | (simp [*]; done)), (by first | rfl | (simp; done) | (simp [*]; done)), H', ⟨Nat.le_refl _⟩, zD⟩
 case round =>
  clear H'
  try clear c1
  obtain ⟨x3_1, x4_1, rfl, rfl, HA, HK1, ⟨m1, rfl⟩⟩ := hrel
  cases gk with
  | zero => exact absurd HA.out (by simp [spec_l08Bits.l0])
  | succ k1 =>
   have H := HA.out
   clear HA
   simp only [spec_l08Bits.l0] at H
   by_cases c2 : x4_1 ≥ 0
   ·rw [if_pos c2] at H
    have c2b0 : decide (0 ≤ x4_1) = true := decide_eq_true c2
    clear c2
    by_cases c3 : 0 ≤ x4_1
    ·rw [if_pos c3] at H
     have c3b0 : decide (0 ≤ x4_1) = true := decide_eq_true c3
     clear c3
     by_cases c4 : x4_1 < (l0.length : Int)
     ·rw [if_pos c4] at H
      have c4b0 : decide (x4_1 < (l0.length : Int)) = true := decide_eq_true c4
      clear c4
      replace H := Option.bind_eq_some_iff.mp H
      obtain ⟨t250, A50, H⟩ := H
      replace H : (spec_l08Bits.l0 k1 l0 (wrap64 ((wrap64 (2 * x3_1)) + t250)) (wrap64 (x4_1 - 1))) = some r := H
      have A5 := zQ A50
      clear A50
      have H' := zQ H
      clear H
      have p249 : 0 ≤ (x4_1 : Int) := zA
      have q249 : x4_1 < (l0.length : Int) := zA
      obtain ⟨ad249, e249, hx249_0⟩ := Kd.at_bool HR0.out x4_1 p249 q249
      cases e249
      replace p249 := eq_true p249
      replace q249 := eq_true q249
      go_wp2_with (first | ((with_reducible refine gate_callee (f := 189) rfl ?_); refine goesL_ (some 18) rfl rfl Try.func189 (by kernel_rfl) rfl #[.bool (rdOf false l0 x4_1)] rfl zS ?_; (with_reducible refine (spec_l06Bit.calls (rdOf false l0 x4_1) t250 _ A5.out).mono ?_); rintro e w' ⟨rfl, ⟨nd, rfl⟩⟩; refine ⟨_, rfl, ?_⟩))
      go_roundg k1
      case measure => have := HK1.out; omega
      case rel => exact ⟨(wrap64 ((wrap64 (2 * x3_1)) + t250)), (wrap64 (x4_1 - 1)), (by first | rfl | (simp; done) | (simp [*]; done)), (by first | rfl | (simp; done) | (simp [*]; done)), H', ⟨by have := HK1.out; omega⟩, zD⟩
     ·rw [if_neg c4] at H
      exact absurd H (by simp)
    ·rw [if_neg c3] at H
     exact absurd H (by simp)
   ·rw [if_neg c2] at H
    have c2b0 : decide (0 ≤ x4_1) = false := decide_eq_false c2
    clear c2
    obtain rfl := Option.some.inj H
    go_wp2
    go_ret
    exact ⟨by first | rfl | (simp; done) | (simp [*]; done), zD⟩

end Go.Proofs.Ytkegjmkdnfpfdaa.MFnExactImageText
