-- By a program of this session.
import Derived.Test.YtkegjmkdnfpfdaaMFnExactImageTextx0
import Derived.Test.YtkegjmkdnfpfdaaMFnExactImageTextx27
import Derived.Test.YtkegjmkdnfpfdaaMFnExactImageTextx39
import Derived.Test.YtkegjmkdnfpfdaaMFnExactImageTextx40
namespace Go.Proofs.Ytkegjmkdnfpfdaa.MFnExactImageText
open Go.RowKit Go.Proofs.YtkegjmkdnfpfdaaW.PrintWords Go.Proofs.YtkegjmkdnfpfdaaW.PrintLast Go.Proofs.YtkegjmkdnfpfdaaW.PrintMore
attribute [local go_sem] max2_int min2_int max_two min_two max_three min_three max_four min_four
set_option linter.unusedVariables false
set_option linter.unusedSimpArgs false
set_option maxHeartbeats 8000000
set_option maxRecDepth 100000

/-! ### impl_SumOf: function 183 -/
def impl_SumOf.l0 : Nat → ByteArray → Int → Int → Int → Option (Int)
 | 0, _, _, _, _ => none
 | k + 1, x0, x3, x9, x10 => if x10 < x9 then (if 0 ≤ x10 then (if x10 < (x0.size : Int) then (impl_SumOf.l0 k x0 (Int.tmod (wrap64 ((wrap64 (31 * x3)) + (wrap64 (bt x0 x10)))) 32749) x9 (wrap64 (x10 + 1))) else (none)) else (none)) else (some x3)
def impl_SumOf.f (k : Nat) (a0 : ByteArray) : Option (Int) := if (a0.size : Int) > 65536 then (some 0) else (impl_SumOf.l0 k a0 1 (a0.size : Int) 0)
theorem impl_SumOf.mono_l : ∀ k, (∀ y0 y1 y2 y3, LeO (impl_SumOf.l0 k y0 y1 y2 y3) (impl_SumOf.l0 (k + 1) y0 y1 y2 y3))
 | 0 => fun _ _ _ _ r h => by simp [impl_SumOf.l0] at h
 | k + 1 => by
  have ih0 := impl_SumOf.mono_l k
  ·intro y0 y1 y2 y3
   unfold impl_SumOf.l0
   repeat' first
   | (with_reducible exact ih0 _ _ _ _)
   | (with_reducible exact LeO.refl _)
   | (with_reducible exact LeO.none _)
   | (with_reducible refine LeO.ite ?_ ?_)
   | (with_reducible refine LeO.bind ?_ (fun _ => ?_))
theorem impl_SumOf.mono : ∀ a0 k, LeO (impl_SumOf.f k a0) (impl_SumOf.f (k + 1) a0) := by
 intro a0 k
 have ih0 := impl_SumOf.mono_l k
 unfold impl_SumOf.f
 repeat' first
  | (with_reducible exact ih0 _ _ _ _)
  | (with_reducible exact LeO.refl _)
  | (with_reducible exact LeO.none _)
  | (with_reducible refine LeO.ite ?_ ?_)
  | (with_reducible refine LeO.bind ?_ (fun _ => ?_))
theorem impl_SumOf.calls (k : Nat) (a0 : ByteArray) (r : Int) (w : World) (h : impl_SumOf.f k a0 = some r) :
 Calls Try.prog 183 #[.string a0] w fun e w' => e = .returned (.int .i64 r) ∧ Drawn0 w w' := by
 have H : (if (a0.size : Int) > 65536 then (some 0) else (impl_SumOf.l0 k a0 1 (a0.size : Int) 0)) = some r := h
 clear h
 by_cases c2 : (a0.size : Int) > 65536
 ·rw [if_pos c2] at H
  have c2b0 : decide (65536 < (a0.size : Int)) = true := decide_eq_true c2
  have c2b1 : decide (65536 < a0.size) = true := decide_eq_true (by omega)
  clear c2
  obtain rfl := Option.some.inj H
  go_enter Try.func183, Try.ntmps183
  go_wp2
  go_ret
  exact ⟨by first | rfl | (simp; done) | (simp [*]; done), zD⟩
 ·rw [if_neg c2] at H
  have c2b0 : decide (65536 < (a0.size : Int)) = false := decide_eq_false c2
  have c2b1 : decide (65536 < a0.size) = false := decide_eq_false (by omega)
  clear c2
  have H' := zQ H
  clear H
  go_enter Try.func183, Try.ntmps183
  go_wp2
  go_loopg [3, 10] k (fun kq v3 v10 w' => ∃ (x3_1 : Int) (x10_1 : Int), v3 = .int .i64 x3_1 ∧ v10 = .int .i64 x10_1 ∧ Aside0 (impl_SumOf.l0 kq a0 x3_1 (a0.size : Int) x10_1 = some r) ∧ Aside0 (kq ≤ k) ∧ Drawn0 w w')
  case atStart => exact ⟨(1), (0), (by first | rfl | (simp; done) | (simp [*]; done)), (by first | rfl | (simp; done) | (simp [*]; done)), H', ⟨Nat.le_refl _⟩, zD⟩
  case round =>
   clear H'
   try clear c1
   try clear c2
   try clear c2b0
   try clear c2b1
   try clear p2
   obtain ⟨x3_1, x10_1, rfl, rfl, HA, HK1, ⟨m1, rfl⟩⟩ := hrel
   cases gk with
   | zero => exact absurd HA.out (by simp [impl_SumOf.l0])
   | succ k1 =>
    have H := HA.out
    clear HA
    simp only [impl_SumOf.l0] at H
    by_cases c3 : x10_1 < (a0.size : Int)
    ·rw [if_pos c3] at H
     have c3b0 : decide (x10_1 < (a0.size : Int)) = true := decide_eq_true c3
     clear c3
     by_cases c4 : 0 ≤ x10_1
     ·rw [if_pos c4] at H
      have c4b0 : decide (0 ≤ x10_1) = true := decide_eq_true c4
      clear c4
      by_cases c5 : x10_1 < (a0.size : Int)
      ·rw [if_pos c5] at H
       have c5b0 : decide (x10_1 < (a0.size : Int)) = true := decide_eq_true c5
       clear c5
       have H' := zQ H
       clear H
       have p6 : 0 ≤ (x10_1 : Int) := zA
       have q6 : x10_1 < (a0.size : Int) := zA
       have hx6 := bt_at a0 x10_1
       replace p6 := eq_true p6
       replace q6 := eq_true q6
       go_wp2
       go_roundg k1
       case measure => have := HK1.out; omega
       case rel => exact ⟨(Int.tmod (wrap64 ((wrap64 (31 * x3_1)) + (wrap64 (bt a0 x10_1)))) 32749), (wrap64 (x10_1 + 1)), (by first | rfl | (simp; done) | (simp [*]; done)), (by first | rfl | (simp; done) | (simp [*]; done)), H', ⟨by have := HK1.out; omega⟩, zD⟩
      ·rw [if_neg c5] at H
       exact absurd H (by simp)
     ·rw [if_neg c4] at H
      exact absurd H (by simp)
    ·rw [if_neg c3] at H
     have c3b0 : decide (x10_1 < (a0.size : Int)) = false := decide_eq_false c3
     clear c3
     obtain rfl := Option.some.inj H
     go_wp2
     go_ret
     exact ⟨by first | rfl | (simp; done) | (simp [*]; done), zD⟩

/-! ### impl_FrameText: function 114 -/
def impl_FrameText.f (k : Nat) (a0 : ByteArray) : Option (ByteArray × Int) := (impl_long.f a0).bind fun t340 => ((impl_when.f (decide ((a0.size : Int) > 65526)) 8).bind fun t341 => ((impl_first.f k (([t340, t341] : List Int))).bind fun t345 => (if t345 = 0 then ((impl_put.f k (a0.size : Int) 4).bind fun t346 => (if 4 + t346.size ≤ 9223372036854775807 then (if ((⟨#[80, 76, 67, 49]⟩ : ByteArray) ++ t346).size + a0.size ≤ 9223372036854775807 then ((impl_SumOf.f k (((⟨#[80, 76, 67, 49]⟩ : ByteArray) ++ t346) ++ a0)).bind fun t347 => ((impl_put.f k t347 2).bind fun t348 => (if (((⟨#[80, 76, 67, 49]⟩ : ByteArray) ++ t346) ++ a0).size + t348.size ≤ 9223372036854775807 then (some ((((⟨#[80, 76, 67, 49]⟩ : ByteArray) ++ t346) ++ a0) ++ t348, 0)) else (none)))) else (none)) else (none))) else (some ((⟨#[]⟩ : ByteArray), t345)))))
theorem impl_FrameText.mono : ∀ a0 k, LeO (impl_FrameText.f k a0) (impl_FrameText.f (k + 1) a0) := by
 intro a0 k
 unfold impl_FrameText.f
 repeat' first
  | (with_reducible exact impl_SumOf.mono _ _)
  | (with_reducible exact impl_first.mono _ _)
  | (with_reducible exact impl_put.mono _ _ _)
  | (with_reducible exact LeO.refl _)
  | (with_reducible exact LeO.none _)
  | (with_reducible refine LeO.ite ?_ ?_)
  | (with_reducible refine LeO.bind ?_ (fun _ => ?_))
theorem impl_FrameText.calls (k : Nat) (a0 : ByteArray) (r1 : ByteArray) (r2 : Int) (w : World) (h : impl_FrameText.f k a0 = some (r1, r2)) :
 Calls Try.prog 114 #[.string a0] w fun e w' => e = .returned (.tuple #[.string r1, .int .i64 r2]) ∧ Below w.heap.size w w' := by
 have HB := zQ (Below.refl w.heap.size w)
 have H : ((impl_long.f a0).bind fun t340 => ((impl_when.f (decide ((a0.size : Int) > 65526)) 8).bind fun t341 => ((impl_first.f k (([t340, t341] : List Int))).bind fun t345 => (if t345 = 0 then ((impl_put.f k (a0.size : Int) 4).bind fun t346 => (if 4 + t346.size ≤ 9223372036854775807 then (if ((⟨#[80, 76, 67, 49]⟩ : ByteArray) ++ t346).size + a0.size ≤ 9223372036854775807 then ((impl_SumOf.f k (((⟨#[80, 76, 67, 49]⟩ : ByteArray) ++ t346) ++ a0)).bind fun t347 => ((impl_put.f k t347 2).bind fun t348 => (if (((⟨#[80, 76, 67, 49]⟩ : ByteArray) ++ t346) ++ a0).size + t348.size ≤ 9223372036854775807 then (some ((((⟨#[80, 76, 67, 49]⟩ : ByteArray) ++ t346) ++ a0) ++ t348, 0)) else (none)))) else (none)) else (none))) else (some ((⟨#[]⟩ : ByteArray), t345)))))) = some (r1, r2) := h
 clear h
 replace H := Option.bind_eq_some_iff.mp H
 obtain ⟨t340, A20, H⟩ := H
 replace H : ((impl_when.f (decide ((a0.size : Int) > 65526)) 8).bind fun t341 => ((impl_first.f k (([t340, t341] : List Int))).bind fun t345 => (if t345 = 0 then ((impl_put.f k (a0.size : Int) 4).bind fun t346 => (if 4 + t346.size ≤ 9223372036854775807 then (if ((⟨#[80, 76, 67, 49]⟩ : ByteArray) ++ t346).size + a0.size ≤ 9223372036854775807 then ((impl_SumOf.f k (((⟨#[80, 76, 67, 49]⟩ : ByteArray) ++ t346) ++ a0)).bind fun t347 => ((impl_put.f k t347 2).bind fun t348 => (if (((⟨#[80, 76, 67, 49]⟩ : ByteArray) ++ t346) ++ a0).size + t348.size ≤ 9223372036854775807 then (some ((((⟨#[80, 76, 67, 49]⟩ : ByteArray) ++ t346) ++ a0) ++ t348, 0)) else (none)))) else (none)) else (none))) else (some ((⟨#[]⟩ : ByteArray), t345))))) = some (r1, r2) := H
 have A2 := zQ A20
 clear A20
 replace H := Option.bind_eq_some_iff.mp H
 obtain ⟨t341, A30, H⟩ := H
 replace H : ((impl_first.f k (([t340, t341] : List Int))).bind fun t345 => (if t345 = 0 then ((impl_put.f k (a0.size : Int) 4).bind fun t346 => (if 4 + t346.size ≤ 9223372036854775807 then (if ((⟨#[80, 76, 67, 49]⟩ : ByteArray) ++ t346).size + a0.size ≤ 9223372036854775807 then ((impl_SumOf.f k (((⟨#[80, 76, 67, 49]⟩ : ByteArray) ++ t346) ++ a0)).bind fun t347 => ((impl_put.f k t347 2).bind fun t348 => (if (((⟨#[80, 76, 67, 49]⟩ : ByteArray) ++ t346) ++ a0).size + t348.size ≤ 9223372036854775807 then (some ((((⟨#[80, 76, 67, 49]⟩ : ByteArray) ++ t346) ++ a0) ++ t348, 0)) else (none)))) else (none)) else (none))) else (some ((⟨#[]⟩ : ByteArray), t345)))) = some (r1, r2) := H
 have A3 := zQ A30
 clear A30
 obtain ⟨y342, hy342⟩ : ∃ y_ : List Int, y_ = (([t340, t341] : List Int)) := ⟨_, rfl⟩
 replace H : ((impl_first.f k y342).bind fun t345 => (if t345 = 0 then ((impl_put.f k (a0.size : Int) 4).bind fun t346 => (if 4 + t346.size ≤ 9223372036854775807 then (if ((⟨#[80, 76, 67, 49]⟩ : ByteArray) ++ t346).size + a0.size ≤ 9223372036854775807 then ((impl_SumOf.f k (((⟨#[80, 76, 67, 49]⟩ : ByteArray) ++ t346) ++ a0)).bind fun t347 => ((impl_put.f k t347 2).bind fun t348 => (if (((⟨#[80, 76, 67, 49]⟩ : ByteArray) ++ t346) ++ a0).size + t348.size ≤ 9223372036854775807 then (some ((((⟨#[80, 76, 67, 49]⟩ : ByteArray) ++ t346) ++ a0) ++ t348, 0)) else (none)))) else (none)) else (none))) else (some ((⟨#[]⟩ : ByteArray), t345)))) = some (r1, r2) := by first | (rw [hy342]; with_reducible exact H) | (have H2_ := (Option.bind_some _ _).symm.trans H; rw [hy342]; with_reducible exact H2_) | (have H2_ := (Option.bind_some _ _).symm.trans H; with_reducible exact H2_) | with_reducible exact H | (rw [hy342]; exact H) | exact H
 have Ny342 := zQ hy342
 clear hy342
 replace H := Option.bind_eq_some_iff.mp H
 obtain ⟨t345, A40, H⟩ := H
 replace H : (if t345 = 0 then ((impl_put.f k (a0.size : Int) 4).bind fun t346 => (if 4 + t346.size ≤ 9223372036854775807 then (if ((⟨#[80, 76, 67, 49]⟩ : ByteArray) ++ t346).size + a0.size ≤ 9223372036854775807 then ((impl_SumOf.f k (((⟨#[80, 76, 67, 49]⟩ : ByteArray) ++ t346) ++ a0)).bind fun t347 => ((impl_put.f k t347 2).bind fun t348 => (if (((⟨#[80, 76, 67, 49]⟩ : ByteArray) ++ t346) ++ a0).size + t348.size ≤ 9223372036854775807 then (some ((((⟨#[80, 76, 67, 49]⟩ : ByteArray) ++ t346) ++ a0) ++ t348, 0)) else (none)))) else (none)) else (none))) else (some ((⟨#[]⟩ : ByteArray), t345))) = some (r1, r2) := H
 have A4 := zQ A40
 clear A40
 by_cases c5 : t345 = 0
 ·rw [if_pos c5] at H
  have c5b0 : (t345 == 0) = true := beq_iff_eq.mpr c5
  have c5b1 : (t345 != 0) = false := bne_eq_false_iff_eq.mpr c5
  clear c5
  replace H := Option.bind_eq_some_iff.mp H
  obtain ⟨t346, A60, H⟩ := H
  replace H : (if 4 + t346.size ≤ 9223372036854775807 then (if ((⟨#[80, 76, 67, 49]⟩ : ByteArray) ++ t346).size + a0.size ≤ 9223372036854775807 then ((impl_SumOf.f k (((⟨#[80, 76, 67, 49]⟩ : ByteArray) ++ t346) ++ a0)).bind fun t347 => ((impl_put.f k t347 2).bind fun t348 => (if (((⟨#[80, 76, 67, 49]⟩ : ByteArray) ++ t346) ++ a0).size + t348.size ≤ 9223372036854775807 then (some ((((⟨#[80, 76, 67, 49]⟩ : ByteArray) ++ t346) ++ a0) ++ t348, 0)) else (none)))) else (none)) else (none)) = some (r1, r2) := H
  have A6 := zQ A60
  clear A60
  by_cases c7 : 4 + t346.size ≤ 9223372036854775807
  ·rw [if_pos c7] at H
   have c7b0 := eq_true c7
   have c7b1 : decide (4 + t346.size ≤ 9223372036854775807) = true := decide_eq_true c7
   try have c7b2 : (9223372036854775807 < 4 + t346.size) = False := eq_false (Nat.not_lt.2 c7)
   by_cases c8 : ((⟨#[80, 76, 67, 49]⟩ : ByteArray) ++ t346).size + a0.size ≤ 9223372036854775807
   ·rw [if_pos c8] at H
    have c8b0 := eq_true c8
    have c8b1 : decide (((⟨#[80, 76, 67, 49]⟩ : ByteArray) ++ t346).size + a0.size ≤ 9223372036854775807) = true := decide_eq_true c8
    try have c8b2 : (9223372036854775807 < ((⟨#[80, 76, 67, 49]⟩ : ByteArray) ++ t346).size + a0.size) = False := eq_false (Nat.not_lt.2 c8)
    (try have c8q := c8b2)
    (try simp only [ByteArray.size_append] at c8q)
    (try rw [show (⟨#[80, 76, 67, 49]⟩ : ByteArray).size = 4 from rfl] at c8q)
    replace H := Option.bind_eq_some_iff.mp H
    obtain ⟨t347, A90, H⟩ := H
    replace H : ((impl_put.f k t347 2).bind fun t348 => (if (((⟨#[80, 76, 67, 49]⟩ : ByteArray) ++ t346) ++ a0).size + t348.size ≤ 9223372036854775807 then (some ((((⟨#[80, 76, 67, 49]⟩ : ByteArray) ++ t346) ++ a0) ++ t348, 0)) else (none))) = some (r1, r2) := H
    have A9 := zQ A90
    clear A90
    replace H := Option.bind_eq_some_iff.mp H
    obtain ⟨t348, A100, H⟩ := H
    replace H : (if (((⟨#[80, 76, 67, 49]⟩ : ByteArray) ++ t346) ++ a0).size + t348.size ≤ 9223372036854775807 then (some ((((⟨#[80, 76, 67, 49]⟩ : ByteArray) ++ t346) ++ a0) ++ t348, 0)) else (none)) = some (r1, r2) := H
    have A10 := zQ A100
    clear A100
    by_cases c11 : (((⟨#[80, 76, 67, 49]⟩ : ByteArray) ++ t346) ++ a0).size + t348.size ≤ 9223372036854775807
    ·rw [if_pos c11] at H
     have c11b0 := eq_true c11
     have c11b1 : decide ((((⟨#[80, 76, 67, 49]⟩ : ByteArray) ++ t346) ++ a0).size + t348.size ≤ 9223372036854775807) = true := decide_eq_true c11
     try have c11b2 : (9223372036854775807 < (((⟨#[80, 76, 67, 49]⟩ : ByteArray) ++ t346) ++ a0).size + t348.size) = False := eq_false (Nat.not_lt.2 c11)
     (try have c11q := c11b2)
     (try simp only [ByteArray.size_append] at c11q)
     (try rw [show (⟨#[80, 76, 67, 49]⟩ : ByteArray).size = 4 from rfl] at c11q)
     simp only [Option.some.injEq, Prod.mk.injEq] at H
     obtain ⟨rfl, rfl⟩ := H
     go_enter Try.func114, Try.ntmps114
     go_wp2_with (first | ((with_reducible refine gate_callee (f := 182) rfl ?_); refine goesL_ (some 7) rfl rfl Try.func182 (by kernel_rfl) rfl #[.string a0] rfl zS ?_; (with_reducible refine (impl_long.calls a0 t340 _ A2.out).mono ?_); rintro e w' ⟨rfl, ⟨nd, rfl⟩⟩; refine ⟨_, rfl, ?_⟩) | ((with_reducible refine gate_callee (f := 72) rfl ?_); refine goesL_ (some 11) rfl rfl Try.func72 (by kernel_rfl) rfl #[.bool (decide ((a0.size : Int) > 65526)), .int .i64 8] rfl zS ?_; (with_reducible refine (impl_when.calls (decide ((a0.size : Int) > 65526)) 8 t341 _ A3.out).mono ?_); rintro e w' ⟨rfl, ⟨nd, rfl⟩⟩; refine ⟨_, rfl, ?_⟩) | ((with_reducible refine gate_dst (N := 12) rfl ?_); refine Kd.R_lit (Kd.int .i64) _ 3 ?hg (N := 12) ?hd (xs := ([t340, t341] : List Int)) (inner := [.int .i64 t340, .int .i64 t341]) (ok := fun _ => True) (okp := fun _ => True) ?hr ?hp (fun _ hk => hk) trivial (Below.refl _ _) (Nat.le_refl _) (by simp) ?_; (case hd => rfl); (case hg => rfl); (case hr => first | (go_simp; done) | (go_simp; rfl)); (case hp => exact (Reps.one (show Kd.M (Kd.int .i64) _ _ _ t340 [.int .i64 t340] from rfl) (Reps.one (show Kd.M (Kd.int .i64) _ _ _ t341 [.int .i64 t341] from rfl) (Reps.none _ _)))); intro v343 w12 ho13 hb hg_ hnew_; clear hg_ hnew_; (first | rw [← Ny342.out] at ho13 | (simp only [Int.reduceToNat] at ho13; rw [← Ny342.out] at ho13)); have n0_ := zQ (Kd.R_lower ho13 (below_size (zB HB.out))); have n1_ := zQ (below_step (zB HB.out) hb); clear HB; have HO344 := n0_; have HB := n1_; clear n0_ n1_; clear hb ho13; obtain ⟨Ao14, co14, eo14⟩ := Kd.R_slice HO344.out; subst eo14) | ((with_reducible refine gate_callee (f := 70) rfl ?_); refine goesL_ (some 13) rfl rfl Try.func70 (by kernel_rfl) rfl #[.slice Ao14 y342.length co14] rfl zS ?_; (with_reducible refine (impl_first.calls k _ _ y342 t345 _ ?side1 ?side2 A4.out).mono ?_); (case side1 => exact zC (Kd.R_reads' HO344.out).2.2); (case side2 => exact (Kd.R_reads' HO344.out).2.1); rintro e w' ⟨rfl, ⟨nd, rfl⟩⟩; refine ⟨_, rfl, ?_⟩) | ((with_reducible refine gate_callee (f := 111) rfl ?_); refine goesL_ (some 19) rfl rfl Try.func111 (by kernel_rfl) rfl #[.int .i64 (a0.size : Int), .int .i64 4] rfl zS ?_; (with_reducible refine (impl_put.calls k (a0.size : Int) 4 t346 _ A6.out).mono ?_); rintro e w15 ⟨rfl, hb⟩; refine ⟨_, rfl, ?_⟩; have n0_ := zQ (Kd.R_below (zR HO344.out) hb); have n1_ := zQ (below_step (zB HB.out) hb); clear HO344; clear HB; have HO344 := n0_; have HB := n1_; clear n0_ n1_; (try clear hb); (try clear hb2); (try clear hk); (try clear hi)) | ((with_reducible refine gate_callee (f := 183) rfl ?_); refine goesL_ (some 25) rfl rfl Try.func183 (by kernel_rfl) rfl #[.string (((⟨#[80, 76, 67, 49]⟩ : ByteArray) ++ t346) ++ a0)] rfl zS ?_; (with_reducible refine (impl_SumOf.calls k (((⟨#[80, 76, 67, 49]⟩ : ByteArray) ++ t346) ++ a0) t347 _ A9.out).mono ?_); rintro e w' ⟨rfl, ⟨nd, rfl⟩⟩; refine ⟨_, rfl, ?_⟩) | ((with_reducible refine gate_callee (f := 111) rfl ?_); refine goesL_ (some 26) rfl rfl Try.func111 (by kernel_rfl) rfl #[.int .i64 t347, .int .i64 2] rfl zS ?_; (with_reducible refine (impl_put.calls k t347 2 t348 _ A10.out).mono ?_); rintro e w16 ⟨rfl, hb⟩; refine ⟨_, rfl, ?_⟩; have n0_ := zQ (Kd.R_below (zR HO344.out) hb); have n1_ := zQ (below_step (zB HB.out) hb); clear HO344; clear HB; have HO344 := n0_; have HB := n1_; clear n0_ n1_; (try clear hb); (try clear hb2); (try clear hk); (try clear hi)))
     go_ret2
     exact ⟨by first | rfl | (simp [errW_none, errW_some] <;> rfl) | (simp [*, errW_none, errW_some] <;> rfl), zB HB.out⟩
    ·rw [if_neg c11] at H
     exact absurd H (by simp)
   ·rw [if_neg c8] at H
    exact absurd H (by simp)
  ·rw [if_neg c7] at H
   exact absurd H (by simp)
 ·rw [if_neg c5] at H
  have c5b0 : (t345 == 0) = false := beq_eq_false_iff_ne.mpr c5
  have c5b1 : (t345 != 0) = true := bne_iff_ne.mpr c5
  simp only [Option.some.injEq, Prod.mk.injEq] at H
  obtain ⟨rfl, rfl⟩ := H
  go_enter Try.func114, Try.ntmps114
  go_wp2_with (first | ((with_reducible refine gate_callee (f := 182) rfl ?_); refine goesL_ (some 7) rfl rfl Try.func182 (by kernel_rfl) rfl #[.string a0] rfl zS ?_; (with_reducible refine (impl_long.calls a0 t340 _ A2.out).mono ?_); rintro e w' ⟨rfl, ⟨nd, rfl⟩⟩; refine ⟨_, rfl, ?_⟩) | ((with_reducible refine gate_callee (f := 72) rfl ?_); refine goesL_ (some 11) rfl rfl Try.func72 (by kernel_rfl) rfl #[.bool (decide ((a0.size : Int) > 65526)), .int .i64 8] rfl zS ?_; (with_reducible refine (impl_when.calls (decide ((a0.size : Int) > 65526)) 8 t341 _ A3.out).mono ?_); rintro e w' ⟨rfl, ⟨nd, rfl⟩⟩; refine ⟨_, rfl, ?_⟩) | ((with_reducible refine gate_dst (N := 12) rfl ?_); refine Kd.R_lit (Kd.int .i64) _ 3 ?hg (N := 12) ?hd (xs := ([t340, t341] : List Int)) (inner := [.int .i64 t340, .int .i64 t341]) (ok := fun _ => True) (okp := fun _ => True) ?hr ?hp (fun _ hk => hk) trivial (Below.refl _ _) (Nat.le_refl _) (by simp) ?_; (case hd => rfl); (case hg => rfl); (case hr => first | (go_simp; done) | (go_simp; rfl)); (case hp => exact (Reps.one (show Kd.M (Kd.int .i64) _ _ _ t340 [.int .i64 t340] from rfl) (Reps.one (show Kd.M (Kd.int .i64) _ _ _ t341 [.int .i64 t341] from rfl) (Reps.none _ _)))); intro v343 w17 ho18 hb hg_ hnew_; clear hg_ hnew_; (first | rw [← Ny342.out] at ho18 | (simp only [Int.reduceToNat] at ho18; rw [← Ny342.out] at ho18)); have n0_ := zQ (Kd.R_lower ho18 (below_size (zB HB.out))); have n1_ := zQ (below_step (zB HB.out) hb); clear HB; have HO344 := n0_; have HB := n1_; clear n0_ n1_; clear hb ho18; obtain ⟨Ao19, co19, eo19⟩ := Kd.R_slice HO344.out; subst eo19) | ((with_reducible refine gate_callee (f := 70) rfl ?_); refine goesL_ (some 13) rfl rfl Try.func70 (by kernel_rfl) rfl #[.slice Ao19 y342.length co19] rfl zS ?_; (with_reducible refine (impl_first.calls k _ _ y342 t345 _ ?side1 ?side2 A4.out).mono ?_); (case side1 => exact zC (Kd.R_reads' HO344.out).2.2); (case side2 => exact (Kd.R_reads' HO344.out).2.1); rintro e w' ⟨rfl, ⟨nd, rfl⟩⟩; refine ⟨_, rfl, ?_⟩))
  go_ret2
  exact ⟨by first | rfl | (simp [errW_none, errW_some] <;> rfl) | (simp [*, errW_none, errW_some] <;> rfl), zB HB.out⟩

end Go.Proofs.Ytkegjmkdnfpfdaa.MFnExactImageText
