-- Text written by a program of this session (wip/tools: the kit's printer with additions of ours).
import Derived.Test.YtkegjmkdnfpfdaaMFnExactCoreOKx0
import Derived.Test.YtkegjmkdnfpfdaaMFnExactCoreOKx31
import Derived.Test.YtkegjmkdnfpfdaaMFnExactCoreOKx40
namespace Go.Proofs.Ytkegjmkdnfpfdaa.MFnExactCoreOK
open Go.RowKit Go.Proofs.YtkegjmkdnfpfdaaW.PrintWords Go.Proofs.YtkegjmkdnfpfdaaW.PrintLast Go.Proofs.YtkegjmkdnfpfdaaW.PrintMore
attribute [local go_sem] max2_int min2_int max_two min_two max_three min_three max_four min_four
set_option linter.unusedVariables false
set_option linter.unusedSimpArgs false

/-! ### impl_areOn: function 128 -/
def impl_areOn.l0 : Nat → ByteArray → List Int → Int → Int → Option (Bool)
 | 0, _, _, _, _ => none
 | k + 1, x1, x17, x18, x19 => if x19 < x18 then (if 0 ≤ x19 then (if x19 < (x17.length : Int) then (if x19 < (x1.size : Int) then (if (bt x1 x19) = 98 then ((impl_within.f (rd x17 x19) 0 1).bind fun t304 => (if t304 = true then ((impl_isValue.f (rd x17 x19)).bind fun t305 => (if t305 = true then (impl_areOn.l0 k x1 x17 x18 (wrap64 (x19 + 1))) else (some false))) else (some false))) else ((impl_isValue.f (rd x17 x19)).bind fun t306 => (if t306 = true then (impl_areOn.l0 k x1 x17 x18 (wrap64 (x19 + 1))) else (some false)))) else (none)) else (none)) else (none)) else (some true)
def impl_areOn.f (k : Nat) (l0 : List Int) (a1 : ByteArray) : Option (Bool) := if (wrap64 ((l0.length : Int) - (a1.size : Int))) < 0 then (some false) else (if 0 ≤ (wrap64 ((l0.length : Int) - (a1.size : Int))) then (if (wrap64 ((l0.length : Int) - (a1.size : Int))) ≤ (l0.length : Int) then (impl_areOn.l0 k a1 (l0.drop ((wrap64 ((l0.length : Int) - (a1.size : Int))) : Int).toNat) ((l0.drop ((wrap64 ((l0.length : Int) - (a1.size : Int))) : Int).toNat).length : Int) 0) else (none)) else (none))
theorem impl_areOn.mono_l : ∀ k, (∀ y0 y1 y2 y3, LeO (impl_areOn.l0 k y0 y1 y2 y3) (impl_areOn.l0 (k + 1) y0 y1 y2 y3))
 | 0 => fun _ _ _ _ r h => by simp [impl_areOn.l0] at h
 | k + 1 => by
  have ih0 := impl_areOn.mono_l k
  ·intro y0 y1 y2 y3
   unfold impl_areOn.l0
   repeat' first
   | (with_reducible exact ih0 _ _ _ _)
   | (with_reducible exact LeO.refl _)
   | (with_reducible exact LeO.none _)
   | (with_reducible refine LeO.ite ?_ ?_)
   | (with_reducible refine LeO.bind ?_ (fun _ => ?_))
   | exact ih0 _ _ _ _
   | exact LeO.none _
   | refine LeO.ite ?_ ?_
   | refine LeO.bind ?_ (fun _ => ?_)
theorem impl_areOn.mono : ∀ a0 a1 k, LeO (impl_areOn.f k a0 a1) (impl_areOn.f (k + 1) a0 a1) := by
 intro a0 a1 k
 have ih0 := impl_areOn.mono_l k
 unfold impl_areOn.f
 repeat' first
  | (with_reducible exact ih0 _ _ _ _)
  | (with_reducible exact LeO.refl _)
  | (with_reducible exact LeO.none _)
  | (with_reducible refine LeO.ite ?_ ?_)
  | (with_reducible refine LeO.bind ?_ (fun _ => ?_))
  | exact ih0 _ _ _ _
  | exact LeO.none _
  | refine LeO.ite ?_ ?_
  | refine LeO.bind ?_ (fun _ => ?_)
set_option maxHeartbeats 8000000 in
set_option maxRecDepth 100000 in
theorem impl_areOn.calls (k : Nat) (A0 : Option Addr) (c0 : Nat) (l0 : List Int) (a1 : ByteArray) (r : Bool) (w : World) (hr0 : Kd.C (Kd.int .i64) w A0 l0.length l0) (hc0 : l0.length ≤ c0) (h : impl_areOn.f k l0 a1 = some r) :
 Calls Try.prog 128 #[.slice A0 l0.length c0, .string a1] w fun e w' => e = .returned (.bool r) ∧ Drawn0 w w' := by
 have HR0 := zQ hr0
 have HC0 := zQ hc0
 clear hr0 hc0
 have H : (if (wrap64 ((l0.length : Int) - (a1.size : Int))) < 0 then (some false) else (if 0 ≤ (wrap64 ((l0.length : Int) - (a1.size : Int))) then (if (wrap64 ((l0.length : Int) - (a1.size : Int))) ≤ (l0.length : Int) then (impl_areOn.l0 k a1 (l0.drop ((wrap64 ((l0.length : Int) - (a1.size : Int))) : Int).toNat) ((l0.drop ((wrap64 ((l0.length : Int) - (a1.size : Int))) : Int).toNat).length : Int) 0) else (none)) else (none))) = some r := h
 clear h
 by_cases c3 : (wrap64 ((l0.length : Int) - (a1.size : Int))) < 0
 ·rw [if_pos c3] at H
  have c3b0 : decide ((wrap64 ((l0.length : Int) - (a1.size : Int))) < 0) = true := decide_eq_true c3
  clear c3
  obtain rfl := Option.some.inj H
  go_enter Try.func128, Try.ntmps128
  go_wp2
  go_ret
  exact ⟨by first | rfl | (simp; done) | (simp [*]; done), zD⟩
 ·rw [if_neg c3] at H
  have c3b0 : decide ((wrap64 ((l0.length : Int) - (a1.size : Int))) < 0) = false := decide_eq_false c3
  clear c3
  obtain ⟨ji4, hji4⟩ : ∃ j_ : Int, (wrap64 ((l0.length : Int) - (a1.size : Int))) = j_ := ⟨_, rfl⟩
  replace H : (if 0 ≤ (ji4) then (if (ji4) ≤ (l0.length : Int) then (impl_areOn.l0 k a1 (l0.drop ((ji4) : Int).toNat) ((l0.drop ((ji4) : Int).toNat).length : Int) 0) else (none)) else (none)) = some r := by first | (rw [hji4] at H; exact H) | (simp only [hji4] at H ⊢; exact H)
  (try rw [hji4] at c3b0)
  have hji4w : (IntKind.i64.wrap ((l0.length : Int) - (a1.size : Int))) = ji4 := (i64_w _).trans hji4
  by_cases c5 : 0 ≤ (ji4)
  ·rw [if_pos c5] at H
   have c5b0 := eq_true c5
   have c5b1 : decide (0 ≤ (ji4)) = true := decide_eq_true c5
   clear c5
   by_cases c6 : (ji4) ≤ (l0.length : Int)
   ·rw [if_pos c6] at H
    have c6b0 := eq_true c6
    have c6b1 : decide ((ji4) ≤ (l0.length : Int)) = true := decide_eq_true c6
    clear c6
    have H' := zQ H
    clear H
    obtain ⟨i07, hi07, _, hsz7, _⟩ := info_parts info3
    obtain ⟨A7, hcut7, hA7, hC7⟩ := print_drop_of (P := Try.prog) (Value.int .i64) 0 23 3 .i64 Try.underlying23 hi07 hsz7 A0 c0 l0 (ji4) (of_decide_eq_true (by first | (with_reducible assumption) | assumption)) (of_decide_eq_true (by first | (with_reducible assumption) | assumption)) HC0.out
    have HR302 := zQ (Kd.C_of_reads (h1 := fun _ => rfl) (hA7 _ (Kd.reads_of_C HR0.out)))
    have HC302 := zQ hC7
    clear hA7 hC7 hi07 hsz7
    go_enter Try.func128, Try.ntmps128
    go_wp2
    go_loopg [19] k (fun kq v19 w' => ∃ (x19_1 : Int), v19 = .int .i64 x19_1 ∧ Aside0 (impl_areOn.l0 kq a1 (l0.drop ((ji4) : Int).toNat) ((l0.drop ((ji4) : Int).toNat).length : Int) x19_1 = some r) ∧ Aside0 (kq ≤ k) ∧ Drawn0 w w')
    case atStart => exact ⟨(0), (by first | rfl | (simp; done) | (simp [*]; done)), H', ⟨Nat.le_refl _⟩, zD⟩
    case round =>
     clear H'
     try clear c1
     try clear p2
     try clear c3
     try clear c3b0
     try clear c5
     try clear c5b0
     try clear c5b1
     try clear c6
     try clear c6b0
     try clear c6b1
     try clear p6
     obtain ⟨x19_1, rfl, HA, HK1, ⟨m1, rfl⟩⟩ := hrel
     cases gk with
     | zero => exact absurd HA.out (by simp [impl_areOn.l0])
     | succ k1 =>
      have H := HA.out
      clear HA
      simp only [impl_areOn.l0] at H
      by_cases c8 : x19_1 < ((l0.drop ((ji4) : Int).toNat).length : Int)
      ·rw [if_pos c8] at H
       have c8b0 : decide (x19_1 < ((l0.drop ((ji4) : Int).toNat).length : Int)) = true := decide_eq_true c8
       (try have c8b0_d := c8b0); (try rw [List.length_drop] at c8b0_d)
       clear c8
       by_cases c9 : 0 ≤ x19_1
       ·rw [if_pos c9] at H
        have c9b0 : decide (0 ≤ x19_1) = true := decide_eq_true c9
        clear c9
        by_cases c10 : x19_1 < ((l0.drop ((ji4) : Int).toNat).length : Int)
        ·rw [if_pos c10] at H
         have c10b0 : decide (x19_1 < ((l0.drop ((ji4) : Int).toNat).length : Int)) = true := decide_eq_true c10
         (try have c10b0_d := c10b0); (try rw [List.length_drop] at c10b0_d)
         clear c10
         by_cases c11 : x19_1 < (a1.size : Int)
         ·rw [if_pos c11] at H
          have c11b0 : decide (x19_1 < (a1.size : Int)) = true := decide_eq_true c11
          clear c11
          by_cases c13 : (bt a1 x19_1) = 98
          ·rw [if_pos c13] at H
           have c13b0 : ((bt a1 x19_1) == 98) = true := beq_iff_eq.mpr c13
           have c13b1 : ((bt a1 x19_1) != 98) = false := bne_eq_false_iff_eq.mpr c13
           clear c13
           replace H := Option.bind_eq_some_iff.mp H
           obtain ⟨t304, A140, H⟩ := H
           replace H : (if t304 = true then ((impl_isValue.f (rd (l0.drop ((ji4) : Int).toNat) x19_1)).bind fun t305 => (if t305 = true then (impl_areOn.l0 k1 a1 (l0.drop ((ji4) : Int).toNat) ((l0.drop ((ji4) : Int).toNat).length : Int) (wrap64 (x19_1 + 1))) else (some false))) else (some false)) = some r := H
           have A14 := zQ A140
           clear A140
           by_cases c15 : t304 = true
           ·subst c15
            have H1 : ((impl_isValue.f (rd (l0.drop ((ji4) : Int).toNat) x19_1)).bind fun t305 => (if t305 = true then (impl_areOn.l0 k1 a1 (l0.drop ((ji4) : Int).toNat) ((l0.drop ((ji4) : Int).toNat).length : Int) (wrap64 (x19_1 + 1))) else (some false))) = some r := by rw [if_pos rfl] at H; exact H
            clear H
            have H := H1
            clear H1
            replace H := Option.bind_eq_some_iff.mp H
            obtain ⟨t305, A160, H⟩ := H
            replace H : (if t305 = true then (impl_areOn.l0 k1 a1 (l0.drop ((ji4) : Int).toNat) ((l0.drop ((ji4) : Int).toNat).length : Int) (wrap64 (x19_1 + 1))) else (some false)) = some r := H
            have A16 := zQ A160
            clear A160
            by_cases c17 : t305 = true
            ·subst c17
             have H1 : (impl_areOn.l0 k1 a1 (l0.drop ((ji4) : Int).toNat) ((l0.drop ((ji4) : Int).toNat).length : Int) (wrap64 (x19_1 + 1))) = some r := by rw [if_pos rfl] at H; exact H
             clear H
             have H := H1
             clear H1
             have H' := zQ H
             clear H
             have p303 : 0 ≤ (x19_1 : Int) := zA
             have q303 : x19_1 < ((l0.drop ((ji4) : Int).toNat).length : Int) := zA
             obtain ⟨ad303, e303, hx303_0⟩ := Kd.at_int HR302.out x19_1 p303 q303
             cases e303
             replace p303 := eq_true p303
             replace q303 := eq_true q303
             (try have q303_d := q303); (try rw [List.length_drop] at q303_d)
             have p12 : 0 ≤ (x19_1 : Int) := zA
             have q12 : x19_1 < (a1.size : Int) := zA
             have hx12 := bt_at a1 x19_1
             replace p12 := eq_true p12
             replace q12 := eq_true q12
             (try have q12_d := q12); (try rw [List.length_drop] at q12_d)
             go_wp2_with (first | (go_at_call 83; (with_reducible refine (impl_within.calls (rd (l0.drop ((ji4) : Int).toNat) x19_1) 0 1 true _ A14.out).mono ?_); rintro e w' ⟨rfl, ⟨nd, rfl⟩⟩) | (go_at_call 195; (with_reducible refine (impl_isValue.calls (rd (l0.drop ((ji4) : Int).toNat) x19_1) true _ A16.out).mono ?_); rintro e w' ⟨rfl, ⟨nd, rfl⟩⟩))
             go_roundg k1
             case measure => have := HK1.out; omega
             case rel => exact ⟨(wrap64 (x19_1 + 1)), (by first | rfl | (simp; done) | (simp [*]; done)), H', ⟨by have := HK1.out; omega⟩, zD⟩
            ·replace c17 := Bool.eq_false_iff.mpr c17
             subst c17
             have H1 : (some false) = some r := by rw [if_neg (show ¬ (false = true) by decide)] at H; exact H
             clear H
             have H := H1
             clear H1
             obtain rfl := Option.some.inj H
             have p303 : 0 ≤ (x19_1 : Int) := zA
             have q303 : x19_1 < ((l0.drop ((ji4) : Int).toNat).length : Int) := zA
             obtain ⟨ad303, e303, hx303_0⟩ := Kd.at_int HR302.out x19_1 p303 q303
             cases e303
             replace p303 := eq_true p303
             replace q303 := eq_true q303
             (try have q303_d := q303); (try rw [List.length_drop] at q303_d)
             have p12 : 0 ≤ (x19_1 : Int) := zA
             have q12 : x19_1 < (a1.size : Int) := zA
             have hx12 := bt_at a1 x19_1
             replace p12 := eq_true p12
             replace q12 := eq_true q12
             (try have q12_d := q12); (try rw [List.length_drop] at q12_d)
             go_wp2_with (first | (go_at_call 83; (with_reducible refine (impl_within.calls (rd (l0.drop ((ji4) : Int).toNat) x19_1) 0 1 true _ A14.out).mono ?_); rintro e w' ⟨rfl, ⟨nd, rfl⟩⟩) | (go_at_call 195; (with_reducible refine (impl_isValue.calls (rd (l0.drop ((ji4) : Int).toNat) x19_1) false _ A16.out).mono ?_); rintro e w' ⟨rfl, ⟨nd, rfl⟩⟩))
             go_ret
             exact ⟨by first | rfl | (simp; done) | (simp only [← hji4] <;> (first | rfl | simp)) | (simp [*]; done), zD⟩
           ·replace c15 := Bool.eq_false_iff.mpr c15
            subst c15
            have H1 : (some false) = some r := by rw [if_neg (show ¬ (false = true) by decide)] at H; exact H
            clear H
            have H := H1
            clear H1
            obtain rfl := Option.some.inj H
            have p303 : 0 ≤ (x19_1 : Int) := zA
            have q303 : x19_1 < ((l0.drop ((ji4) : Int).toNat).length : Int) := zA
            obtain ⟨ad303, e303, hx303_0⟩ := Kd.at_int HR302.out x19_1 p303 q303
            cases e303
            replace p303 := eq_true p303
            replace q303 := eq_true q303
            (try have q303_d := q303); (try rw [List.length_drop] at q303_d)
            have p12 : 0 ≤ (x19_1 : Int) := zA
            have q12 : x19_1 < (a1.size : Int) := zA
            have hx12 := bt_at a1 x19_1
            replace p12 := eq_true p12
            replace q12 := eq_true q12
            (try have q12_d := q12); (try rw [List.length_drop] at q12_d)
            go_wp2_with (first | (go_at_call 83; (with_reducible refine (impl_within.calls (rd (l0.drop ((ji4) : Int).toNat) x19_1) 0 1 false _ A14.out).mono ?_); rintro e w' ⟨rfl, ⟨nd, rfl⟩⟩))
            go_ret
            exact ⟨by first | rfl | (simp; done) | (simp only [← hji4] <;> (first | rfl | simp)) | (simp [*]; done), zD⟩
          ·rw [if_neg c13] at H
           have c13b0 : ((bt a1 x19_1) == 98) = false := beq_eq_false_iff_ne.mpr c13
           have c13b1 : ((bt a1 x19_1) != 98) = true := bne_iff_ne.mpr c13
           replace H := Option.bind_eq_some_iff.mp H
           obtain ⟨t306, A180, H⟩ := H
           replace H : (if t306 = true then (impl_areOn.l0 k1 a1 (l0.drop ((ji4) : Int).toNat) ((l0.drop ((ji4) : Int).toNat).length : Int) (wrap64 (x19_1 + 1))) else (some false)) = some r := H
           have A18 := zQ A180
           clear A180
           by_cases c19 : t306 = true
           ·subst c19
            have H1 : (impl_areOn.l0 k1 a1 (l0.drop ((ji4) : Int).toNat) ((l0.drop ((ji4) : Int).toNat).length : Int) (wrap64 (x19_1 + 1))) = some r := by rw [if_pos rfl] at H; exact H
            clear H
            have H := H1
            clear H1
            have H' := zQ H
            clear H
            have p303 : 0 ≤ (x19_1 : Int) := zA
            have q303 : x19_1 < ((l0.drop ((ji4) : Int).toNat).length : Int) := zA
            obtain ⟨ad303, e303, hx303_0⟩ := Kd.at_int HR302.out x19_1 p303 q303
            cases e303
            replace p303 := eq_true p303
            replace q303 := eq_true q303
            (try have q303_d := q303); (try rw [List.length_drop] at q303_d)
            have p12 : 0 ≤ (x19_1 : Int) := zA
            have q12 : x19_1 < (a1.size : Int) := zA
            have hx12 := bt_at a1 x19_1
            replace p12 := eq_true p12
            replace q12 := eq_true q12
            (try have q12_d := q12); (try rw [List.length_drop] at q12_d)
            go_wp2_with (first | (go_at_call 195; (with_reducible refine (impl_isValue.calls (rd (l0.drop ((ji4) : Int).toNat) x19_1) true _ A18.out).mono ?_); rintro e w' ⟨rfl, ⟨nd, rfl⟩⟩))
            go_roundg k1
            case measure => have := HK1.out; omega
            case rel => exact ⟨(wrap64 (x19_1 + 1)), (by first | rfl | (simp; done) | (simp [*]; done)), H', ⟨by have := HK1.out; omega⟩, zD⟩
           ·replace c19 := Bool.eq_false_iff.mpr c19
            subst c19
            have H1 : (some false) = some r := by rw [if_neg (show ¬ (false = true) by decide)] at H; exact H
            clear H
            have H := H1
            clear H1
            obtain rfl := Option.some.inj H
            have p303 : 0 ≤ (x19_1 : Int) := zA
            have q303 : x19_1 < ((l0.drop ((ji4) : Int).toNat).length : Int) := zA
            obtain ⟨ad303, e303, hx303_0⟩ := Kd.at_int HR302.out x19_1 p303 q303
            cases e303
            replace p303 := eq_true p303
            replace q303 := eq_true q303
            (try have q303_d := q303); (try rw [List.length_drop] at q303_d)
            have p12 : 0 ≤ (x19_1 : Int) := zA
            have q12 : x19_1 < (a1.size : Int) := zA
            have hx12 := bt_at a1 x19_1
            replace p12 := eq_true p12
            replace q12 := eq_true q12
            (try have q12_d := q12); (try rw [List.length_drop] at q12_d)
            go_wp2_with (first | (go_at_call 195; (with_reducible refine (impl_isValue.calls (rd (l0.drop ((ji4) : Int).toNat) x19_1) false _ A18.out).mono ?_); rintro e w' ⟨rfl, ⟨nd, rfl⟩⟩))
            go_ret
            exact ⟨by first | rfl | (simp; done) | (simp only [← hji4] <;> (first | rfl | simp)) | (simp [*]; done), zD⟩
         ·rw [if_neg c11] at H
          exact absurd H (by simp)
        ·rw [if_neg c10] at H
         exact absurd H (by simp)
       ·rw [if_neg c9] at H
        exact absurd H (by simp)
      ·rw [if_neg c8] at H
       have c8b0 : decide (x19_1 < ((l0.drop ((ji4) : Int).toNat).length : Int)) = false := decide_eq_false c8
       (try have c8b0_d := c8b0); (try rw [List.length_drop] at c8b0_d)
       clear c8
       obtain rfl := Option.some.inj H
       go_wp2
       go_ret
       exact ⟨by first | rfl | (simp; done) | (simp only [← hji4] <;> (first | rfl | simp)) | (simp [*]; done), zD⟩
   ·rw [if_neg c6] at H
    exact absurd H (by simp)
  ·rw [if_neg c5] at H
   exact absurd H (by simp)

end Go.Proofs.Ytkegjmkdnfpfdaa.MFnExactCoreOK
