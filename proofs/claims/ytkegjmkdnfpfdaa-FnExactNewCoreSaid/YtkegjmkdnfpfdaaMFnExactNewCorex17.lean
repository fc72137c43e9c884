-- By a program of this session.
import Derived.Test.YtkegjmkdnfpfdaaMFnExactNewCorex0
import Derived.Test.YtkegjmkdnfpfdaaMFnExactNewCorex16
namespace Go.Proofs.Ytkegjmkdnfpfdaa.MFnExactNewCore
open Go.RowKit Go.Proofs.YtkegjmkdnfpfdaaW.PrintWords Go.Proofs.YtkegjmkdnfpfdaaW.PrintLast Go.Proofs.YtkegjmkdnfpfdaaW.PrintMore
attribute [local go_sem] max2_int min2_int max_two min_two max_three min_three max_four min_four
set_option linter.unusedVariables false
set_option linter.unusedSimpArgs false
set_option maxHeartbeats 8000000
set_option maxRecDepth 100000

/-! ### impl_isFbKind: function 214 -/
def impl_isFbKind.f (a0 : Int) : Option (Bool) := (impl_within.f a0 1 4).bind fun t226 => (some t226)
theorem impl_isFbKind.calls (a0 : Int) (r : Bool) (w : World) (h : impl_isFbKind.f a0 = some r) :
 Calls Try.prog 214 #[.int .i64 a0] w fun e w' => e = .returned (.bool r) ∧ Drawn0 w w' := by
 have H : ((impl_within.f a0 1 4).bind fun t226 => (some t226)) = some r := h
 clear h
 replace H := Option.bind_eq_some_iff.mp H
 obtain ⟨t226, A20, H⟩ := H
 replace H : (some t226) = some r := H
 have A2 := zQ A20
 clear A20
 obtain rfl := Option.some.inj H
 go_enter Try.func214, Try.ntmps214
 go_wp2_with (first | ((with_reducible refine gate_callee (f := 83) rfl ?_); refine goesL_ (some 4) rfl rfl Try.func83 (by kernel_rfl) rfl #[.int .i64 a0, .int .i64 1, .int .i64 4] rfl zS ?_; (with_reducible refine (impl_within.calls a0 1 4 t226 _ A2.out).mono ?_); rintro e w' ⟨rfl, ⟨nd, rfl⟩⟩; refine ⟨_, rfl, ?_⟩))
 go_ret
 exact ⟨by first | rfl | (simp; done) | (simp [*]; done), zD⟩

/-! ### impl_all_int_isFbKind: function 194 at impl_isFbKind, by its own walk -/
theorem impl_all_int_isFbKind.one (x : Int) (r : Bool) (g : Nat) (W : World) (hg : W.cell? ⟨g, 0, none⟩ = some (.func (.func 214) #[] #[])) (h : impl_isFbKind.f (x) = some r) :
 Calls Try.prog 236 #[.int .i64 (x), .pointer (some ⟨g, 0, none⟩)] W fun e w' => e = .returned (.bool (!r)) ∧ Below W.heap.size W w' := by
 have HB := zQ (Below.refl W.heap.size W)
 have A2 := zQ h
 clear h
 go_enter Try.func236, Try.ntmps236
 go_wp2_with (first | (go_at_call 214; (with_reducible refine (impl_isFbKind.calls (x) r _ A2.out).mono ?_); rintro e w' ⟨rfl, ⟨nd, rfl⟩⟩))
 go_ret
 exact ⟨by first | rfl | (simp; done), zB HB.out⟩

def impl_all_int_isFbKind.l0 : Nat → List Int → Int → Option Int
 | 0, _, _ => none
 | k + 1, l0, i => if i < (l0.length : Int) then (if 0 ≤ i then ((impl_isFbKind.f ((rd l0 i))).bind fun t => (if t = true then (impl_all_int_isFbKind.l0 k l0 (wrap64 (i + 1))) else (some i))) else none) else some (-1)
theorem impl_all_int_isFbKind.mono_l : ∀ k, (∀ y0 y1, LeO (impl_all_int_isFbKind.l0 k y0 y1) (impl_all_int_isFbKind.l0 (k + 1) y0 y1))
 | 0 => fun _ _ r h => by simp [impl_all_int_isFbKind.l0] at h
 | k + 1 => by
  have ih0 := impl_all_int_isFbKind.mono_l k
  ·intro y0 y1
   unfold impl_all_int_isFbKind.l0
   repeat' first
   | (with_reducible exact ih0 _ _)
   | (with_reducible exact LeO.refl _)
   | (with_reducible exact LeO.none _)
   | (with_reducible refine LeO.ite ?_ ?_)
   | (with_reducible refine LeO.bind ?_ (fun _ => ?_))
theorem impl_all_int_isFbKind.find (k : Nat) (A0 : Option Addr) (c0 : Nat) (l0 : List Int) (r : Int) (g : Nat) (w : World) (hg : w.cell? ⟨g, 0, none⟩ = some (.func (.func 214) #[] #[])) (hr0 : Kd.C (Kd.int .i64) w A0 l0.length l0) (hc0 : l0.length ≤ c0) (h : impl_all_int_isFbKind.l0 k l0 0 = some r) :
 Calls Try.prog 261 #[.slice A0 l0.length c0, .func (.func 236) #[] #[.pointer (some ⟨g, 0, none⟩)]] w fun e w' => e = .returned (.int .i64 r) ∧ Below w.heap.size w w' := by
 have HR0 := zQ hr0
 have HC0 := zQ hc0
 have HG := zQ hg
 clear hr0 hc0 hg
 have HB := zQ (Below.refl w.heap.size w)
 have H' := zQ h
 clear h
 go_enter Try.func261, Try.ntmps261
 go_wp2
 go_loopg [8] k (fun kq v8 w' => ∃ (i : Int), v8 = .int .i64 i ∧ Aside0 (impl_all_int_isFbKind.l0 kq l0 i = some r) ∧ Aside0 (kq ≤ k) ∧ Aside0 (Below w.heap.size w w'))
 case atStart => exact ⟨0, (by first | rfl | (simp; done)), H', ⟨Nat.le_refl _⟩, ⟨zB HB.out⟩⟩
 case round =>
  clear H'
  obtain ⟨i, rfl, HA, HK1, HB⟩ := hrel
  cases gk with
  | zero => exact absurd HA.out (by simp [impl_all_int_isFbKind.l0])
  | succ k1 =>
   have H := HA.out
   clear HA
   simp only [impl_all_int_isFbKind.l0] at H
   by_cases c2 : i < (l0.length : Int)
   ·rw [if_pos c2] at H
    by_cases c3 : 0 ≤ i
    ·rw [if_pos c3] at H
     replace H := Option.bind_eq_some_iff.mp H
     obtain ⟨t, A40, H⟩ := H
     have A4 := zQ A40
     clear A40
     obtain ⟨ad, e0_, hx0⟩ := Kd.at_int HR0.out i c3 c2
     cases e0_
     replace hx0 := zX HB.out hx0
     have hgw := (HB.out.cell (World.block_lt_of_cell? w _ HG.out)).trans HG.out
     have HGW := zQ hgw
     clear hgw
     have c2b0 : decide (i < (l0.length : Int)) = true := decide_eq_true c2
     have c3b0 : decide (0 ≤ i) = true := decide_eq_true c3
     replace c2 := eq_true c2
     replace c3 := eq_true c3
     cases t with
     | true =>
      rw [if_pos rfl] at H
      have H' := zQ H
      clear H
      go_wp2_with (first | (go_at_call 236; (with_reducible refine (impl_all_int_isFbKind.one (rd l0 i) true g _ HGW.out A4.out).mono ?_); rintro e w6 ⟨rfl, hb⟩; have n0_ := zQ (below_step (zB HB.out) hb); clear HB; have HB := n0_; clear n0_; (try clear hb)))
      go_roundg k1
      case measure => have := HK1.out; omega
      case rel => exact ⟨(wrap64 (i + 1)), (by first | rfl | (simp; done) | (simp [*]; done)), H', ⟨by have := HK1.out; omega⟩, ⟨zB HB.out⟩⟩
     | false =>
      rw [if_neg (show ¬ (false = true) by decide)] at H
      obtain rfl := Option.some.inj H
      clear H
      go_wp2_with (first | (go_at_call 236; (with_reducible refine (impl_all_int_isFbKind.one (rd l0 i) false g _ HGW.out A4.out).mono ?_); rintro e w6 ⟨rfl, hb⟩; have n0_ := zQ (below_step (zB HB.out) hb); clear HB; have HB := n0_; clear n0_; (try clear hb)))
      go_ret
      exact ⟨by first | rfl | (simp; done), zB HB.out⟩
    ·rw [if_neg c3] at H
     exact absurd H (by simp)
   ·rw [if_neg c2] at H
    obtain rfl := Option.some.inj H
    have c2b0 : decide (i < (l0.length : Int)) = false := decide_eq_false c2
    clear c2 H
    go_wp2
    go_ret
    exact ⟨by first | rfl | (simp; done), zB HB.out⟩

def impl_all_int_isFbKind.f (k : Nat) (l0 : List Int) : Option Bool := (impl_all_int_isFbKind.l0 k l0 0).bind fun j => some (!(decide (0 ≤ j)))
theorem impl_all_int_isFbKind.mono : ∀ a0 k, LeO (impl_all_int_isFbKind.f k a0) (impl_all_int_isFbKind.f (k + 1) a0) := by
 intro a0 k
 unfold impl_all_int_isFbKind.f
 exact LeO.bind (impl_all_int_isFbKind.mono_l k _ _) (fun _ => LeO.refl _)
theorem impl_all_int_isFbKind.calls (k : Nat) (A0 : Option Addr) (c0 : Nat) (l0 : List Int) (r : Bool) (w : World) (hr0 : Kd.C (Kd.int .i64) w A0 l0.length l0) (hc0 : l0.length ≤ c0) (h : impl_all_int_isFbKind.f k l0 = some r) :
 Calls Try.prog 194 #[.slice A0 l0.length c0, .func (.func 214) #[] #[]] w fun e w' => e = .returned (.bool r) ∧ Below w.heap.size w w' := by
 obtain ⟨j, A20, H⟩ := Option.bind_eq_some_iff.mp h
 have A2 := zQ A20
 clear A20 h
 obtain rfl := Option.some.inj H
 clear H
 have HR0 := zQ hr0
 have HC0 := zQ hc0
 clear hr0 hc0
 have HB := zQ (Below.refl w.heap.size w)
 have hmf : ∀ (fn : Fn) (first cap : Array Value) (w : World), (Instr.makeFunc fn first cap).run Try.prog w = .ok (.func fn first cap) w := fun _ _ _ _ => rfl
 go_enter Try.func194, Try.ntmps194
 go_wp2_with (first | ((with_reducible refine gate_callee (f := 261) rfl ?_); refine goesL_ (some 7) rfl rfl Try.func261 (by kernel_rfl) rfl #[.slice A0 l0.length c0, .func (.func 236) #[] #[.pointer (some ⟨w.heap.size, 0, none⟩)]] rfl (by (try simp only [List.map_toArray, List.map_cons, List.map_nil]); first | done | rfl) ?_; (with_reducible refine (impl_all_int_isFbKind.find k _ _ l0 j w.heap.size _ ?hgc ?side1 ?side2 A2.out).mono ?_); (case hgc => (first | exact World.cell?_alloc_at _ _ _ _ rfl | simp)); (case side1 => repeat (first | exact HR0.out | (with_reducible refine Kd.C_alloc ?_ _) | (with_reducible refine Kd.C_drewN ?_ _) | (with_reducible refine Kd.C_drew ?_))); (case side2 => exact HC0.out); rintro e w6 ⟨rfl, hb⟩; refine ⟨_, rfl, ?_⟩; have n0_ := zQ (below_step (zB HB.out) hb); clear HB; have HB := n0_; clear n0_; (try clear hb)) | (go_at_call 235; go_in))
 go_ret
 exact ⟨by first | rfl | (simp; done), zB HB.out⟩

/-! ### impl_areKinds: function 155 -/
def impl_areKinds.f (k : Nat) (l0 : List Int) : Option (Bool) := if (l0.length : Int) ≤ 8 then ((impl_all_int_isFbKind.f k l0).bind fun t227 => (some t227)) else (some false)
theorem impl_areKinds.mono : ∀ a0 k, LeO (impl_areKinds.f k a0) (impl_areKinds.f (k + 1) a0) := by
 intro a0 k
 unfold impl_areKinds.f
 repeat' first
  | (with_reducible exact impl_all_int_isFbKind.mono _ _)
  | (with_reducible exact LeO.refl _)
  | (with_reducible exact LeO.none _)
  | (with_reducible refine LeO.ite ?_ ?_)
  | (with_reducible refine LeO.bind ?_ (fun _ => ?_))
theorem impl_areKinds.calls (k : Nat) (A0 : Option Addr) (c0 : Nat) (l0 : List Int) (r : Bool) (w : World) (hr0 : Kd.C (Kd.int .i64) w A0 l0.length l0) (hc0 : l0.length ≤ c0) (h : impl_areKinds.f k l0 = some r) :
 Calls Try.prog 155 #[.slice A0 l0.length c0] w fun e w' => e = .returned (.bool r) ∧ Below w.heap.size w w' := by
 have HR0 := zQ hr0
 have HC0 := zQ hc0
 clear hr0 hc0
 have HB := zQ (Below.refl w.heap.size w)
 have H : (if (l0.length : Int) ≤ 8 then ((impl_all_int_isFbKind.f k l0).bind fun t227 => (some t227)) else (some false)) = some r := h
 clear h
 by_cases c2 : (l0.length : Int) ≤ 8
 ·rw [if_pos c2] at H
  have c2b0 : decide ((l0.length : Int) ≤ 8) = true := decide_eq_true c2
  have c2b1 : decide (l0.length ≤ 8) = true := decide_eq_true (by omega)
  clear c2
  replace H := Option.bind_eq_some_iff.mp H
  obtain ⟨t227, A30, H⟩ := H
  replace H : (some t227) = some r := H
  have A3 := zQ A30
  clear A30
  obtain rfl := Option.some.inj H
  go_enter Try.func155, Try.ntmps155
  go_wp2_with (first | (go_at_call 194; (with_reducible refine (impl_all_int_isFbKind.calls k _ _ l0  t227 _ ?side1 ?side2 A3.out).mono ?_); (case side1 => repeat (first | exact HR0.out | (with_reducible refine Kd.C_alloc ?_ _) | (with_reducible refine Kd.C_drewN ?_ _) | (with_reducible refine Kd.C_drew ?_))); (case side2 => exact HC0.out); rintro e w4 ⟨rfl, hb⟩; have n0_ := zQ (below_step (zB HB.out) hb); clear HB; have HB := n0_; clear n0_; (try clear hb); (try clear hb2); (try clear hk); (try clear hi)))
  go_ret
  exact ⟨by first | rfl | (simp [errW_none, errW_some] <;> rfl) | (simp [*, errW_none, errW_some] <;> rfl), zB HB.out⟩
 ·rw [if_neg c2] at H
  have c2b0 : decide ((l0.length : Int) ≤ 8) = false := decide_eq_false c2
  have c2b1 : decide (l0.length ≤ 8) = false := decide_eq_false (by omega)
  clear c2
  obtain rfl := Option.some.inj H
  go_enter Try.func155, Try.ntmps155
  go_wp2
  go_ret
  exact ⟨by first | rfl | (simp [errW_none, errW_some] <;> rfl) | (simp [*, errW_none, errW_some] <;> rfl), zB HB.out⟩

-- NOT PRINTED: function 255 (impl_Routine_255)

-- NOT PRINTED: function 215 (impl_Routine_215)

-- NOT PRINTED: function 216 (impl_Routine_1)

-- NOT PRINTED: function 156 (impl_Routine_156)

-- NOT PRINTED: function 211 (impl_Instr_211)

-- NOT PRINTED: function 142 (impl_Instr_142)

-- NOT PRINTED: function 143 (impl_Instr_1)

-- NOT PRINTED: function 73 (impl_Instr_73)

end Go.Proofs.Ytkegjmkdnfpfdaa.MFnExactNewCore
