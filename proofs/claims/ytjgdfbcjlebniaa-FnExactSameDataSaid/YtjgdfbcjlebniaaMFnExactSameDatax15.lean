-- Text written by a program of this session (wip/tools: the kit's printer with additions of ours).
import Derived.Test.YtjgdfbcjlebniaaMFnExactSameDatax0
import Derived.Test.YtjgdfbcjlebniaaMFnExactSameDatax13
import Derived.Test.YtjgdfbcjlebniaaMFnExactSameDatax14
namespace Go.Proofs.Ytjgdfbcjlebniaa.MFnExactSameData
open Go.RowKit Go.Proofs.YtjgdfbcjlebniaaW.PrintWords Go.Proofs.YtjgdfbcjlebniaaW.PrintLast Go.Proofs.YtjgdfbcjlebniaaW.PrintMore
attribute [local go_sem] max2_int min2_int max_two min_two max_three min_three max_four min_four   -- for this text's walks alone
set_option linter.unusedVariables false
set_option linter.unusedSimpArgs false

/-! ### impl_all_int_isValue: function 53 at impl_isValue, by its own walk -/
set_option maxHeartbeats 8000000 in
set_option maxRecDepth 100000 in
theorem impl_all_int_isValue.one (x : Int) (r : Bool) (g : Nat) (W : World) (hg : W.cell? ⟨g, 0, none⟩ = some (.func (.func 54) #[] #[])) (h : impl_isValue.f (x) = some r) :
    Calls Try.prog 99 #[.int .i64 (x), .pointer (some ⟨g, 0, none⟩)] W fun e w' => e = .returned (.bool (!r)) ∧ Below W.heap.size W w' := by
  have HB := Aside0.mk (Below.refl W.heap.size W)
  have A2 := Aside0.mk h
  clear h
  go_enter Try.func99, Try.ntmps99
  go_wp2_with (first | (go_at_call 54; (with_reducible refine (impl_isValue.calls (x) r _ A2.out).mono ?_); rintro e w' ⟨rfl, ⟨nd, rfl⟩⟩))
  go_ret
  exact ⟨by first | rfl | (simp; done), by repeat (first | (with_reducible first | exact HB.out | apply below_alloc | apply pw_below_drewN | apply below_drew1) | exact HB.out)⟩

def impl_all_int_isValue.l0 : Nat → List Int → Int → Option Int
  | 0, _, _ => none
  | k + 1, l0, i => if i < (l0.length : Int) then (if 0 ≤ i then ((impl_isValue.f ((rd l0 i))).bind fun t => (if t = true then (impl_all_int_isValue.l0 k l0 (wrap64 (i + 1))) else (some i))) else none) else some (-1)
theorem impl_all_int_isValue.mono_l : ∀ k, (∀ y0 y1, LeO (impl_all_int_isValue.l0 k y0 y1) (impl_all_int_isValue.l0 (k + 1) y0 y1))
  | 0 => fun _ _ r h => by simp [impl_all_int_isValue.l0] at h
  | k + 1 => by
    have ih0 := impl_all_int_isValue.mono_l k
    · intro y0 y1
      unfold impl_all_int_isValue.l0
      repeat' first
      | (with_reducible exact ih0 _ _)
      | (with_reducible exact LeO.refl _)
      | (with_reducible exact LeO.none _)
      | (with_reducible refine LeO.ite ?_ ?_)
      | (with_reducible refine LeO.bind ?_ (fun _ => ?_))
set_option maxHeartbeats 8000000 in
set_option maxRecDepth 100000 in
theorem impl_all_int_isValue.find (k : Nat) (A0 : Option Addr) (c0 : Nat) (l0 : List Int) (r : Int) (g : Nat) (w : World) (hg : w.cell? ⟨g, 0, none⟩ = some (.func (.func 54) #[] #[])) (hr0 : Kd.C (Kd.int .i64) w A0 l0.length l0) (hc0 : l0.length ≤ c0) (h : impl_all_int_isValue.l0 k l0 0 = some r) :
    Calls Try.prog 125 #[.slice A0 l0.length c0, .func (.func 99) #[] #[.pointer (some ⟨g, 0, none⟩)]] w fun e w' => e = .returned (.int .i64 r) ∧ Below w.heap.size w w' := by
  have HR0 := Aside0.mk hr0
  have HC0 := Aside0.mk hc0
  have HG := Aside0.mk hg
  clear hr0 hc0 hg
  have HB := Aside0.mk (Below.refl w.heap.size w)
  have H' := Aside0.mk h
  clear h
  go_enter Try.func125, Try.ntmps125
  go_wp2
  go_loopg [8] k (fun kq v8 w' => ∃ (i : Int), v8 = .int .i64 i ∧ Aside0 (impl_all_int_isValue.l0 kq l0 i = some r) ∧ Aside0 (kq ≤ k) ∧ Aside0 (Below w.heap.size w w'))
  case atStart => exact ⟨0, (by first | rfl | (simp; done)), H', ⟨Nat.le_refl _⟩, ⟨by repeat (first | (with_reducible first | exact HB.out | apply below_alloc | apply pw_below_drewN | apply below_drew1) | exact HB.out)⟩⟩
  case round =>
    clear H'
    obtain ⟨i, rfl, HA, HK1, HB⟩ := hrel
    cases gk with
    | zero => exact absurd HA.out (by simp [impl_all_int_isValue.l0])
    | succ k1 =>
      have H := HA.out
      clear HA
      simp only [impl_all_int_isValue.l0] at H
      by_cases c2 : i < (l0.length : Int)
      · rw [if_pos c2] at H
        by_cases c3 : 0 ≤ i
        · rw [if_pos c3] at H
          replace H := Option.bind_eq_some_iff.mp H
          obtain ⟨t, A40, H⟩ := H
          have A4 := Aside0.mk A40
          clear A40
          obtain ⟨ad, e0_, hx0⟩ := Kd.at_int HR0.out i c3 c2
          cases e0_
          replace hx0 := (HB.out.cell (World.block_lt_of_cell? w _ hx0)).trans hx0
          have hgw := (HB.out.cell (World.block_lt_of_cell? w _ HG.out)).trans HG.out
          have HGW := Aside0.mk hgw
          clear hgw
          have c2b0 : decide (i < (l0.length : Int)) = true := decide_eq_true c2
          have c3b0 : decide (0 ≤ i) = true := decide_eq_true c3
          replace c2 := eq_true c2
          replace c3 := eq_true c3
          cases t with
          | true =>
            rw [if_pos rfl] at H
            have H' := Aside0.mk H
            clear H
            go_wp2_with (first | (go_at_call 99; (with_reducible refine (impl_all_int_isValue.one (rd l0 i) true g _ HGW.out A4.out).mono ?_); rintro e w6 ⟨rfl, hb⟩; have n0_ := Aside0.mk (below_step (by repeat (first | (with_reducible first | exact HB.out | apply below_alloc | apply pw_below_drewN | apply below_drew1) | exact HB.out)) hb); clear HB; have HB := n0_; clear n0_; (try clear hb)))
            go_roundg k1
            case measure => have := HK1.out; omega
            case rel => exact ⟨(wrap64 (i + 1)), (by first | rfl | (simp; done) | (simp [*]; done)), H', ⟨by have := HK1.out; omega⟩, ⟨by repeat (first | (with_reducible first | exact HB.out | apply below_alloc | apply pw_below_drewN | apply below_drew1) | exact HB.out)⟩⟩
          | false =>
            rw [if_neg (show ¬ (false = true) by decide)] at H
            obtain rfl := Option.some.inj H
            clear H
            go_wp2_with (first | (go_at_call 99; (with_reducible refine (impl_all_int_isValue.one (rd l0 i) false g _ HGW.out A4.out).mono ?_); rintro e w6 ⟨rfl, hb⟩; have n0_ := Aside0.mk (below_step (by repeat (first | (with_reducible first | exact HB.out | apply below_alloc | apply pw_below_drewN | apply below_drew1) | exact HB.out)) hb); clear HB; have HB := n0_; clear n0_; (try clear hb)))
            go_ret
            exact ⟨by first | rfl | (simp; done), by repeat (first | (with_reducible first | exact HB.out | apply below_alloc | apply pw_below_drewN | apply below_drew1) | exact HB.out)⟩
        · rw [if_neg c3] at H
          exact absurd H (by simp)
      · rw [if_neg c2] at H
        obtain rfl := Option.some.inj H
        have c2b0 : decide (i < (l0.length : Int)) = false := decide_eq_false c2
        clear c2 H
        go_wp2
        go_ret
        exact ⟨by first | rfl | (simp; done), by repeat (first | (with_reducible first | exact HB.out | apply below_alloc | apply pw_below_drewN | apply below_drew1) | exact HB.out)⟩

def impl_all_int_isValue.f (k : Nat) (l0 : List Int) : Option Bool := (impl_all_int_isValue.l0 k l0 0).bind fun j => some (!(decide (0 ≤ j)))
theorem impl_all_int_isValue.mono : ∀ a0 k, LeO (impl_all_int_isValue.f k a0) (impl_all_int_isValue.f (k + 1) a0) := by
  intro a0 k
  unfold impl_all_int_isValue.f
  exact LeO.bind (impl_all_int_isValue.mono_l k _ _) (fun _ => LeO.refl _)
set_option maxHeartbeats 8000000 in
set_option maxRecDepth 100000 in
theorem impl_all_int_isValue.calls (k : Nat) (A0 : Option Addr) (c0 : Nat) (l0 : List Int) (r : Bool) (w : World) (hr0 : Kd.C (Kd.int .i64) w A0 l0.length l0) (hc0 : l0.length ≤ c0) (h : impl_all_int_isValue.f k l0 = some r) :
    Calls Try.prog 53 #[.slice A0 l0.length c0, .func (.func 54) #[] #[]] w fun e w' => e = .returned (.bool r) ∧ Below w.heap.size w w' := by
  obtain ⟨j, A20, H⟩ := Option.bind_eq_some_iff.mp h
  have A2 := Aside0.mk A20
  clear A20 h
  obtain rfl := Option.some.inj H
  clear H
  have HR0 := Aside0.mk hr0
  have HC0 := Aside0.mk hc0
  clear hr0 hc0
  have HB := Aside0.mk (Below.refl w.heap.size w)
  have hmf : ∀ (fn : Fn) (first cap : Array Value) (w : World), (Instr.makeFunc fn first cap).run Try.prog w = .ok (.func fn first cap) w := fun _ _ _ _ => rfl
  go_enter Try.func53, Try.ntmps53
  go_wp2_with (first | ((with_reducible refine gate_callee (f := 125) rfl ?_); refine goesL_ (some 7) rfl rfl Try.func125 (by kernel_rfl) rfl #[.slice A0 l0.length c0, .func (.func 99) #[] #[.pointer (some ⟨w.heap.size, 0, none⟩)]] rfl (by (try simp only [List.map_toArray, List.map_cons, List.map_nil]); first | done | rfl) ?_; (with_reducible refine (impl_all_int_isValue.find k _ _ l0 j w.heap.size _ ?hgc ?side1 ?side2 A2.out).mono ?_); (case hgc => (first | exact World.cell?_alloc_at _ _ _ _ rfl | simp)); (case side1 => repeat (first | exact HR0.out | (with_reducible refine Kd.C_alloc ?_ _) | (with_reducible refine Kd.C_drewN ?_ _) | (with_reducible refine Kd.C_drew ?_))); (case side2 => exact HC0.out); rintro e w6 ⟨rfl, hb⟩; refine ⟨_, rfl, ?_⟩; have n0_ := Aside0.mk (below_step (by repeat (first | (with_reducible first | exact HB.out | apply below_alloc | apply pw_below_drewN | apply below_drew1) | exact HB.out)) hb); clear HB; have HB := n0_; clear n0_; (try clear hb)) | (go_at_call 98; go_in))
  go_ret
  exact ⟨by first | rfl | (simp; done), by repeat (first | (with_reducible first | exact HB.out | apply below_alloc | apply pw_below_drewN | apply below_drew1) | exact HB.out)⟩

/-! ### impl_all_Fb_FbOK: function 55 at impl_FbOK, by its own walk -/
set_option maxHeartbeats 8000000 in
set_option maxRecDepth 100000 in
theorem impl_all_Fb_FbOK.one (k : Nat) (x : S77) (r : Bool) (g : Nat) (W : World) (hg : W.cell? ⟨g, 0, none⟩ = some (.func (.func 56) #[] #[])) (h : impl_FbOK.f k (x).f0 (x).f1 (x).f2 (x).f3 = some r) :
    Calls Try.prog 101 #[.agg #[.int .i64 (x).f0, .bool (x).f1, .int .i64 (x).f2, .int .i64 (x).f3], .pointer (some ⟨g, 0, none⟩)] W fun e w' => e = .returned (.bool (!r)) ∧ Below W.heap.size W w' := by
  have HB := Aside0.mk (Below.refl W.heap.size W)
  have A2 := Aside0.mk h
  clear h
  have hgl := World.block_lt_of_cell? W _ hg
  have hg2 : ∀ o, (W.alloc o).cell? ⟨g, 0, none⟩ = some (.func (.func 56) #[] #[]) := fun o => (World.cell?_alloc_lt W o ⟨g, 0, none⟩ hgl).trans hg
  clear hgl
  go_enter Try.func101, Try.ntmps101
  go_wp2_with (first | (go_at_call 56; (with_reducible refine (impl_FbOK.calls k (x).f0 (x).f1 (x).f2 (x).f3 r _ A2.out).mono ?_); rintro e w4 ⟨rfl, hb⟩; have n0_ := Aside0.mk (below_step (by repeat (first | (with_reducible first | exact HB.out | apply below_alloc | apply pw_below_drewN | apply below_drew1) | exact HB.out)) hb); clear HB; have HB := n0_; clear n0_; (try clear hb)))
  go_ret
  exact ⟨by first | rfl | (simp; done), by repeat (first | (with_reducible first | exact HB.out | apply below_alloc | apply pw_below_drewN | apply below_drew1) | exact HB.out)⟩

def impl_all_Fb_FbOK.l0 : Nat → List S77 → Int → Option Int
  | 0, _, _ => none
  | k + 1, l0, i => if i < (l0.length : Int) then (if 0 ≤ i then ((impl_FbOK.f k ((rd_T77 l0 i)).f0 ((rd_T77 l0 i)).f1 ((rd_T77 l0 i)).f2 ((rd_T77 l0 i)).f3).bind fun t => (if t = true then (impl_all_Fb_FbOK.l0 k l0 (wrap64 (i + 1))) else (some i))) else none) else some (-1)
theorem impl_all_Fb_FbOK.mono_l : ∀ k, (∀ y0 y1, LeO (impl_all_Fb_FbOK.l0 k y0 y1) (impl_all_Fb_FbOK.l0 (k + 1) y0 y1))
  | 0 => fun _ _ r h => by simp [impl_all_Fb_FbOK.l0] at h
  | k + 1 => by
    have ih0 := impl_all_Fb_FbOK.mono_l k
    · intro y0 y1
      unfold impl_all_Fb_FbOK.l0
      repeat' first
      | (with_reducible exact ih0 _ _)
      | (with_reducible exact impl_FbOK.mono _ _ _ _ _)
      | (with_reducible exact LeO.refl _)
      | (with_reducible exact LeO.none _)
      | (with_reducible refine LeO.ite ?_ ?_)
      | (with_reducible refine LeO.bind ?_ (fun _ => ?_))
set_option maxHeartbeats 8000000 in
set_option maxRecDepth 100000 in
theorem impl_all_Fb_FbOK.find (k : Nat) (A0 : Option Addr) (c0 : Nat) (l0 : List S77) (r : Int) (g : Nat) (w : World) (hg : w.cell? ⟨g, 0, none⟩ = some (.func (.func 56) #[] #[])) (hr0 : Kd.C k77 w A0 l0.length l0) (hc0 : l0.length ≤ c0) (h : impl_all_Fb_FbOK.l0 k l0 0 = some r) :
    Calls Try.prog 126 #[.slice A0 l0.length c0, .func (.func 101) #[] #[.pointer (some ⟨g, 0, none⟩)]] w fun e w' => e = .returned (.int .i64 r) ∧ Below w.heap.size w w' := by
  have HR0 := Aside0.mk hr0
  have HC0 := Aside0.mk hc0
  have HG := Aside0.mk hg
  clear hr0 hc0 hg
  have HB := Aside0.mk (Below.refl w.heap.size w)
  have H' := Aside0.mk h
  clear h
  have hu77 := Try.underlying77
  go_enter Try.func126, Try.ntmps126
  go_wp2
  go_loopg [8] k (fun kq v8 w' => ∃ (i : Int), v8 = .int .i64 i ∧ Aside0 (impl_all_Fb_FbOK.l0 kq l0 i = some r) ∧ Aside0 (kq ≤ k) ∧ Aside0 (Below w.heap.size w w'))
  case atStart => exact ⟨0, (by first | rfl | (simp; done)), H', ⟨Nat.le_refl _⟩, ⟨by repeat (first | (with_reducible first | exact HB.out | apply below_alloc | apply pw_below_drewN | apply below_drew1) | exact HB.out)⟩⟩
  case round =>
    clear H'
    obtain ⟨i, rfl, HA, HK1, HB⟩ := hrel
    cases gk with
    | zero => exact absurd HA.out (by simp [impl_all_Fb_FbOK.l0])
    | succ k1 =>
      have H := HA.out
      clear HA
      simp only [impl_all_Fb_FbOK.l0] at H
      by_cases c2 : i < (l0.length : Int)
      · rw [if_pos c2] at H
        by_cases c3 : 0 ≤ i
        · rw [if_pos c3] at H
          replace H := Option.bind_eq_some_iff.mp H
          obtain ⟨t, A40, H⟩ := H
          have A4 := Aside0.mk A40
          clear A40
          obtain ⟨ad, e0_, hx0, hx1, hx2, hx3⟩ := at_T77 HR0.out i c3 c2
          cases e0_
          replace hx0 := (HB.out.cell (World.block_lt_of_cell? w _ hx0)).trans hx0
          replace hx1 := (HB.out.cell (World.block_lt_of_cell? w _ hx1)).trans hx1
          replace hx2 := (HB.out.cell (World.block_lt_of_cell? w _ hx2)).trans hx2
          replace hx3 := (HB.out.cell (World.block_lt_of_cell? w _ hx3)).trans hx3
          have hgw := (HB.out.cell (World.block_lt_of_cell? w _ HG.out)).trans HG.out
          have HGW := Aside0.mk hgw
          clear hgw
          have c2b0 : decide (i < (l0.length : Int)) = true := decide_eq_true c2
          have c3b0 : decide (0 ≤ i) = true := decide_eq_true c3
          replace c2 := eq_true c2
          replace c3 := eq_true c3
          cases t with
          | true =>
            rw [if_pos rfl] at H
            have H' := Aside0.mk H
            clear H
            go_wp2_with (first | (go_at_call 101; (with_reducible refine (impl_all_Fb_FbOK.one k1 (rd_T77 l0 i) true g _ HGW.out A4.out).mono ?_); rintro e w6 ⟨rfl, hb⟩; have n0_ := Aside0.mk (below_step (by repeat (first | (with_reducible first | exact HB.out | apply below_alloc | apply pw_below_drewN | apply below_drew1) | exact HB.out)) hb); clear HB; have HB := n0_; clear n0_; (try clear hb)))
            go_roundg k1
            case measure => have := HK1.out; omega
            case rel => exact ⟨(wrap64 (i + 1)), (by first | rfl | (simp; done) | (simp [*]; done)), H', ⟨by have := HK1.out; omega⟩, ⟨by repeat (first | (with_reducible first | exact HB.out | apply below_alloc | apply pw_below_drewN | apply below_drew1) | exact HB.out)⟩⟩
          | false =>
            rw [if_neg (show ¬ (false = true) by decide)] at H
            obtain rfl := Option.some.inj H
            clear H
            go_wp2_with (first | (go_at_call 101; (with_reducible refine (impl_all_Fb_FbOK.one k1 (rd_T77 l0 i) false g _ HGW.out A4.out).mono ?_); rintro e w6 ⟨rfl, hb⟩; have n0_ := Aside0.mk (below_step (by repeat (first | (with_reducible first | exact HB.out | apply below_alloc | apply pw_below_drewN | apply below_drew1) | exact HB.out)) hb); clear HB; have HB := n0_; clear n0_; (try clear hb)))
            go_ret
            exact ⟨by first | rfl | (simp; done), by repeat (first | (with_reducible first | exact HB.out | apply below_alloc | apply pw_below_drewN | apply below_drew1) | exact HB.out)⟩
        · rw [if_neg c3] at H
          exact absurd H (by simp)
      · rw [if_neg c2] at H
        obtain rfl := Option.some.inj H
        have c2b0 : decide (i < (l0.length : Int)) = false := decide_eq_false c2
        clear c2 H
        go_wp2
        go_ret
        exact ⟨by first | rfl | (simp; done), by repeat (first | (with_reducible first | exact HB.out | apply below_alloc | apply pw_below_drewN | apply below_drew1) | exact HB.out)⟩

def impl_all_Fb_FbOK.f (k : Nat) (l0 : List S77) : Option Bool := (impl_all_Fb_FbOK.l0 k l0 0).bind fun j => some (!(decide (0 ≤ j)))
theorem impl_all_Fb_FbOK.mono : ∀ a0 k, LeO (impl_all_Fb_FbOK.f k a0) (impl_all_Fb_FbOK.f (k + 1) a0) := by
  intro a0 k
  unfold impl_all_Fb_FbOK.f
  exact LeO.bind (impl_all_Fb_FbOK.mono_l k _ _) (fun _ => LeO.refl _)
set_option maxHeartbeats 8000000 in
set_option maxRecDepth 100000 in
theorem impl_all_Fb_FbOK.calls (k : Nat) (A0 : Option Addr) (c0 : Nat) (l0 : List S77) (r : Bool) (w : World) (hr0 : Kd.C k77 w A0 l0.length l0) (hc0 : l0.length ≤ c0) (h : impl_all_Fb_FbOK.f k l0 = some r) :
    Calls Try.prog 55 #[.slice A0 l0.length c0, .func (.func 56) #[] #[]] w fun e w' => e = .returned (.bool r) ∧ Below w.heap.size w w' := by
  obtain ⟨j, A20, H⟩ := Option.bind_eq_some_iff.mp h
  have A2 := Aside0.mk A20
  clear A20 h
  obtain rfl := Option.some.inj H
  clear H
  have HR0 := Aside0.mk hr0
  have HC0 := Aside0.mk hc0
  clear hr0 hc0
  have HB := Aside0.mk (Below.refl w.heap.size w)
  have hmf : ∀ (fn : Fn) (first cap : Array Value) (w : World), (Instr.makeFunc fn first cap).run Try.prog w = .ok (.func fn first cap) w := fun _ _ _ _ => rfl
  go_enter Try.func55, Try.ntmps55
  go_wp2_with (first | ((with_reducible refine gate_callee (f := 126) rfl ?_); refine goesL_ (some 7) rfl rfl Try.func126 (by kernel_rfl) rfl #[.slice A0 l0.length c0, .func (.func 101) #[] #[.pointer (some ⟨w.heap.size, 0, none⟩)]] rfl (by (try simp only [List.map_toArray, List.map_cons, List.map_nil]); first | done | rfl) ?_; (with_reducible refine (impl_all_Fb_FbOK.find k _ _ l0 j w.heap.size _ ?hgc ?side1 ?side2 A2.out).mono ?_); (case hgc => (first | exact World.cell?_alloc_at _ _ _ _ rfl | simp)); (case side1 => repeat (first | exact HR0.out | (with_reducible refine Kd.C_alloc ?_ _) | (with_reducible refine Kd.C_drewN ?_ _) | (with_reducible refine Kd.C_drew ?_))); (case side2 => exact HC0.out); rintro e w6 ⟨rfl, hb⟩; refine ⟨_, rfl, ?_⟩; have n0_ := Aside0.mk (below_step (by repeat (first | (with_reducible first | exact HB.out | apply below_alloc | apply pw_below_drewN | apply below_drew1) | exact HB.out)) hb); clear HB; have HB := n0_; clear n0_; (try clear hb)) | (go_at_call 100; go_in))
  go_ret
  exact ⟨by first | rfl | (simp; done), by repeat (first | (with_reducible first | exact HB.out | apply below_alloc | apply pw_below_drewN | apply below_drew1) | exact HB.out)⟩

end Go.Proofs.Ytjgdfbcjlebniaa.MFnExactSameData
