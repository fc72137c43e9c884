-- Text written by a program of this session (wip/tools: the kit's printer with additions of ours).
import Derived.Test.YtkegjmkdnfpfdaaMFnExactCallsOfx0
import Derived.Test.YtkegjmkdnfpfdaaMFnExactCallsOfx10
namespace Go.Proofs.Ytkegjmkdnfpfdaa.MFnExactCallsOf
open Go.RowKit Go.Proofs.YtkegjmkdnfpfdaaW.PrintWords Go.Proofs.YtkegjmkdnfpfdaaW.PrintLast Go.Proofs.YtkegjmkdnfpfdaaW.PrintMore
attribute [local go_sem] max2_int min2_int max_two min_two max_three min_three max_four min_four   -- for this text's walks alone
set_option linter.unusedVariables false
set_option linter.unusedSimpArgs false

/-- The routines that code calls, as they stand in it. -/
def callsL : List S96 → List Int
  | [] => []
  | x :: xs => if x.f0 = 26 then x.f1 :: callsL xs else callsL xs
theorem callsL_app : ∀ a b : List S96, callsL (a ++ b) = callsL a ++ callsL b
  | [], b => rfl
  | x :: a, b => by
    simp only [List.cons_append, callsL, callsL_app a b]
    split <;> simp
theorem callsL_take (l : List S96) (i : Nat) (h : i < l.length) : callsL (l.take (i + 1)) = callsL (l.take i) ++ (if l[i].f0 = 26 then [l[i].f1] else []) := by
  rw [List.take_succ_eq_append_getElem h, callsL_app]
  rfl
theorem callsL_len (l : List S96) : (callsL l).length ≤ l.length := by
  induction l with
  | nil => simp [callsL]
  | cons x l ih =>
    simp only [callsL]
    split <;> simp <;> omega
def sortI (l : List Int) : List Int := l.mergeSort fun x y => decide (x ≤ y)
def impl_callsOf.f (l0 : List S96) : Option (List Int) := if l0.length ≤ 4096 then some (Lib.compact (sortI (callsL l0))) else none
theorem co_R {w : World} {B : Nat} {v : Value} {xs : List Int} (h : w.ownsRow B 3 1 v xs.length (nums .i64 xs)) : Kd.R (Kd.int .i64) 3 w B (fun _ => True) v xs :=
  ⟨fun _ _ => trivial, nums .i64 xs, h, by simp only [nums, List.length_map]; exact (Nat.mul_one _).symm, fun j p hj => by
    have hj' : j < xs.length := (List.getElem?_eq_some_iff.1 hj).1
    have hp : xs[j] = p := (List.getElem?_eq_some_iff.1 hj).2
    show ((nums .i64 xs).drop (j * 1)).take 1 = [Value.int .i64 p]
    rw [Nat.mul_one, List.drop_eq_getElem_cons (by simpa [nums] using hj')]
    simp [nums, hp]⟩
theorem co_sort (B : Nat) (g cap : Nat) (xs : List Int) (w0 w : World) (HO : w.ownsRow B 3 1 (.slice (some ⟨g, 0, none⟩) xs.length cap) xs.length (nums .i64 xs)) (HB : Below B w0 w) (hB : B ≤ w.heap.size) (hn : xs.length ≤ 4096) :
    Calls Try.prog 146 #[.slice (some ⟨g, 0, none⟩) xs.length cap] w fun e w' => e = .returned (.tuple #[]) ∧ w'.ownsRow B 3 1 (.slice (some ⟨g, 0, none⟩) xs.length cap) xs.length (nums .i64 (sortI xs)) ∧ Below B w0 w' ∧ B ≤ w'.heap.size := by
  have HO' : w.ownsRow B 3 1 (.slice (some ⟨g, 0, none⟩) xs.length cap) xs.length (xs.map (Value.int .i64)) := HO
  rcases HO.2 with ⟨e0, _⟩ | ⟨g', cap', cur, e0, hb, hg, hn', hm, hs, ht⟩
  · cases e0
  injection e0 with e1 _ e3
  injection e1 with e1
  injection e1 with e1
  subst e1; subst e3
  have hH : Go.Sort.Holds (Value.int .i64) w g 0 xs.toArray := Go.holds_of_blockI hg (by simpa [nums] using ht)
  refine (bd_sort g 0 cap xs w hH (blk_lt hg) (by omega)).mono ?_
  rintro e w' ⟨rfl, n, os, rfl⟩
  refine ⟨rfl, ?_, ?_, ?_⟩
  · exact Go.ownsRow_sortedI (ss := xs) (ts := sortI xs) (by simp [sortI]) hb hg hn' hm (by simpa using hs)
  · exact HB.grown (Go.grownBy_sortedI _) hB (fun k hk => by cases hk; exact hb)
  · have := (Go.grownBy_sortedI (w := w) (g := g) (n := n) (os := os) ((xs.mergeSort fun x y => decide (x ≤ y)).toArray)).size
    omega
theorem co_compact (B : Nat) (g cap : Nat) (xs : List Int) (m : Nat) (hm0 : xs.length = m) (w0 w : World) (HO : w.ownsRow B 3 1 (.slice (some ⟨g, 0, none⟩) m cap) m (nums .i64 xs)) (HB : Below B w0 w) (hn : xs.length ≤ 4096) :
    Calls Try.prog 147 #[.slice (some ⟨g, 0, none⟩) m cap] w fun e w' => e = .returned (.slice (some ⟨g, 0, none⟩) (Lib.compact xs).length cap) ∧ w'.ownsRow B 3 1 (.slice (some ⟨g, 0, none⟩) (Lib.compact xs).length cap) (Lib.compact xs).length (nums .i64 (Lib.compact xs)) ∧ Below B w0 w' := by
  subst hm0
  rcases HO.2 with ⟨e0, _⟩ | ⟨g', cap', cur, e0, hb, hg, hn', hm, hs, ht⟩
  · cases e0
  injection e0 with e1 _ e3
  injection e1 with e1
  injection e1 with e1
  subst e1; subst e3
  have hH : Go.Sort.Holds (Value.int .i64) w g 0 xs.toArray := Go.holds_of_blockI hg (by simpa [nums] using ht)
  have hc : (Lib.compact xs).length ≤ xs.length := Lib.compact_length_le xs
  refine (bd_comp g 0 cap xs w hH (by omega) hn').mono ?_
  rintro e w' ⟨rfl, q, rfl⟩
  refine ⟨rfl, ?_, ?_⟩
  · have h := Lib.ownsRow_putRow (enc := Value.int .i64) (q := q) (k := (Lib.compact xs).length) (zs := xs) (ys := Lib.compact xs ++ List.replicate (xs.length - (Lib.compact xs).length) 0) HO (by simp; omega) hc
    rw [List.take_left] at h
    exact h
  · exact Lib.below_putRow HB hb
theorem co_form {w : World} {B n : Nat} {v : Value} {xs : List Value} (h : w.ownsRow B 3 1 v n xs) (hv : v ≠ .slice none 0 0) : ∃ g cap, v = .slice (some ⟨g, 0, none⟩) n cap := by
  rcases h.2 with ⟨e0, _⟩ | ⟨g, cap, cur, e0, _⟩
  · exact absurd e0 hv
  · exact ⟨g, cap, e0⟩
set_option maxHeartbeats 8000000 in
set_option maxRecDepth 100000 in
theorem impl_callsOf.calls (A0 : Option Addr) (c0 : Nat) (l0 : List (S96)) (r : List Int) (w : World) (hr0 : Kd.C k96 w A0 l0.length l0) (hc0 : l0.length ≤ c0) (h : impl_callsOf.f l0 = some r) :
    Calls Try.prog 75 #[.slice A0 l0.length c0] w fun e w' => ∃ v0_ : Value, e = .returned (v0_) ∧ Kd.R (Kd.int .i64) 3 w' w.heap.size (fun _ => True) v0_ r ∧ Below w.heap.size w w' := by
  unfold impl_callsOf.f at h
  by_cases hn : l0.length ≤ 4096
  case neg => rw [if_neg hn] at h; cases h
  rw [if_pos hn] at h
  obtain rfl := Option.some.inj h
  clear h
  have HN := Aside0.mk hn
  have HR0 := Aside0.mk hr0
  have HC0 := Aside0.mk hc0
  have HO0 : Aside0 ((w.alloc (.cells #[] 3)).ownsRow w.heap.size 3 1 (.slice (some ⟨w.heap.size, 0, none⟩) 0 0) 0 []) := ⟨World.ownsRow_made w #[] 0 (Nat.le_refl _) (Nat.zero_le _) rfl⟩
  have HB := Aside0.mk (Below.refl w.heap.size w)
  clear hr0 hc0 hn
  have hu96 := Try.underlying96
  go_enter Try.func75, Try.ntmps75
  go_wp2
  go_loopg [3, 9] (l0.length) (fun kq v3 v9 w' => ∃ (i : Nat), v9 = .int .i64 (i : Int) ∧ Aside0 (kq + i = l0.length) ∧ Aside0 (w'.ownsRow w.heap.size 3 1 v3 (callsL (l0.take i)).length (nums .i64 (callsL (l0.take i)))) ∧ Aside0 (v3 ≠ .slice none 0 0) ∧ Aside0 (Below w.heap.size w w'))
  case atStart => exact ⟨0, by rfl, ⟨by omega⟩, HO0, ⟨by simp⟩, ⟨by repeat (first | (with_reducible first | exact HB.out | apply below_alloc | apply pw_below_drewN | apply below_drew1) | exact HB.out)⟩⟩
  case round =>
    clear HO0 HB
    obtain ⟨i, rfl, HK, HO, HV, HB⟩ := hrel
    have hk0 := HK.out
    by_cases hlt : i < l0.length
    · cases gk with
      | zero => omega
      | succ k1 =>
        have e0 : rd_T96 l0 (i : Int) = l0[i] := by simp [rd_T96, List.getD_eq_getElem?_getD, hlt]
        have ht := callsL_take l0 i hlt
        rw [← e0] at ht
        obtain ⟨ad, e1, hx0, hx1⟩ := at_T96 HR0.out (i : Int) (by omega) (by omega)
        cases e1
        replace hx0 := (HB.out.cell (World.block_lt_of_cell? w _ hx0)).trans hx0
        replace hx1 := (HB.out.cell (World.block_lt_of_cell? w _ hx1)).trans hx1
        simp only [Int.toNat_natCast] at hx0 hx1
        have hn0 := HN.out
        have hbd : (i : Int) ≤ 4096 := by omega
        have hbd0 : (0 : Int) ≤ (i : Int) := by omega
        have hlen : (callsL (l0.take i)).length ≤ 4096 := Nat.le_trans (callsL_len _) (by rw [List.length_take]; omega)
        have HLEN := Aside0.mk hlen
        have p1 : ((i : Int) < (l0.length : Int)) = True := eq_true (by omega)
        have p2 : ((0 : Int) ≤ (i : Int)) = True := eq_true (by omega)
        have p1b : decide ((i : Int) < (l0.length : Int)) = true := decide_eq_true (by omega)
        have HK1 := Aside0.mk (show k1 + (i + 1) = l0.length by omega)
        by_cases hop : (rd_T96 l0 (i : Int)).f0 = 26
        · rw [if_pos hop] at ht
          have HT := Aside0.mk ht
          have o1 : ((rd_T96 l0 (i : Int)).f0 == 26) = true := beq_iff_eq.mpr hop
          have o2 : ((rd_T96 l0 (i : Int)).f0 != 26) = false := bne_eq_false_iff_eq.mpr hop
          clear hk0 hn0 hlt e0 HK ht hlen hop
          go_wp2_with (at_builtin; refine print_append_num w.heap.size rfl _ _ 23 3 .i64 8 rfl Try.underlying23 (by kernel_rfl) (by decide) _ (callsL (l0.take i)) _ rfl ?hx (HO.out.alloc _) (below_alloc HB.out _) ?c1 ?c2 ?c3)
          case hx => exact congrArg (fun b => Value.slice (some ⟨b, 0, none⟩) 1 1) (Array.size_push _).symm
          case c1 => have := HB.out.size; simp only [World.alloc, Array.size_push]; omega
          case c2 => have := HLEN.out; omega
          case c3 =>
            intro v1 w1 ho hb _ _
            have HO1 := Aside0.mk ho
            have HB1 := Aside0.mk hb
            have HV1 : Aside0 (v1 ≠ .slice none 0 0) := ⟨fun e => by
              subst e
              rcases ho.2 with ⟨_, h0⟩ | ⟨g, cap, cur, e0, _⟩
              · simp at h0
              · cases e0⟩
            clear ho hb HO HB HV
            go_wp2
            go_roundg k1
            case measure => have := HK1.out; omega
            case rel => exact ⟨i + 1, by go_num, HK1, ⟨by rw [HT.out, List.length_append]; exact HO1.out⟩, HV1, HB1⟩
        · rw [if_neg hop, List.append_nil] at ht
          have HT := Aside0.mk ht
          have o1 : ((rd_T96 l0 (i : Int)).f0 == 26) = false := beq_eq_false_iff_ne.mpr hop
          have o2 : ((rd_T96 l0 (i : Int)).f0 != 26) = true := bne_iff_ne.mpr hop
          clear hk0 hn0 hlt e0 HK ht hlen hop
          go_wp2
          go_roundg k1
          case measure => have := HK1.out; omega
          case rel => exact ⟨i + 1, by go_num, HK1, ⟨by rw [HT.out]; exact HO.out.alloc _⟩, HV, ⟨by repeat (first | (with_reducible first | exact HB.out | apply below_alloc | apply pw_below_drewN | apply below_drew1) | exact HB.out)⟩⟩
    · have e_ : i = l0.length := by omega
      subst e_
      have p1 : ((l0.length : Int) < (l0.length : Int)) = False := eq_false (by omega)
      have p1b : decide ((l0.length : Int) < (l0.length : Int)) = false := decide_eq_false (by omega)
      have ho := HO.out
      rw [List.take_of_length_le (Nat.le_refl _)] at ho
      obtain ⟨g, cap, rfl⟩ := co_form ho HV.out
      have HO1 := Aside0.mk ho
      have HLEN := Aside0.mk (Nat.le_trans (callsL_len l0) HN.out)
      clear ho HO HV hk0 HK hlt
      go_wp2_with (go_at_call 146; (with_reducible refine (co_sort w.heap.size g cap (callsL l0) w _ HO1.out HB.out ?b1 HLEN.out).mono ?_); (case b1 => exact HB.out.size); rintro e w2 ⟨rfl, ho, hb, hz⟩; have n0_ := Aside0.mk ho; have n1_ := Aside0.mk hb; clear HO1 HB ho hb hz; have HO2 := n0_; have HB := n1_; clear n0_ n1_)
      go_wp2_with (go_at_call 147; (with_reducible refine (co_compact w.heap.size g cap (sortI (callsL l0)) (callsL l0).length (by simp [sortI]) w _ HO2.out HB.out ?d2).mono ?_); (case d2 => have := HLEN.out; simpa [sortI] using this); rintro e w3 ⟨rfl, ho, hb⟩; have n0_ := Aside0.mk ho; have n1_ := Aside0.mk hb; clear HO2 HB ho hb; have HO3 := n0_; have HB := n1_; clear n0_ n1_)
      go_ret
      exact ⟨_, rfl, co_R HO3.out, HB.out⟩

/-! ### impl_all_Instr_InstrOK: function 73 at impl_InstrOK, by its own walk -/
set_option maxHeartbeats 8000000 in
set_option maxRecDepth 100000 in
theorem impl_all_Instr_InstrOK.one (k : Nat) (x : S96) (r : Bool) (g : Nat) (W : World) (hg : W.cell? ⟨g, 0, none⟩ = some (.func (.func 74) #[] #[])) (h : impl_InstrOK.f k (x).f0 (x).f1 = some r) :
    Calls Try.prog 143 #[.agg #[.int .i64 (x).f0, .int .i64 (x).f1], .pointer (some ⟨g, 0, none⟩)] W fun e w' => e = .returned (.bool (!r)) ∧ Below W.heap.size W w' := by
  have HB := Aside0.mk (Below.refl W.heap.size W)
  have A2 := Aside0.mk h
  clear h
  have hgl := World.block_lt_of_cell? W _ hg
  have hg2 : ∀ o, (W.alloc o).cell? ⟨g, 0, none⟩ = some (.func (.func 74) #[] #[]) := fun o => (World.cell?_alloc_lt W o ⟨g, 0, none⟩ hgl).trans hg
  clear hgl
  go_enter Try.func143, Try.ntmps143
  go_wp2_with (first | (go_at_call 74; (with_reducible refine (impl_InstrOK.calls k (x).f0 (x).f1 r _ A2.out).mono ?_); rintro e w4 ⟨rfl, hb⟩; have n0_ := Aside0.mk (below_step (by repeat (first | (with_reducible first | exact HB.out | apply below_alloc | apply pw_below_drewN | apply below_drew1) | exact HB.out)) hb); clear HB; have HB := n0_; clear n0_; (try clear hb)))
  go_ret
  exact ⟨by first | rfl | (simp; done), by repeat (first | (with_reducible first | exact HB.out | apply below_alloc | apply pw_below_drewN | apply below_drew1) | exact HB.out)⟩

def impl_all_Instr_InstrOK.l0 : Nat → List S96 → Int → Option Int
  | 0, _, _ => none
  | k + 1, l0, i => if i < (l0.length : Int) then (if 0 ≤ i then ((impl_InstrOK.f k ((rd_T96 l0 i)).f0 ((rd_T96 l0 i)).f1).bind fun t => (if t = true then (impl_all_Instr_InstrOK.l0 k l0 (wrap64 (i + 1))) else (some i))) else none) else some (-1)
theorem impl_all_Instr_InstrOK.mono_l : ∀ k, (∀ y0 y1, LeO (impl_all_Instr_InstrOK.l0 k y0 y1) (impl_all_Instr_InstrOK.l0 (k + 1) y0 y1))
  | 0 => fun _ _ r h => by simp [impl_all_Instr_InstrOK.l0] at h
  | k + 1 => by
    have ih0 := impl_all_Instr_InstrOK.mono_l k
    · intro y0 y1
      unfold impl_all_Instr_InstrOK.l0
      repeat' first
      | (with_reducible exact ih0 _ _)
      | (with_reducible exact impl_InstrOK.mono _ _ _)
      | (with_reducible exact LeO.refl _)
      | (with_reducible exact LeO.none _)
      | (with_reducible refine LeO.ite ?_ ?_)
      | (with_reducible refine LeO.bind ?_ (fun _ => ?_))
set_option maxHeartbeats 8000000 in
set_option maxRecDepth 100000 in
theorem impl_all_Instr_InstrOK.find (k : Nat) (A0 : Option Addr) (c0 : Nat) (l0 : List S96) (r : Int) (g : Nat) (w : World) (hg : w.cell? ⟨g, 0, none⟩ = some (.func (.func 74) #[] #[])) (hr0 : Kd.C k96 w A0 l0.length l0) (hc0 : l0.length ≤ c0) (h : impl_all_Instr_InstrOK.l0 k l0 0 = some r) :
    Calls Try.prog 211 #[.slice A0 l0.length c0, .func (.func 143) #[] #[.pointer (some ⟨g, 0, none⟩)]] w fun e w' => e = .returned (.int .i64 r) ∧ Below w.heap.size w w' := by
  have HR0 := Aside0.mk hr0
  have HC0 := Aside0.mk hc0
  have HG := Aside0.mk hg
  clear hr0 hc0 hg
  have HB := Aside0.mk (Below.refl w.heap.size w)
  have H' := Aside0.mk h
  clear h
  have hu96 := Try.underlying96
  go_enter Try.func211, Try.ntmps211
  go_wp2
  go_loopg [8] k (fun kq v8 w' => ∃ (i : Int), v8 = .int .i64 i ∧ Aside0 (impl_all_Instr_InstrOK.l0 kq l0 i = some r) ∧ Aside0 (kq ≤ k) ∧ Aside0 (Below w.heap.size w w'))
  case atStart => exact ⟨0, (by first | rfl | (simp; done)), H', ⟨Nat.le_refl _⟩, ⟨by repeat (first | (with_reducible first | exact HB.out | apply below_alloc | apply pw_below_drewN | apply below_drew1) | exact HB.out)⟩⟩
  case round =>
    clear H'
    obtain ⟨i, rfl, HA, HK1, HB⟩ := hrel
    cases gk with
    | zero => exact absurd HA.out (by simp [impl_all_Instr_InstrOK.l0])
    | succ k1 =>
      have H := HA.out
      clear HA
      simp only [impl_all_Instr_InstrOK.l0] at H
      by_cases c2 : i < (l0.length : Int)
      · rw [if_pos c2] at H
        by_cases c3 : 0 ≤ i
        · rw [if_pos c3] at H
          replace H := Option.bind_eq_some_iff.mp H
          obtain ⟨t, A40, H⟩ := H
          have A4 := Aside0.mk A40
          clear A40
          obtain ⟨ad, e0_, hx0, hx1⟩ := at_T96 HR0.out i c3 c2
          cases e0_
          replace hx0 := (HB.out.cell (World.block_lt_of_cell? w _ hx0)).trans hx0
          replace hx1 := (HB.out.cell (World.block_lt_of_cell? w _ hx1)).trans hx1
          have hgw := (HB.out.cell (World.block_lt_of_cell? w _ HG.out)).trans HG.out
          have HGW := Aside0.mk hgw
          clear hgw
          have c2b0 : decide (i < (l0.length : Int)) = true := decide_eq_true c2
          have c3b0 : decide (0 ≤ i) = true := decide_eq_true c3
          replace c2 := eq_true c2
          replace c3 := eq_true c3
          cases t with
          | true =>
            rw [if_pos rfl] at H
            have H' := Aside0.mk H
            clear H
            go_wp2_with (first | (go_at_call 143; (with_reducible refine (impl_all_Instr_InstrOK.one k1 (rd_T96 l0 i) true g _ HGW.out A4.out).mono ?_); rintro e w6 ⟨rfl, hb⟩; have n0_ := Aside0.mk (below_step (by repeat (first | (with_reducible first | exact HB.out | apply below_alloc | apply pw_below_drewN | apply below_drew1) | exact HB.out)) hb); clear HB; have HB := n0_; clear n0_; (try clear hb)))
            go_roundg k1
            case measure => have := HK1.out; omega
            case rel => exact ⟨(wrap64 (i + 1)), (by first | rfl | (simp; done) | (simp [*]; done)), H', ⟨by have := HK1.out; omega⟩, ⟨by repeat (first | (with_reducible first | exact HB.out | apply below_alloc | apply pw_below_drewN | apply below_drew1) | exact HB.out)⟩⟩
          | false =>
            rw [if_neg (show ¬ (false = true) by decide)] at H
            obtain rfl := Option.some.inj H
            clear H
            go_wp2_with (first | (go_at_call 143; (with_reducible refine (impl_all_Instr_InstrOK.one k1 (rd_T96 l0 i) false g _ HGW.out A4.out).mono ?_); rintro e w6 ⟨rfl, hb⟩; have n0_ := Aside0.mk (below_step (by repeat (first | (with_reducible first | exact HB.out | apply below_alloc | apply pw_below_drewN | apply below_drew1) | exact HB.out)) hb); clear HB; have HB := n0_; clear n0_; (try clear hb)))
            go_ret
            exact ⟨by first | rfl | (simp; done), by repeat (first | (with_reducible first | exact HB.out | apply below_alloc | apply pw_below_drewN | apply below_drew1) | exact HB.out)⟩
        · rw [if_neg c3] at H
          exact absurd H (by simp)
      · rw [if_neg c2] at H
        obtain rfl := Option.some.inj H
        have c2b0 : decide (i < (l0.length : Int)) = false := decide_eq_false c2
        clear c2 H
        go_wp2
        go_ret
        exact ⟨by first | rfl | (simp; done), by repeat (first | (with_reducible first | exact HB.out | apply below_alloc | apply pw_below_drewN | apply below_drew1) | exact HB.out)⟩

def impl_all_Instr_InstrOK.f (k : Nat) (l0 : List S96) : Option Bool := (impl_all_Instr_InstrOK.l0 k l0 0).bind fun j => some (!(decide (0 ≤ j)))
theorem impl_all_Instr_InstrOK.mono : ∀ a0 k, LeO (impl_all_Instr_InstrOK.f k a0) (impl_all_Instr_InstrOK.f (k + 1) a0) := by
  intro a0 k
  unfold impl_all_Instr_InstrOK.f
  exact LeO.bind (impl_all_Instr_InstrOK.mono_l k _ _) (fun _ => LeO.refl _)
set_option maxHeartbeats 8000000 in
set_option maxRecDepth 100000 in
theorem impl_all_Instr_InstrOK.calls (k : Nat) (A0 : Option Addr) (c0 : Nat) (l0 : List S96) (r : Bool) (w : World) (hr0 : Kd.C k96 w A0 l0.length l0) (hc0 : l0.length ≤ c0) (h : impl_all_Instr_InstrOK.f k l0 = some r) :
    Calls Try.prog 73 #[.slice A0 l0.length c0, .func (.func 74) #[] #[]] w fun e w' => e = .returned (.bool r) ∧ Below w.heap.size w w' := by
  obtain ⟨j, A20, H⟩ := Option.bind_eq_some_iff.mp h
  have A2 := Aside0.mk A20
  clear A20 h
  obtain rfl := Option.some.inj H
  clear H
  have HR0 := Aside0.mk hr0
  have HC0 := Aside0.mk hc0
  clear hr0 hc0
  have HB := Aside0.mk (Below.refl w.heap.size w)
  have hmf : ∀ (fn : Fn) (first cap : Array Value) (w : World), (Instr.makeFunc fn first cap).run Try.prog w = .ok (.func fn first cap) w := fun _ _ _ _ => rfl
  go_enter Try.func73, Try.ntmps73
  go_wp2_with (first | ((with_reducible refine gate_callee (f := 211) rfl ?_); refine goesL_ (some 7) rfl rfl Try.func211 (by kernel_rfl) rfl #[.slice A0 l0.length c0, .func (.func 143) #[] #[.pointer (some ⟨w.heap.size, 0, none⟩)]] rfl (by (try simp only [List.map_toArray, List.map_cons, List.map_nil]); first | done | rfl) ?_; (with_reducible refine (impl_all_Instr_InstrOK.find k _ _ l0 j w.heap.size _ ?hgc ?side1 ?side2 A2.out).mono ?_); (case hgc => (first | exact World.cell?_alloc_at _ _ _ _ rfl | simp)); (case side1 => repeat (first | exact HR0.out | (with_reducible refine Kd.C_alloc ?_ _) | (with_reducible refine Kd.C_drewN ?_ _) | (with_reducible refine Kd.C_drew ?_))); (case side2 => exact HC0.out); rintro e w6 ⟨rfl, hb⟩; refine ⟨_, rfl, ?_⟩; have n0_ := Aside0.mk (below_step (by repeat (first | (with_reducible first | exact HB.out | apply below_alloc | apply pw_below_drewN | apply below_drew1) | exact HB.out)) hb); clear HB; have HB := n0_; clear n0_; (try clear hb)) | (go_at_call 142; go_in))
  go_ret
  exact ⟨by first | rfl | (simp; done), by repeat (first | (with_reducible first | exact HB.out | apply below_alloc | apply pw_below_drewN | apply below_drew1) | exact HB.out)⟩

end Go.Proofs.Ytkegjmkdnfpfdaa.MFnExactCallsOf
