-- By a program of this session.
import Derived.Test.YtkegjmkdnfpfdaaMFnExactNewCorex0
import Derived.Test.YtkegjmkdnfpfdaaMFnExactNewCorex7
import Derived.Test.YtkegjmkdnfpfdaaMFnExactNewCorex8
import Derived.Test.YtkegjmkdnfpfdaaMFnExactNewCorex11
namespace Go.Proofs.Ytkegjmkdnfpfdaa.MFnExactNewCore
open Go.RowKit Go.Proofs.YtkegjmkdnfpfdaaW.PrintWords Go.Proofs.YtkegjmkdnfpfdaaW.PrintLast Go.Proofs.YtkegjmkdnfpfdaaW.PrintMore
attribute [local go_sem] max2_int min2_int max_two min_two max_three min_three max_four min_four
set_option linter.unusedVariables false
set_option linter.unusedSimpArgs false
set_option maxHeartbeats 8000000
set_option maxRecDepth 100000


def sLoop (ks : List Int) (R : Int) : List S96 → Int → ByteArray → List SO → Int × Int
 | [], at_, S, O => match O with
  | o :: _ => (o.at_, 14)
  | [] => if S.size = 0 then (0, 0) else (at_, 13)
 | x :: xs, at_, S, O => if (sStep ks R at_ x.f0 x.f1 S O).1 = 0 then sLoop ks R xs (at_ + 1) (sStep ks R at_ x.f0 x.f1 S O).2.1 (sStep ks R at_ x.f0 x.f1 S O).2.2 else (at_, (sStep ks R at_ x.f0 x.f1 S O).1)

theorem v_two {a b : Value} {a' b' : Value} (h1 : a = a') (h2 : b = b') : Ending.returned (.tuple #[a, b]) = .returned (.tuple #[a', b']) := by rw [h1, h2]
set_option maxHeartbeats 4000000 in
theorem sverify {w : World} {A0 A1 : Option Addr} {c0 c1 : Nat} {l0 : List S96} {l1 : List Int} {R : Int} {r2 r3 : Int} (hr0 : Kd.C k96 w A0 l0.length l0) (hc0 : l0.length ≤ c0) (hr1 : Kd.C (Kd.int .i64) w A1 l1.length l1) (hc1 : l1.length ≤ c1)
 (hl : l0.length ≤ 4096) (hv : ∀ x ∈ l0, vOK l1 x.f0 x.f1) (h : sLoop l1 R l0 0 ⟨#[]⟩ [] = (r2, r3)) :
 Calls Try.prog 63 #[.slice A0 l0.length c0, .slice A1 l1.length c1, .int .i64 R] w fun e w' => e = .returned (.tuple #[.int .i64 r2, .int .i64 r3]) ∧ Below w.heap.size w w' := by
 have HR0 := zQ hr0
 have HR1 := zQ hr1
 have HV := zQ hv
 have HH := zQ h
 clear hr0 hr1 hc0 hc1 hv h
 go_enter Try.func63, Try.ntmps63
 go_wp2_with (first | ((with_reducible refine gate_dst (N := 12) rfl ?_); refine box_event ?hg (N := 12) ?hd (cs := #[.string ⟨#[]⟩, .slice none 0 0]) (t := 171) ?hr ?_; (case hd => rfl); (case hg => rfl); (case hr => first | (go_simp; done) | (go_simp; rfl)); intro gb hg w2 hbox hb; have BK := zQ hbox; have HB := zQ hb; have HG := zQ hg; clear hb hbox hg))
 go_loopg [9] (l0.length + 1) (fun kq v9 w' => ∃ (k : Nat) (S : ByteArray) (v : Value) (O : List SO), v9 = .int .i64 k ∧ Aside0 (k ≤ l0.length ∧ kq + k = l0.length + 1) ∧ Aside0 (WS w' w.heap.size gb S v O) ∧ Aside0 (sInv S O) ∧ Aside0 (Below w.heap.size w w') ∧ Aside0 (sLoop l1 R (l0.drop k) k S O = (r2, r3)))
 case atStart => exact ⟨0, ⟨#[]⟩, .slice none 0 0, [], by rfl, ⟨Nat.zero_le _, rfl⟩, ⟨⟨BK.out, own_nil _ _ _ _, by have := HG.out; omega⟩⟩, ⟨⟨by decide, by decide, by simp⟩⟩, HB, by simpa using HH⟩
 case round =>
  obtain ⟨k, S, v, O, rfl, HK, HS, HI, HBL, HA⟩ := hrel
  by_cases hk : k < l0.length
  ·have hd : l0.drop k = rd_T96 l0 k :: l0.drop (k + 1) := by
    rw [List.drop_eq_getElem_cons hk]
    simp [rd_T96, List.getD_eq_getElem?_getD, List.getElem?_eq_getElem hk]
   have HX := HA.out
   rw [hd] at HX
   clear hd
   obtain ⟨ad, e0, hx0, hx1⟩ := at_T96 HR0.out (k : Int) (by omega) (by omega)
   cases e0
   replace hx0 := pw_cell_below' HBL.out hx0
   replace hx1 := pw_cell_below' HBL.out hx1
   simp only [Int.toNat_natCast] at hx0 hx1
   have hmem : rd_T96 l0 k ∈ l0 := by
    simp only [rd_T96, List.getD_eq_getElem?_getD, Int.toNat_natCast, List.getElem?_eq_getElem hk]
    exact List.getElem_mem hk
   have hok := HV.out _ hmem
   clear hmem
   generalize rd_T96 l0 k = x at *
   obtain ⟨op, a⟩ := x
   dsimp only at hx0 hx1 hok
   obtain ⟨c, S', O', hst⟩ : ∃ c S' O', sStep l1 R k op a S O = (c, S', O') := ⟨_, _, _, rfl⟩
   rw [sLoop] at HX
   dsimp only at HX
   rw [hst] at HX
   have hinv := fun e => sStep_inv (ks := l1) (R := R) (at_ := (k : Int)) (op := op) (a := a) HI.out e
   rw [hst] at hinv
   have STEP : Aside0 (∀ (W : World) (v : Value), WS W w.heap.size gb S v O → Below w.heap.size w W → Calls Try.prog 137 #[.pointer (some ⟨gb, 0, none⟩), .agg #[.int .i64 op, .int .i64 a], .int .i64 k, .slice A1 l1.length c1, .int .i64 R] W fun e w' => e = .returned (.int .i64 c) ∧ ∃ v', WS w' w.heap.size gb S' v' O' ∧ VF W w' gb v v') := by
    refine ⟨fun W v hs hb => ?_⟩
    have h := sstep (ck := c1) hs hb.size (Kd.C_below HR1.out hb) HI.out R (k : Int) op a hok
    rw [hst] at h
    exact h
   have HINV := zQ hinv
   have HS' := zQ hst
   have HOK := zQ hok
   clear hinv hst hok
   have hk1 := decide_eq_true hk
   have hk2 : ((0 : Int) ≤ (k : Int)) = True := eq_true (by omega)
   cases gk with
   | zero => exact absurd HK.out.2 (by omega)
   | succ k1 =>
   by_cases hc : c = 0
   all_goals
    (first | (have hcb : (c != 0) = false := by simp [hc]) | (have hcb : (c != 0) = true := by simp [hc]))
    have HC := zQ hc
    have HHX := zQ HX
    clear hc HX
    go_wp2_with (go_at_call 137; go_must ((with_reducible refine (STEP.out _ _ HS.out HBL.out).mono ?_); rintro e w6 ⟨rfl, v', hvs, hvf⟩; have HS6 := zQ hvs; have HF6 := zQ hvf; clear hvs hvf))
   ·have H0 := HHX.out
    rw [if_pos HC.out] at H0
    have HF := zQ H0
    clear H0
    have HBW : Aside0 (Below w.heap.size w w6) := ⟨HBL.out.trans (HF6.out.below HS.out.ge (own_base HS.out.own) HBL.out.size)⟩
    have HIW : Aside0 (sInv S' O') := ⟨HINV.out HC.out⟩
    go_roundg k1
    case measure => have := HK.out.2; omega
    case rel => exact ⟨k + 1, S', v', O', by go_num, ⟨by have := HK.out.1; omega, by have := HK.out.2; omega⟩, HS6, HIW, HBW, ⟨by have := HF.out; simpa using this⟩⟩
   ·have H0 := HHX.out
    rw [if_neg HC.out] at H0
    obtain ⟨e2, e3⟩ : (k : Int) = r2 ∧ c = r3 := by simpa using H0
    have E2 := zQ e2
    have E3 := zQ e3
    clear e2 e3 H0
    have HBW : Aside0 (Below w.heap.size w w6) := ⟨HBL.out.trans (HF6.out.below HS.out.ge (own_base HS.out.own) HBL.out.size)⟩
    go_ret2
    exact ⟨v_two (by rw [← E2.out]; rfl) (by rw [← E3.out]; rfl), HBW.out⟩
  ·have hke : k = l0.length := by have := HK.out.1; omega
   have HX := HA.out
   rw [hke, List.drop_length] at HX
   clear hke
   have hk1 : decide (k < l0.length) = false := decide_eq_false hk
   clear hk
   have hc3 := HS.out.c1
   have hc2 := HS.out.c0
   cases O with
   | cons o P =>
    simp only [sLoop] at HX
    obtain ⟨e2, e3⟩ : o.at_ = r2 ∧ 14 = r3 := by simpa using HX
    have E2 := zQ e2
    have E3 := zQ e3
    clear e2 e3
    obtain ⟨q, cq, rfl, hq, _⟩ := HS.out.own.form (by simp)
    have hcc := (HS.out.own.cellAt (P.length * 3) (by simp)).trans (scells_at o P 0 (by decide))
    have hn : P.length ≤ 4 := by have := HI.out.2.1; simp at this; omega
    clear hq
    have hc3' : wr.cell? ⟨gb, 1, none⟩ = some (.slice (some ⟨q, 0, none⟩) (P.length + 1) cq) := hc3
    have hcc' : wr.cell? ⟨q, P.length * 3, none⟩ = some (.int .i64 o.at_) := hcc
    clear hc3 hcc
    have hu := Try.underlying169
    go_wp2
    go_quiet (fail)
    go_wp2
    go_ret2
    exact ⟨v_two (by rw [← E2.out]; rfl) (by rw [← E3.out]; rfl), pw_below_drewN HBL.out _⟩
   | nil =>
    simp only [sLoop] at HX
    obtain ⟨A, cq, rfl⟩ := own_slice HS.out.own
    have hc3' : wr.cell? ⟨gb, 1, none⟩ = some (.slice A 0 cq) := hc3
    clear hc3
    by_cases hS : S.size = 0
    ·rw [if_pos hS] at HX
     obtain ⟨e2, e3⟩ : 0 = r2 ∧ 0 = r3 := by simpa using HX
     have E2 := zQ e2
     have E3 := zQ e3
     clear e2 e3
     have hS' : S = ⟨#[]⟩ := ByteArray.ext (Array.eq_empty_of_size_eq_zero hS)
     subst hS'
     clear hS
     go_wp2
     go_ret2
     exact ⟨v_two (by rw [← E2.out]; rfl) (by rw [← E3.out]; rfl), HBL.out⟩
    ·rw [if_neg hS] at HX
     obtain ⟨e2, e3⟩ : (l0.length : Int) = r2 ∧ 13 = r3 := by simpa using HX
     have E2 := zQ e2
     have E3 := zQ e3
     have hse : S.toList.isEmpty = false := by rw [ByteArray.toList_eq]; cases hh : S.data.toList with
      | nil => exact absurd (by have := congrArg List.length hh; simpa using this) hS
      | cons => rfl
     clear e2 e3 hS
     go_wp2
     go_ret2
     exact ⟨v_two (by rw [← E2.out]; rfl) (by rw [← E3.out]; rfl), HBL.out⟩

def spec_l04Verify.f (l0 : List (S96)) (l1 : List Int) (a2 : Int) : Option (Int × Int) := if l0.length ≤ 4096 ∧ (l0.all fun x => vOKb l1 x.f0 x.f1) = true then some (sLoop l1 a2 l0 0 ⟨#[]⟩ []) else none
theorem spec_l04Verify.calls (A0 : Option Addr) (c0 : Nat) (l0 : List (S96)) (A1 : Option Addr) (c1 : Nat) (l1 : List Int) (a2 : Int) (r1 : Int) (r2 : Int) (w : World) (hr0 : Kd.C k96 w A0 l0.length l0) (hc0 : l0.length ≤ c0) (hr1 : Kd.C (Kd.int .i64) w A1 l1.length l1) (hc1 : l1.length ≤ c1) (h : spec_l04Verify.f l0 l1 a2 = some (r1, r2)) :
 Calls Try.prog 63 #[.slice A0 l0.length c0, .slice A1 l1.length c1, .int .i64 a2] w fun e w' => e = .returned (.tuple #[.int .i64 r1, .int .i64 r2]) ∧ Below w.heap.size w w' := by
 unfold spec_l04Verify.f at h
 split at h
 ·rename_i hp
  exact sverify hr0 hc0 hr1 hc1 hp.1 (fun x hx => vOK_of (List.all_eq_true.1 hp.2 x hx)) (Option.some.inj h)
 ·cases h

/-! ### spec_l04All: function 149 -/
def spec_l04All.l0 : Nat → List (S124) → List Int → Int → Option (Int × Int × Int)
 | 0, _, _, _ => none
 | k + 1, x0, x1, x7 => if x7 < (x0.length : Int) then (if 0 ≤ x7 then ((spec_l04Verify.f ((rd_T124 x0 x7).f0) x1 x7).bind fun bt129 => (if bt129.2 = 0 then (spec_l04All.l0 k x0 x1 (wrap64 (x7 + 1))) else (some (x7, bt129.1, bt129.2)))) else (none)) else (some (0, 0, 0))
def spec_l04All.f (k : Nat) (l0 : List (S124)) (l1 : List Int) : Option (Int × Int × Int) := spec_l04All.l0 k l0 l1 0
theorem spec_l04All.mono_l : ∀ k, (∀ y0 y1 y2, LeO (spec_l04All.l0 k y0 y1 y2) (spec_l04All.l0 (k + 1) y0 y1 y2))
 | 0 => fun _ _ _ r h => by simp [spec_l04All.l0] at h
 | k + 1 => by
  have ih0 := spec_l04All.mono_l k
  ·intro y0 y1 y2
   unfold spec_l04All.l0
   repeat' first
   | (with_reducible exact ih0 _ _ _)
   | (with_reducible exact LeO.refl _)
   | (with_reducible exact LeO.none _)
   | (with_reducible refine LeO.ite ?_ ?_)
   | (with_reducible refine LeO.bind ?_ (fun _ => ?_))
theorem spec_l04All.mono : ∀ a0 a1 k, LeO (spec_l04All.f k a0 a1) (spec_l04All.f (k + 1) a0 a1) := by
 intro a0 a1 k
 have ih0 := spec_l04All.mono_l k
 unfold spec_l04All.f
 repeat' first
  | (with_reducible exact ih0 _ _ _)
  | (with_reducible exact LeO.refl _)
  | (with_reducible exact LeO.none _)
  | (with_reducible refine LeO.ite ?_ ?_)
  | (with_reducible refine LeO.bind ?_ (fun _ => ?_))
theorem spec_l04All.calls (k : Nat) (A0 : Option Addr) (c0 : Nat) (l0 : List (S124)) (A1 : Option Addr) (c1 : Nat) (l1 : List Int) (r1 : Int) (r2 : Int) (r3 : Int) (w : World) (hr0 : Kd.C k124 w A0 l0.length l0) (hc0 : l0.length ≤ c0) (hr1 : Kd.C (Kd.int .i64) w A1 l1.length l1) (hc1 : l1.length ≤ c1) (h : spec_l04All.f k l0 l1 = some (r1, r2, r3)) :
 Calls Try.prog 149 #[.slice A0 l0.length c0, .slice A1 l1.length c1] w fun e w' => e = .returned (.tuple #[.int .i64 r1, .int .i64 r2, .int .i64 r3]) ∧ Below w.heap.size w w' := by
 have HR0 := zQ hr0
 have HC0 := zQ hc0
 clear hr0 hc0
 have HR1 := zQ hr1
 have HC1 := zQ hc1
 clear hr1 hc1
 have HB := zQ (Below.refl w.heap.size w)
 have H : (spec_l04All.l0 k l0 l1 0) = some (r1, r2, r3) := h
 clear h
 have H' := zQ H
 clear H
 go_enter Try.func149, Try.ntmps149
 go_wp2
 go_loopg [7] k (fun kq v7 w' => ∃ (x7_1 : Int), v7 = .int .i64 x7_1 ∧ Aside0 (spec_l04All.l0 kq l0 l1 x7_1 = some (r1, r2, r3)) ∧ Aside0 (kq ≤ k) ∧ Aside0 (Below w.heap.size w w'))
 case atStart => exact ⟨(0), (by first | rfl | (simp; done) | (simp [*]; done)), H', ⟨Nat.le_refl _⟩, ⟨zB HB.out⟩⟩
 case round =>
  clear H'
  try clear c1
  try clear p2
  obtain ⟨x7_1, rfl, HA, HK1, HB⟩ := hrel
  cases gk with
  | zero => exact absurd HA.out (by simp [spec_l04All.l0])
  | succ k1 =>
   have H := HA.out
   clear HA
   simp only [spec_l04All.l0] at H
   by_cases c3 : x7_1 < (l0.length : Int)
   ·rw [if_pos c3] at H
    have c3b0 : decide (x7_1 < (l0.length : Int)) = true := decide_eq_true c3
    clear c3
    by_cases c4 : 0 ≤ x7_1
    ·rw [if_pos c4] at H
     have c4b0 : decide (0 ≤ x7_1) = true := decide_eq_true c4
     clear c4
     replace H := Option.bind_eq_some_iff.mp H
     obtain ⟨⟨t129, t130⟩, A50, H⟩ := H
     replace H : (if t130 = 0 then (spec_l04All.l0 k1 l0 l1 (wrap64 (x7_1 + 1))) else (some (x7_1, t129, t130))) = some (r1, r2, r3) := H
     have A5 := zQ A50
     clear A50
     by_cases c6 : t130 = 0
     ·rw [if_pos c6] at H
      have c6b0 : (t130 == 0) = true := beq_iff_eq.mpr c6
      have c6b1 : (t130 != 0) = false := bne_eq_false_iff_eq.mpr c6
      clear c6
      have H' := zQ H
      clear H
      have p128 : 0 ≤ (x7_1 : Int) := zA
      have q128 : x7_1 < (l0.length : Int) := zA
      obtain ⟨ad128, A128_0, c128_0, e128, hx128_0, hl128_0, hi128_0⟩ := at_T124 HR0.out x7_1 p128 q128
      cases e128
      replace hx128_0 := zX HB.out hx128_0
      have HR128_0 := zQ hi128_0
      have HC128_0 := zQ hl128_0
      clear hi128_0 hl128_0
      replace p128 := eq_true p128
      replace q128 := eq_true q128
      go_wp2_with (first | ((with_reducible refine gate_callee (f := 63) rfl ?_); refine goesL_ (some 24) rfl rfl Try.func63 (by kernel_rfl) rfl #[.slice A128_0 ((rd_T124 l0 x7_1).f0).length c128_0, .slice A1 l1.length c1, .int .i64 x7_1] rfl zS ?_; (with_reducible refine (spec_l04Verify.calls _ _ ((rd_T124 l0 x7_1).f0) _ _ l1 x7_1 t129 t130 _ ?side1 ?side2 ?side3 ?side4 A5.out).mono ?_); (case side1 => exact zE HR128_0 HB); (case side2 => exact HC128_0.out); (case side3 => exact zE HR1 HB); (case side4 => exact HC1.out); rintro e w7 ⟨rfl, hb⟩; refine ⟨_, rfl, ?_⟩; have n0_ := zQ (below_step (zB HB.out) hb); clear HB; have HB := n0_; clear n0_; (try clear hb); (try clear hb2); (try clear hk); (try clear hi)))
      go_roundg k1
      case measure => have := HK1.out; omega
      case rel => exact ⟨(wrap64 (x7_1 + 1)), (by first | rfl | (simp; done) | (simp [*]; done)), H', ⟨by have := HK1.out; omega⟩, ⟨zB HB.out⟩⟩
     ·rw [if_neg c6] at H
      have c6b0 : (t130 == 0) = false := beq_eq_false_iff_ne.mpr c6
      have c6b1 : (t130 != 0) = true := bne_iff_ne.mpr c6
      simp only [Option.some.injEq, Prod.mk.injEq] at H
      obtain ⟨rfl, rfl, rfl⟩ := H
      have p128 : 0 ≤ (x7_1 : Int) := zA
      have q128 : x7_1 < (l0.length : Int) := zA
      obtain ⟨ad128, A128_0, c128_0, e128, hx128_0, hl128_0, hi128_0⟩ := at_T124 HR0.out x7_1 p128 q128
      cases e128
      replace hx128_0 := zX HB.out hx128_0
      have HR128_0 := zQ hi128_0
      have HC128_0 := zQ hl128_0
      clear hi128_0 hl128_0
      replace p128 := eq_true p128
      replace q128 := eq_true q128
      go_wp2_with (first | ((with_reducible refine gate_callee (f := 63) rfl ?_); refine goesL_ (some 24) rfl rfl Try.func63 (by kernel_rfl) rfl #[.slice A128_0 ((rd_T124 l0 x7_1).f0).length c128_0, .slice A1 l1.length c1, .int .i64 x7_1] rfl zS ?_; (with_reducible refine (spec_l04Verify.calls _ _ ((rd_T124 l0 x7_1).f0) _ _ l1 x7_1 t129 t130 _ ?side1 ?side2 ?side3 ?side4 A5.out).mono ?_); (case side1 => exact zE HR128_0 HB); (case side2 => exact HC128_0.out); (case side3 => exact zE HR1 HB); (case side4 => exact HC1.out); rintro e w8 ⟨rfl, hb⟩; refine ⟨_, rfl, ?_⟩; have n0_ := zQ (below_step (zB HB.out) hb); clear HB; have HB := n0_; clear n0_; (try clear hb); (try clear hb2); (try clear hk); (try clear hi)))
      go_ret3
      exact ⟨by first | rfl | (simp [errW_none, errW_some] <;> rfl) | (simp [*, errW_none, errW_some] <;> rfl), zB HB.out⟩
    ·rw [if_neg c4] at H
     exact absurd H (by simp)
   ·rw [if_neg c3] at H
    have c3b0 : decide (x7_1 < (l0.length : Int)) = false := decide_eq_false c3
    clear c3
    simp only [Option.some.injEq, Prod.mk.injEq] at H
    obtain ⟨rfl, rfl, rfl⟩ := H
    go_wp2
    go_ret3
    exact ⟨by first | rfl | (simp [errW_none, errW_some] <;> rfl) | (simp [*, errW_none, errW_some] <;> rfl), zB HB.out⟩

end Go.Proofs.Ytkegjmkdnfpfdaa.MFnExactNewCore
