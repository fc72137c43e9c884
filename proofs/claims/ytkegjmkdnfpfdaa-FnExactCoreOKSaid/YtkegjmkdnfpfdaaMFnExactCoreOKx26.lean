-- Text written by a program of this session (wip/tools: the kit's printer with additions of ours).
import Derived.Test.YtkegjmkdnfpfdaaMFnExactCoreOKx0
import Derived.Test.YtkegjmkdnfpfdaaMFnExactCoreOKx10
import Derived.Test.YtkegjmkdnfpfdaaMFnExactCoreOKx15
import Derived.Test.YtkegjmkdnfpfdaaMFnExactCoreOKx16
import Derived.Test.YtkegjmkdnfpfdaaMFnExactCoreOKx19
import Derived.Test.YtkegjmkdnfpfdaaMFnExactCoreOKx20
import Derived.Test.YtkegjmkdnfpfdaaMFnExactCoreOKx25
namespace Go.Proofs.Ytkegjmkdnfpfdaa.MFnExactCoreOK
open Go.RowKit Go.Proofs.YtkegjmkdnfpfdaaW.PrintWords Go.Proofs.YtkegjmkdnfpfdaaW.PrintLast Go.Proofs.YtkegjmkdnfpfdaaW.PrintMore
attribute [local go_sem] max2_int min2_int max_two min_two max_three min_three max_four min_four
set_option linter.unusedVariables false
set_option linter.unusedSimpArgs false

/-! ### spec_StackAt: function 229 -/

def sRun (ks : List Int) (R : Int) : List S96 → Int → ByteArray → List SO → ByteArray
 | [], _, S, _ => S
 | x :: xs, at_, S, O => sRun ks R xs (at_ + 1) (sStep ks R at_ x.f0 x.f1 S O).2.1 (sStep ks R at_ x.f0 x.f1 S O).2.2
def spec_StackAt.f (k : Nat) (l0 : List (S96)) (l1 : List Int) (a2 : Int) (a3 : Int) : Option (ByteArray × Int) :=
 if 4096 < l0.length then some (⟨#[]⟩, 2) else if 4096 < l1.length then some (⟨#[]⟩, 2)
 else (spec_l04Ask.f k l0 l1 a2).bind fun c => if c = 0 then ((spec_l04Verify.f l0 l1 a2).bind fun v => if v.2 = 0 then (if 0 ≤ a3 ∧ a3 ≤ (l0.length : Int) then some (sRun l1 a2 (l0.take a3.toNat) 0 ⟨#[]⟩ [], 0) else some (⟨#[]⟩, 4)) else some (⟨#[]⟩, v.2)) else some (⟨#[]⟩, c)
theorem spec_StackAt.mono : ∀ a0 a1 a2 a3 k, LeO (spec_StackAt.f k a0 a1 a2 a3) (spec_StackAt.f (k + 1) a0 a1 a2 a3) := by
 intro a0 a1 a2 a3 k
 unfold spec_StackAt.f
 repeat' first
 | (with_reducible exact spec_l04Ask.mono _ _ _ _)
 | (with_reducible exact LeO.refl _)
 | (with_reducible refine LeO.ite ?_ ?_)
 | (with_reducible refine LeO.bind ?_ (fun _ => ?_))
theorem stk_two {a b : Value} {a' b' : Value} (h1 : a = a') (h2 : b = b') : Ending.returned (.tuple #[a, b]) = .returned (.tuple #[a', b']) := by rw [h1, h2]
set_option maxRecDepth 100000 in
theorem stk_long0 (w : World) (A0 A1 : Option Addr) (c0 c1 n0 n1 : Nat) (a2 a3 : Int) (h : decide ((n0 : Int) > 4096) = true) :
 Calls Try.prog 229 #[.slice A0 n0 c0, .slice A1 n1 c1, .int .i64 a2, .int .i64 a3] w fun e w' => e = .returned (.tuple #[.string ⟨#[]⟩, .int .i64 2]) ∧ Below w.heap.size w w' := by
 go_enter Try.func229, Try.ntmps229
 go_wp2
 go_ret2
 exact ⟨rfl, Below.refl _ _⟩
set_option maxRecDepth 100000 in
theorem stk_long1 (w : World) (A0 A1 : Option Addr) (c0 c1 n0 n1 : Nat) (a2 a3 : Int) (h0 : decide ((n0 : Int) > 4096) = false) (h : decide ((n1 : Int) > 4096) = true) :
 Calls Try.prog 229 #[.slice A0 n0 c0, .slice A1 n1 c1, .int .i64 a2, .int .i64 a3] w fun e w' => e = .returned (.tuple #[.string ⟨#[]⟩, .int .i64 2]) ∧ Below w.heap.size w w' := by
 go_enter Try.func229, Try.ntmps229
 go_wp2
 go_ret2
 exact ⟨rfl, Below.refl _ _⟩
section
variable {k : Nat} {w : World} {A0 A1 : Option Addr} {c0 c1 : Nat} {l0 : List S96} {l1 : List Int} {a2 a3 : Int}
set_option maxRecDepth 100000 in
theorem stk_ask {c : Int} (hr0 : Kd.C k96 w A0 l0.length l0) (hc0 : l0.length ≤ c0) (hr1 : Kd.C (Kd.int .i64) w A1 l1.length l1) (hc1 : l1.length ≤ c1) (h0 : decide ((l0.length : Int) > 4096) = false) (h1 : decide ((l1.length : Int) > 4096) = false) (ha : spec_l04Ask.f k l0 l1 a2 = some c) (hc : (c != 0) = true) :
 Calls Try.prog 229 #[.slice A0 l0.length c0, .slice A1 l1.length c1, .int .i64 a2, .int .i64 a3] w fun e w' => e = .returned (.tuple #[.string ⟨#[]⟩, .int .i64 c]) ∧ Below w.heap.size w w' := by
 have HR0 := zQ hr0
 have HR1 := zQ hr1
 have HC0 := zQ hc0
 have HC1 := zQ hc1
 have HA := zQ ha
 clear hr0 hr1 hc0 hc1 ha
 go_enter Try.func229, Try.ntmps229
 go_wp2_with (go_at_call 62; (with_reducible refine (spec_l04Ask.calls k _ _ l0 _ _ l1 a2 c _ HR0.out HC0.out HR1.out HC1.out HA.out).mono ?_); rintro e w1 ⟨rfl, hb⟩; have HB := zQ (hb); clear hb)
 go_ret2
 exact ⟨rfl, HB.out⟩
set_option maxRecDepth 100000 in
theorem stk_ver {r c : Int} (hr0 : Kd.C k96 w A0 l0.length l0) (hc0 : l0.length ≤ c0) (hr1 : Kd.C (Kd.int .i64) w A1 l1.length l1) (hc1 : l1.length ≤ c1) (h0 : decide ((l0.length : Int) > 4096) = false) (h1 : decide ((l1.length : Int) > 4096) = false) (ha : spec_l04Ask.f k l0 l1 a2 = some 0) (hv : spec_l04Verify.f l0 l1 a2 = some (r, c)) (hc : (c != 0) = true) :
 Calls Try.prog 229 #[.slice A0 l0.length c0, .slice A1 l1.length c1, .int .i64 a2, .int .i64 a3] w fun e w' => e = .returned (.tuple #[.string ⟨#[]⟩, .int .i64 c]) ∧ Below w.heap.size w w' := by
 have HR0 := zQ hr0
 have HR1 := zQ hr1
 have HC0 := zQ hc0
 have HC1 := zQ hc1
 have HA := zQ ha
 have HV := zQ hv
 clear hr0 hr1 hc0 hc1 ha hv
 go_enter Try.func229, Try.ntmps229
 go_wp2_with (first | (go_at_call 62; (with_reducible refine (spec_l04Ask.calls k _ _ l0 _ _ l1 a2 0 _ HR0.out HC0.out HR1.out HC1.out HA.out).mono ?_); rintro e w1 ⟨rfl, hb⟩; have HB := zQ (hb); clear hb) | (go_at_call 63; (with_reducible refine (spec_l04Verify.calls _ _ l0 _ _ l1 a2 r c _ (Kd.C_below HR0.out HB.out) HC0.out (Kd.C_below HR1.out HB.out) HC1.out HV.out).mono ?_); rintro e w2 ⟨rfl, hb⟩; have HB2 := zQ (below_step HB.out hb); clear hb))
 go_ret2
 exact ⟨rfl, HB2.out⟩
set_option maxRecDepth 100000 in
set_option maxHeartbeats 4000000 in
theorem stk_run {r : Int} (hr0 : Kd.C k96 w A0 l0.length l0) (hc0 : l0.length ≤ c0) (hr1 : Kd.C (Kd.int .i64) w A1 l1.length l1) (hc1 : l1.length ≤ c1) (h0 : decide ((l0.length : Int) > 4096) = false) (h1 : decide ((l1.length : Int) > 4096) = false) (ha : spec_l04Ask.f k l0 l1 a2 = some 0) (hv : spec_l04Verify.f l0 l1 a2 = some (r, 0)) (hl : l0.length ≤ 4096) :
 Calls Try.prog 229 #[.slice A0 l0.length c0, .slice A1 l1.length c1, .int .i64 a2, .int .i64 a3] w fun e w' => e = .returned (.tuple #[.string (if 0 ≤ a3 ∧ a3 ≤ (l0.length : Int) then sRun l1 a2 (l0.take a3.toNat) 0 ⟨#[]⟩ [] else ⟨#[]⟩), .int .i64 (if 0 ≤ a3 ∧ a3 ≤ (l0.length : Int) then 0 else 4)]) ∧ Below w.heap.size w w' := by
 have HR0 := zQ hr0
 have HR1 := zQ hr1
 have HC0 := zQ hc0
 have HC1 := zQ hc1
 have HA := zQ ha
 have HV := zQ hv
 clear hr0 hr1 hc0 hc1 ha hv
 by_cases hin : 0 ≤ a3 ∧ a3 ≤ (l0.length : Int)
 case neg =>
  rw [if_neg hin, if_neg hin]
  have HI : Aside0 (spec_l01In.f a3 0 (l0.length : Int) = some false) := ⟨by unfold spec_l01In.f; by_cases q : 0 ≤ a3; (rw [if_pos q, decide_eq_false (fun e => hin ⟨q, e⟩)]); (rw [if_neg q])⟩
  clear hin
  go_enter Try.func229, Try.ntmps229
  go_wp2_with (first | (go_at_call 62; (with_reducible refine (spec_l04Ask.calls k _ _ l0 _ _ l1 a2 0 _ HR0.out HC0.out HR1.out HC1.out HA.out).mono ?_); rintro e w1 ⟨rfl, hb⟩; have HB := zQ (hb); clear hb) | (go_at_call 63; (with_reducible refine (spec_l04Verify.calls _ _ l0 _ _ l1 a2 r 0 _ (Kd.C_below HR0.out HB.out) HC0.out (Kd.C_below HR1.out HB.out) HC1.out HV.out).mono ?_); rintro e w2 ⟨rfl, hb⟩; have HB2 := zQ (below_step HB.out hb); clear hb) | (go_at_call 78; (with_reducible refine (spec_l01In.calls a3 0 (l0.length : Int) false _ HI.out).mono ?_); rintro e w3 ⟨rfl, ⟨m3, rfl⟩⟩))
  go_ret2
  exact ⟨rfl, pw_below_drewN HB2.out _⟩
 rw [if_pos hin, if_pos hin]
 have HI : Aside0 (spec_l01In.f a3 0 (l0.length : Int) = some true) := ⟨by unfold spec_l01In.f; rw [if_pos hin.1, decide_eq_true hin.2]⟩
 obtain ⟨n, rfl⟩ : ∃ n : Nat, a3 = n := ⟨a3.toNat, by omega⟩
 have hn : n ≤ l0.length := by omega
 clear hin
 have HP : Aside0 (l0.length ≤ 4096 ∧ (l0.all fun x => vOKb l1 x.f0 x.f1) = true) := ⟨by
  have h := HV.out
  unfold spec_l04Verify.f at h
  split at h
  ·assumption
  ·cases h⟩
 have HL : Aside0 (sLoop l1 a2 l0 0 ⟨#[]⟩ [] = (r, 0)) := ⟨by
  have h := HV.out
  unfold spec_l04Verify.f at h
  rw [if_pos HP.out] at h
  exact Option.some.inj h⟩
 have hn1 : ((n : Int)).toNat = n := by omega
 rw [hn1]
 clear hn1
 obtain ⟨fin, hfin⟩ : ∃ fin, sRun l1 a2 (l0.take n) 0 ⟨#[]⟩ [] = fin := ⟨_, rfl⟩
 rw [hfin]
 have HF := zQ hfin
 clear hfin
 go_enter Try.func229, Try.ntmps229
 go_wp2_with (first | (go_at_call 62; (with_reducible refine (spec_l04Ask.calls k _ _ l0 _ _ l1 a2 0 _ HR0.out HC0.out HR1.out HC1.out HA.out).mono ?_); rintro e w1 ⟨rfl, hb⟩; have HB := zQ (hb); clear hb) | (go_at_call 63; (with_reducible refine (spec_l04Verify.calls _ _ l0 _ _ l1 a2 r 0 _ (Kd.C_below HR0.out HB.out) HC0.out (Kd.C_below HR1.out HB.out) HC1.out HV.out).mono ?_); rintro e w2 ⟨rfl, hb⟩; have HB2 := zQ (below_step HB.out hb); clear hb) | (go_at_call 78; (with_reducible refine (spec_l01In.calls (n : Int) 0 (l0.length : Int) true _ HI.out).mono ?_); rintro e w3 ⟨rfl, ⟨m3, rfl⟩⟩) | ((with_reducible refine gate_dst (N := 46) rfl ?_); refine box_event ?hg (N := 46) ?hd (cs := #[.string ⟨#[]⟩, .slice none 0 0]) (t := 171) ?hr ?_; (case hd => rfl); (case hg => rfl); (case hr => first | (go_simp; done) | (go_simp; rfl)); intro gb hg w4 hbox hb; have BK := zQ hbox; have HB4 := zQ (below_step (pw_below_drewN HB2.out _) hb); have HG := zQ (show w.heap.size ≤ gb from by rw [hg]; exact HB2.out.size); clear hb hbox hg))
 go_loopg [14] (n + 1) (fun kq v14 w' => ∃ (k : Nat) (S : ByteArray) (v : Value) (O : List SO), v14 = .int .i64 k ∧ Aside0 (k ≤ n ∧ kq + k = n + 1) ∧ Aside0 (WS w' w.heap.size gb S v O) ∧ Aside0 (sInv S O) ∧ Aside0 (Below w.heap.size w w') ∧ Aside0 (sLoop l1 a2 (l0.drop k) k S O = (r, 0)) ∧ Aside0 (sRun l1 a2 ((l0.take n).drop k) k S O = fin))
 case atStart => exact ⟨0, ⟨#[]⟩, .slice none 0 0, [], by rfl, ⟨Nat.zero_le _, rfl⟩, ⟨⟨BK.out, own_nil _ _ _ _, HG.out⟩⟩, ⟨⟨by decide, by decide, by simp⟩⟩, HB4, by simpa using HL, by simpa using HF⟩
 case round =>
  obtain ⟨k, S, v, O, rfl, HK, HS, HSI, HBL, HA', HRR⟩ := hrel
  by_cases hk : k < n
  ·have hkl : k < l0.length := by omega
   have hd : l0.drop k = rd_T96 l0 k :: l0.drop (k + 1) := by
    rw [List.drop_eq_getElem_cons hkl]
    simp [rd_T96, List.getD_eq_getElem?_getD, List.getElem?_eq_getElem hkl]
   have hd2 : (l0.take n).drop k = rd_T96 l0 k :: (l0.take n).drop (k + 1) := by
    rw [List.drop_eq_getElem_cons (by simp; omega)]
    simp [rd_T96, List.getD_eq_getElem?_getD, List.getElem?_eq_getElem hkl]
   have HX := HA'.out
   have HY := HRR.out
   rw [hd] at HX
   rw [hd2] at HY
   clear hd hd2
   obtain ⟨ad, e0, hx0, hx1⟩ := at_T96 HR0.out (k : Int) (by omega) (by omega)
   cases e0
   replace hx0 := pw_cell_below' HBL.out hx0
   replace hx1 := pw_cell_below' HBL.out hx1
   simp only [Int.toNat_natCast] at hx0 hx1
   have hmem : rd_T96 l0 k ∈ l0 := by
    simp only [rd_T96, List.getD_eq_getElem?_getD, Int.toNat_natCast, List.getElem?_eq_getElem hkl]
    exact List.getElem_mem hkl
   have hok := vOK_of (List.all_eq_true.1 HP.out.2 _ hmem)
   clear hmem
   generalize rd_T96 l0 k = x at *
   obtain ⟨op, a⟩ := x
   dsimp only at hx0 hx1 hok
   obtain ⟨c, S', O', hst⟩ : ∃ c S' O', sStep l1 a2 k op a S O = (c, S', O') := ⟨_, _, _, rfl⟩
   rw [sLoop] at HX
   rw [sRun] at HY
   dsimp only at HX HY
   rw [hst] at HX HY
   have hinv := fun e => sStep_inv (ks := l1) (R := a2) (at_ := (k : Int)) (op := op) (a := a) HSI.out e
   rw [hst] at hinv
   have hc0' : c = 0 := by
    by_cases hc : c = 0
    ·exact hc
    ·rw [if_neg hc] at HX
     have := (Prod.mk.inj HX).2
     exact this
   subst hc0'
   rw [if_pos rfl] at HX
   have HHX := zQ HX
   have HHY := zQ HY
   have HINV := zQ (hinv rfl)
   have STEP : Aside0 (∀ (W : World) (v : Value), WS W w.heap.size gb S v O → Below w.heap.size w W → Calls Try.prog 137 #[.pointer (some ⟨gb, 0, none⟩), .agg #[.int .i64 op, .int .i64 a], .int .i64 k, .slice A1 l1.length c1, .int .i64 a2] W fun e w' => e = .returned (.int .i64 0) ∧ ∃ v', WS w' w.heap.size gb S' v' O' ∧ VF W w' gb v v') := by
    refine ⟨fun W v hs hb => ?_⟩
    have h := sstep (ck := c1) hs hb.size (Kd.C_below HR1.out hb) HSI.out a2 (k : Int) op a hok
    rw [hst] at h
    exact h
   have HOK := zQ hok
   clear hinv hst hok HX HY
   have hk1 := decide_eq_true hk
   have hk2 : ((0 : Int) ≤ (k : Int)) = True := eq_true (by omega)
   have hk3 : ((k : Int) < (l0.length : Int)) = True := eq_true (by omega)
   cases gk with
   | zero => exact absurd HK.out.2 (by omega)
   | succ k1 =>
    go_wp2_with (go_at_call 137; go_must ((with_reducible refine (STEP.out _ _ HS.out HBL.out).mono ?_); rintro e w6 ⟨rfl, v', hvs, hvf⟩; have HS6 := zQ hvs; have HF6 := zQ hvf; clear hvs hvf))
    have HBW : Aside0 (Below w.heap.size w w6) := ⟨HBL.out.trans (HF6.out.below HS.out.ge (own_base HS.out.own) HBL.out.size)⟩
    go_roundg k1
    case measure => have := HK.out.2; omega
    case rel => exact ⟨k + 1, S', v', O', by go_num, ⟨by have := HK.out.1; omega, by have := HK.out.2; omega⟩, HS6, HINV, HBW, ⟨by have := HHX.out; simpa using this⟩, ⟨by have := HHY.out; simpa using this⟩⟩
  ·have hke : k = n := by have := HK.out.1; omega
   have HX := HRR.out
   have hd3 : (l0.take n).drop k = [] := by rw [hke]; exact List.drop_eq_nil_of_le (by simp; omega)
   rw [hd3, sRun] at HX
   clear hke hd3
   subst HX
   have hk1 : decide (k < n) = false := decide_eq_false hk
   clear hk
   have hc2 := HS.out.c0
   go_wp2
   go_ret2
   exact ⟨rfl, HBL.out⟩
end
theorem spec_StackAt.calls (k : Nat) (A0 : Option Addr) (c0 : Nat) (l0 : List (S96)) (A1 : Option Addr) (c1 : Nat) (l1 : List Int) (a2 : Int) (a3 : Int) (r1 : ByteArray) (r2 : Int) (w : World) (hr0 : Kd.C k96 w A0 l0.length l0) (hc0 : l0.length ≤ c0) (hr1 : Kd.C (Kd.int .i64) w A1 l1.length l1) (hc1 : l1.length ≤ c1) (h : spec_StackAt.f k l0 l1 a2 a3 = some (r1, r2)) :
 Calls Try.prog 229 #[.slice A0 l0.length c0, .slice A1 l1.length c1, .int .i64 a2, .int .i64 a3] w fun e w' => e = .returned (.tuple #[.string r1, .int .i64 r2]) ∧ Below w.heap.size w w' := by
 unfold spec_StackAt.f at h
 by_cases q0 : 4096 < l0.length
 ·rw [if_pos q0] at h
  obtain ⟨rfl, rfl⟩ := Prod.mk.inj (Option.some.inj h)
  exact stk_long0 w A0 A1 c0 c1 _ _ a2 a3 (decide_eq_true (by omega))
 rw [if_neg q0] at h
 have d0 : decide ((l0.length : Int) > 4096) = false := decide_eq_false (by omega)
 by_cases q1 : 4096 < l1.length
 ·rw [if_pos q1] at h
  obtain ⟨rfl, rfl⟩ := Prod.mk.inj (Option.some.inj h)
  exact stk_long1 w A0 A1 c0 c1 _ _ a2 a3 d0 (decide_eq_true (by omega))
 rw [if_neg q1] at h
 have d1 : decide ((l1.length : Int) > 4096) = false := decide_eq_false (by omega)
 obtain ⟨c, ha, h⟩ := Option.bind_eq_some_iff.mp h
 by_cases q2 : c = 0
 ·subst q2
  rw [if_pos rfl] at h
  obtain ⟨⟨r, c⟩, hv, h⟩ := Option.bind_eq_some_iff.mp h
  dsimp only at h
  by_cases q3 : c = 0
  ·subst q3
   rw [if_pos rfl] at h
   have hx := stk_run (a3 := a3) hr0 hc0 hr1 hc1 d0 d1 ha hv (by omega)
   by_cases q4 : 0 ≤ a3 ∧ a3 ≤ (l0.length : Int)
   ·rw [if_pos q4] at h
    rw [if_pos q4, if_pos q4] at hx
    obtain ⟨rfl, rfl⟩ := Prod.mk.inj (Option.some.inj h)
    exact hx
   ·rw [if_neg q4] at h
    rw [if_neg q4, if_neg q4] at hx
    obtain ⟨rfl, rfl⟩ := Prod.mk.inj (Option.some.inj h)
    exact hx
  ·rw [if_neg q3] at h
   obtain ⟨rfl, rfl⟩ := Prod.mk.inj (Option.some.inj h)
   exact stk_ver hr0 hc0 hr1 hc1 d0 d1 ha hv (by simpa using q3)
 ·rw [if_neg q2] at h
  obtain ⟨rfl, rfl⟩ := Prod.mk.inj (Option.some.inj h)
  exact stk_ask hr0 hc0 hr1 hc1 d0 d1 ha (by simpa using q2)

end Go.Proofs.Ytkegjmkdnfpfdaa.MFnExactCoreOK
