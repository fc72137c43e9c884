-- Text written by a program of this session (wip/tools: the kit's printer with additions of ours).
import Derived.Test.YtjgdfbcjlebniaaMFnExactStackAtx0
import Derived.Test.YtjgdfbcjlebniaaMFnExactStackAtx4
import Derived.Test.YtjgdfbcjlebniaaMFnExactStackAtx7
import Derived.Test.YtjgdfbcjlebniaaMFnExactStackAtx8
import Derived.Test.YtjgdfbcjlebniaaMFnExactStackAtx9
import Derived.Test.YtjgdfbcjlebniaaMFnExactStackAtx12
import Derived.Test.YtjgdfbcjlebniaaMFnExactStackAtx13
namespace Go.Proofs.Ytjgdfbcjlebniaa.MFnExactStackAt
open Go.RowKit Go.Proofs.YtjgdfbcjlebniaaW.PrintWords Go.Proofs.YtjgdfbcjlebniaaW.PrintLast Go.Proofs.YtjgdfbcjlebniaaW.PrintMore
attribute [local go_sem] max2_int min2_int max_two min_two max_three min_three max_four min_four   -- for this text's walks alone
set_option linter.unusedVariables false
set_option linter.unusedSimpArgs false

/-! ### spec_StackAt: function 38 -/

def sRun (ks : List Int) (R : Int) : List S91 → Int → ByteArray → List SO → ByteArray
  | [], _, S, _ => S
  | x :: xs, at_, S, O => sRun ks R xs (at_ + 1) (sStep ks R at_ x.f0 x.f1 S O).2.1 (sStep ks R at_ x.f0 x.f1 S O).2.2
def spec_StackAt.f (k : Nat) (l0 : List (S91)) (l1 : List Int) (a2 : Int) (a3 : Int) : Option (ByteArray × Int) :=
  if 4096 < l0.length then some (⟨#[]⟩, 2) else if 4096 < l1.length then some (⟨#[]⟩, 2)
  else (spec_l04Ask.f k l0 l1 a2).bind fun c => if c = 0 then ((spec_l04Verify.f l0 l1 a2).bind fun v => if v.2 = 0 then (if 0 ≤ a3 ∧ a3 ≤ (l0.length : Int) then some (sRun l1 a2 (l0.take a3.toNat) 0 ⟨#[]⟩ [], 0) else some (⟨#[]⟩, 4)) else some (⟨#[]⟩, v.2)) else some (⟨#[]⟩, c)
theorem spec_StackAt.mono : ∀ a0 a1 a2 a3 k, LeO (spec_StackAt.f k a0 a1 a2 a3) (spec_StackAt.f (k + 1) a0 a1 a2 a3) := by
  intro a0 a1 a2 a3 k
  unfold spec_StackAt.f
  repeat' first
  | (with_reducible exact spec_l04Ask.mono _ _ _ _)
  | (with_reducible exact LeO.refl _)
  | (with_reducible refine LeO.ite ?_ ?_)
  | (with_reducible refine LeO.bind ?_ (fun _ => ?_))
theorem stk_two {a b : Value} {a' b' : Value} (h1 : a = a') (h2 : b = b') : Ending.returned (.tuple #[a, b]) = .returned (.tuple #[a', b']) := by rw [h1, h2]
set_option maxRecDepth 100000 in
theorem stk_long0 (w : World) (A0 A1 : Option Addr) (c0 c1 n0 n1 : Nat) (a2 a3 : Int) (h : decide ((n0 : Int) > 4096) = true) :
    Calls Try.prog 38 #[.slice A0 n0 c0, .slice A1 n1 c1, .int .i64 a2, .int .i64 a3] w fun e w' => e = .returned (.tuple #[.string ⟨#[]⟩, .int .i64 2]) ∧ Below w.heap.size w w' := by
  go_enter Try.func38, Try.ntmps38
  go_wp2
  go_ret2
  exact ⟨rfl, Below.refl _ _⟩
set_option maxRecDepth 100000 in
theorem stk_long1 (w : World) (A0 A1 : Option Addr) (c0 c1 n0 n1 : Nat) (a2 a3 : Int) (h0 : decide ((n0 : Int) > 4096) = false) (h : decide ((n1 : Int) > 4096) = true) :
    Calls Try.prog 38 #[.slice A0 n0 c0, .slice A1 n1 c1, .int .i64 a2, .int .i64 a3] w fun e w' => e = .returned (.tuple #[.string ⟨#[]⟩, .int .i64 2]) ∧ Below w.heap.size w w' := by
  go_enter Try.func38, Try.ntmps38
  go_wp2
  go_ret2
  exact ⟨rfl, Below.refl _ _⟩
section
variable {k : Nat} {w : World} {A0 A1 : Option Addr} {c0 c1 : Nat} {l0 : List S91} {l1 : List Int} {a2 a3 : Int}
set_option maxRecDepth 100000 in
theorem stk_ask {c : Int} (hr0 : Kd.C k91 w A0 l0.length l0) (hc0 : l0.length ≤ c0) (hr1 : Kd.C (Kd.int .i64) w A1 l1.length l1) (hc1 : l1.length ≤ c1) (h0 : decide ((l0.length : Int) > 4096) = false) (h1 : decide ((l1.length : Int) > 4096) = false) (ha : spec_l04Ask.f k l0 l1 a2 = some c) (hc : (c != 0) = true) :
    Calls Try.prog 38 #[.slice A0 l0.length c0, .slice A1 l1.length c1, .int .i64 a2, .int .i64 a3] w fun e w' => e = .returned (.tuple #[.string ⟨#[]⟩, .int .i64 c]) ∧ Below w.heap.size w w' := by
  have HR0 := Aside0.mk hr0
  have HR1 := Aside0.mk hr1
  have HC0 := Aside0.mk hc0
  have HC1 := Aside0.mk hc1
  have HA := Aside0.mk ha
  clear hr0 hr1 hc0 hc1 ha
  go_enter Try.func38, Try.ntmps38
  go_wp2_with (go_at_call 80; (with_reducible refine (spec_l04Ask.calls k _ _ l0 _ _ l1 a2 c _ HR0.out HC0.out HR1.out HC1.out HA.out).mono ?_); rintro e w1 ⟨rfl, hb⟩; have HB := Aside0.mk (hb); clear hb)
  go_ret2
  exact ⟨rfl, HB.out⟩
set_option maxRecDepth 100000 in
theorem stk_ver {r c : Int} (hr0 : Kd.C k91 w A0 l0.length l0) (hc0 : l0.length ≤ c0) (hr1 : Kd.C (Kd.int .i64) w A1 l1.length l1) (hc1 : l1.length ≤ c1) (h0 : decide ((l0.length : Int) > 4096) = false) (h1 : decide ((l1.length : Int) > 4096) = false) (ha : spec_l04Ask.f k l0 l1 a2 = some 0) (hv : spec_l04Verify.f l0 l1 a2 = some (r, c)) (hc : (c != 0) = true) :
    Calls Try.prog 38 #[.slice A0 l0.length c0, .slice A1 l1.length c1, .int .i64 a2, .int .i64 a3] w fun e w' => e = .returned (.tuple #[.string ⟨#[]⟩, .int .i64 c]) ∧ Below w.heap.size w w' := by
  have HR0 := Aside0.mk hr0
  have HR1 := Aside0.mk hr1
  have HC0 := Aside0.mk hc0
  have HC1 := Aside0.mk hc1
  have HA := Aside0.mk ha
  have HV := Aside0.mk hv
  clear hr0 hr1 hc0 hc1 ha hv
  go_enter Try.func38, Try.ntmps38
  go_wp2_with (first | (go_at_call 80; (with_reducible refine (spec_l04Ask.calls k _ _ l0 _ _ l1 a2 0 _ HR0.out HC0.out HR1.out HC1.out HA.out).mono ?_); rintro e w1 ⟨rfl, hb⟩; have HB := Aside0.mk (hb); clear hb) | (go_at_call 81; (with_reducible refine (spec_l04Verify.calls _ _ l0 _ _ l1 a2 r c _ (Kd.C_below HR0.out HB.out) HC0.out (Kd.C_below HR1.out HB.out) HC1.out HV.out).mono ?_); rintro e w2 ⟨rfl, hb⟩; have HB2 := Aside0.mk (below_step HB.out hb); clear hb))
  go_ret2
  exact ⟨rfl, HB2.out⟩
set_option maxRecDepth 100000 in
set_option maxHeartbeats 4000000 in
theorem stk_run {r : Int} (hr0 : Kd.C k91 w A0 l0.length l0) (hc0 : l0.length ≤ c0) (hr1 : Kd.C (Kd.int .i64) w A1 l1.length l1) (hc1 : l1.length ≤ c1) (h0 : decide ((l0.length : Int) > 4096) = false) (h1 : decide ((l1.length : Int) > 4096) = false) (ha : spec_l04Ask.f k l0 l1 a2 = some 0) (hv : spec_l04Verify.f l0 l1 a2 = some (r, 0)) (hl : l0.length ≤ 4096) :
    Calls Try.prog 38 #[.slice A0 l0.length c0, .slice A1 l1.length c1, .int .i64 a2, .int .i64 a3] w fun e w' => e = .returned (.tuple #[.string (if 0 ≤ a3 ∧ a3 ≤ (l0.length : Int) then sRun l1 a2 (l0.take a3.toNat) 0 ⟨#[]⟩ [] else ⟨#[]⟩), .int .i64 (if 0 ≤ a3 ∧ a3 ≤ (l0.length : Int) then 0 else 4)]) ∧ Below w.heap.size w w' := by
  have HR0 := Aside0.mk hr0
  have HR1 := Aside0.mk hr1
  have HC0 := Aside0.mk hc0
  have HC1 := Aside0.mk hc1
  have HA := Aside0.mk ha
  have HV := Aside0.mk hv
  clear hr0 hr1 hc0 hc1 ha hv
  by_cases hin : 0 ≤ a3 ∧ a3 ≤ (l0.length : Int)
  case neg =>
    rw [if_neg hin, if_neg hin]
    have HI : Aside0 (spec_l01In.f a3 0 (l0.length : Int) = some false) := ⟨by unfold spec_l01In.f; by_cases q : 0 ≤ a3; (rw [if_pos q, decide_eq_false (fun e => hin ⟨q, e⟩)]); (rw [if_neg q])⟩
    clear hin
    go_enter Try.func38, Try.ntmps38
    go_wp2_with (first | (go_at_call 80; (with_reducible refine (spec_l04Ask.calls k _ _ l0 _ _ l1 a2 0 _ HR0.out HC0.out HR1.out HC1.out HA.out).mono ?_); rintro e w1 ⟨rfl, hb⟩; have HB := Aside0.mk (hb); clear hb) | (go_at_call 81; (with_reducible refine (spec_l04Verify.calls _ _ l0 _ _ l1 a2 r 0 _ (Kd.C_below HR0.out HB.out) HC0.out (Kd.C_below HR1.out HB.out) HC1.out HV.out).mono ?_); rintro e w2 ⟨rfl, hb⟩; have HB2 := Aside0.mk (below_step HB.out hb); clear hb) | (go_at_call 48; (with_reducible refine (spec_l01In.calls a3 0 (l0.length : Int) false _ HI.out).mono ?_); rintro e w3 ⟨rfl, ⟨m3, rfl⟩⟩))
    go_ret2
    exact ⟨rfl, pw_below_drewN HB2.out _⟩
  rw [if_pos hin, if_pos hin]
  have HI : Aside0 (spec_l01In.f a3 0 (l0.length : Int) = some true) := ⟨by unfold spec_l01In.f; rw [if_pos hin.1, decide_eq_true hin.2]⟩
  obtain ⟨n, rfl⟩ : ∃ n : Nat, a3 = n := ⟨a3.toNat, by omega⟩
  have hn : n ≤ l0.length := by omega
  clear hin
  have HP : Aside0 (l0.length ≤ 4096 ∧ (l0.all fun x => vOKb l1 x.f0 x.f1) = true) := ⟨by
    have h := HV.out
    unfold spec_l04Verify.f at h
    split at h
    · assumption
    · cases h⟩
  have HL : Aside0 (sLoop l1 a2 l0 0 ⟨#[]⟩ [] = (r, 0)) := ⟨by
    have h := HV.out
    unfold spec_l04Verify.f at h
    rw [if_pos HP.out] at h
    exact Option.some.inj h⟩
  have hn1 : ((n : Int)).toNat = n := by omega
  rw [hn1]
  clear hn1
  obtain ⟨fin, hfin⟩ : ∃ fin, sRun l1 a2 (l0.take n) 0 ⟨#[]⟩ [] = fin := ⟨_, rfl⟩
  rw [hfin]
  have HF := Aside0.mk hfin
  clear hfin
  go_enter Try.func38, Try.ntmps38
  go_wp2_with (first | (go_at_call 80; (with_reducible refine (spec_l04Ask.calls k _ _ l0 _ _ l1 a2 0 _ HR0.out HC0.out HR1.out HC1.out HA.out).mono ?_); rintro e w1 ⟨rfl, hb⟩; have HB := Aside0.mk (hb); clear hb) | (go_at_call 81; (with_reducible refine (spec_l04Verify.calls _ _ l0 _ _ l1 a2 r 0 _ (Kd.C_below HR0.out HB.out) HC0.out (Kd.C_below HR1.out HB.out) HC1.out HV.out).mono ?_); rintro e w2 ⟨rfl, hb⟩; have HB2 := Aside0.mk (below_step HB.out hb); clear hb) | (go_at_call 48; (with_reducible refine (spec_l01In.calls (n : Int) 0 (l0.length : Int) true _ HI.out).mono ?_); rintro e w3 ⟨rfl, ⟨m3, rfl⟩⟩) | ((with_reducible refine gate_dst (N := 46) rfl ?_); refine box_event ?hg (N := 46) ?hd (cs := #[.string ⟨#[]⟩, .slice none 0 0]) (t := 110) ?hr ?_; (case hd => rfl); (case hg => rfl); (case hr => first | (go_simp; done) | (go_simp; rfl)); intro gb hg w4 hbox hb; have BK := Aside0.mk hbox; have HB4 := Aside0.mk (below_step (pw_below_drewN HB2.out _) hb); have HG := Aside0.mk (show w.heap.size ≤ gb from by rw [hg]; exact HB2.out.size); clear hb hbox hg))
  go_loopg [14] (n + 1) (fun kq v14 w' => ∃ (k : Nat) (S : ByteArray) (v : Value) (O : List SO), v14 = .int .i64 k ∧ Aside0 (k ≤ n ∧ kq + k = n + 1) ∧ Aside0 (WS w' w.heap.size gb S v O) ∧ Aside0 (sInv S O) ∧ Aside0 (Below w.heap.size w w') ∧ Aside0 (sLoop l1 a2 (l0.drop k) k S O = (r, 0)) ∧ Aside0 (sRun l1 a2 ((l0.take n).drop k) k S O = fin))
  case atStart => exact ⟨0, ⟨#[]⟩, .slice none 0 0, [], by rfl, ⟨Nat.zero_le _, rfl⟩, ⟨⟨BK.out, own_nil _ _ _ _, HG.out⟩⟩, ⟨⟨by decide, by decide, by simp⟩⟩, HB4, by simpa using HL, by simpa using HF⟩
  case round =>
    obtain ⟨k, S, v, O, rfl, HK, HS, HSI, HBL, HA', HRR⟩ := hrel
    by_cases hk : k < n
    · have hkl : k < l0.length := by omega
      have hd : l0.drop k = rd_T91 l0 k :: l0.drop (k + 1) := by
        rw [List.drop_eq_getElem_cons hkl]
        simp [rd_T91, List.getD_eq_getElem?_getD, List.getElem?_eq_getElem hkl]
      have hd2 : (l0.take n).drop k = rd_T91 l0 k :: (l0.take n).drop (k + 1) := by
        rw [List.drop_eq_getElem_cons (by simp; omega)]
        simp [rd_T91, List.getD_eq_getElem?_getD, List.getElem?_eq_getElem hkl]
      have HX := HA'.out
      have HY := HRR.out
      rw [hd] at HX
      rw [hd2] at HY
      clear hd hd2
      obtain ⟨ad, e0, hx0, hx1⟩ := at_T91 HR0.out (k : Int) (by omega) (by omega)
      cases e0
      replace hx0 := pw_cell_below' HBL.out hx0
      replace hx1 := pw_cell_below' HBL.out hx1
      simp only [Int.toNat_natCast] at hx0 hx1
      have hmem : rd_T91 l0 k ∈ l0 := by
        simp only [rd_T91, List.getD_eq_getElem?_getD, Int.toNat_natCast, List.getElem?_eq_getElem hkl]
        exact List.getElem_mem hkl
      have hok := vOK_of (List.all_eq_true.1 HP.out.2 _ hmem)
      clear hmem
      generalize rd_T91 l0 k = x at *
      obtain ⟨op, a⟩ := x
      dsimp only at hx0 hx1 hok
      obtain ⟨c, S', O', hst⟩ : ∃ c S' O', sStep l1 a2 k op a S O = (c, S', O') := ⟨_, _, _, rfl⟩
      rw [sLoop] at HX
      rw [sRun] at HY
      dsimp only at HX HY
      rw [hst] at HX HY
      have hinv := fun e => sStep_inv (ks := l1) (R := a2) (at_ := (k : Int)) (op := op) (a := a) HSI.out e
      rw [hst] at hinv
      have hc0' : c = 0 := by
        by_cases hc : c = 0
        · exact hc
        · rw [if_neg hc] at HX
          have := (Prod.mk.inj HX).2
          exact this
      subst hc0'
      rw [if_pos rfl] at HX
      have HHX := Aside0.mk HX
      have HHY := Aside0.mk HY
      have HINV := Aside0.mk (hinv rfl)
      have STEP : Aside0 (∀ (W : World) (v : Value), WS W w.heap.size gb S v O → Below w.heap.size w W → Calls Try.prog 86 #[.pointer (some ⟨gb, 0, none⟩), .agg #[.int .i64 op, .int .i64 a], .int .i64 k, .slice A1 l1.length c1, .int .i64 a2] W fun e w' => e = .returned (.int .i64 0) ∧ ∃ v', WS w' w.heap.size gb S' v' O' ∧ VF W w' gb v v') := by
        refine ⟨fun W v hs hb => ?_⟩
        have h := sstep (ck := c1) hs hb.size (Kd.C_below HR1.out hb) HSI.out a2 (k : Int) op a hok
        rw [hst] at h
        exact h
      have HOK := Aside0.mk hok
      clear hinv hst hok HX HY
      have hk1 := decide_eq_true hk
      have hk2 : ((0 : Int) ≤ (k : Int)) = True := eq_true (by omega)
      have hk3 : ((k : Int) < (l0.length : Int)) = True := eq_true (by omega)
      cases gk with
      | zero => exact absurd HK.out.2 (by omega)
      | succ k1 =>
        go_wp2_with (go_at_call 86; go_must ((with_reducible refine (STEP.out _ _ HS.out HBL.out).mono ?_); rintro e w6 ⟨rfl, v', hvs, hvf⟩; have HS6 := Aside0.mk hvs; have HF6 := Aside0.mk hvf; clear hvs hvf))
        have HBW : Aside0 (Below w.heap.size w w6) := ⟨HBL.out.trans (HF6.out.below HS.out.ge (own_base HS.out.own) HBL.out.size)⟩
        go_roundg k1
        case measure => have := HK.out.2; omega
        case rel => exact ⟨k + 1, S', v', O', by go_num, ⟨by have := HK.out.1; omega, by have := HK.out.2; omega⟩, HS6, HINV, HBW, ⟨by have := HHX.out; simpa using this⟩, ⟨by have := HHY.out; simpa using this⟩⟩
    · have hke : k = n := by have := HK.out.1; omega
      have HX := HRR.out
      have hd3 : (l0.take n).drop k = [] := by rw [hke]; exact List.drop_eq_nil_of_le (by simp; omega)
      rw [hd3, sRun] at HX
      clear hke hd3
      subst HX
      have hk1 : decide (k < n) = false := decide_eq_false hk
      clear hk
      have hc2 := HS.out.c0
      go_wp2
      go_ret2
      exact ⟨rfl, HBL.out⟩
end
theorem spec_StackAt.calls (k : Nat) (A0 : Option Addr) (c0 : Nat) (l0 : List (S91)) (A1 : Option Addr) (c1 : Nat) (l1 : List Int) (a2 : Int) (a3 : Int) (r1 : ByteArray) (r2 : Int) (w : World) (hr0 : Kd.C k91 w A0 l0.length l0) (hc0 : l0.length ≤ c0) (hr1 : Kd.C (Kd.int .i64) w A1 l1.length l1) (hc1 : l1.length ≤ c1) (h : spec_StackAt.f k l0 l1 a2 a3 = some (r1, r2)) :
    Calls Try.prog 38 #[.slice A0 l0.length c0, .slice A1 l1.length c1, .int .i64 a2, .int .i64 a3] w fun e w' => e = .returned (.tuple #[.string r1, .int .i64 r2]) ∧ Below w.heap.size w w' := by
  unfold spec_StackAt.f at h
  by_cases q0 : 4096 < l0.length
  · rw [if_pos q0] at h
    obtain ⟨rfl, rfl⟩ := Prod.mk.inj (Option.some.inj h)
    exact stk_long0 w A0 A1 c0 c1 _ _ a2 a3 (decide_eq_true (by omega))
  rw [if_neg q0] at h
  have d0 : decide ((l0.length : Int) > 4096) = false := decide_eq_false (by omega)
  by_cases q1 : 4096 < l1.length
  · rw [if_pos q1] at h
    obtain ⟨rfl, rfl⟩ := Prod.mk.inj (Option.some.inj h)
    exact stk_long1 w A0 A1 c0 c1 _ _ a2 a3 d0 (decide_eq_true (by omega))
  rw [if_neg q1] at h
  have d1 : decide ((l1.length : Int) > 4096) = false := decide_eq_false (by omega)
  obtain ⟨c, ha, h⟩ := Option.bind_eq_some_iff.mp h
  by_cases q2 : c = 0
  · subst q2
    rw [if_pos rfl] at h
    obtain ⟨⟨r, c⟩, hv, h⟩ := Option.bind_eq_some_iff.mp h
    dsimp only at h
    by_cases q3 : c = 0
    · subst q3
      rw [if_pos rfl] at h
      have hx := stk_run (a3 := a3) hr0 hc0 hr1 hc1 d0 d1 ha hv (by omega)
      by_cases q4 : 0 ≤ a3 ∧ a3 ≤ (l0.length : Int)
      · rw [if_pos q4] at h
        rw [if_pos q4, if_pos q4] at hx
        obtain ⟨rfl, rfl⟩ := Prod.mk.inj (Option.some.inj h)
        exact hx
      · rw [if_neg q4] at h
        rw [if_neg q4, if_neg q4] at hx
        obtain ⟨rfl, rfl⟩ := Prod.mk.inj (Option.some.inj h)
        exact hx
    · rw [if_neg q3] at h
      obtain ⟨rfl, rfl⟩ := Prod.mk.inj (Option.some.inj h)
      exact stk_ver hr0 hc0 hr1 hc1 d0 d1 ha hv (by simpa using q3)
  · rw [if_neg q2] at h
    obtain ⟨rfl, rfl⟩ := Prod.mk.inj (Option.some.inj h)
    exact stk_ask hr0 hc0 hr1 hc1 d0 d1 ha (by simpa using q2)

/-! ### impl_first: function 62 -/
def impl_first.l0 : Nat → List Int → Int → Int → Option (Int)
  | 0, _, _, _ => none
  | k + 1, x5, x6, x7 => if x7 < x6 then (if 0 ≤ x7 then (if x7 < (x5.length : Int) then (if (rd x5 x7) = 0 then (impl_first.l0 k x5 x6 (wrap64 (x7 + 1))) else (some (rd x5 x7))) else (none)) else (none)) else (some 0)
def impl_first.f (k : Nat) (l0 : List Int) : Option (Int) := impl_first.l0 k l0 (l0.length : Int) 0
theorem impl_first.mono_l : ∀ k, (∀ y0 y1 y2, LeO (impl_first.l0 k y0 y1 y2) (impl_first.l0 (k + 1) y0 y1 y2))
  | 0 => fun _ _ _ r h => by simp [impl_first.l0] at h
  | k + 1 => by
    have ih0 := impl_first.mono_l k
    · intro y0 y1 y2
      unfold impl_first.l0
      repeat' first
      | (with_reducible exact ih0 _ _ _)
      | (with_reducible exact LeO.refl _)
      | (with_reducible exact LeO.none _)
      | (with_reducible refine LeO.ite ?_ ?_)
      | (with_reducible refine LeO.bind ?_ (fun _ => ?_))
      | exact ih0 _ _ _
      | exact LeO.none _
      | refine LeO.ite ?_ ?_
      | refine LeO.bind ?_ (fun _ => ?_)
theorem impl_first.mono : ∀ a0 k, LeO (impl_first.f k a0) (impl_first.f (k + 1) a0) := by
  intro a0 k
  have ih0 := impl_first.mono_l k
  unfold impl_first.f
  repeat' first
      | (with_reducible exact ih0 _ _ _)
      | (with_reducible exact LeO.refl _)
      | (with_reducible exact LeO.none _)
      | (with_reducible refine LeO.ite ?_ ?_)
      | (with_reducible refine LeO.bind ?_ (fun _ => ?_))
      | exact ih0 _ _ _
      | exact LeO.none _
      | refine LeO.ite ?_ ?_
      | refine LeO.bind ?_ (fun _ => ?_)
set_option maxHeartbeats 8000000 in
set_option maxRecDepth 100000 in
theorem impl_first.calls (k : Nat) (A0 : Option Addr) (c0 : Nat) (l0 : List Int) (r : Int) (w : World) (hr0 : Kd.C (Kd.int .i64) w A0 l0.length l0) (hc0 : l0.length ≤ c0) (h : impl_first.f k l0 = some r) :
    Calls Try.prog 62 #[.slice A0 l0.length c0] w fun e w' => e = .returned (.int .i64 r) ∧ Drawn0 w w' := by
  have HR0 := Aside0.mk hr0
  have HC0 := Aside0.mk hc0
  clear hr0 hc0
  have H : (impl_first.l0 k l0 (l0.length : Int) 0) = some r := h
  clear h
  have H' := Aside0.mk H
  clear H
  go_enter Try.func62, Try.ntmps62
  go_wp2
  go_loopg [7] k (fun kq v7 w' => ∃ (x7_1 : Int), v7 = .int .i64 x7_1 ∧ Aside0 (impl_first.l0 kq l0 (l0.length : Int) x7_1 = some r) ∧ Aside0 (kq ≤ k) ∧ Drawn0 w w')
  case atStart => exact ⟨(0), (by first | rfl | (simp; done) | (simp [*]; done)), H', ⟨Nat.le_refl _⟩, by repeat (first | exact Drawn0.refl _ | apply Drawn0.step)⟩
  case round =>
    clear H'
    obtain ⟨x7_1, rfl, HA, HK1, ⟨m1, rfl⟩⟩ := hrel
    cases gk with
    | zero => exact absurd HA.out (by simp [impl_first.l0])
    | succ k1 =>
      have H := HA.out
      clear HA
      simp only [impl_first.l0] at H
      by_cases c2 : x7_1 < (l0.length : Int)
      · rw [if_pos c2] at H
        have c2b0 : decide (x7_1 < (l0.length : Int)) = true := decide_eq_true c2
        clear c2
        by_cases c3 : 0 ≤ x7_1
        · rw [if_pos c3] at H
          have c3b0 : decide (0 ≤ x7_1) = true := decide_eq_true c3
          clear c3
          by_cases c4 : x7_1 < (l0.length : Int)
          · rw [if_pos c4] at H
            have c4b0 : decide (x7_1 < (l0.length : Int)) = true := decide_eq_true c4
            clear c4
            by_cases c5 : (rd l0 x7_1) = 0
            · rw [if_pos c5] at H
              have c5b0 : ((rd l0 x7_1) == 0) = true := beq_iff_eq.mpr c5
              have c5b1 : ((rd l0 x7_1) != 0) = false := bne_eq_false_iff_eq.mpr c5
              clear c5
              have H' := Aside0.mk H
              clear H
              have p138 : 0 ≤ (x7_1 : Int) := of_decide_eq_true (by first | (with_reducible assumption) | assumption)
              have q138 : x7_1 < (l0.length : Int) := of_decide_eq_true (by first | (with_reducible assumption) | assumption)
              obtain ⟨ad138, e138, hx138_0⟩ := Kd.at_int HR0.out x7_1 p138 q138
              cases e138
              replace p138 := eq_true p138
              replace q138 := eq_true q138
              go_wp2
              go_roundg k1
              case measure => have := HK1.out; omega
              case rel => exact ⟨(wrap64 (x7_1 + 1)), (by first | rfl | (simp; done) | (simp [*]; done)), H', ⟨by have := HK1.out; omega⟩, by repeat (first | exact Drawn0.refl _ | apply Drawn0.step)⟩
            · rw [if_neg c5] at H
              have c5b0 : ((rd l0 x7_1) == 0) = false := beq_eq_false_iff_ne.mpr c5
              have c5b1 : ((rd l0 x7_1) != 0) = true := bne_iff_ne.mpr c5
              obtain rfl := Option.some.inj H
              have p138 : 0 ≤ (x7_1 : Int) := of_decide_eq_true (by first | (with_reducible assumption) | assumption)
              have q138 : x7_1 < (l0.length : Int) := of_decide_eq_true (by first | (with_reducible assumption) | assumption)
              obtain ⟨ad138, e138, hx138_0⟩ := Kd.at_int HR0.out x7_1 p138 q138
              cases e138
              replace p138 := eq_true p138
              replace q138 := eq_true q138
              go_wp2
              go_ret
              exact ⟨by first | rfl | (simp; done) | (simp [*]; done), by repeat (first | exact Drawn0.refl _ | apply Drawn0.step)⟩
          · rw [if_neg c4] at H
            exact absurd H (by simp)
        · rw [if_neg c3] at H
          exact absurd H (by simp)
      · rw [if_neg c2] at H
        have c2b0 : decide (x7_1 < (l0.length : Int)) = false := decide_eq_false c2
        clear c2
        obtain rfl := Option.some.inj H
        go_wp2
        go_ret
        exact ⟨by first | rfl | (simp; done) | (simp [*]; done), by repeat (first | exact Drawn0.refl _ | apply Drawn0.step)⟩

end Go.Proofs.Ytjgdfbcjlebniaa.MFnExactStackAt
