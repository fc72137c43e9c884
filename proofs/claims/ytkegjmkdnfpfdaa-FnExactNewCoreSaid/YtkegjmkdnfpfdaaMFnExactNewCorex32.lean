-- By a program of this session.
import Derived.Test.YtkegjmkdnfpfdaaMFnExactNewCorex0
namespace Go.Proofs.Ytkegjmkdnfpfdaa.MFnExactNewCore
open Go.RowKit Go.Proofs.YtkegjmkdnfpfdaaW.PrintWords Go.Proofs.YtkegjmkdnfpfdaaW.PrintLast Go.Proofs.YtkegjmkdnfpfdaaW.PrintMore
attribute [local go_sem] max2_int min2_int max_two min_two max_three min_three max_four min_four
set_option linter.unusedVariables false
set_option linter.unusedSimpArgs false
set_option maxHeartbeats 8000000
set_option maxRecDepth 100000

/-! ### laws_markInstrS: function 20 -/
def laws_markInstrS.l0 : Nat → List (S96) → Int → Int → Option (Int × (List (S96)))
 | 0, _, _, _ => none
 | k + 1, x0, x1, x5 => if x5 < (x0.length : Int) then (if 0 ≤ x5 then ((some (x0.set (x5 : Int).toNat (⟨x1, (rd_T96 x0 x5).f1⟩ : S96) : List (S96))).bind fun y299 => (laws_markInstrS.l0 k (y299.set (x5 : Int).toNat (⟨(rd_T96 y299 x5).f0, wrap64 (x1 + 1)⟩ : S96)) (wrap64 ((wrap64 (x1 + 1)) + 1)) (wrap64 (x5 + 1)))) else (none)) else (some (x1, x0))
def laws_markInstrS.f (k : Nat) (l0 : List (S96)) (a1 : Int) : Option (Int × (List (S96))) := laws_markInstrS.l0 k l0 a1 0
theorem laws_markInstrS.mono_l : ∀ k, (∀ y0 y1 y2, LeO (laws_markInstrS.l0 k y0 y1 y2) (laws_markInstrS.l0 (k + 1) y0 y1 y2))
 | 0 => fun _ _ _ r h => by simp [laws_markInstrS.l0] at h
 | k + 1 => by
  have ih0 := laws_markInstrS.mono_l k
  ·intro y0 y1 y2
   unfold laws_markInstrS.l0
   repeat' first
   | (with_reducible exact ih0 _ _ _)
   | (with_reducible exact LeO.refl _)
   | (with_reducible exact LeO.none _)
   | (with_reducible refine LeO.ite ?_ ?_)
   | (with_reducible refine LeO.bind ?_ (fun _ => ?_))
theorem laws_markInstrS.mono : ∀ a0 a1 k, LeO (laws_markInstrS.f k a0 a1) (laws_markInstrS.f (k + 1) a0 a1) := by
 intro a0 a1 k
 have ih0 := laws_markInstrS.mono_l k
 unfold laws_markInstrS.f
 repeat' first
  | (with_reducible exact ih0 _ _ _)
  | (with_reducible exact LeO.refl _)
  | (with_reducible exact LeO.none _)
  | (with_reducible refine LeO.ite ?_ ?_)
  | (with_reducible refine LeO.bind ?_ (fun _ => ?_))
theorem laws_markInstrS.calls (k : Nat) (P0_ : Nat → Prop) (u9000_ : Value) (l0 : List (S96)) (a1 : Int) (r1 : Int) (r2 : List (S96)) (w0 w : World) (hB : Below w0.heap.size w0 w) (ho0 : Kd.R k96 96 w w0.heap.size P0_ u9000_ l0) (h : laws_markInstrS.f k l0 a1 = some (r1, r2)) :
 Calls Try.prog 20 #[u9000_, .int .i64 a1] w fun e w' => e = .returned (.int .i64 r1) ∧ Kd.R k96 96 w' w0.heap.size (fun k_ => (P0_ k_ ∨ w.heap.size ≤ k_)) u9000_ r2 ∧ Below w0.heap.size w0 w' ∧ Kept w w' (fun k_ => P0_ k_) := by
 have HO0 := zQ (show Kd.R k96 96 w w0.heap.size (fun k_ => (P0_ k_ ∨ w.heap.size ≤ k_)) u9000_ l0 from Kd.R_mono ho0 (fun k_ hk => (.inl hk)))
 have HK := zQ (Kept.refl w (fun k_ => P0_ k_))
 have HW0 := zQ hB.size
 have HB := zQ hB
 clear hB
 have H : (laws_markInstrS.l0 k l0 a1 0) = some (r1, r2) := h
 clear h
 have H' := zQ H
 clear H
 go_enter Try.func20, Try.ntmps20
 go_wp2
 go_loopg [1, 5] k (fun kq v1 v5 w' => ∃ (x0_1 : List (S96)) (x1_1 : Int) (x5_1 : Int), v1 = .int .i64 x1_1 ∧ v5 = .int .i64 x5_1 ∧ Aside0 (laws_markInstrS.l0 kq x0_1 x1_1 x5_1 = some (r1, r2)) ∧ Aside0 (kq ≤ k) ∧ Aside0 (Kd.R k96 96 w' w0.heap.size (fun k_ => (P0_ k_ ∨ w.heap.size ≤ k_)) u9000_ x0_1) ∧ Aside0 (Kept w w' (fun k_ => P0_ k_)) ∧ Aside0 (Below w0.heap.size w0 w'))
 case atStart => exact ⟨(l0), (a1), (0), (by first | rfl | (simp; done) | (simp [*]; done)), (by first | rfl | (simp; done) | (simp [*]; done)), H', ⟨Nat.le_refl _⟩, ⟨by (with_reducible repeat (first | apply Kd.R_alloc | apply Kd.R_drewN | apply Kd.R_drew)); exact HO0.out⟩, ⟨by repeat (first | (with_reducible first | exact HK.out | apply Kept.alloc | apply Kept.drewN | apply Kept.drew) | exact HK.out)⟩, ⟨zB HB.out⟩⟩
 case round =>
  clear H'
  try clear c2
  try clear p2
  obtain ⟨x0_1, x1_1, x5_1, rfl, rfl, HA, HK1, HO_0, HK, HB⟩ := hrel
  cases gk with
  | zero => exact absurd HA.out (by simp [laws_markInstrS.l0])
  | succ k1 =>
   have H := HA.out
   clear HA
   simp only [laws_markInstrS.l0] at H
   by_cases c3 : x5_1 < (x0_1.length : Int)
   ·rw [if_pos c3] at H
    have c3b0 : decide (x5_1 < (x0_1.length : Int)) = true := decide_eq_true c3
    clear c3
    by_cases c4 : 0 ≤ x5_1
    ·rw [if_pos c4] at H
     have c4b0 : decide (0 ≤ x5_1) = true := decide_eq_true c4
     clear c4
     obtain ⟨y299, hy299⟩ : ∃ y_ : List (S96), y_ = (x0_1.set (x5_1 : Int).toNat (⟨x1_1, (rd_T96 x0_1 x5_1).f1⟩ : S96)) := ⟨_, rfl⟩
     replace H : (laws_markInstrS.l0 k1 (y299.set (x5_1 : Int).toNat (⟨(rd_T96 y299 x5_1).f0, wrap64 (x1_1 + 1)⟩ : S96)) (wrap64 ((wrap64 (x1_1 + 1)) + 1)) (wrap64 (x5_1 + 1))) = some (r1, r2) := by first | (rw [hy299]; with_reducible exact H) | (have H2_ := (Option.bind_some _ _).symm.trans H; rw [hy299]; with_reducible exact H2_) | (have H2_ := (Option.bind_some _ _).symm.trans H; with_reducible exact H2_) | with_reducible exact H | (rw [hy299]; exact H) | exact H
     have Ny299 := zQ hy299
     clear hy299
     obtain ⟨y300, hy300⟩ : ∃ y_ : List (S96), y_ = (y299.set (x5_1 : Int).toNat (⟨(rd_T96 y299 x5_1).f0, wrap64 (x1_1 + 1)⟩ : S96)) := ⟨_, rfl⟩
     replace H : (laws_markInstrS.l0 k1 y300 (wrap64 ((wrap64 (x1_1 + 1)) + 1)) (wrap64 (x5_1 + 1))) = some (r1, r2) := by first | (rw [hy300]; with_reducible exact H) | (have H2_ := (Option.bind_some _ _).symm.trans H; rw [hy300]; with_reducible exact H2_) | (have H2_ := (Option.bind_some _ _).symm.trans H; with_reducible exact H2_) | with_reducible exact H | (rw [hy300]; exact H) | exact H
     have Ny300 := zQ hy300
     clear hy300
     have H' := zQ H
     clear H
     obtain ⟨Ao7, co7, eo7⟩ := Kd.R_slice HO_0.out
     subst eo7
     have p5 : 0 ≤ (x5_1 : Int) := zA
     have q5 : (x5_1 : Int) < ((x0_1.length : Int) : Int) := zA
     obtain ⟨go5, co5, eo5, gb5, gl5, cl5, HG5⟩ := Kd.R_form HO_0.out (by omega)
     (first | cases eo5 | (injection eo5 with ea_ en_ ec_; (first | subst ea_ | (injection ea_ with ea_; subst ea_)); subst ec_; clear en_))
     have GB5 := zQ gb5
     have GG5 := zQ HG5
     clear gb5 gl5 HG5
     have HMgo5 := zQ (show (P0_ go5 ∨ w.heap.size ≤ go5) from (HO_0.out.1 _ rfl))
     obtain ⟨ce5, hcl5, hM5, hcc5, hfr5⟩ := Kd.R_elem HO_0.out z96 (x5_1 : Int) p5 q5
     obtain rfl := k96_openM hM5
     have hx5_0 : wr.cell? ⟨go5, (x5_1 : Int).toNat * 2, none⟩ = some (.int .i64 ((rd_T96 x0_1 x5_1).f0)) := hcc5 0 _ rfl
     have hx5_1 : wr.cell? ⟨go5, (x5_1 : Int).toNat * 2 + 1, none⟩ = some (.int .i64 ((rd_T96 x0_1 x5_1).f1)) := hcc5 1 _ rfl
     have hf5_0 : wr.frozen? ⟨go5, (x5_1 : Int).toNat * 2, none⟩ = false := hfr5 0
     have hf5_1 : wr.frozen? ⟨go5, (x5_1 : Int).toNat * 2 + 1, none⟩ = false := hfr5 1
     clear hcl5 hcc5 hfr5 hM5
     replace p5 := eq_true p5
     replace q5 := eq_true q5
     have HX8 := zQ (show Kd.R k96 96 wr w0.heap.size (fun k_ => (P0_ k_ ∨ w.heap.size ≤ k_)) (.slice (some ⟨go5, 0, none⟩) x0_1.length co7) x0_1 from (zR HO_0.out))
     obtain ⟨ce8, hcl8, hM8, hcc8, hfr8⟩ := Kd.R_elem HX8.out z96 (x5_1 : Int) (of_decide_eq_true (by first | (with_reducible assumption) | assumption)) (by have h_ : (x5_1 : Int) < ((x0_1.length : Int) : Int) := zA; first | exact h_ | (have e_ := (Kd.R_reads' HO_0.out).1; omega) | simpa using h_)
     obtain rfl := k96_openM hM8
     have HP8 := Kd.R_seg HX8.out (x5_1 : Int) (of_decide_eq_true (by first | (with_reducible assumption) | assumption)) (by have h_ : (x5_1 : Int) < ((x0_1.length : Int) : Int) := zA; first | exact h_ | (have e_ := (Kd.R_reads' HO_0.out).1; omega) | simpa using h_) (seg := [.int .i64 x1_1]) (j := 0) hcl8 hcc8 (show 1 ≤ 2 from by decide) (x' := (⟨x1_1, (rd_T96 x0_1 x5_1).f1⟩ : S96)) (k96_mkM _ _ _ (⟨x1_1, (rd_T96 x0_1 x5_1).f1⟩ : S96) ) (fun _ hk => hk)
     have hx8_0 := hcc8 0 _ rfl
     (try simp only [show (k96).sz = 2 from rfl, Nat.mul_one, Nat.add_zero] at hx8_0)
     have hf8_0 := hfr8 0
     (try simp only [show (k96).sz = 2 from rfl, Nat.mul_one, Nat.add_zero] at hf8_0)
     clear hcl8 hcc8 hfr8 hM8
     go_wp2_with (first | ((with_reducible refine gate_store (t := 3) (p := 16) rfl ?_); refine store_event (t := 3) (p := 16) (v := ?vo_w9) (w1 := (wr.setCell ⟨go5, (x5_1 : Int).toNat * 2, none⟩ (.int .i64 x1_1))) ?hg ?ho ?hn ?hr ?_; (case ho => rfl); (case hg => rfl); (case hn => rfl); (case hr => first | (go_simp; done) | (go_simp; rfl)); intro w9 hw; have hg : wr.grownBy w9 (some go5) := (by rw [hw]; exact HP8.2); have hp_ : Kd.R k96 96 w9 w0.heap.size (fun k_ => (P0_ k_ ∨ w.heap.size ≤ k_)) (.slice (some ⟨go5, 0, none⟩) x0_1.length co7) y299 := (by rw [hw, Ny299.out]; exact HP8.1); clear HP8; have n0_ := zQ (hp_); have n1_ := zQ ((by rw [hw]; exact below_set (HB.out) GB5.out : Below w0.heap.size w0 w9)); have n2_ := zQ (Kept.of_grown (S := (fun k_ => P0_ k_)) hg (by repeat (first | (with_reducible first | exact HK.out | apply Kept.alloc | apply Kept.drewN | apply Kept.drew) | exact HK.out)) (fun k_ e_ => (HO_0.out.1 k_ e_))); clear HO_0; clear HB; clear HK; have HO_0 := n0_; have HB := n1_; have HK := n2_; clear n0_ n1_ n2_; clear hg hw hp_; have p6 : 0 ≤ (x5_1 : Int) := zA; have q6 : (x5_1 : Int) < ((x0_1.length : Int) : Int) := zA; obtain ⟨ce6, hcl6, hM6, hcc6, hfr6⟩ := Kd.R_elem HO_0.out z96 (x5_1 : Int) p6 q6; obtain rfl := k96_openM hM6; have hx6_0 : w9.cell? ⟨go5, (x5_1 : Int).toNat * 2, none⟩ = some (.int .i64 ((rd_T96 y299 x5_1).f0)) := hcc6 0 _ rfl; have hx6_1 : w9.cell? ⟨go5, (x5_1 : Int).toNat * 2 + 1, none⟩ = some (.int .i64 ((rd_T96 y299 x5_1).f1)) := hcc6 1 _ rfl; have hf6_0 : w9.frozen? ⟨go5, (x5_1 : Int).toNat * 2, none⟩ = false := hfr6 0; have hf6_1 : w9.frozen? ⟨go5, (x5_1 : Int).toNat * 2 + 1, none⟩ = false := hfr6 1; clear hcl6 hcc6 hfr6 hM6; replace p6 := eq_true p6; replace q6 := eq_true q6; have HX10 := zQ (show Kd.R k96 96 w9 w0.heap.size (fun k_ => (P0_ k_ ∨ w.heap.size ≤ k_)) (.slice (some ⟨go5, 0, none⟩) x0_1.length co7) y299 from (zR HO_0.out)); obtain ⟨ce10, hcl10, hM10, hcc10, hfr10⟩ := Kd.R_elem HX10.out z96 (x5_1 : Int) (of_decide_eq_true (by first | (with_reducible assumption) | assumption)) (by have h_ : (x5_1 : Int) < ((x0_1.length : Int) : Int) := zA; first | exact h_ | (have e_ := (Kd.R_reads' HO_0.out).1; omega) | simpa using h_); obtain rfl := k96_openM hM10; have HP10 := Kd.R_seg HX10.out (x5_1 : Int) (of_decide_eq_true (by first | (with_reducible assumption) | assumption)) (by have h_ : (x5_1 : Int) < ((x0_1.length : Int) : Int) := zA; first | exact h_ | (have e_ := (Kd.R_reads' HO_0.out).1; omega) | simpa using h_) (seg := [.int .i64 (wrap64 (x1_1 + 1))]) (j := 1) hcl10 hcc10 (show 2 ≤ 2 from by decide) (x' := (⟨(rd_T96 y299 x5_1).f0, wrap64 (x1_1 + 1)⟩ : S96)) (k96_mkM _ _ _ (⟨(rd_T96 y299 x5_1).f0, wrap64 (x1_1 + 1)⟩ : S96) ) (fun _ hk => hk); have hx10_1 := hcc10 1 _ rfl; (try simp only [show (k96).sz = 2 from rfl, Nat.mul_one, Nat.add_zero] at hx10_1); have hf10_1 := hfr10 1; (try simp only [show (k96).sz = 2 from rfl, Nat.mul_one, Nat.add_zero] at hf10_1); clear hcl10 hcc10 hfr10 hM10) | ((with_reducible refine gate_store (t := 3) (p := 23) rfl ?_); refine store_event (t := 3) (p := 23) (v := ?vo_w11) (w1 := (w9.setCell ⟨go5, (x5_1 : Int).toNat * 2 + 1, none⟩ (.int .i64 (wrap64 (x1_1 + 1))))) ?hg ?ho ?hn ?hr ?_; (case ho => rfl); (case hg => rfl); (case hn => rfl); (case hr => first | (go_simp; done) | (go_simp; rfl)); intro w11 hw; have hg : w9.grownBy w11 (some go5) := (by rw [hw]; exact HP10.2); have hp_ : Kd.R k96 96 w11 w0.heap.size (fun k_ => (P0_ k_ ∨ w.heap.size ≤ k_)) (.slice (some ⟨go5, 0, none⟩) x0_1.length co7) y300 := (by rw [hw, Ny300.out]; exact HP10.1); clear HP10; have n0_ := zQ (hp_); have n1_ := zQ ((by rw [hw]; exact below_set (HB.out) GB5.out : Below w0.heap.size w0 w11)); have n2_ := zQ (Kept.of_grown (S := (fun k_ => P0_ k_)) hg (by repeat (first | (with_reducible first | exact HK.out | apply Kept.alloc | apply Kept.drewN | apply Kept.drew) | exact HK.out)) (fun k_ e_ => (HO_0.out.1 k_ e_))); clear HO_0; clear HB; clear HK; have HO_0 := n0_; have HB := n1_; have HK := n2_; clear n0_ n1_ n2_; clear hg hw hp_))
     go_roundg k1
     case measure => have := HK1.out; omega
     case rel => exact ⟨(y300), (wrap64 ((wrap64 (x1_1 + 1)) + 1)), (wrap64 (x5_1 + 1)), (by first | rfl | (simp; done) | (simp [*]; done)), (by first | rfl | (simp; done) | (simp [*]; done)), H', ⟨by have := HK1.out; omega⟩, ⟨by (with_reducible repeat (first | apply Kd.R_alloc | apply Kd.R_drewN | apply Kd.R_drew)); exact HO_0.out⟩, ⟨by repeat (first | (with_reducible first | exact HK.out | apply Kept.alloc | apply Kept.drewN | apply Kept.drew) | exact HK.out)⟩, ⟨zB HB.out⟩⟩
    ·rw [if_neg c4] at H
     exact absurd H (by simp)
   ·rw [if_neg c3] at H
    have c3b0 : decide (x5_1 < (x0_1.length : Int)) = false := decide_eq_false c3
    clear c3
    simp only [Option.some.injEq, Prod.mk.injEq] at H
    obtain ⟨rfl, rfl⟩ := H
    obtain ⟨Ao12, co12, eo12⟩ := Kd.R_slice HO_0.out
    subst eo12
    go_wp2
    go_ret
    exact ⟨by first | rfl | (simp [errW_none, errW_some] <;> rfl) | (simp [*, errW_none, errW_some] <;> rfl), by (with_reducible repeat (first | apply Kd.R_alloc | apply Kd.R_drewN | apply Kd.R_drew)); exact HO_0.out, zB HB.out, by repeat (first | (with_reducible first | exact HK.out | apply Kept.alloc | apply Kept.drewN | apply Kept.drew) | exact HK.out)⟩

/-! ### laws_markRoutineS: function 33 -/
/-- The block is one of cells of one of these types. -/
def TyIn (w : World) (L : List Nat) (k : Nat) : Prop := ∃ q, q ∈ L ∧ ∃ cells, w.heap[k]? = some (.cells cells q (0, 0))
theorem TyIn.no {w : World} {L L' : List Nat} {k : Nat} (h : TyIn w L k) (h' : TyIn w L' k) (hd : (L.all fun q => !L'.contains q) = true) : False := by
 obtain ⟨q, hq, cells, hc⟩ := h
 obtain ⟨q', hq', cells', hc'⟩ := h'
 rw [hc] at hc'
 injection hc' with hc'
 injection hc' with _ ht
 subst ht
 have := List.all_eq_true.1 hd q hq
 simp [hq'] at this
theorem TyIn.blk {w : World} {g t : Nat} {cells : Array Value} (h : w.heap[g]? = some (.cells cells t (0, 0))) : TyIn w [t] g := ⟨t, by simp, cells, h⟩
theorem ty_S {α : Type} {d : Kd α} {e base : Nat} {w : World} {ok : Nat → Prop} {v : Value} {xs : List α} (h : Kd.S d e w base ok v xs) : Kd.S d e w base (fun k => ok k ∧ TyIn w (e :: d.E) k) v xs :=
 Kd.S_mono (Kd.S_bound h) (fun _ hk => ⟨hk.1, hk.2.2.2⟩)
theorem ty_R {α : Type} {d : Kd α} {e base : Nat} {w : World} {ok : Nat → Prop} {v : Value} {xs : List α} (h : d.R e w base ok v xs) : d.R e w base (fun k => ok k ∧ TyIn w (e :: d.E) k) v xs :=
 Kd.R_mono (Kd.R_bound h) (fun _ hk => ⟨hk.1, hk.2.2.2⟩)
def totR (l : List (S124)) : Nat := (l.map fun x => x.f0.length).sum
def laws_markRoutineS.f (l0 : List (S124)) (a1 : Int) : Option Int := if 0 ≤ a1 ∧ a1 + 2 * (totR l0 : Int) ≤ 4611686018427387904 then some (a1 + 2 * (totR l0 : Int)) else none
theorem markInstrS_from (n : Nat) : ∀ (d k i : Nat) (l : List (S96)) (a : Int), l.length = n → n - i ≤ d → d < k → i ≤ n → 0 ≤ a → a + 2 * (n : Int) ≤ 4611686018427387904 →
 ∃ l', laws_markInstrS.l0 k l (a + 2 * i) (i : Int) = some (a + 2 * n, l') ∧ l'.length = n := by
 intro d
 induction d with
 | zero =>
  intro k i l a hn hd hk hi h0 h1
  obtain ⟨k, rfl⟩ : ∃ m, k = m + 1 := ⟨k - 1, by omega⟩
  simp only [laws_markInstrS.l0]
  rw [if_neg (by omega)]
  have e : i = n := by omega
  subst e
  exact ⟨l, rfl, hn⟩
 | succ d ih =>
  intro k i l a hn hd hk hi h0 h1
  obtain ⟨k, rfl⟩ : ∃ m, k = m + 1 := ⟨k - 1, by omega⟩
  simp only [laws_markInstrS.l0]
  by_cases h : i < n
  ·have hw : wrap64 ((i : Int) + 1) = ((i + 1 : Nat) : Int) := by unfold wrap64; omega
   have e1 : wrap64 (a + 2 * i + 1) = a + 2 * i + 1 := by unfold wrap64; omega
   have e2 : wrap64 (a + 2 * i + 1 + 1) = a + 2 * ((i + 1 : Nat) : Int) := by unfold wrap64; omega
   rw [if_pos (by omega), if_pos (by omega)]
   simp only [Option.bind_some, hw, e1, e2]
   exact ih k (i + 1) _ a (by simpa using hn) (by omega) (by omega) (by omega) h0 h1
  ·rw [if_neg (by omega)]
   have e : i = n := by omega
   subst e
   exact ⟨l, rfl, hn⟩
theorem markInstrS_tot (l : List (S96)) (a : Int) (h0 : 0 ≤ a) (h1 : a + 2 * (l.length : Int) ≤ 4611686018427387904) : ∃ l', laws_markInstrS.f (l.length + 1) l a = some (a + 2 * l.length, l') ∧ l'.length = l.length := by
 have h := markInstrS_from l.length l.length (l.length + 1) 0 l a rfl (by omega) (by omega) (by omega) h0 h1
 unfold laws_markInstrS.f
 simpa using h
theorem totR_take (l : List (S124)) (i : Nat) (h : i < l.length) : totR (l.take (i + 1)) = totR (l.take i) + l[i].f0.length := by
 unfold totR
 rw [List.take_succ_eq_append_getElem h]
 simp only [List.map_append, List.sum_append, List.map_cons, List.map_nil, List.sum_cons, List.sum_nil, Nat.add_zero]
theorem totR_le (l : List (S124)) (i : Nat) : totR (l.take i) ≤ totR l := by
 conv => rhs; rw [← List.take_append_drop i l]
 unfold totR
 rw [List.map_append, List.sum_append]
 omega
/-- One routine's code is lent: what is done to it alone leaves the others. -/
theorem rout_lend {W : World} {base g n cap : Nat} {ok : Nat → Prop} {xs : List (S124)} (h : Kd.S k124 124 W base ok (.slice (some ⟨g, 0, none⟩) n cap) xs) (i : Nat) (hi : i < xs.length) :
 ∃ (oki : Nat → Prop) (v0 : Value), W.cell? ⟨g, i, none⟩ = some v0 ∧ Kd.R k96 96 W base oki v0 xs[i].f0 ∧ (∀ k, oki k → ok k) ∧
  ∀ (w1 : World) (r : List (S96)) (ok' : Nat → Prop), Kept W w1 oki → Kd.R k96 96 w1 base ok' v0 r → Kd.S k124 124 w1 base ok (.slice (some ⟨g, 0, none⟩) n cap) (xs.set i ⟨r⟩) := by
 have hn := (Kd.S_reads' h).1
 obtain ⟨oki, c, hcl, hM, hcc, hoki, hH⟩ := Kd.S_lend h z124 (i : Int) (by omega) (by omega)
 have e : xs.getD ((i : Int)).toNat z124 = xs[i] := by simp [List.getD_eq_getElem?_getD, hi]
 rw [e] at hM
 obtain ⟨v0, rfl, hR⟩ := k124_openM hM
 refine ⟨oki, v0, by have q := hcc 0 v0 rfl; rwa [show (k124).sz = 1 from rfl, Nat.mul_one, Nat.add_zero] at q, hR, fun k hk => (hoki k hk).1, fun w1 r ok' hk hr => ?_⟩
 have h1 := Kd.H_kept hH hk (fun k _ hn => hn)
 have hr' : Kd.R k96 96 w1 base oki v0 r := Kd.R_reok rfl hr (fun k e_ => hR.1 k e_)
 have := Kd.H_back h1 (k124_mkM w1 base oki ⟨r⟩ hr') (fun _ hk => hk)
 simpa using this
theorem laws_markRoutineS.calls (P0_ : Nat → Prop) (u9000_ : Value) (l0 : List (S124)) (a1 : Int) (r1 : Int) (w0 w : World) (hB : Below w0.heap.size w0 w) (ho0 : Kd.S k124 124 w w0.heap.size P0_ u9000_ l0) (h : laws_markRoutineS.f l0 a1 = some r1) :
 Calls Try.prog 33 #[u9000_, .int .i64 a1] w fun e w' => e = .returned (.int .i64 r1) ∧ Below w0.heap.size w0 w' ∧ Kept w w' (fun k_ => P0_ k_ ∧ TyIn w [124, 96] k_) := by
 unfold laws_markRoutineS.f at h
 have hc : 0 ≤ a1 ∧ a1 + 2 * (totR l0 : Int) ≤ 4611686018427387904 := by
  by_cases hc : 0 ≤ a1 ∧ a1 + 2 * (totR l0 : Int) ≤ 4611686018427387904
  ·exact hc
  ·rw [if_neg hc] at h; cases h
 rw [if_pos hc] at h
 obtain rfl := Option.some.inj h
 clear h
 have HC := zQ hc
 clear hc
 obtain ⟨A_, c_, e_⟩ := Kd.S_slice ho0
 subst e_
 have hlen : l0.length ≤ 9223372036854775807 := by
  obtain ⟨inner, hi⟩ := Kd.S_own ho0
  rcases hi.2 with ⟨_, h0⟩ | ⟨g', cap', cur', he, _, _, h1, h2, h3, _⟩
  ·omega
  ·simp only [maxLen] at h2; omega
 have HS := zQ (ty_S ho0)
 have HB := zQ hB
 have HK := zQ (Kept.refl w (fun k_ => P0_ k_ ∧ TyIn w [124, 96] k_))
 clear hB ho0
 go_enter Try.func33, Try.ntmps33
 go_wp2
 go_loopg [1, 5] (l0.length) (fun kq v1 v5 w' => ∃ (i : Nat) (x : List (S124)), v1 = .int .i64 (a1 + 2 * (totR (l0.take i) : Int)) ∧ v5 = .int .i64 (i : Int) ∧ Aside0 (kq + i = l0.length) ∧ Aside0 (x.map (fun y => y.f0.length) = l0.map (fun y => y.f0.length)) ∧ Aside0 (Kd.S k124 124 w' w0.heap.size (fun k_ => P0_ k_ ∧ TyIn w [124, 96] k_) (.slice A_ l0.length c_) x) ∧ Aside0 (Kept w w' (fun k_ => P0_ k_ ∧ TyIn w [124, 96] k_)) ∧ Aside0 (Below w0.heap.size w0 w'))
 case atStart => exact ⟨0, l0, by simp [totR], rfl, ⟨by omega⟩, ⟨rfl⟩, ⟨by (with_reducible repeat (first | apply Kd.S_alloc | apply Kd.S_drewN | apply Kd.S_drew)); exact HS.out⟩, ⟨by repeat (first | (with_reducible first | exact HK.out | apply Kept.alloc | apply Kept.drewN | apply Kept.drew) | exact HK.out)⟩, ⟨zB HB.out⟩⟩
 case round =>
  clear HS HB HK
  obtain ⟨i, x, rfl, rfl, HG, HL, HS, HK, HB⟩ := hrel
  have hxl : x.length = l0.length := by have := congrArg List.length HL.out; simpa using this
  have hg0 := HG.out
  by_cases hlt : i < l0.length
  ·cases gk with
   | zero => omega
   | succ k1 =>
    have hix : i < x.length := by omega
    obtain ⟨g_, cap_, e_, _⟩ := Kd.S_form HS.out (Nat.lt_of_le_of_lt (Nat.zero_le _) hix)
    injection e_ with e1_ e2_ e3_
    subst e1_
    subst e3_
    clear e2_
    obtain ⟨oki, v0, hcell, hR, hsub, hback⟩ := rout_lend HS.out i hix
    have hxi : (x[i]'hix).f0.length = l0[i].f0.length := by
     have := congrArg (fun l => l[i]?) HL.out
     simpa [hxl, hlt] using this
    have ht := totR_take l0 i hlt
    have hle := totR_le l0 (i + 1)
    have hc_ := HC.out
    obtain ⟨l', hf, hl'⟩ := markInstrS_tot (x[i]'hix).f0 (a1 + 2 * (totR (l0.take i) : Int)) (by omega) (by omega)
    obtain ⟨A1, c1, e_⟩ := Kd.R_slice hR
    subst e_
    have HR := zQ hR
    have HF := zQ hf
    have HBK := zQ hback
    have HSB := zQ hsub
    have HT := zQ (show (a1 + 2 * (totR (l0.take i) : Int) + 2 * ((x[i]'hix).f0.length : Int)) = a1 + 2 * (totR (l0.take (i + 1)) : Int) by omega)
    have HXL := zQ hxl
    have HM := zQ (show (x.set i ⟨l'⟩).map (fun y => y.f0.length) = l0.map (fun y => y.f0.length) by
     rw [List.map_set, HL.out]
     show (l0.map (fun y => y.f0.length)).set i l'.length = _
     rw [hl', hxi]
     apply List.ext_getElem?
     intro j
     rw [List.getElem?_set]
     split
     ·rename_i hj; subst hj; simp [hlt]
     ·rfl)
    have c3b0 : decide ((i : Int) < (l0.length : Int)) = true := decide_eq_true (by omega)
    have c4b0 : decide ((0 : Int) ≤ (i : Int)) = true := decide_eq_true (by omega)
    have b1 : (i : Int) ≤ 9223372036854775806 := by omega
    have b2 : (0 : Int) ≤ (i : Int) := by omega
    have q5 : ((i : Int) < (l0.length : Int)) = True := eq_true (by omega)
    have HG1 := zQ (show k1 + (i + 1) = l0.length by omega)
    clear hR hf hback hsub hg0 ht hle hc_ hl' hxi hxl hlt hlen
    go_wp2_with (first | (go_at_call 20; (with_reducible refine (laws_markInstrS.calls _ oki _ (x[i]'hix).f0 _ _ l' w0 _ HB.out HR.out HF.out).mono ?_); rintro e w2 ⟨rfl, hr, hb, hkp⟩))
    go_roundg k1
    case measure => omega
    case rel => exact ⟨i + 1, x.set i ⟨l'⟩, congrArg (Value.int .i64) HT.out, by go_num, HG1, HM, ⟨HBK.out _ _ _ hkp hr⟩, ⟨Kept.then_ HK.out hkp (fun k hk => .inl (HSB.out k hk))⟩, ⟨hb⟩⟩
  ·have e_ : i = l0.length := by omega
   subst e_
   have c3b0 : decide ((l0.length : Int) < (l0.length : Int)) = false := decide_eq_false (by omega)
   clear hlt hg0 hxl
   rw [List.take_of_length_le (Nat.le_refl _)]
   go_wp2
   go_ret
   exact ⟨rfl, HB.out, HK.out⟩

-- NOT PRINTED: function 87 (laws_markFrameS)

end Go.Proofs.Ytkegjmkdnfpfdaa.MFnExactNewCore
