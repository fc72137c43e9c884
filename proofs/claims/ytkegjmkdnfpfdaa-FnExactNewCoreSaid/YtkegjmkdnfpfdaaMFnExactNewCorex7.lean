-- By a program of this session.
import Derived.Test.YtkegjmkdnfpfdaaMFnExactNewCorex0
namespace Go.Proofs.Ytkegjmkdnfpfdaa.MFnExactNewCore
open Go.RowKit Go.Proofs.YtkegjmkdnfpfdaaW.PrintWords Go.Proofs.YtkegjmkdnfpfdaaW.PrintLast Go.Proofs.YtkegjmkdnfpfdaaW.PrintMore
attribute [local go_sem] max2_int min2_int max_two min_two max_three min_three max_four min_four
set_option linter.unusedVariables false
set_option linter.unusedSimpArgs false

/-! ### spec_l04Verify: function 63 -/
/-! the verifier's plain form -/
structure VO where
 at_ : Int
 base : Int
 isIf : Bool
 hasElse : Bool
def VO.cells (o : VO) : List Value := [.int .i64 o.at_, .int .i64 o.base, .bool o.isIf, .bool o.hasElse]
/-- The open structures, the innermost one first. -/
def vcells : List VO → List Value
 | [] => []
 | o :: P => vcells P ++ o.cells
theorem vcells_length (O : List VO) : (vcells O).length = O.length * 4 := by
 induction O with
 | nil => rfl
 | cons o P ih => simp [vcells, ih, VO.cells]; omega
theorem vcells_at (o : VO) (P : List VO) (j : Nat) (hj : j < 4) : (vcells (o :: P))[P.length * 4 + j]? = o.cells[j]? := by
 rw [vcells, List.getElem?_append_right (by rw [vcells_length]; omega), vcells_length, Nat.add_sub_cancel_left]
theorem vcells_else (o : VO) (P : List VO) : (vcells (o :: P)).set (P.length * 4 + 3) (.bool true) = vcells ({ o with hasElse := true } :: P) := by
 rw [vcells, List.set_append_right _ _ (by rw [vcells_length]; omega), vcells_length, Nat.add_sub_cancel_left]
 rfl
def vOp (op : Int) (p : ByteArray × ByteArray) (q : Int → Bool) (r : ByteArray × ByteArray) : ByteArray × ByteArray := if q op then p else r
def vTakes (k : Int) : ByteArray := if k = 1 then ⟨#[98, 105]⟩ else if k = 2 then ⟨#[98, 98, 105]⟩ else if k = 3 then ⟨#[98]⟩ else ⟨#[98, 98]⟩
def vEff (ks : List Int) (op a : Int) : ByteArray × ByteArray :=
 if op = 1 then (⟨#[]⟩, ⟨#[105]⟩) else if op = 3 then (⟨#[]⟩, ⟨#[105]⟩) else if op = 20 then (⟨#[]⟩, ⟨#[105]⟩)
 else if op = 2 then (⟨#[]⟩, ⟨#[98]⟩) else if op = 5 then (⟨#[]⟩, ⟨#[98]⟩) else if op = 7 then (⟨#[]⟩, ⟨#[98]⟩)
 else if op = 4 then (⟨#[105]⟩, ⟨#[]⟩)
 else if op = 6 then (⟨#[98]⟩, ⟨#[]⟩) else if op = 8 then (⟨#[98]⟩, ⟨#[]⟩) else if op = 21 then (⟨#[98]⟩, ⟨#[]⟩)
 else if op = 9 then (⟨#[105, 105]⟩, ⟨#[105]⟩) else if op = 10 then (⟨#[105, 105]⟩, ⟨#[105]⟩) else if op = 11 then (⟨#[105, 105]⟩, ⟨#[105]⟩) else if op = 12 then (⟨#[105, 105]⟩, ⟨#[105]⟩)
 else if op = 13 then (⟨#[105, 105]⟩, ⟨#[98]⟩) else if op = 14 then (⟨#[105, 105]⟩, ⟨#[98]⟩)
 else if op = 15 then (⟨#[98, 98]⟩, ⟨#[98]⟩) else if op = 16 then (⟨#[98, 98]⟩, ⟨#[98]⟩)
 else if op = 17 then (⟨#[98]⟩, ⟨#[98]⟩)
 else if op = 18 then (⟨#[98, 105, 105]⟩, ⟨#[105]⟩)
 else if op = 19 then (vTakes (rd ks a), ⟨#[98]⟩)
 else (⟨#[]⟩, ⟨#[]⟩)
def vBase : List VO → Int
 | [] => 0
 | o :: _ => o.base
def vNest (at_ op : Int) (S : ByteArray) (O : List VO) : Int × List VO :=
 if op = 21 ∨ op = 24 then (if O.length = 4 then (17, O) else (0, ⟨at_, (S.size : Int), decide (op = 21), false⟩ :: O))
 else if op = 22 then (match O with
  | [] => (14, [])
  | o :: P => if (!o.isIf || o.hasElse) = true then (14, o :: P) else if (S.size : Int) = o.base then (0, { o with hasElse := true } :: P) else (13, o :: P))
 else if op = 23 then (match O with
  | [] => (14, [])
  | o :: P => if (S.size : Int) = o.base then (0, P) else (13, o :: P))
 else (0, O)
def vStep (ks : List Int) (R at_ op a : Int) (S : ByteArray) (O : List VO) : Int × ByteArray × List VO :=
 if (op = 19 ∨ op = 20) ∧ (ks.length : Int) ≤ a then (5, S, O)
 else if op = 26 ∧ R ≤ a then (15, S, O)
 else if (S.size : Int) - ((vEff ks op a).1.size : Int) < vBase O then (13, S, O)
 else if S.extract (S.size - (vEff ks op a).1.size) S.size = (vEff ks op a).1 then
  (if S.size - (vEff ks op a).1.size + (vEff ks op a).2.size ≤ 8 then ((vNest at_ op (S.extract 0 (S.size - (vEff ks op a).1.size) ++ (vEff ks op a).2) O).1, S.extract 0 (S.size - (vEff ks op a).1.size) ++ (vEff ks op a).2, (vNest at_ op (S.extract 0 (S.size - (vEff ks op a).1.size) ++ (vEff ks op a).2) O).2)
  else (7, S.extract 0 (S.size - (vEff ks op a).1.size) ++ (vEff ks op a).2, O))
 else (12, S, O)
/-- What holds of an instruction and of the blocks' kinds. -/
def vOK (ks : List Int) (op a : Int) : Prop := 1 ≤ op ∧ op ≤ 26 ∧ ((op = 19 ∨ op = 20) → 0 ≤ a) ∧ ∀ k ∈ ks, 1 ≤ k ∧ k ≤ 4
def vInv (S : ByteArray) (O : List VO) : Prop := S.size ≤ 8 ∧ O.length ≤ 4 ∧ ∀ o ∈ O, 0 ≤ o.base
theorem vBase_nonneg {S : ByteArray} {O : List VO} (h : vInv S O) : 0 ≤ vBase O := by
 cases O with
 | nil => exact Int.le_refl _
 | cons o P => exact h.2.2 o (by simp)
theorem vNest_inv {at_ op : Int} {S : ByteArray} {O : List VO} (h : vInv S O) : vInv S (vNest at_ op S O).2 := by
 obtain ⟨h1, h2, h3⟩ := h
 unfold vNest
 split
 ·split
  ·exact ⟨h1, h2, h3⟩
  ·refine ⟨h1, by simp; omega, fun o ho => ?_⟩
   rcases List.mem_cons.1 ho with rfl | ho
   ·exact Int.natCast_nonneg _
   ·exact h3 o ho
 ·split
  ·cases O with
   | nil => exact ⟨h1, h2, h3⟩
   | cons o P =>
    dsimp only
    split
    ·exact ⟨h1, h2, h3⟩
    ·split
     ·refine ⟨h1, by simpa using h2, fun o' ho => ?_⟩
      rcases List.mem_cons.1 ho with rfl | ho
      ·exact h3 o (by simp)
      ·exact h3 o' (by simp [ho])
     ·exact ⟨h1, h2, h3⟩
  ·split
   ·cases O with
    | nil => exact ⟨h1, h2, h3⟩
    | cons o P =>
     dsimp only
     split
     ·exact ⟨h1, (by simp at h2; omega : P.length ≤ 4), fun o' ho => h3 o' (List.mem_cons_of_mem _ ho)⟩
     ·exact ⟨h1, h2, h3⟩
   ·exact ⟨h1, h2, h3⟩
theorem vTakes_size (k : Int) : (vTakes k).size ≤ 3 := by unfold vTakes; (repeat' split) <;> decide
def VSmall (p : ByteArray × ByteArray) : Prop := p.1.size ≤ 3 ∧ p.2.size ≤ 1
theorem VSmall.ite {c : Prop} [Decidable c] {x y : ByteArray × ByteArray} (hx : VSmall x) (hy : VSmall y) : VSmall (if c then x else y) := by
 split
 ·exact hx
 ·exact hy
theorem vEff_size (ks : List Int) (op a : Int) : (vEff ks op a).1.size ≤ 3 ∧ (vEff ks op a).2.size ≤ 1 := by
 show VSmall (vEff ks op a)
 unfold vEff
 repeat (first | (refine VSmall.ite ?_ ?_) | exact ⟨by decide, by decide⟩ | exact ⟨vTakes_size _, (by decide : (⟨#[98]⟩ : ByteArray).size ≤ 1)⟩)
theorem vStep_inv {ks : List Int} {R at_ op a : Int} {S : ByteArray} {O : List VO} (h : vInv S O) (h0 : (vStep ks R at_ op a S O).1 = 0) : vInv (vStep ks R at_ op a S O).2.1 (vStep ks R at_ op a S O).2.2 := by
 have hz := vEff_size ks op a
 unfold vStep at h0 ⊢
 by_cases h1 : (op = 19 ∨ op = 20) ∧ (ks.length : Int) ≤ a
 ·rw [if_pos h1] at h0; exact absurd h0 (by simp)
 rw [if_neg h1] at h0 ⊢
 by_cases h2 : op = 26 ∧ R ≤ a
 ·rw [if_pos h2] at h0; exact absurd h0 (by simp)
 rw [if_neg h2] at h0 ⊢
 by_cases h3 : (S.size : Int) - ((vEff ks op a).1.size : Int) < vBase O
 ·rw [if_pos h3] at h0; exact absurd h0 (by simp)
 rw [if_neg h3] at h0 ⊢
 by_cases h4 : S.extract (S.size - (vEff ks op a).1.size) S.size = (vEff ks op a).1
 ·rw [if_pos h4] at h0 ⊢
  by_cases h5 : S.size - (vEff ks op a).1.size + (vEff ks op a).2.size ≤ 8
  ·rw [if_pos h5]
   have hi : vInv (S.extract 0 (S.size - (vEff ks op a).1.size) ++ (vEff ks op a).2) O := ⟨by rw [ByteArray.size_append, ByteArray.size_extract]; have := h.1; omega, h.2.1, h.2.2⟩
   exact vNest_inv hi
  ·rw [if_neg h5] at h0; exact absurd h0 (by simp)
 ·rw [if_neg h4] at h0; exact absurd h0 (by simp)
theorem v_toList {x y : ByteArray} (h : x.toList = y.toList) : x = y := by
 rw [ByteArray.toList_eq, ByteArray.toList_eq] at h
 exact ByteArray.ext (Array.toList_inj.1 h)
theorem v_eq {x y : ByteArray} (h : (!x.toList == y.toList) = false) : x = y := v_toList (by simpa using h)
theorem v_ne {x y : ByteArray} (h : (!x.toList == y.toList) = true) : x ≠ y := by
 rintro rfl
 simp at h
def vOKb (ks : List Int) (op a : Int) : Bool := decide (1 ≤ op) && decide (op ≤ 26) && (!(op == 19 || op == 20) || decide (0 ≤ a)) && ks.all fun k => decide (1 ≤ k) && decide (k ≤ 4)
theorem vOK_of {ks : List Int} {op a : Int} (h : vOKb ks op a = true) : vOK ks op a := by
 unfold vOKb at h
 simp only [Bool.and_eq_true, Bool.or_eq_true, Bool.not_eq_true', decide_eq_true_eq, List.all_eq_true, beq_eq_false_iff_ne, Bool.or_eq_false_iff] at h
 obtain ⟨⟨⟨h1, h2⟩, h3⟩, h4⟩ := h
 exact ⟨h1, h2, fun e => by rcases h3 with h3 | h3 <;> omega, fun k hk => h4 k hk⟩
theorem v_undrew {B n : Nat} {W w1 : World} (h : Below B (W.drewN n) w1) : Below B W w1 := ⟨h.os, h.tape, h.output, h.size, h.block⟩
structure VF (w w' : World) (g : Nat) (v v' : Value) : Prop where
 os : w'.os = w.os
 tape : w'.tape = w.tape
 output : w'.output = w.output
 size : w.heap.size ≤ w'.heap.size
 block : ∀ k, k < w.heap.size → k ≠ g → some k ≠ v.ownBlock → w'.heap[k]? = w.heap[k]?
 new : v'.ownBlock = v.ownBlock ∨ ∃ b, v'.ownBlock = some b ∧ w.heap.size ≤ b
theorem VF.refl (w : World) (g : Nat) (v : Value) : VF w w g v v := ⟨rfl, rfl, rfl, Nat.le_refl _, fun _ _ _ _ => rfl, .inl rfl⟩
theorem VF.of_below {w w' : World} (h : Below w.heap.size w w') (g : Nat) (v : Value) : VF w w' g v v := ⟨h.os, h.tape, h.output, h.size, fun k hk _ _ => h.block k hk, .inl rfl⟩
theorem VF.drewN {w w' : World} {g : Nat} {v v' : Value} (h : VF w w' g v v') (n : Nat) : VF w (w'.drewN n) g v v' := ⟨h.os, h.tape, h.output, h.size, h.block, h.new⟩
theorem VF.before {w w1 w2 : World} {g : Nat} {v v' : Value} (h : VF w1 w2 g v v') (hb : Below w.heap.size w w1) : VF w w2 g v v' :=
 ⟨h.os.trans hb.os, h.tape.trans hb.tape, h.output.trans hb.output, Nat.le_trans hb.size h.size, fun k hk hg hv => (h.block k (Nat.lt_of_lt_of_le hk hb.size) hg hv).trans (hb.block k hk), h.new.imp id (fun ⟨b, h1, h2⟩ => ⟨b, h1, Nat.le_trans hb.size h2⟩)⟩
theorem VF.set {w w' : World} {g : Nat} {v v' : Value} (h : VF w w' g v v') (j : Nat) (u u' : Value) (hu : u'.ownBlock = v'.ownBlock) : VF w (w'.setCell ⟨g, j, none⟩ u) g v u' :=
 ⟨h.os, h.tape, h.output, by simpa [World.setCell] using h.size, fun k hk hg hv => (Below.heap_setCell _ _ _ _ hg).trans (h.block k hk hg hv), by rw [hu]; exact h.new⟩
theorem VF.after {w w1 w2 : World} {g : Nat} {v v' : Value} (h : VF w1 w2 g v v') (k : ∀ i, i < w.heap.size → i ≠ g → w1.heap[i]? = w.heap[i]?) (ho : w1.os = w.os) (ht : w1.tape = w.tape) (hp : w1.output = w.output) (hs : w.heap.size ≤ w1.heap.size) : VF w w2 g v v' :=
 ⟨h.os.trans ho, h.tape.trans ht, h.output.trans hp, Nat.le_trans hs h.size, fun i hi hg hv => (h.block i (Nat.lt_of_lt_of_le hi hs) hg hv).trans (k i hi hg), h.new.imp id (fun ⟨b, h1, h2⟩ => ⟨b, h1, Nat.le_trans hs h2⟩)⟩
theorem VF.of_grown {w w1 : World} {g : Nat} {v v' : Value} (h : w.grownBy w1 v.ownBlock) (ha : v'.ownBlock = v.ownBlock ∨ ∃ b, v'.ownBlock = some b ∧ w.heap.size ≤ b) : VF w w1 g v v' :=
 ⟨h.os, h.tape, h.output, h.size, fun k hk _ hv => h.block k hk hv, ha⟩
theorem VF.own {w w' : World} {g : Nat} {v v' u : Value} {b e e1 t size n s1 n1 b1 : Nat} {xs ys : List Value} {cs : Array Value} (hf : VF w w' g v v') (hg : w.heap[g]? = some (.cells cs t (0, 0))) (hv : w.ownsRow b1 e1 s1 v n1 ys) (h : w.ownsRow b e size u n xs) (h1 : e ≠ t) (h2 : e ≠ e1) : w'.ownsRow b e size u n xs :=
 own_move h fun k hk => hf.block k (own_lt h k hk) (fun ek => own_ne h hg h1 (by rw [hk, ek])) (fun ek => by
  rcases own_type_ne h hv h2 with h3 | h3
  ·rw [hk] at h3; cases h3
  ·exact h3 (by rw [hk, ek]))
theorem VF.below {w w' : World} {g B : Nat} {v v' : Value} (hf : VF w w' g v v') (hg : B ≤ g) (hv : ∀ k, v.ownBlock = some k → B ≤ k) (hB : B ≤ w.heap.size) : Below B w w' :=
 ⟨hf.os, hf.tape, hf.output, hf.size, fun k hk => hf.block k (by omega) (by omega) (fun e => by have := hv k e.symm; omega)⟩
theorem pw_cell_below' {w w1 : World} (h : Below w.heap.size w w1) {a : Addr} {v : Value} (hc : w.cell? a = some v) : w1.cell? a = some v := (h.cell (World.block_lt_of_cell? w a hc)).trans hc
theorem v_int {a b : Int} (h : a = b) : Ending.returned (.int .i64 a) = .returned (.int .i64 b) := by rw [h]

end Go.Proofs.Ytkegjmkdnfpfdaa.MFnExactNewCore
