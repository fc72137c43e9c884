-- Text written by a program of this session (wip/tools: the kit's printer with additions of ours).
import Derived.Test.YtjgdfbcjlebniaaMFnExactVerifyCodex0
namespace Go.Proofs.Ytjgdfbcjlebniaa.MFnExactVerifyCode
open Go.RowKit Go.Proofs.YtjgdfbcjlebniaaW.PrintWords Go.Proofs.YtjgdfbcjlebniaaW.PrintLast Go.Proofs.YtjgdfbcjlebniaaW.PrintMore
attribute [local go_sem] max2_int min2_int max_two min_two max_three min_three max_four min_four   -- for this text's walks alone
set_option linter.unusedVariables false
set_option linter.unusedSimpArgs false

/-! ### spec_l04Verify: function 81 -/
/-! the verifier's plain form -/
structure VO where
  at_ : Int
  base : Int
  isIf : Bool
  hasElse : Bool
def VO.cells (o : VO) : List Value := [.int .i64 o.at_, .int .i64 o.base, .bool o.isIf, .bool o.hasElse]
/-- The open structures, the innermost one first. -/
def vcells : List VO → List Value
  | [] => []
  | o :: P => vcells P ++ o.cells
theorem vcells_length (O : List VO) : (vcells O).length = O.length * 4 := by
  induction O with
  | nil => rfl
  | cons o P ih => simp [vcells, ih, VO.cells]; omega
theorem vcells_at (o : VO) (P : List VO) (j : Nat) (hj : j < 4) : (vcells (o :: P))[P.length * 4 + j]? = o.cells[j]? := by
  rw [vcells, List.getElem?_append_right (by rw [vcells_length]; omega), vcells_length, Nat.add_sub_cancel_left]
theorem vcells_else (o : VO) (P : List VO) : (vcells (o :: P)).set (P.length * 4 + 3) (.bool true) = vcells ({ o with hasElse := true } :: P) := by
  rw [vcells, List.set_append_right _ _ (by rw [vcells_length]; omega), vcells_length, Nat.add_sub_cancel_left]
  rfl
def vOp (op : Int) (p : ByteArray × ByteArray) (q : Int → Bool) (r : ByteArray × ByteArray) : ByteArray × ByteArray := if q op then p else r
def vTakes (k : Int) : ByteArray := if k = 1 then ⟨#[98, 105]⟩ else if k = 2 then ⟨#[98, 98, 105]⟩ else if k = 3 then ⟨#[98]⟩ else ⟨#[98, 98]⟩
def vEff (ks : List Int) (op a : Int) : ByteArray × ByteArray :=
  if op = 1 then (⟨#[]⟩, ⟨#[105]⟩) else if op = 3 then (⟨#[]⟩, ⟨#[105]⟩) else if op = 20 then (⟨#[]⟩, ⟨#[105]⟩)
  else if op = 2 then (⟨#[]⟩, ⟨#[98]⟩) else if op = 5 then (⟨#[]⟩, ⟨#[98]⟩) else if op = 7 then (⟨#[]⟩, ⟨#[98]⟩)
  else if op = 4 then (⟨#[105]⟩, ⟨#[]⟩)
  else if op = 6 then (⟨#[98]⟩, ⟨#[]⟩) else if op = 8 then (⟨#[98]⟩, ⟨#[]⟩) else if op = 21 then (⟨#[98]⟩, ⟨#[]⟩)
  else if op = 9 then (⟨#[105, 105]⟩, ⟨#[105]⟩) else if op = 10 then (⟨#[105, 105]⟩, ⟨#[105]⟩) else if op = 11 then (⟨#[105, 105]⟩, ⟨#[105]⟩) else if op = 12 then (⟨#[105, 105]⟩, ⟨#[105]⟩)
  else if op = 13 then (⟨#[105, 105]⟩, ⟨#[98]⟩) else if op = 14 then (⟨#[105, 105]⟩, ⟨#[98]⟩)
  else if op = 15 then (⟨#[98, 98]⟩, ⟨#[98]⟩) else if op = 16 then (⟨#[98, 98]⟩, ⟨#[98]⟩)
  else if op = 17 then (⟨#[98]⟩, ⟨#[98]⟩)
  else if op = 18 then (⟨#[98, 105, 105]⟩, ⟨#[105]⟩)
  else if op = 19 then (vTakes (rd ks a), ⟨#[98]⟩)
  else (⟨#[]⟩, ⟨#[]⟩)
def vBase : List VO → Int
  | [] => 0
  | o :: _ => o.base
def vNest (at_ op : Int) (S : ByteArray) (O : List VO) : Int × List VO :=
  if op = 21 ∨ op = 24 then (if O.length = 4 then (17, O) else (0, ⟨at_, (S.size : Int), decide (op = 21), false⟩ :: O))
  else if op = 22 then (match O with
    | [] => (14, [])
    | o :: P => if (!o.isIf || o.hasElse) = true then (14, o :: P) else if (S.size : Int) = o.base then (0, { o with hasElse := true } :: P) else (13, o :: P))
  else if op = 23 then (match O with
    | [] => (14, [])
    | o :: P => if (S.size : Int) = o.base then (0, P) else (13, o :: P))
  else (0, O)
def vStep (ks : List Int) (R at_ op a : Int) (S : ByteArray) (O : List VO) : Int × ByteArray × List VO :=
  if (op = 19 ∨ op = 20) ∧ (ks.length : Int) ≤ a then (5, S, O)
  else if op = 26 ∧ R ≤ a then (15, S, O)
  else if (S.size : Int) - ((vEff ks op a).1.size : Int) < vBase O then (13, S, O)
  else if S.extract (S.size - (vEff ks op a).1.size) S.size = (vEff ks op a).1 then
    (if S.size - (vEff ks op a).1.size + (vEff ks op a).2.size ≤ 8 then ((vNest at_ op (S.extract 0 (S.size - (vEff ks op a).1.size) ++ (vEff ks op a).2) O).1, S.extract 0 (S.size - (vEff ks op a).1.size) ++ (vEff ks op a).2, (vNest at_ op (S.extract 0 (S.size - (vEff ks op a).1.size) ++ (vEff ks op a).2) O).2)
    else (7, S.extract 0 (S.size - (vEff ks op a).1.size) ++ (vEff ks op a).2, O))
  else (12, S, O)
/-- What holds of an instruction and of the blocks' kinds. -/
def vOK (ks : List Int) (op a : Int) : Prop := 1 ≤ op ∧ op ≤ 26 ∧ ((op = 19 ∨ op = 20) → 0 ≤ a) ∧ ∀ k ∈ ks, 1 ≤ k ∧ k ≤ 4
def vInv (S : ByteArray) (O : List VO) : Prop := S.size ≤ 8 ∧ O.length ≤ 4 ∧ ∀ o ∈ O, 0 ≤ o.base
theorem vBase_nonneg {S : ByteArray} {O : List VO} (h : vInv S O) : 0 ≤ vBase O := by
  cases O with
  | nil => exact Int.le_refl _
  | cons o P => exact h.2.2 o (by simp)
theorem vNest_inv {at_ op : Int} {S : ByteArray} {O : List VO} (h : vInv S O) : vInv S (vNest at_ op S O).2 := by
  obtain ⟨h1, h2, h3⟩ := h
  unfold vNest
  split
  · split
    · exact ⟨h1, h2, h3⟩
    · refine ⟨h1, by simp; omega, fun o ho => ?_⟩
      rcases List.mem_cons.1 ho with rfl | ho
      · exact Int.natCast_nonneg _
      · exact h3 o ho
  · split
    · cases O with
      | nil => exact ⟨h1, h2, h3⟩
      | cons o P =>
        dsimp only
        split
        · exact ⟨h1, h2, h3⟩
        · split
          · refine ⟨h1, by simpa using h2, fun o' ho => ?_⟩
            rcases List.mem_cons.1 ho with rfl | ho
            · exact h3 o (by simp)
            · exact h3 o' (by simp [ho])
          · exact ⟨h1, h2, h3⟩
    · split
      · cases O with
        | nil => exact ⟨h1, h2, h3⟩
        | cons o P =>
          dsimp only
          split
          · exact ⟨h1, (by simp at h2; omega : P.length ≤ 4), fun o' ho => h3 o' (List.mem_cons_of_mem _ ho)⟩
          · exact ⟨h1, h2, h3⟩
      · exact ⟨h1, h2, h3⟩
theorem vTakes_size (k : Int) : (vTakes k).size ≤ 3 := by unfold vTakes; (repeat' split) <;> decide
def VSmall (p : ByteArray × ByteArray) : Prop := p.1.size ≤ 3 ∧ p.2.size ≤ 1
theorem VSmall.ite {c : Prop} [Decidable c] {x y : ByteArray × ByteArray} (hx : VSmall x) (hy : VSmall y) : VSmall (if c then x else y) := by
  split
  · exact hx
  · exact hy
theorem vEff_size (ks : List Int) (op a : Int) : (vEff ks op a).1.size ≤ 3 ∧ (vEff ks op a).2.size ≤ 1 := by
  show VSmall (vEff ks op a)
  unfold vEff
  repeat (first | (refine VSmall.ite ?_ ?_) | exact ⟨by decide, by decide⟩ | exact ⟨vTakes_size _, (by decide : (⟨#[98]⟩ : ByteArray).size ≤ 1)⟩)
theorem vStep_inv {ks : List Int} {R at_ op a : Int} {S : ByteArray} {O : List VO} (h : vInv S O) (h0 : (vStep ks R at_ op a S O).1 = 0) : vInv (vStep ks R at_ op a S O).2.1 (vStep ks R at_ op a S O).2.2 := by
  have hz := vEff_size ks op a
  unfold vStep at h0 ⊢
  by_cases h1 : (op = 19 ∨ op = 20) ∧ (ks.length : Int) ≤ a
  · rw [if_pos h1] at h0; exact absurd h0 (by simp)
  rw [if_neg h1] at h0 ⊢
  by_cases h2 : op = 26 ∧ R ≤ a
  · rw [if_pos h2] at h0; exact absurd h0 (by simp)
  rw [if_neg h2] at h0 ⊢
  by_cases h3 : (S.size : Int) - ((vEff ks op a).1.size : Int) < vBase O
  · rw [if_pos h3] at h0; exact absurd h0 (by simp)
  rw [if_neg h3] at h0 ⊢
  by_cases h4 : S.extract (S.size - (vEff ks op a).1.size) S.size = (vEff ks op a).1
  · rw [if_pos h4] at h0 ⊢
    by_cases h5 : S.size - (vEff ks op a).1.size + (vEff ks op a).2.size ≤ 8
    · rw [if_pos h5]
      have hi : vInv (S.extract 0 (S.size - (vEff ks op a).1.size) ++ (vEff ks op a).2) O := ⟨by rw [ByteArray.size_append, ByteArray.size_extract]; have := h.1; omega, h.2.1, h.2.2⟩
      exact vNest_inv hi
    · rw [if_neg h5] at h0; exact absurd h0 (by simp)
  · rw [if_neg h4] at h0; exact absurd h0 (by simp)
theorem v_toList {x y : ByteArray} (h : x.toList = y.toList) : x = y := by
  rw [ByteArray.toList_eq, ByteArray.toList_eq] at h
  exact ByteArray.ext (Array.toList_inj.1 h)
theorem v_eq {x y : ByteArray} (h : (!x.toList == y.toList) = false) : x = y := v_toList (by simpa using h)
theorem v_ne {x y : ByteArray} (h : (!x.toList == y.toList) = true) : x ≠ y := by
  rintro rfl
  simp at h
def vOKb (ks : List Int) (op a : Int) : Bool := decide (1 ≤ op) && decide (op ≤ 26) && (!(op == 19 || op == 20) || decide (0 ≤ a)) && ks.all fun k => decide (1 ≤ k) && decide (k ≤ 4)
theorem vOK_of {ks : List Int} {op a : Int} (h : vOKb ks op a = true) : vOK ks op a := by
  unfold vOKb at h
  simp only [Bool.and_eq_true, Bool.or_eq_true, Bool.not_eq_true', decide_eq_true_eq, List.all_eq_true, beq_eq_false_iff_ne, Bool.or_eq_false_iff] at h
  obtain ⟨⟨⟨h1, h2⟩, h3⟩, h4⟩ := h
  exact ⟨h1, h2, fun e => by rcases h3 with h3 | h3 <;> omega, fun k hk => h4 k hk⟩
theorem v_undrew {B n : Nat} {W w1 : World} (h : Below B (W.drewN n) w1) : Below B W w1 := ⟨h.os, h.tape, h.output, h.size, h.block⟩
structure VF (w w' : World) (g : Nat) (v v' : Value) : Prop where
  os : w'.os = w.os
  tape : w'.tape = w.tape
  output : w'.output = w.output
  size : w.heap.size ≤ w'.heap.size
  block : ∀ k, k < w.heap.size → k ≠ g → some k ≠ v.ownBlock → w'.heap[k]? = w.heap[k]?
  new : v'.ownBlock = v.ownBlock ∨ ∃ b, v'.ownBlock = some b ∧ w.heap.size ≤ b
theorem VF.refl (w : World) (g : Nat) (v : Value) : VF w w g v v := ⟨rfl, rfl, rfl, Nat.le_refl _, fun _ _ _ _ => rfl, .inl rfl⟩
theorem VF.of_below {w w' : World} (h : Below w.heap.size w w') (g : Nat) (v : Value) : VF w w' g v v := ⟨h.os, h.tape, h.output, h.size, fun k hk _ _ => h.block k hk, .inl rfl⟩
theorem VF.drewN {w w' : World} {g : Nat} {v v' : Value} (h : VF w w' g v v') (n : Nat) : VF w (w'.drewN n) g v v' := ⟨h.os, h.tape, h.output, h.size, h.block, h.new⟩
theorem VF.before {w w1 w2 : World} {g : Nat} {v v' : Value} (h : VF w1 w2 g v v') (hb : Below w.heap.size w w1) : VF w w2 g v v' :=
  ⟨h.os.trans hb.os, h.tape.trans hb.tape, h.output.trans hb.output, Nat.le_trans hb.size h.size, fun k hk hg hv => (h.block k (Nat.lt_of_lt_of_le hk hb.size) hg hv).trans (hb.block k hk), h.new.imp id (fun ⟨b, h1, h2⟩ => ⟨b, h1, Nat.le_trans hb.size h2⟩)⟩
theorem VF.set {w w' : World} {g : Nat} {v v' : Value} (h : VF w w' g v v') (j : Nat) (u u' : Value) (hu : u'.ownBlock = v'.ownBlock) : VF w (w'.setCell ⟨g, j, none⟩ u) g v u' :=
  ⟨h.os, h.tape, h.output, by simpa [World.setCell] using h.size, fun k hk hg hv => (Below.heap_setCell _ _ _ _ hg).trans (h.block k hk hg hv), by rw [hu]; exact h.new⟩
theorem VF.after {w w1 w2 : World} {g : Nat} {v v' : Value} (h : VF w1 w2 g v v') (k : ∀ i, i < w.heap.size → i ≠ g → w1.heap[i]? = w.heap[i]?) (ho : w1.os = w.os) (ht : w1.tape = w.tape) (hp : w1.output = w.output) (hs : w.heap.size ≤ w1.heap.size) : VF w w2 g v v' :=
  ⟨h.os.trans ho, h.tape.trans ht, h.output.trans hp, Nat.le_trans hs h.size, fun i hi hg hv => (h.block i (Nat.lt_of_lt_of_le hi hs) hg hv).trans (k i hi hg), h.new.imp id (fun ⟨b, h1, h2⟩ => ⟨b, h1, Nat.le_trans hs h2⟩)⟩
theorem VF.of_grown {w w1 : World} {g : Nat} {v v' : Value} (h : w.grownBy w1 v.ownBlock) (ha : v'.ownBlock = v.ownBlock ∨ ∃ b, v'.ownBlock = some b ∧ w.heap.size ≤ b) : VF w w1 g v v' :=
  ⟨h.os, h.tape, h.output, h.size, fun k hk _ hv => h.block k hk hv, ha⟩
theorem VF.own {w w' : World} {g : Nat} {v v' u : Value} {b e e1 t size n s1 n1 b1 : Nat} {xs ys : List Value} {cs : Array Value} (hf : VF w w' g v v') (hg : w.heap[g]? = some (.cells cs t (0, 0))) (hv : w.ownsRow b1 e1 s1 v n1 ys) (h : w.ownsRow b e size u n xs) (h1 : e ≠ t) (h2 : e ≠ e1) : w'.ownsRow b e size u n xs :=
  own_move h fun k hk => hf.block k (own_lt h k hk) (fun ek => own_ne h hg h1 (by rw [hk, ek])) (fun ek => by
    rcases own_type_ne h hv h2 with h3 | h3
    · rw [hk] at h3; cases h3
    · exact h3 (by rw [hk, ek]))
theorem VF.below {w w' : World} {g B : Nat} {v v' : Value} (hf : VF w w' g v v') (hg : B ≤ g) (hv : ∀ k, v.ownBlock = some k → B ≤ k) (hB : B ≤ w.heap.size) : Below B w w' :=
  ⟨hf.os, hf.tape, hf.output, hf.size, fun k hk => hf.block k (by omega) (by omega) (fun e => by have := hv k e.symm; omega)⟩
theorem pw_cell_below' {w w1 : World} (h : Below w.heap.size w w1) {a : Addr} {v : Value} (hc : w.cell? a = some v) : w1.cell? a = some v := (h.cell (World.block_lt_of_cell? w a hc)).trans hc
theorem v_int {a b : Int} (h : a = b) : Ending.returned (.int .i64 a) = .returned (.int .i64 b) := by rw [h]


structure SO where
  at_ : Int
  op : Int
  stack : ByteArray
def SO.cells (o : SO) : List Value := [.int .i64 o.at_, .int .i64 o.op, .string o.stack]
def scells : List SO → List Value
  | [] => []
  | o :: P => scells P ++ o.cells
theorem scells_length (O : List SO) : (scells O).length = O.length * 3 := by
  induction O with
  | nil => rfl
  | cons o P ih => simp [scells, ih, SO.cells]; omega
theorem scells_at (o : SO) (P : List SO) (j : Nat) (hj : j < 3) : (scells (o :: P))[P.length * 3 + j]? = o.cells[j]? := by
  rw [scells, List.getElem?_append_right (by rw [scells_length]; omega), scells_length, Nat.add_sub_cancel_left]
theorem scells_else (o : SO) (P : List SO) : (scells (o :: P)).set (P.length * 3 + 1) (.int .i64 22) = scells ({ o with op := 22 } :: P) := by
  rw [scells, List.set_append_right _ _ (by rw [scells_length]; omega), scells_length, Nat.add_sub_cancel_left]
  rfl
def sBase : List SO → Int
  | [] => 0
  | o :: _ => (o.stack.size : Int)
def sNest (at_ op : Int) (S : ByteArray) (O : List SO) : Int × List SO :=
  if op = 21 ∨ op = 24 then (if O.length = 4 then (17, O) else (0, ⟨at_, op, S⟩ :: O))
  else match O with
    | [] => (14, [])
    | o :: P => if op = 22 ∧ o.op ≠ 21 then (14, o :: P) else if S = o.stack then (if op = 22 then (0, { o with op := 22 } :: P) else (0, P)) else (13, o :: P)
def sStep (ks : List Int) (R at_ op a : Int) (S : ByteArray) (O : List SO) : Int × ByteArray × List SO :=
  if (op = 19 ∨ op = 20) ∧ (ks.length : Int) ≤ a then (5, S, O)
  else if op = 26 ∧ R ≤ a then (15, S, O)
  else if (S.size : Int) - sBase O < ((vEff ks op a).1.size : Int) then (13, S, O)
  else if S.extract (S.size - (vEff ks op a).1.size) S.size = (vEff ks op a).1 then
    (if S.size - (vEff ks op a).1.size + (vEff ks op a).2.size ≤ 8 then
      (if 21 ≤ op ∧ op ≤ 24 then ((sNest at_ op (S.extract 0 (S.size - (vEff ks op a).1.size) ++ (vEff ks op a).2) O).1, S.extract 0 (S.size - (vEff ks op a).1.size) ++ (vEff ks op a).2, (sNest at_ op (S.extract 0 (S.size - (vEff ks op a).1.size) ++ (vEff ks op a).2) O).2) else (0, S.extract 0 (S.size - (vEff ks op a).1.size) ++ (vEff ks op a).2, O))
    else (7, S, O))
  else (12, S, O)
def sInv (S : ByteArray) (O : List SO) : Prop := S.size ≤ 8 ∧ O.length ≤ 4 ∧ ∀ o ∈ O, o.stack.size ≤ 8
theorem sNest_inv {at_ op : Int} {S : ByteArray} {O : List SO} (h : sInv S O) : sInv S (sNest at_ op S O).2 := by
  obtain ⟨h1, h2, h3⟩ := h
  unfold sNest
  split
  · split
    · exact ⟨h1, h2, h3⟩
    · refine ⟨h1, by simp; omega, fun o ho => ?_⟩
      rcases List.mem_cons.1 ho with rfl | ho
      · exact h1
      · exact h3 o ho
  · cases O with
    | nil => exact ⟨h1, h2, h3⟩
    | cons o P =>
      dsimp only
      split
      · exact ⟨h1, h2, h3⟩
      · split
        · split
          · refine ⟨h1, by simpa using h2, fun o' ho => ?_⟩
            rcases List.mem_cons.1 ho with rfl | ho
            · exact h3 o (by simp)
            · exact h3 o' (by simp [ho])
          · exact ⟨h1, (by simp at h2; omega : P.length ≤ 4), fun o' ho => h3 o' (List.mem_cons_of_mem _ ho)⟩
        · exact ⟨h1, h2, h3⟩
theorem sBase_range {S : ByteArray} {O : List SO} (h : sInv S O) : 0 ≤ sBase O ∧ sBase O ≤ 8 := by
  cases O with
  | nil => exact ⟨Int.le_refl _, by decide⟩
  | cons o P => have := h.2.2 o (by simp); simp only [sBase]; omega
theorem sStep_inv {ks : List Int} {R at_ op a : Int} {S : ByteArray} {O : List SO} (h : sInv S O) (h0 : (sStep ks R at_ op a S O).1 = 0) : sInv (sStep ks R at_ op a S O).2.1 (sStep ks R at_ op a S O).2.2 := by
  have hz := vEff_size ks op a
  unfold sStep at h0 ⊢
  by_cases h1 : (op = 19 ∨ op = 20) ∧ (ks.length : Int) ≤ a
  · rw [if_pos h1] at h0; exact absurd h0 (by simp)
  rw [if_neg h1] at h0 ⊢
  by_cases h2 : op = 26 ∧ R ≤ a
  · rw [if_pos h2] at h0; exact absurd h0 (by simp)
  rw [if_neg h2] at h0 ⊢
  by_cases h3 : (S.size : Int) - sBase O < ((vEff ks op a).1.size : Int)
  · rw [if_pos h3] at h0; exact absurd h0 (by simp)
  rw [if_neg h3] at h0 ⊢
  by_cases h4 : S.extract (S.size - (vEff ks op a).1.size) S.size = (vEff ks op a).1
  · rw [if_pos h4] at h0 ⊢
    by_cases h5 : S.size - (vEff ks op a).1.size + (vEff ks op a).2.size ≤ 8
    · rw [if_pos h5]
      have hi : sInv (S.extract 0 (S.size - (vEff ks op a).1.size) ++ (vEff ks op a).2) O := ⟨by rw [ByteArray.size_append, ByteArray.size_extract]; have := h.1; omega, h.2.1, h.2.2⟩
      split
      · exact sNest_inv hi
      · exact hi
    · rw [if_neg h5] at h0; exact absurd h0 (by simp)
  · rw [if_neg h4] at h0; exact absurd h0 (by simp)
set_option maxRecDepth 100000 in
theorem snest_deep21 (w : World) (g c : Nat) (A : Option Addr) (at_ a : Int) (h1 : w.cell? ⟨g, 1, none⟩ = some (.slice A 4 c)) :
    Calls Try.prog 121 #[.pointer (some ⟨g, 0, none⟩), .agg #[.int .i64 21, .int .i64 a], .int .i64 at_] w fun e w' => e = .returned (.int .i64 17) ∧ Below w.heap.size w w' := by
  have hu := Try.underlying108
  go_enter Try.func121, Try.ntmps121
  go_wp2_with (first | ((with_reducible refine gate_dst (N := 4) rfl ?_); refine box_event ?hg (N := 4) ?hd (cs := #[.int .i64 21, .int .i64 a]) (t := 91) ?hr ?_; (case hd => rfl); (case hg => rfl); (case hr => first | (go_simp; done) | (go_simp; rfl)); intro gx hgx W hbx hb; have hx0 : W.cell? ⟨gx, 0, none⟩ = some (.int .i64 21) := (blk_cell hbx 0).trans rfl; have hx1 : W.cell? ⟨gx, 1, none⟩ = some (.int .i64 a) := (blk_cell hbx 1).trans rfl; replace h1 := pw_cell_below hb h1; have HB := Aside0.mk hb; have HX := Aside0.mk hbx; have HGX := Aside0.mk hgx; clear hb hbx hgx))
  go_ret
  exact ⟨rfl, by repeat (first | exact HB.out | apply pw_below_drewN | apply below_alloc)⟩

set_option maxRecDepth 100000 in
theorem snest_deep24 (w : World) (g c : Nat) (A : Option Addr) (at_ a : Int) (h1 : w.cell? ⟨g, 1, none⟩ = some (.slice A 4 c)) :
    Calls Try.prog 121 #[.pointer (some ⟨g, 0, none⟩), .agg #[.int .i64 24, .int .i64 a], .int .i64 at_] w fun e w' => e = .returned (.int .i64 17) ∧ Below w.heap.size w w' := by
  have hu := Try.underlying108
  go_enter Try.func121, Try.ntmps121
  go_wp2_with (first | ((with_reducible refine gate_dst (N := 4) rfl ?_); refine box_event ?hg (N := 4) ?hd (cs := #[.int .i64 24, .int .i64 a]) (t := 91) ?hr ?_; (case hd => rfl); (case hg => rfl); (case hr => first | (go_simp; done) | (go_simp; rfl)); intro gx hgx W hbx hb; have hx0 : W.cell? ⟨gx, 0, none⟩ = some (.int .i64 24) := (blk_cell hbx 0).trans rfl; have hx1 : W.cell? ⟨gx, 1, none⟩ = some (.int .i64 a) := (blk_cell hbx 1).trans rfl; replace h1 := pw_cell_below hb h1; have HB := Aside0.mk hb; have HX := Aside0.mk hbx; have HGX := Aside0.mk hgx; clear hb hbx hgx))
  go_ret
  exact ⟨rfl, by repeat (first | exact HB.out | apply pw_below_drewN | apply below_alloc)⟩

set_option maxRecDepth 100000 in
theorem snest_none22 (w : World) (g c : Nat) (A : Option Addr) (at_ a : Int) (h1 : w.cell? ⟨g, 1, none⟩ = some (.slice A 0 c)) :
    Calls Try.prog 121 #[.pointer (some ⟨g, 0, none⟩), .agg #[.int .i64 22, .int .i64 a], .int .i64 at_] w fun e w' => e = .returned (.int .i64 14) ∧ Below w.heap.size w w' := by
  have hu := Try.underlying108
  go_enter Try.func121, Try.ntmps121
  go_wp2_with (first | ((with_reducible refine gate_dst (N := 4) rfl ?_); refine box_event ?hg (N := 4) ?hd (cs := #[.int .i64 22, .int .i64 a]) (t := 91) ?hr ?_; (case hd => rfl); (case hg => rfl); (case hr => first | (go_simp; done) | (go_simp; rfl)); intro gx hgx W hbx hb; have hx0 : W.cell? ⟨gx, 0, none⟩ = some (.int .i64 22) := (blk_cell hbx 0).trans rfl; have hx1 : W.cell? ⟨gx, 1, none⟩ = some (.int .i64 a) := (blk_cell hbx 1).trans rfl; replace h1 := pw_cell_below hb h1; have HB := Aside0.mk hb; have HX := Aside0.mk hbx; have HGX := Aside0.mk hgx; clear hb hbx hgx))
  go_ret
  exact ⟨rfl, by repeat (first | exact HB.out | apply pw_below_drewN | apply below_alloc)⟩

set_option maxRecDepth 100000 in
theorem snest_none23 (w : World) (g c : Nat) (A : Option Addr) (at_ a : Int) (h1 : w.cell? ⟨g, 1, none⟩ = some (.slice A 0 c)) :
    Calls Try.prog 121 #[.pointer (some ⟨g, 0, none⟩), .agg #[.int .i64 23, .int .i64 a], .int .i64 at_] w fun e w' => e = .returned (.int .i64 14) ∧ Below w.heap.size w w' := by
  have hu := Try.underlying108
  go_enter Try.func121, Try.ntmps121
  go_wp2_with (first | ((with_reducible refine gate_dst (N := 4) rfl ?_); refine box_event ?hg (N := 4) ?hd (cs := #[.int .i64 23, .int .i64 a]) (t := 91) ?hr ?_; (case hd => rfl); (case hg => rfl); (case hr => first | (go_simp; done) | (go_simp; rfl)); intro gx hgx W hbx hb; have hx0 : W.cell? ⟨gx, 0, none⟩ = some (.int .i64 23) := (blk_cell hbx 0).trans rfl; have hx1 : W.cell? ⟨gx, 1, none⟩ = some (.int .i64 a) := (blk_cell hbx 1).trans rfl; replace h1 := pw_cell_below hb h1; have HB := Aside0.mk hb; have HX := Aside0.mk hbx; have HGX := Aside0.mk hgx; clear hb hbx hgx))
  go_ret
  exact ⟨rfl, by repeat (first | exact HB.out | apply pw_below_drewN | apply below_alloc)⟩

set_option maxRecDepth 100000 in
theorem snest_bad22 (w : World) (g q n c : Nat) (at_ a op' : Int) (hn : n ≤ 4) (h1 : w.cell? ⟨g, 1, none⟩ = some (.slice (some ⟨q, 0, none⟩) (n + 1) c)) (hc1 : w.cell? ⟨q, n * 3 + 1, none⟩ = some (.int .i64 op')) (hb : (op' != 21) = true) :
    Calls Try.prog 121 #[.pointer (some ⟨g, 0, none⟩), .agg #[.int .i64 22, .int .i64 a], .int .i64 at_] w fun e w' => e = .returned (.int .i64 14) ∧ Below w.heap.size w w' := by
  have hu := Try.underlying108
  go_enter Try.func121, Try.ntmps121
  go_wp2_with (first | ((with_reducible refine gate_dst (N := 4) rfl ?_); refine box_event ?hg (N := 4) ?hd (cs := #[.int .i64 22, .int .i64 a]) (t := 91) ?hr ?_; (case hd => rfl); (case hg => rfl); (case hr => first | (go_simp; done) | (go_simp; rfl)); intro gx hgx W hbx hb; have hx0 : W.cell? ⟨gx, 0, none⟩ = some (.int .i64 22) := (blk_cell hbx 0).trans rfl; have hx1 : W.cell? ⟨gx, 1, none⟩ = some (.int .i64 a) := (blk_cell hbx 1).trans rfl; replace h1 := pw_cell_below hb h1; replace hc1 := pw_cell_below hb hc1; have HB := Aside0.mk hb; have HX := Aside0.mk hbx; have HGX := Aside0.mk hgx; clear hb hbx hgx))
  go_ret
  exact ⟨rfl, by repeat (first | exact HB.out | apply pw_below_drewN | apply below_alloc)⟩

set_option maxRecDepth 100000 in
theorem snest_st22 (w : World) (g q n c : Nat) (at_ a : Int) (S T : ByteArray) (hn : n ≤ 4) (hs : S.size ≤ 8) (ht : T.size ≤ 8) (hS : w.cell? ⟨g, 0, none⟩ = some (.string S)) (h1 : w.cell? ⟨g, 1, none⟩ = some (.slice (some ⟨q, 0, none⟩) (n + 1) c)) (hc1 : w.cell? ⟨q, n * 3 + 1, none⟩ = some (.int .i64 21)) (hc2 : w.cell? ⟨q, n * 3 + 2, none⟩ = some (.string T)) (hb : (!S.toList == T.toList) = true) :
    Calls Try.prog 121 #[.pointer (some ⟨g, 0, none⟩), .agg #[.int .i64 22, .int .i64 a], .int .i64 at_] w fun e w' => e = .returned (.int .i64 13) ∧ Below w.heap.size w w' := by
  have hu := Try.underlying108
  go_enter Try.func121, Try.ntmps121
  go_wp2_with (first | ((with_reducible refine gate_dst (N := 4) rfl ?_); refine box_event ?hg (N := 4) ?hd (cs := #[.int .i64 22, .int .i64 a]) (t := 91) ?hr ?_; (case hd => rfl); (case hg => rfl); (case hr => first | (go_simp; done) | (go_simp; rfl)); intro gx hgx W hbx hb; have hx0 : W.cell? ⟨gx, 0, none⟩ = some (.int .i64 22) := (blk_cell hbx 0).trans rfl; have hx1 : W.cell? ⟨gx, 1, none⟩ = some (.int .i64 a) := (blk_cell hbx 1).trans rfl; replace hS := pw_cell_below hb hS; replace h1 := pw_cell_below hb h1; replace hc2 := pw_cell_below hb hc2; replace hc1 := pw_cell_below hb hc1; have HB := Aside0.mk hb; have HX := Aside0.mk hbx; have HGX := Aside0.mk hgx; clear hb hbx hgx))
  go_quiet (fail)
  go_wp2
  go_ret
  exact ⟨rfl, by repeat (first | exact HB.out | apply pw_below_drewN | apply below_alloc)⟩

set_option maxRecDepth 100000 in
theorem snest_st23 (w : World) (g q n c : Nat) (at_ a : Int) (S T : ByteArray) (hn : n ≤ 4) (hs : S.size ≤ 8) (ht : T.size ≤ 8) (hS : w.cell? ⟨g, 0, none⟩ = some (.string S)) (h1 : w.cell? ⟨g, 1, none⟩ = some (.slice (some ⟨q, 0, none⟩) (n + 1) c)) (hc2 : w.cell? ⟨q, n * 3 + 2, none⟩ = some (.string T)) (hb : (!S.toList == T.toList) = true) :
    Calls Try.prog 121 #[.pointer (some ⟨g, 0, none⟩), .agg #[.int .i64 23, .int .i64 a], .int .i64 at_] w fun e w' => e = .returned (.int .i64 13) ∧ Below w.heap.size w w' := by
  have hu := Try.underlying108
  go_enter Try.func121, Try.ntmps121
  go_wp2_with (first | ((with_reducible refine gate_dst (N := 4) rfl ?_); refine box_event ?hg (N := 4) ?hd (cs := #[.int .i64 23, .int .i64 a]) (t := 91) ?hr ?_; (case hd => rfl); (case hg => rfl); (case hr => first | (go_simp; done) | (go_simp; rfl)); intro gx hgx W hbx hb; have hx0 : W.cell? ⟨gx, 0, none⟩ = some (.int .i64 23) := (blk_cell hbx 0).trans rfl; have hx1 : W.cell? ⟨gx, 1, none⟩ = some (.int .i64 a) := (blk_cell hbx 1).trans rfl; replace hS := pw_cell_below hb hS; replace h1 := pw_cell_below hb h1; replace hc2 := pw_cell_below hb hc2; have HB := Aside0.mk hb; have HX := Aside0.mk hbx; have HGX := Aside0.mk hgx; clear hb hbx hgx))
  go_quiet (fail)
  go_wp2
  go_ret
  exact ⟨rfl, by repeat (first | exact HB.out | apply pw_below_drewN | apply below_alloc)⟩

set_option maxRecDepth 100000 in
theorem snest_else (w : World) (g q n c : Nat) (at_ a : Int) (S : ByteArray) (hn : n ≤ 4) (hs : S.size ≤ 8) (hS : w.cell? ⟨g, 0, none⟩ = some (.string S)) (h1 : w.cell? ⟨g, 1, none⟩ = some (.slice (some ⟨q, 0, none⟩) (n + 1) c)) (hc1 : w.cell? ⟨q, n * 3 + 1, none⟩ = some (.int .i64 21)) (hc2 : w.cell? ⟨q, n * 3 + 2, none⟩ = some (.string S)) (hf : w.frozen? ⟨q, n * 3 + 1, none⟩ = false) :
    Calls Try.prog 121 #[.pointer (some ⟨g, 0, none⟩), .agg #[.int .i64 22, .int .i64 a], .int .i64 at_] w fun e w' => e = .returned (.int .i64 0) ∧ ∃ W, Below w.heap.size w W ∧ w' = W.setCell ⟨q, n * 3 + 1, none⟩ (.int .i64 22) := by
  have hu := Try.underlying108
  have hff : Aside0 (∀ W, Below w.heap.size w W → W.frozen? ⟨q, n * 3 + 1, none⟩ = false) := ⟨fun W hb => (World.frozen?_of_block (w := w) (w' := W) (a := ⟨q, n * 3 + 1, none⟩) (hb.block q (World.block_lt_of_cell? w ⟨q, n * 3 + 1, none⟩ hc1))).trans hf⟩
  go_enter Try.func121, Try.ntmps121
  go_wp2_with (first | ((with_reducible refine gate_dst (N := 4) rfl ?_); refine box_event ?hg (N := 4) ?hd (cs := #[.int .i64 22, .int .i64 a]) (t := 91) ?hr ?_; (case hd => rfl); (case hg => rfl); (case hr => first | (go_simp; done) | (go_simp; rfl)); intro gx hgx W hbx hb; have hx0 : W.cell? ⟨gx, 0, none⟩ = some (.int .i64 22) := (blk_cell hbx 0).trans rfl; have hx1 : W.cell? ⟨gx, 1, none⟩ = some (.int .i64 a) := (blk_cell hbx 1).trans rfl; replace hS := pw_cell_below hb hS; replace h1 := pw_cell_below hb h1; replace hc1 := pw_cell_below hb hc1; replace hc2 := pw_cell_below hb hc2; have hfz := hff.out _ hb; have HB := Aside0.mk hb; have HX := Aside0.mk hbx; have HGX := Aside0.mk hgx; clear hb hbx hgx))
  go_quiet (fail)
  go_wp2
  go_ret
  exact ⟨rfl, _, pw_below_drewN HB.out _, rfl⟩

set_option maxRecDepth 100000 in
theorem snest_end (w : World) (g q n c : Nat) (at_ a : Int) (S : ByteArray) (hn : n ≤ 4) (hs : S.size ≤ 8) (hS : w.cell? ⟨g, 0, none⟩ = some (.string S)) (h1 : w.cell? ⟨g, 1, none⟩ = some (.slice (some ⟨q, 0, none⟩) (n + 1) c)) (hc2 : w.cell? ⟨q, n * 3 + 2, none⟩ = some (.string S)) (hf : w.frozen? ⟨g, 1, none⟩ = false) (hnc : n + 1 ≤ c) :
    Calls Try.prog 121 #[.pointer (some ⟨g, 0, none⟩), .agg #[.int .i64 23, .int .i64 a], .int .i64 at_] w fun e w' => e = .returned (.int .i64 0) ∧ ∃ W, Below w.heap.size w W ∧ w' = W.setCell ⟨g, 1, none⟩ (.slice (some ⟨q, 0, none⟩) n c) := by
  have hu := Try.underlying108
  have hff : Aside0 (∀ W, Below w.heap.size w W → W.frozen? ⟨g, 1, none⟩ = false) := ⟨fun W hb => (World.frozen?_of_block (w := w) (w' := W) (a := ⟨g, 1, none⟩) (hb.block g (World.block_lt_of_cell? w ⟨g, 1, none⟩ h1))).trans hf⟩
  go_enter Try.func121, Try.ntmps121
  go_wp2_with (first | ((with_reducible refine gate_dst (N := 4) rfl ?_); refine box_event ?hg (N := 4) ?hd (cs := #[.int .i64 23, .int .i64 a]) (t := 91) ?hr ?_; (case hd => rfl); (case hg => rfl); (case hr => first | (go_simp; done) | (go_simp; rfl)); intro gx hgx W hbx hb; have hx0 : W.cell? ⟨gx, 0, none⟩ = some (.int .i64 23) := (blk_cell hbx 0).trans rfl; have hx1 : W.cell? ⟨gx, 1, none⟩ = some (.int .i64 a) := (blk_cell hbx 1).trans rfl; replace hS := pw_cell_below hb hS; replace h1 := pw_cell_below hb h1; replace hc2 := pw_cell_below hb hc2; have hfz := hff.out _ hb; have HB := Aside0.mk hb; have HX := Aside0.mk hbx; have HGX := Aside0.mk hgx; clear hb hbx hgx))
  go_quiet (fail)
  go_wp2
  go_ret
  exact ⟨rfl, _, pw_below_drewN HB.out _, rfl⟩

theorem sinfo : (Try.prog.info? 131).map (fun i => (i.zero, i.size, i.bytes)) = some (some (.agg #[.int .i64 0, .int .i64 0, .string ⟨#[]⟩]), 3, 32) := by kernel_rfl
set_option maxHeartbeats 4000000 in
set_option maxRecDepth 100000 in
theorem snest_push21 (w : World) (B g n : Nat) (v : Value) (at_ a : Int) (S : ByteArray) (xs : List Value) (hn : n < 4) (hs : S.size ≤ 8) (hB : B ≤ w.heap.size) (hS : w.cell? ⟨g, 0, none⟩ = some (.string S)) (h1 : w.cell? ⟨g, 1, none⟩ = some v) (hf : w.frozen? ⟨g, 1, none⟩ = false) (hgv : v.ownBlock ≠ some g) (hv : ∃ A c, v = .slice A n c)
    (ho : w.ownsRow B 131 3 v n xs) :
    Calls Try.prog 121 #[.pointer (some ⟨g, 0, none⟩), .agg #[.int .i64 21, .int .i64 a], .int .i64 at_] w fun e w' => e = .returned (.int .i64 0) ∧ ∃ W w1 v1, Below w.heap.size w W ∧ w1.ownsRow B 131 3 v1 (n + 1) (xs ++ [.int .i64 at_, .int .i64 21, .string S]) ∧ W.grownBy w1 v.ownBlock ∧ (v1.ownBlock = v.ownBlock ∨ ∃ b, v1.ownBlock = some b ∧ W.heap.size ≤ b) ∧ w' = w1.setCell ⟨g, 1, none⟩ v1 := by
  have hu := Try.underlying108
  obtain ⟨A, c, rfl⟩ := hv
  have hff : Aside0 (∀ W, Below w.heap.size w W → W.frozen? ⟨g, 1, none⟩ = false) := ⟨fun W hb => (World.frozen?_of_block (w := w) (w' := W) (a := ⟨g, 1, none⟩) (hb.block g (World.block_lt_of_cell? w ⟨g, 1, none⟩ h1))).trans hf⟩
  have HO := Aside0.mk ho
  have HG := Aside0.mk hgv
  have HBB := Aside0.mk hB
  clear ho hgv hB
  go_enter Try.func121, Try.ntmps121
  go_wp2_with (first | ((with_reducible refine gate_dst (N := 4) rfl ?_); refine box_event ?hg (N := 4) ?hd (cs := #[.int .i64 21, .int .i64 a]) (t := 91) ?hr ?_; (case hd => rfl); (case hg => rfl); (case hr => first | (go_simp; done) | (go_simp; rfl)); intro gx hgx W hbx hb; have hx0 : W.cell? ⟨gx, 0, none⟩ = some (.int .i64 21) := (blk_cell hbx 0).trans rfl; have hx1 : W.cell? ⟨gx, 1, none⟩ = some (.int .i64 a) := (blk_cell hbx 1).trans rfl; replace hS := pw_cell_below hb hS; replace h1 := pw_cell_below hb h1; have hfz := hff.out _ hb; have h1a : ∀ o, (W.alloc o).cell? ⟨g, 1, none⟩ = some (.slice A n c) := fun o => (World.cell?_alloc_lt W o ⟨g, 1, none⟩ (World.block_lt_of_cell? W ⟨g, 1, none⟩ h1)).trans h1; have HO2 := Aside0.mk (pw_own_below HO.out hb); have HB := Aside0.mk hb; have HX := Aside0.mk hbx; have HGX := Aside0.mk hgx; clear hb hbx hgx))
  go_region_law (refine step_append_cells (W := W.drew) (w0 := W.drew) B (by rfl) (.tmp 27) (.tmp 36) 108 131 _ 3 32 rfl Try.underlying108 sinfo rfl (by decide) (by decide) (.slice A n c) n xs [.int .i64 at_, .int .i64 21, .string S] rfl rfl rfl (by simp [Value.oneCell']) HO2.out (Below.refl _ _) (Nat.le_trans HBB.out HB.out.size) (by omega) ?_; intro v1 w1 hown hbel hgrow hat; obtain ⟨A1, c1, rfl⟩ := own_slice hown; have z1 : w1.cell? ⟨g, 1, none⟩ = some (.slice A n c) := hgrow.cell (a := ⟨g, 1, none⟩) h1 (fun e => HG.out e.symm); have z2 : w1.frozen? ⟨g, 1, none⟩ = false := (World.frozen?_of_block (w := W.drew) (w' := w1) (a := ⟨g, 1, none⟩) (hgrow.block g (World.block_lt_of_cell? W ⟨g, 1, none⟩ h1) (fun e => HG.out e.symm))).trans hfz; have YO := Aside0.mk hown; have YG := Aside0.mk hgrow; have YA := Aside0.mk hat; clear hown hbel hgrow hat)
  all_goals
    go_wp2
    go_ret
    exact ⟨rfl, W.drew, _, _, pw_below_drewN HB.out 1, YO.out, YG.out, YA.out, rfl⟩

set_option maxHeartbeats 4000000 in
set_option maxRecDepth 100000 in
theorem snest_push24 (w : World) (B g n : Nat) (v : Value) (at_ a : Int) (S : ByteArray) (xs : List Value) (hn : n < 4) (hs : S.size ≤ 8) (hB : B ≤ w.heap.size) (hS : w.cell? ⟨g, 0, none⟩ = some (.string S)) (h1 : w.cell? ⟨g, 1, none⟩ = some v) (hf : w.frozen? ⟨g, 1, none⟩ = false) (hgv : v.ownBlock ≠ some g) (hv : ∃ A c, v = .slice A n c)
    (ho : w.ownsRow B 131 3 v n xs) :
    Calls Try.prog 121 #[.pointer (some ⟨g, 0, none⟩), .agg #[.int .i64 24, .int .i64 a], .int .i64 at_] w fun e w' => e = .returned (.int .i64 0) ∧ ∃ W w1 v1, Below w.heap.size w W ∧ w1.ownsRow B 131 3 v1 (n + 1) (xs ++ [.int .i64 at_, .int .i64 24, .string S]) ∧ W.grownBy w1 v.ownBlock ∧ (v1.ownBlock = v.ownBlock ∨ ∃ b, v1.ownBlock = some b ∧ W.heap.size ≤ b) ∧ w' = w1.setCell ⟨g, 1, none⟩ v1 := by
  have hu := Try.underlying108
  obtain ⟨A, c, rfl⟩ := hv
  have hff : Aside0 (∀ W, Below w.heap.size w W → W.frozen? ⟨g, 1, none⟩ = false) := ⟨fun W hb => (World.frozen?_of_block (w := w) (w' := W) (a := ⟨g, 1, none⟩) (hb.block g (World.block_lt_of_cell? w ⟨g, 1, none⟩ h1))).trans hf⟩
  have HO := Aside0.mk ho
  have HG := Aside0.mk hgv
  have HBB := Aside0.mk hB
  clear ho hgv hB
  go_enter Try.func121, Try.ntmps121
  go_wp2_with (first | ((with_reducible refine gate_dst (N := 4) rfl ?_); refine box_event ?hg (N := 4) ?hd (cs := #[.int .i64 24, .int .i64 a]) (t := 91) ?hr ?_; (case hd => rfl); (case hg => rfl); (case hr => first | (go_simp; done) | (go_simp; rfl)); intro gx hgx W hbx hb; have hx0 : W.cell? ⟨gx, 0, none⟩ = some (.int .i64 24) := (blk_cell hbx 0).trans rfl; have hx1 : W.cell? ⟨gx, 1, none⟩ = some (.int .i64 a) := (blk_cell hbx 1).trans rfl; replace hS := pw_cell_below hb hS; replace h1 := pw_cell_below hb h1; have hfz := hff.out _ hb; have h1a : ∀ o, (W.alloc o).cell? ⟨g, 1, none⟩ = some (.slice A n c) := fun o => (World.cell?_alloc_lt W o ⟨g, 1, none⟩ (World.block_lt_of_cell? W ⟨g, 1, none⟩ h1)).trans h1; have HO2 := Aside0.mk (pw_own_below HO.out hb); have HB := Aside0.mk hb; have HX := Aside0.mk hbx; have HGX := Aside0.mk hgx; clear hb hbx hgx))
  go_region_law (refine step_append_cells (W := W.drew) (w0 := W.drew) B (by rfl) (.tmp 27) (.tmp 36) 108 131 _ 3 32 rfl Try.underlying108 sinfo rfl (by decide) (by decide) (.slice A n c) n xs [.int .i64 at_, .int .i64 24, .string S] rfl rfl rfl (by simp [Value.oneCell']) HO2.out (Below.refl _ _) (Nat.le_trans HBB.out HB.out.size) (by omega) ?_; intro v1 w1 hown hbel hgrow hat; obtain ⟨A1, c1, rfl⟩ := own_slice hown; have z1 : w1.cell? ⟨g, 1, none⟩ = some (.slice A n c) := hgrow.cell (a := ⟨g, 1, none⟩) h1 (fun e => HG.out e.symm); have z2 : w1.frozen? ⟨g, 1, none⟩ = false := (World.frozen?_of_block (w := W.drew) (w' := w1) (a := ⟨g, 1, none⟩) (hgrow.block g (World.block_lt_of_cell? W ⟨g, 1, none⟩ h1) (fun e => HG.out e.symm))).trans hfz; have YO := Aside0.mk hown; have YG := Aside0.mk hgrow; have YA := Aside0.mk hat; clear hown hbel hgrow hat)
  all_goals
    go_wp2
    go_ret
    exact ⟨rfl, W.drew, _, _, pw_below_drewN HB.out 1, YO.out, YG.out, YA.out, rfl⟩

theorem sfloor0 (w : World) (g : Nat) (A : Option Addr) (c : Nat) (h1 : w.cell? ⟨g, 1, none⟩ = some (.slice A 0 c)) :
    Calls Try.prog 120 #[.pointer (some ⟨g, 0, none⟩)] w fun e w' => e = .returned (.int .i64 0) ∧ ∃ m, w' = w.drewN m := by
  go_enter Try.func120, Try.ntmps120
  go_wp2
  go_ret
  exact ⟨rfl, 0, rfl⟩
set_option maxRecDepth 100000 in
theorem sfloorS (w : World) (g q n c : Nat) (T : ByteArray) (hn : n ≤ 4) (ht : T.size ≤ 8) (h1 : w.cell? ⟨g, 1, none⟩ = some (.slice (some ⟨q, 0, none⟩) (n + 1) c)) (hc : w.cell? ⟨q, n * 3 + 2, none⟩ = some (.string T)) :
    Calls Try.prog 120 #[.pointer (some ⟨g, 0, none⟩)] w fun e w' => e = .returned (.int .i64 T.size) ∧ ∃ m, w' = w.drewN m := by
  have hu := Try.underlying108
  go_enter Try.func120, Try.ntmps120
  go_wp2
  go_quiet (fail)
  go_wp2
  go_ret
  exact ⟨rfl, _, rfl⟩

set_option maxRecDepth 100000 in
theorem seff_1 (w : World) (n c : Nat) (A : Option Addr) (a : Int) :
    Calls Try.prog 118 #[.agg #[.int .i64 1, .int .i64 a], .slice A n c] w fun e w' => e = .returned (.tuple #[.string ⟨#[]⟩, .string ⟨#[105]⟩]) ∧ Below w.heap.size w w' := by
  go_enter Try.func118, Try.ntmps118
  go_wp2
  go_ret2
  exact ⟨rfl, below_alloc (Below.refl _ _) _⟩
set_option maxRecDepth 100000 in
theorem seff_2 (w : World) (n c : Nat) (A : Option Addr) (a : Int) :
    Calls Try.prog 118 #[.agg #[.int .i64 2, .int .i64 a], .slice A n c] w fun e w' => e = .returned (.tuple #[.string ⟨#[]⟩, .string ⟨#[98]⟩]) ∧ Below w.heap.size w w' := by
  go_enter Try.func118, Try.ntmps118
  go_wp2
  go_ret2
  exact ⟨rfl, below_alloc (Below.refl _ _) _⟩
set_option maxRecDepth 100000 in
theorem seff_3 (w : World) (n c : Nat) (A : Option Addr) (a : Int) :
    Calls Try.prog 118 #[.agg #[.int .i64 3, .int .i64 a], .slice A n c] w fun e w' => e = .returned (.tuple #[.string ⟨#[]⟩, .string ⟨#[105]⟩]) ∧ Below w.heap.size w w' := by
  go_enter Try.func118, Try.ntmps118
  go_wp2
  go_ret2
  exact ⟨rfl, below_alloc (Below.refl _ _) _⟩
set_option maxRecDepth 100000 in
theorem seff_4 (w : World) (n c : Nat) (A : Option Addr) (a : Int) :
    Calls Try.prog 118 #[.agg #[.int .i64 4, .int .i64 a], .slice A n c] w fun e w' => e = .returned (.tuple #[.string ⟨#[105]⟩, .string ⟨#[]⟩]) ∧ Below w.heap.size w w' := by
  go_enter Try.func118, Try.ntmps118
  go_wp2
  go_ret2
  exact ⟨rfl, below_alloc (Below.refl _ _) _⟩
set_option maxRecDepth 100000 in
theorem seff_5 (w : World) (n c : Nat) (A : Option Addr) (a : Int) :
    Calls Try.prog 118 #[.agg #[.int .i64 5, .int .i64 a], .slice A n c] w fun e w' => e = .returned (.tuple #[.string ⟨#[]⟩, .string ⟨#[98]⟩]) ∧ Below w.heap.size w w' := by
  go_enter Try.func118, Try.ntmps118
  go_wp2
  go_ret2
  exact ⟨rfl, below_alloc (Below.refl _ _) _⟩
set_option maxRecDepth 100000 in
theorem seff_6 (w : World) (n c : Nat) (A : Option Addr) (a : Int) :
    Calls Try.prog 118 #[.agg #[.int .i64 6, .int .i64 a], .slice A n c] w fun e w' => e = .returned (.tuple #[.string ⟨#[98]⟩, .string ⟨#[]⟩]) ∧ Below w.heap.size w w' := by
  go_enter Try.func118, Try.ntmps118
  go_wp2
  go_ret2
  exact ⟨rfl, below_alloc (Below.refl _ _) _⟩
set_option maxRecDepth 100000 in
theorem seff_7 (w : World) (n c : Nat) (A : Option Addr) (a : Int) :
    Calls Try.prog 118 #[.agg #[.int .i64 7, .int .i64 a], .slice A n c] w fun e w' => e = .returned (.tuple #[.string ⟨#[]⟩, .string ⟨#[98]⟩]) ∧ Below w.heap.size w w' := by
  go_enter Try.func118, Try.ntmps118
  go_wp2
  go_ret2
  exact ⟨rfl, below_alloc (Below.refl _ _) _⟩
set_option maxRecDepth 100000 in
theorem seff_8 (w : World) (n c : Nat) (A : Option Addr) (a : Int) :
    Calls Try.prog 118 #[.agg #[.int .i64 8, .int .i64 a], .slice A n c] w fun e w' => e = .returned (.tuple #[.string ⟨#[98]⟩, .string ⟨#[]⟩]) ∧ Below w.heap.size w w' := by
  go_enter Try.func118, Try.ntmps118
  go_wp2
  go_ret2
  exact ⟨rfl, below_alloc (Below.refl _ _) _⟩
set_option maxRecDepth 100000 in
theorem seff_9 (w : World) (n c : Nat) (A : Option Addr) (a : Int) :
    Calls Try.prog 118 #[.agg #[.int .i64 9, .int .i64 a], .slice A n c] w fun e w' => e = .returned (.tuple #[.string ⟨#[105, 105]⟩, .string ⟨#[105]⟩]) ∧ Below w.heap.size w w' := by
  go_enter Try.func118, Try.ntmps118
  go_wp2
  go_ret2
  exact ⟨rfl, below_alloc (Below.refl _ _) _⟩
set_option maxRecDepth 100000 in
theorem seff_10 (w : World) (n c : Nat) (A : Option Addr) (a : Int) :
    Calls Try.prog 118 #[.agg #[.int .i64 10, .int .i64 a], .slice A n c] w fun e w' => e = .returned (.tuple #[.string ⟨#[105, 105]⟩, .string ⟨#[105]⟩]) ∧ Below w.heap.size w w' := by
  go_enter Try.func118, Try.ntmps118
  go_wp2
  go_ret2
  exact ⟨rfl, below_alloc (Below.refl _ _) _⟩
set_option maxRecDepth 100000 in
theorem seff_11 (w : World) (n c : Nat) (A : Option Addr) (a : Int) :
    Calls Try.prog 118 #[.agg #[.int .i64 11, .int .i64 a], .slice A n c] w fun e w' => e = .returned (.tuple #[.string ⟨#[105, 105]⟩, .string ⟨#[105]⟩]) ∧ Below w.heap.size w w' := by
  go_enter Try.func118, Try.ntmps118
  go_wp2
  go_ret2
  exact ⟨rfl, below_alloc (Below.refl _ _) _⟩
set_option maxRecDepth 100000 in
theorem seff_12 (w : World) (n c : Nat) (A : Option Addr) (a : Int) :
    Calls Try.prog 118 #[.agg #[.int .i64 12, .int .i64 a], .slice A n c] w fun e w' => e = .returned (.tuple #[.string ⟨#[105, 105]⟩, .string ⟨#[105]⟩]) ∧ Below w.heap.size w w' := by
  go_enter Try.func118, Try.ntmps118
  go_wp2
  go_ret2
  exact ⟨rfl, below_alloc (Below.refl _ _) _⟩
set_option maxRecDepth 100000 in
theorem seff_13 (w : World) (n c : Nat) (A : Option Addr) (a : Int) :
    Calls Try.prog 118 #[.agg #[.int .i64 13, .int .i64 a], .slice A n c] w fun e w' => e = .returned (.tuple #[.string ⟨#[105, 105]⟩, .string ⟨#[98]⟩]) ∧ Below w.heap.size w w' := by
  go_enter Try.func118, Try.ntmps118
  go_wp2
  go_ret2
  exact ⟨rfl, below_alloc (Below.refl _ _) _⟩
set_option maxRecDepth 100000 in
theorem seff_14 (w : World) (n c : Nat) (A : Option Addr) (a : Int) :
    Calls Try.prog 118 #[.agg #[.int .i64 14, .int .i64 a], .slice A n c] w fun e w' => e = .returned (.tuple #[.string ⟨#[105, 105]⟩, .string ⟨#[98]⟩]) ∧ Below w.heap.size w w' := by
  go_enter Try.func118, Try.ntmps118
  go_wp2
  go_ret2
  exact ⟨rfl, below_alloc (Below.refl _ _) _⟩
set_option maxRecDepth 100000 in
theorem seff_15 (w : World) (n c : Nat) (A : Option Addr) (a : Int) :
    Calls Try.prog 118 #[.agg #[.int .i64 15, .int .i64 a], .slice A n c] w fun e w' => e = .returned (.tuple #[.string ⟨#[98, 98]⟩, .string ⟨#[98]⟩]) ∧ Below w.heap.size w w' := by
  go_enter Try.func118, Try.ntmps118
  go_wp2
  go_ret2
  exact ⟨rfl, below_alloc (Below.refl _ _) _⟩
set_option maxRecDepth 100000 in
theorem seff_16 (w : World) (n c : Nat) (A : Option Addr) (a : Int) :
    Calls Try.prog 118 #[.agg #[.int .i64 16, .int .i64 a], .slice A n c] w fun e w' => e = .returned (.tuple #[.string ⟨#[98, 98]⟩, .string ⟨#[98]⟩]) ∧ Below w.heap.size w w' := by
  go_enter Try.func118, Try.ntmps118
  go_wp2
  go_ret2
  exact ⟨rfl, below_alloc (Below.refl _ _) _⟩
set_option maxRecDepth 100000 in
theorem seff_17 (w : World) (n c : Nat) (A : Option Addr) (a : Int) :
    Calls Try.prog 118 #[.agg #[.int .i64 17, .int .i64 a], .slice A n c] w fun e w' => e = .returned (.tuple #[.string ⟨#[98]⟩, .string ⟨#[98]⟩]) ∧ Below w.heap.size w w' := by
  go_enter Try.func118, Try.ntmps118
  go_wp2
  go_ret2
  exact ⟨rfl, below_alloc (Below.refl _ _) _⟩
set_option maxRecDepth 100000 in
theorem seff_18 (w : World) (n c : Nat) (A : Option Addr) (a : Int) :
    Calls Try.prog 118 #[.agg #[.int .i64 18, .int .i64 a], .slice A n c] w fun e w' => e = .returned (.tuple #[.string ⟨#[98, 105, 105]⟩, .string ⟨#[105]⟩]) ∧ Below w.heap.size w w' := by
  go_enter Try.func118, Try.ntmps118
  go_wp2
  go_ret2
  exact ⟨rfl, below_alloc (Below.refl _ _) _⟩
set_option maxRecDepth 100000 in
theorem seff_20 (w : World) (n c : Nat) (A : Option Addr) (a : Int) :
    Calls Try.prog 118 #[.agg #[.int .i64 20, .int .i64 a], .slice A n c] w fun e w' => e = .returned (.tuple #[.string ⟨#[]⟩, .string ⟨#[105]⟩]) ∧ Below w.heap.size w w' := by
  go_enter Try.func118, Try.ntmps118
  go_wp2
  go_ret2
  exact ⟨rfl, below_alloc (Below.refl _ _) _⟩
set_option maxRecDepth 100000 in
theorem seff_21 (w : World) (n c : Nat) (A : Option Addr) (a : Int) :
    Calls Try.prog 118 #[.agg #[.int .i64 21, .int .i64 a], .slice A n c] w fun e w' => e = .returned (.tuple #[.string ⟨#[98]⟩, .string ⟨#[]⟩]) ∧ Below w.heap.size w w' := by
  go_enter Try.func118, Try.ntmps118
  go_wp2
  go_ret2
  exact ⟨rfl, below_alloc (Below.refl _ _) _⟩
set_option maxRecDepth 100000 in
theorem seff_22 (w : World) (n c : Nat) (A : Option Addr) (a : Int) :
    Calls Try.prog 118 #[.agg #[.int .i64 22, .int .i64 a], .slice A n c] w fun e w' => e = .returned (.tuple #[.string ⟨#[]⟩, .string ⟨#[]⟩]) ∧ Below w.heap.size w w' := by
  go_enter Try.func118, Try.ntmps118
  go_wp2
  go_ret2
  exact ⟨rfl, below_alloc (Below.refl _ _) _⟩
set_option maxRecDepth 100000 in
theorem seff_23 (w : World) (n c : Nat) (A : Option Addr) (a : Int) :
    Calls Try.prog 118 #[.agg #[.int .i64 23, .int .i64 a], .slice A n c] w fun e w' => e = .returned (.tuple #[.string ⟨#[]⟩, .string ⟨#[]⟩]) ∧ Below w.heap.size w w' := by
  go_enter Try.func118, Try.ntmps118
  go_wp2
  go_ret2
  exact ⟨rfl, below_alloc (Below.refl _ _) _⟩
set_option maxRecDepth 100000 in
theorem seff_24 (w : World) (n c : Nat) (A : Option Addr) (a : Int) :
    Calls Try.prog 118 #[.agg #[.int .i64 24, .int .i64 a], .slice A n c] w fun e w' => e = .returned (.tuple #[.string ⟨#[]⟩, .string ⟨#[]⟩]) ∧ Below w.heap.size w w' := by
  go_enter Try.func118, Try.ntmps118
  go_wp2
  go_ret2
  exact ⟨rfl, below_alloc (Below.refl _ _) _⟩
set_option maxRecDepth 100000 in
theorem seff_25 (w : World) (n c : Nat) (A : Option Addr) (a : Int) :
    Calls Try.prog 118 #[.agg #[.int .i64 25, .int .i64 a], .slice A n c] w fun e w' => e = .returned (.tuple #[.string ⟨#[]⟩, .string ⟨#[]⟩]) ∧ Below w.heap.size w w' := by
  go_enter Try.func118, Try.ntmps118
  go_wp2
  go_ret2
  exact ⟨rfl, below_alloc (Below.refl _ _) _⟩
set_option maxRecDepth 100000 in
theorem seff_26 (w : World) (n c : Nat) (A : Option Addr) (a : Int) :
    Calls Try.prog 118 #[.agg #[.int .i64 26, .int .i64 a], .slice A n c] w fun e w' => e = .returned (.tuple #[.string ⟨#[]⟩, .string ⟨#[]⟩]) ∧ Below w.heap.size w w' := by
  go_enter Try.func118, Try.ntmps118
  go_wp2
  go_ret2
  exact ⟨rfl, below_alloc (Below.refl _ _) _⟩
theorem stakes_1 (w : World) : Calls Try.prog 133 #[.int .i64 1] w fun e w' => e = .returned (.string ⟨#[98, 105]⟩) ∧ Below w.heap.size w w' := by
  have hu := Try.underlying103
  go_enter Try.func133, Try.ntmps133
  go_wp2
  go_ret
  exact ⟨rfl, below_alloc (Below.refl _ _) _⟩
theorem stakes_2 (w : World) : Calls Try.prog 133 #[.int .i64 2] w fun e w' => e = .returned (.string ⟨#[98, 98, 105]⟩) ∧ Below w.heap.size w w' := by
  have hu := Try.underlying103
  go_enter Try.func133, Try.ntmps133
  go_wp2
  go_ret
  exact ⟨rfl, below_alloc (Below.refl _ _) _⟩
theorem stakes_3 (w : World) : Calls Try.prog 133 #[.int .i64 3] w fun e w' => e = .returned (.string ⟨#[98]⟩) ∧ Below w.heap.size w w' := by
  have hu := Try.underlying103
  go_enter Try.func133, Try.ntmps133
  go_wp2
  go_ret
  exact ⟨rfl, below_alloc (Below.refl _ _) _⟩
theorem stakes_4 (w : World) : Calls Try.prog 133 #[.int .i64 4] w fun e w' => e = .returned (.string ⟨#[98, 98]⟩) ∧ Below w.heap.size w w' := by
  have hu := Try.underlying103
  go_enter Try.func133, Try.ntmps133
  go_wp2
  go_ret
  exact ⟨rfl, below_alloc (Below.refl _ _) _⟩
set_option maxRecDepth 100000 in
theorem seff_19_1 (w : World) (n c : Nat) (ad : Addr) (a : Nat) (ha : a < n) (hx : w.cell? (ad.add a) = some (.int .i64 1)) :
    Calls Try.prog 118 #[.agg #[.int .i64 19, .int .i64 a], .slice (some ad) n c] w fun e w' => e = .returned (.tuple #[.string ⟨#[98, 105]⟩, .string ⟨#[98]⟩]) ∧ Below w.heap.size w w' := by
  have hxa : ∀ o, (w.alloc o).cell? (ad.add a) = some (.int .i64 1) := fun o => (World.cell?_alloc_lt w o _ (World.block_lt_of_cell? w _ hx)).trans hx
  have hi1 : ((0 : Int) ≤ (a : Int)) = True := eq_true (by omega)
  have hi2 : ((a : Int) < (n : Int)) = True := eq_true (by omega)
  go_enter Try.func118, Try.ntmps118
  go_wp2_with (go_at_call 133; (with_reducible refine (stakes_1 _).mono ?_); rintro e w1 ⟨rfl, hb⟩; have HB := Aside0.mk hb; clear hb)
  go_ret2
  exact ⟨rfl, below_step (below_alloc (Below.refl _ _) _) HB.out⟩
set_option maxRecDepth 100000 in
theorem seff_19_2 (w : World) (n c : Nat) (ad : Addr) (a : Nat) (ha : a < n) (hx : w.cell? (ad.add a) = some (.int .i64 2)) :
    Calls Try.prog 118 #[.agg #[.int .i64 19, .int .i64 a], .slice (some ad) n c] w fun e w' => e = .returned (.tuple #[.string ⟨#[98, 98, 105]⟩, .string ⟨#[98]⟩]) ∧ Below w.heap.size w w' := by
  have hxa : ∀ o, (w.alloc o).cell? (ad.add a) = some (.int .i64 2) := fun o => (World.cell?_alloc_lt w o _ (World.block_lt_of_cell? w _ hx)).trans hx
  have hi1 : ((0 : Int) ≤ (a : Int)) = True := eq_true (by omega)
  have hi2 : ((a : Int) < (n : Int)) = True := eq_true (by omega)
  go_enter Try.func118, Try.ntmps118
  go_wp2_with (go_at_call 133; (with_reducible refine (stakes_2 _).mono ?_); rintro e w1 ⟨rfl, hb⟩; have HB := Aside0.mk hb; clear hb)
  go_ret2
  exact ⟨rfl, below_step (below_alloc (Below.refl _ _) _) HB.out⟩
set_option maxRecDepth 100000 in
theorem seff_19_3 (w : World) (n c : Nat) (ad : Addr) (a : Nat) (ha : a < n) (hx : w.cell? (ad.add a) = some (.int .i64 3)) :
    Calls Try.prog 118 #[.agg #[.int .i64 19, .int .i64 a], .slice (some ad) n c] w fun e w' => e = .returned (.tuple #[.string ⟨#[98]⟩, .string ⟨#[98]⟩]) ∧ Below w.heap.size w w' := by
  have hxa : ∀ o, (w.alloc o).cell? (ad.add a) = some (.int .i64 3) := fun o => (World.cell?_alloc_lt w o _ (World.block_lt_of_cell? w _ hx)).trans hx
  have hi1 : ((0 : Int) ≤ (a : Int)) = True := eq_true (by omega)
  have hi2 : ((a : Int) < (n : Int)) = True := eq_true (by omega)
  go_enter Try.func118, Try.ntmps118
  go_wp2_with (go_at_call 133; (with_reducible refine (stakes_3 _).mono ?_); rintro e w1 ⟨rfl, hb⟩; have HB := Aside0.mk hb; clear hb)
  go_ret2
  exact ⟨rfl, below_step (below_alloc (Below.refl _ _) _) HB.out⟩
set_option maxRecDepth 100000 in
theorem seff_19_4 (w : World) (n c : Nat) (ad : Addr) (a : Nat) (ha : a < n) (hx : w.cell? (ad.add a) = some (.int .i64 4)) :
    Calls Try.prog 118 #[.agg #[.int .i64 19, .int .i64 a], .slice (some ad) n c] w fun e w' => e = .returned (.tuple #[.string ⟨#[98, 98]⟩, .string ⟨#[98]⟩]) ∧ Below w.heap.size w w' := by
  have hxa : ∀ o, (w.alloc o).cell? (ad.add a) = some (.int .i64 4) := fun o => (World.cell?_alloc_lt w o _ (World.block_lt_of_cell? w _ hx)).trans hx
  have hi1 : ((0 : Int) ≤ (a : Int)) = True := eq_true (by omega)
  have hi2 : ((a : Int) < (n : Int)) = True := eq_true (by omega)
  go_enter Try.func118, Try.ntmps118
  go_wp2_with (go_at_call 133; (with_reducible refine (stakes_4 _).mono ?_); rintro e w1 ⟨rfl, hb⟩; have HB := Aside0.mk hb; clear hb)
  go_ret2
  exact ⟨rfl, below_step (below_alloc (Below.refl _ _) _) HB.out⟩
set_option maxRecDepth 100000 in
theorem stake_lo (w : World) (S P : ByteArray) (b : Int) (hs : S.size ≤ 8) (hp : P.size ≤ 3) (hb0 : 0 ≤ b) (hb8 : b ≤ 8) (h : decide ((S.size : Int) - b < (P.size : Int)) = true) :
    Calls Try.prog 119 #[.string S, .string P, .int .i64 b] w fun e w' => e = .returned (.tuple #[.string ⟨#[]⟩, .int .i64 13]) ∧ w' = w := by
  go_enter Try.func119, Try.ntmps119
  go_wp2
  go_ret2
  exact ⟨rfl, rfl⟩
set_option maxRecDepth 100000 in
theorem stake (w : World) (S P : ByteArray) (b : Int) (hs : S.size ≤ 8) (hp : P.size ≤ 3) (hb0 : 0 ≤ b) (hb8 : b ≤ 8) (hle : P.size ≤ S.size) (h : decide ((S.size : Int) - b < (P.size : Int)) = false) :
    Calls Try.prog 119 #[.string S, .string P, .int .i64 b] w fun e w' => (S.extract (S.size - P.size) S.size = P → e = .returned (.tuple #[.string (S.extract 0 (S.size - P.size)), .int .i64 0])) ∧ (S.extract (S.size - P.size) S.size ≠ P → e = .returned (.tuple #[.string ⟨#[]⟩, .int .i64 12])) ∧ w' = w := by
  by_cases hq : S.extract (S.size - P.size) S.size = P
  · have h1 : (!(S.extract (S.size - P.size) S.size).toList == P.toList) = false := by rw [hq]; simp
    have HQ := Aside0.mk hq
    clear hq
    go_enter Try.func119, Try.ntmps119
    go_wp2
    go_ret2
    exact ⟨fun _ => rfl, fun e => absurd HQ.out e, rfl⟩
  · have h1 : (!(S.extract (S.size - P.size) S.size).toList == P.toList) = true := by
      cases hh : (!(S.extract (S.size - P.size) S.size).toList == P.toList) with
      | true => rfl
      | false => exact absurd (v_eq hh) hq
    have HQ := Aside0.mk hq
    clear hq
    go_enter Try.func119, Try.ntmps119
    go_wp2
    go_ret2
    exact ⟨fun e => absurd e HQ.out, fun _ => rfl, rfl⟩


theorem sin_t (w : World) (op : Int) (h : 21 ≤ op ∧ op ≤ 24) : Calls Try.prog 48 #[.int .i64 op, .int .i64 21, .int .i64 24] w fun e w' => e = .returned (.bool true) ∧ w' = w := by
  obtain ⟨h1, h2⟩ := h
  go_enter Try.func48, Try.ntmps48
  go_wp2
  go_ret
  exact ⟨by first | rfl | simp [*], rfl⟩
theorem sin_f (w : World) (op : Int) (h : ¬ (21 ≤ op ∧ op ≤ 24)) : Calls Try.prog 48 #[.int .i64 op, .int .i64 21, .int .i64 24] w fun e w' => e = .returned (.bool false) ∧ w' = w := by
  by_cases h1 : 21 ≤ op
  · have h2 : ¬ op ≤ 24 := fun e => h ⟨h1, e⟩
    clear h
    go_enter Try.func48, Try.ntmps48
    go_wp2
    go_ret
    exact ⟨by first | rfl | simp [*], rfl⟩
  · clear h
    go_enter Try.func48, Try.ntmps48
    go_wp2
    go_ret
    exact ⟨by first | rfl | simp [*], rfl⟩

set_option maxRecDepth 100000 in
set_option maxHeartbeats 1000000 in
theorem sstep_o_err (w : World) (g nk ck : Nat) (ak : Option Addr) (R at_ op a b cc : Int) (S P Q T : ByteArray) (post : Ending → World → Prop)
    (h0 : w.cell? ⟨g, 0, none⟩ = some (.string S)) (hf : w.frozen? ⟨g, 0, none⟩ = false) (f19 : (op == 19) = false) (f20 : (op == 20) = false) (f26 : (op == 26) = false) (hQ : Q.size ≤ 1)
    (hE : Aside0 (∀ W : World, Below w.heap.size w W → Calls Try.prog 118 #[.agg #[.int .i64 op, .int .i64 a], .slice ak nk ck] W fun e w' => e = .returned (.tuple #[.string P, .string Q]) ∧ Below W.heap.size W w'))
    (hFl : Aside0 (∀ W : World, Below w.heap.size w W → Calls Try.prog 120 #[.pointer (some ⟨g, 0, none⟩)] W fun e w' => e = .returned (.int .i64 b) ∧ ∃ m, w' = W.drewN m))
    (hT : Aside0 (∀ W : World, Calls Try.prog 119 #[.string S, .string P, .int .i64 b] W fun e w' => e = .returned (.tuple #[.string T, .int .i64 cc]) ∧ w' = W))
    (hcc : (cc != 0) = true) (hK : Aside0 (∀ W : World, Below w.heap.size w W → post (.returned (.int .i64 cc)) W)) :
    Calls Try.prog 86 #[.pointer (some ⟨g, 0, none⟩), .agg #[.int .i64 op, .int .i64 a], .int .i64 at_, .slice ak nk ck, .int .i64 R] w post := by
  have HLT : Aside0 (g < w.heap.size) := ⟨World.block_lt_of_cell? w ⟨g, 0, none⟩ h0⟩
  have hff : Aside0 (∀ W, Below w.heap.size w W → W.frozen? ⟨g, 0, none⟩ = false) := ⟨fun W hb => (World.frozen?_of_block (w := w) (w' := W) (a := ⟨g, 0, none⟩) (hb.block g (World.block_lt_of_cell? w ⟨g, 0, none⟩ h0))).trans hf⟩
  go_enter Try.func86, Try.ntmps86
  go_wp2_with (first | ((with_reducible refine gate_dst (N := 6) rfl ?_); refine box_event ?hg (N := 6) ?hd (cs := #[.int .i64 op, .int .i64 a]) (t := 91) ?hr ?_; (case hd => rfl); (case hg => rfl); (case hr => first | (go_simp; done) | (go_simp; rfl)); intro gx hgx W hbx hb; have hx0 : W.cell? ⟨gx, 0, none⟩ = some (.int .i64 op) := (blk_cell hbx 0).trans rfl; have hx1 : W.cell? ⟨gx, 1, none⟩ = some (.int .i64 a) := (blk_cell hbx 1).trans rfl; replace h0 := pw_cell_below hb h0; have hfz := hff.out _ hb; have hne1 : (g = gx) = False := eq_false (by have := HLT.out; omega); have hne2 : (gx = g) = False := eq_false (by have := HLT.out; omega); have HB := Aside0.mk hb; have HX := Aside0.mk hbx; have HGX := Aside0.mk hgx; clear hb hbx hgx) | (go_at_call 118; (with_reducible refine (hE.out _ (by repeat (first | exact HB.out | apply pw_below_drewN))).mono ?_); rintro e w1 ⟨rfl, hb⟩; have hc0 := pw_cell_below hb h0; have hx0' := pw_cell_below hb hx0; have hx1' := pw_cell_below hb hx1; have hfz1 := hff.out _ (below_step HB.out hb); have hxs : ∀ u, (w1.setCell ⟨g, 0, none⟩ u).cell? ⟨gx, 0, none⟩ = some (.int .i64 op) := fun u => (World.cell?_setCell_other w1 _ _ u (by have := HGX.out; have := HLT.out; intro e; injection e with e1; omega)).trans hx0'; have hxs1 : ∀ u, (w1.setCell ⟨g, 0, none⟩ u).cell? ⟨gx, 1, none⟩ = some (.int .i64 a) := fun u => (World.cell?_setCell_other w1 _ _ u (by have := HGX.out; have := HLT.out; intro e; injection e with e1; omega)).trans hx1'; have HB1 := Aside0.mk (below_step HB.out hb); clear hb))
  go_quiet ((first | (go_at_call 120; exact Calls.quiet_of (hFl.out _ (by repeat (first | exact HB1.out | apply pw_below_drewN)))) | (go_at_call 119; exact Calls.quiet_of_same (hT.out _))))
  go_wp2
  exact hK.out _ (by repeat (first | exact HB1.out | apply pw_below_drewN))
set_option maxRecDepth 100000 in
set_option maxHeartbeats 1000000 in
theorem sstep_o_nest (w : World) (g nk ck : Nat) (ak : Option Addr) (R at_ op a b cc : Int) (S P Q T : ByteArray) (post : Ending → World → Prop)
    (h0 : w.cell? ⟨g, 0, none⟩ = some (.string S)) (hf : w.frozen? ⟨g, 0, none⟩ = false) (f19 : (op == 19) = false) (f20 : (op == 20) = false) (f26 : (op == 26) = false) (hQ : Q.size ≤ 1)
    (hE : Aside0 (∀ W : World, Below w.heap.size w W → Calls Try.prog 118 #[.agg #[.int .i64 op, .int .i64 a], .slice ak nk ck] W fun e w' => e = .returned (.tuple #[.string P, .string Q]) ∧ Below W.heap.size W w'))
    (hFl : Aside0 (∀ W : World, Below w.heap.size w W → Calls Try.prog 120 #[.pointer (some ⟨g, 0, none⟩)] W fun e w' => e = .returned (.int .i64 b) ∧ ∃ m, w' = W.drewN m))
    (hT : Aside0 (∀ W : World, Calls Try.prog 119 #[.string S, .string P, .int .i64 b] W fun e w' => e = .returned (.tuple #[.string T, .int .i64 cc]) ∧ w' = W))
    (hcc : (cc != 0) = false) (ht : T.size ≤ 8)
    (h7 : Aside0 (8 < T.size + Q.size → ∀ W : World, Below w.heap.size w W → post (.returned (.int .i64 7)) W))
    (hir : Aside0 (21 ≤ op ∧ op ≤ 24)) (hN : Aside0 (T.size + Q.size ≤ 8 → ∀ W : World, Below w.heap.size w W → Calls Try.prog 121 #[.pointer (some ⟨g, 0, none⟩), .agg #[.int .i64 op, .int .i64 a], .int .i64 at_] (W.setCell ⟨g, 0, none⟩ (.string (T ++ Q))) fun e w' => ∃ c : Int, e = .returned (.int .i64 c) ∧ post e w')) :
    Calls Try.prog 86 #[.pointer (some ⟨g, 0, none⟩), .agg #[.int .i64 op, .int .i64 a], .int .i64 at_, .slice ak nk ck, .int .i64 R] w post := by
  have HLT : Aside0 (g < w.heap.size) := ⟨World.block_lt_of_cell? w ⟨g, 0, none⟩ h0⟩
  have hff : Aside0 (∀ W, Below w.heap.size w W → W.frozen? ⟨g, 0, none⟩ = false) := ⟨fun W hb => (World.frozen?_of_block (w := w) (w' := W) (a := ⟨g, 0, none⟩) (hb.block g (World.block_lt_of_cell? w ⟨g, 0, none⟩ h0))).trans hf⟩
  go_enter Try.func86, Try.ntmps86
  go_wp2_with (first | ((with_reducible refine gate_dst (N := 6) rfl ?_); refine box_event ?hg (N := 6) ?hd (cs := #[.int .i64 op, .int .i64 a]) (t := 91) ?hr ?_; (case hd => rfl); (case hg => rfl); (case hr => first | (go_simp; done) | (go_simp; rfl)); intro gx hgx W hbx hb; have hx0 : W.cell? ⟨gx, 0, none⟩ = some (.int .i64 op) := (blk_cell hbx 0).trans rfl; have hx1 : W.cell? ⟨gx, 1, none⟩ = some (.int .i64 a) := (blk_cell hbx 1).trans rfl; replace h0 := pw_cell_below hb h0; have hfz := hff.out _ hb; have hne1 : (g = gx) = False := eq_false (by have := HLT.out; omega); have hne2 : (gx = g) = False := eq_false (by have := HLT.out; omega); have HB := Aside0.mk hb; have HX := Aside0.mk hbx; have HGX := Aside0.mk hgx; clear hb hbx hgx) | (go_at_call 118; (with_reducible refine (hE.out _ (by repeat (first | exact HB.out | apply pw_below_drewN))).mono ?_); rintro e w1 ⟨rfl, hb⟩; have hc0 := pw_cell_below hb h0; have hx0' := pw_cell_below hb hx0; have hx1' := pw_cell_below hb hx1; have hfz1 := hff.out _ (below_step HB.out hb); have hxs : ∀ u, (w1.setCell ⟨g, 0, none⟩ u).cell? ⟨gx, 0, none⟩ = some (.int .i64 op) := fun u => (World.cell?_setCell_other w1 _ _ u (by have := HGX.out; have := HLT.out; intro e; injection e with e1; omega)).trans hx0'; have hxs1 : ∀ u, (w1.setCell ⟨g, 0, none⟩ u).cell? ⟨gx, 1, none⟩ = some (.int .i64 a) := fun u => (World.cell?_setCell_other w1 _ _ u (by have := HGX.out; have := HLT.out; intro e; injection e with e1; omega)).trans hx1'; have HB1 := Aside0.mk (below_step HB.out hb); clear hb))
  go_quiet ((first | (go_at_call 120; exact Calls.quiet_of (hFl.out _ (by repeat (first | exact HB1.out | apply pw_below_drewN)))) | (go_at_call 119; exact Calls.quiet_of_same (hT.out _))))
  go_wp2_with (first | (go_at_call 48; (with_reducible refine (sin_t _ _ hir.out).mono ?_); rintro e w2 ⟨rfl, rfl⟩) | (go_at_call 121; (with_reducible refine (hN.out (by have hq : (((T.size : Int) + (Q.size : Int)) ≤ 8) := (by assumption); omega) _ (by repeat (first | exact HB1.out | apply pw_below_drewN))).mono ?_); rintro e w3 ⟨c3, rfl, hp⟩))
  · exact h7.out (by have hq : (8 < ((T.size : Int) + (Q.size : Int))) := (by assumption); omega) _ (by repeat (first | exact HB1.out | apply pw_below_drewN))
  · exact hp
set_option maxRecDepth 100000 in
set_option maxHeartbeats 1000000 in
theorem sstep_o_flat (w : World) (g nk ck : Nat) (ak : Option Addr) (R at_ op a b cc : Int) (S P Q T : ByteArray) (post : Ending → World → Prop)
    (h0 : w.cell? ⟨g, 0, none⟩ = some (.string S)) (hf : w.frozen? ⟨g, 0, none⟩ = false) (f19 : (op == 19) = false) (f20 : (op == 20) = false) (f26 : (op == 26) = false) (hQ : Q.size ≤ 1)
    (hE : Aside0 (∀ W : World, Below w.heap.size w W → Calls Try.prog 118 #[.agg #[.int .i64 op, .int .i64 a], .slice ak nk ck] W fun e w' => e = .returned (.tuple #[.string P, .string Q]) ∧ Below W.heap.size W w'))
    (hFl : Aside0 (∀ W : World, Below w.heap.size w W → Calls Try.prog 120 #[.pointer (some ⟨g, 0, none⟩)] W fun e w' => e = .returned (.int .i64 b) ∧ ∃ m, w' = W.drewN m))
    (hT : Aside0 (∀ W : World, Calls Try.prog 119 #[.string S, .string P, .int .i64 b] W fun e w' => e = .returned (.tuple #[.string T, .int .i64 cc]) ∧ w' = W))
    (hcc : (cc != 0) = false) (ht : T.size ≤ 8)
    (h7 : Aside0 (8 < T.size + Q.size → ∀ W : World, Below w.heap.size w W → post (.returned (.int .i64 7)) W))
    (hir : Aside0 (¬ (21 ≤ op ∧ op ≤ 24))) (hZ : Aside0 (T.size + Q.size ≤ 8 → ∀ W : World, Below w.heap.size w W → post (.returned (.int .i64 0)) (W.setCell ⟨g, 0, none⟩ (.string (T ++ Q))))) :
    Calls Try.prog 86 #[.pointer (some ⟨g, 0, none⟩), .agg #[.int .i64 op, .int .i64 a], .int .i64 at_, .slice ak nk ck, .int .i64 R] w post := by
  have HLT : Aside0 (g < w.heap.size) := ⟨World.block_lt_of_cell? w ⟨g, 0, none⟩ h0⟩
  have hff : Aside0 (∀ W, Below w.heap.size w W → W.frozen? ⟨g, 0, none⟩ = false) := ⟨fun W hb => (World.frozen?_of_block (w := w) (w' := W) (a := ⟨g, 0, none⟩) (hb.block g (World.block_lt_of_cell? w ⟨g, 0, none⟩ h0))).trans hf⟩
  go_enter Try.func86, Try.ntmps86
  go_wp2_with (first | ((with_reducible refine gate_dst (N := 6) rfl ?_); refine box_event ?hg (N := 6) ?hd (cs := #[.int .i64 op, .int .i64 a]) (t := 91) ?hr ?_; (case hd => rfl); (case hg => rfl); (case hr => first | (go_simp; done) | (go_simp; rfl)); intro gx hgx W hbx hb; have hx0 : W.cell? ⟨gx, 0, none⟩ = some (.int .i64 op) := (blk_cell hbx 0).trans rfl; have hx1 : W.cell? ⟨gx, 1, none⟩ = some (.int .i64 a) := (blk_cell hbx 1).trans rfl; replace h0 := pw_cell_below hb h0; have hfz := hff.out _ hb; have hne1 : (g = gx) = False := eq_false (by have := HLT.out; omega); have hne2 : (gx = g) = False := eq_false (by have := HLT.out; omega); have HB := Aside0.mk hb; have HX := Aside0.mk hbx; have HGX := Aside0.mk hgx; clear hb hbx hgx) | (go_at_call 118; (with_reducible refine (hE.out _ (by repeat (first | exact HB.out | apply pw_below_drewN))).mono ?_); rintro e w1 ⟨rfl, hb⟩; have hc0 := pw_cell_below hb h0; have hx0' := pw_cell_below hb hx0; have hx1' := pw_cell_below hb hx1; have hfz1 := hff.out _ (below_step HB.out hb); have hxs : ∀ u, (w1.setCell ⟨g, 0, none⟩ u).cell? ⟨gx, 0, none⟩ = some (.int .i64 op) := fun u => (World.cell?_setCell_other w1 _ _ u (by have := HGX.out; have := HLT.out; intro e; injection e with e1; omega)).trans hx0'; have hxs1 : ∀ u, (w1.setCell ⟨g, 0, none⟩ u).cell? ⟨gx, 1, none⟩ = some (.int .i64 a) := fun u => (World.cell?_setCell_other w1 _ _ u (by have := HGX.out; have := HLT.out; intro e; injection e with e1; omega)).trans hx1'; have HB1 := Aside0.mk (below_step HB.out hb); clear hb))
  go_quiet ((first | (go_at_call 120; exact Calls.quiet_of (hFl.out _ (by repeat (first | exact HB1.out | apply pw_below_drewN)))) | (go_at_call 119; exact Calls.quiet_of_same (hT.out _))))
  go_wp2_with (first | (go_at_call 48; (with_reducible refine (sin_f _ _ hir.out).mono ?_); rintro e w2 ⟨rfl, rfl⟩))
  · exact h7.out (by have hq : (8 < ((T.size : Int) + (Q.size : Int))) := (by assumption); omega) _ (by repeat (first | exact HB1.out | apply pw_below_drewN))
  · exact hZ.out (by have hq : (((T.size : Int) + (Q.size : Int)) ≤ 8) := (by assumption); omega) (w1.drewN _) (by repeat (first | exact HB1.out | apply pw_below_drewN))
set_option maxRecDepth 100000 in
set_option maxHeartbeats 1000000 in
theorem sstep_19_err (w : World) (g nk ck : Nat) (ak : Option Addr) (R at_ a b cc : Int) (S P Q T : ByteArray) (post : Ending → World → Prop)
    (h0 : w.cell? ⟨g, 0, none⟩ = some (.string S)) (hf : w.frozen? ⟨g, 0, none⟩ = false) (ga : decide (a ≥ (nk : Int)) = false) (hQ : Q.size ≤ 1)
    (hE : Aside0 (∀ W : World, Below w.heap.size w W → Calls Try.prog 118 #[.agg #[.int .i64 19, .int .i64 a], .slice ak nk ck] W fun e w' => e = .returned (.tuple #[.string P, .string Q]) ∧ Below W.heap.size W w'))
    (hFl : Aside0 (∀ W : World, Below w.heap.size w W → Calls Try.prog 120 #[.pointer (some ⟨g, 0, none⟩)] W fun e w' => e = .returned (.int .i64 b) ∧ ∃ m, w' = W.drewN m))
    (hT : Aside0 (∀ W : World, Calls Try.prog 119 #[.string S, .string P, .int .i64 b] W fun e w' => e = .returned (.tuple #[.string T, .int .i64 cc]) ∧ w' = W))
    (hcc : (cc != 0) = true) (hK : Aside0 (∀ W : World, Below w.heap.size w W → post (.returned (.int .i64 cc)) W)) :
    Calls Try.prog 86 #[.pointer (some ⟨g, 0, none⟩), .agg #[.int .i64 19, .int .i64 a], .int .i64 at_, .slice ak nk ck, .int .i64 R] w post := by
  have HLT : Aside0 (g < w.heap.size) := ⟨World.block_lt_of_cell? w ⟨g, 0, none⟩ h0⟩
  have hff : Aside0 (∀ W, Below w.heap.size w W → W.frozen? ⟨g, 0, none⟩ = false) := ⟨fun W hb => (World.frozen?_of_block (w := w) (w' := W) (a := ⟨g, 0, none⟩) (hb.block g (World.block_lt_of_cell? w ⟨g, 0, none⟩ h0))).trans hf⟩
  go_enter Try.func86, Try.ntmps86
  go_wp2_with (first | ((with_reducible refine gate_dst (N := 6) rfl ?_); refine box_event ?hg (N := 6) ?hd (cs := #[.int .i64 19, .int .i64 a]) (t := 91) ?hr ?_; (case hd => rfl); (case hg => rfl); (case hr => first | (go_simp; done) | (go_simp; rfl)); intro gx hgx W hbx hb; have hx0 : W.cell? ⟨gx, 0, none⟩ = some (.int .i64 19) := (blk_cell hbx 0).trans rfl; have hx1 : W.cell? ⟨gx, 1, none⟩ = some (.int .i64 a) := (blk_cell hbx 1).trans rfl; replace h0 := pw_cell_below hb h0; have hfz := hff.out _ hb; have hne1 : (g = gx) = False := eq_false (by have := HLT.out; omega); have hne2 : (gx = g) = False := eq_false (by have := HLT.out; omega); have HB := Aside0.mk hb; have HX := Aside0.mk hbx; have HGX := Aside0.mk hgx; clear hb hbx hgx) | (go_at_call 118; (with_reducible refine (hE.out _ (by repeat (first | exact HB.out | apply pw_below_drewN))).mono ?_); rintro e w1 ⟨rfl, hb⟩; have hc0 := pw_cell_below hb h0; have hx0' := pw_cell_below hb hx0; have hx1' := pw_cell_below hb hx1; have hfz1 := hff.out _ (below_step HB.out hb); have hxs : ∀ u, (w1.setCell ⟨g, 0, none⟩ u).cell? ⟨gx, 0, none⟩ = some (.int .i64 19) := fun u => (World.cell?_setCell_other w1 _ _ u (by have := HGX.out; have := HLT.out; intro e; injection e with e1; omega)).trans hx0'; have hxs1 : ∀ u, (w1.setCell ⟨g, 0, none⟩ u).cell? ⟨gx, 1, none⟩ = some (.int .i64 a) := fun u => (World.cell?_setCell_other w1 _ _ u (by have := HGX.out; have := HLT.out; intro e; injection e with e1; omega)).trans hx1'; have HB1 := Aside0.mk (below_step HB.out hb); clear hb))
  go_quiet ((first | (go_at_call 120; exact Calls.quiet_of (hFl.out _ (by repeat (first | exact HB1.out | apply pw_below_drewN)))) | (go_at_call 119; exact Calls.quiet_of_same (hT.out _))))
  go_wp2
  exact hK.out _ (by repeat (first | exact HB1.out | apply pw_below_drewN))
set_option maxRecDepth 100000 in
set_option maxHeartbeats 1000000 in
theorem sstep_19_flat (w : World) (g nk ck : Nat) (ak : Option Addr) (R at_ a b cc : Int) (S P Q T : ByteArray) (post : Ending → World → Prop)
    (h0 : w.cell? ⟨g, 0, none⟩ = some (.string S)) (hf : w.frozen? ⟨g, 0, none⟩ = false) (ga : decide (a ≥ (nk : Int)) = false) (hQ : Q.size ≤ 1)
    (hE : Aside0 (∀ W : World, Below w.heap.size w W → Calls Try.prog 118 #[.agg #[.int .i64 19, .int .i64 a], .slice ak nk ck] W fun e w' => e = .returned (.tuple #[.string P, .string Q]) ∧ Below W.heap.size W w'))
    (hFl : Aside0 (∀ W : World, Below w.heap.size w W → Calls Try.prog 120 #[.pointer (some ⟨g, 0, none⟩)] W fun e w' => e = .returned (.int .i64 b) ∧ ∃ m, w' = W.drewN m))
    (hT : Aside0 (∀ W : World, Calls Try.prog 119 #[.string S, .string P, .int .i64 b] W fun e w' => e = .returned (.tuple #[.string T, .int .i64 cc]) ∧ w' = W))
    (hcc : (cc != 0) = false) (ht : T.size ≤ 8)
    (h7 : Aside0 (8 < T.size + Q.size → ∀ W : World, Below w.heap.size w W → post (.returned (.int .i64 7)) W))
    (hZ : Aside0 (T.size + Q.size ≤ 8 → ∀ W : World, Below w.heap.size w W → post (.returned (.int .i64 0)) (W.setCell ⟨g, 0, none⟩ (.string (T ++ Q))))) :
    Calls Try.prog 86 #[.pointer (some ⟨g, 0, none⟩), .agg #[.int .i64 19, .int .i64 a], .int .i64 at_, .slice ak nk ck, .int .i64 R] w post := by
  have HLT : Aside0 (g < w.heap.size) := ⟨World.block_lt_of_cell? w ⟨g, 0, none⟩ h0⟩
  have hff : Aside0 (∀ W, Below w.heap.size w W → W.frozen? ⟨g, 0, none⟩ = false) := ⟨fun W hb => (World.frozen?_of_block (w := w) (w' := W) (a := ⟨g, 0, none⟩) (hb.block g (World.block_lt_of_cell? w ⟨g, 0, none⟩ h0))).trans hf⟩
  go_enter Try.func86, Try.ntmps86
  go_wp2_with (first | ((with_reducible refine gate_dst (N := 6) rfl ?_); refine box_event ?hg (N := 6) ?hd (cs := #[.int .i64 19, .int .i64 a]) (t := 91) ?hr ?_; (case hd => rfl); (case hg => rfl); (case hr => first | (go_simp; done) | (go_simp; rfl)); intro gx hgx W hbx hb; have hx0 : W.cell? ⟨gx, 0, none⟩ = some (.int .i64 19) := (blk_cell hbx 0).trans rfl; have hx1 : W.cell? ⟨gx, 1, none⟩ = some (.int .i64 a) := (blk_cell hbx 1).trans rfl; replace h0 := pw_cell_below hb h0; have hfz := hff.out _ hb; have hne1 : (g = gx) = False := eq_false (by have := HLT.out; omega); have hne2 : (gx = g) = False := eq_false (by have := HLT.out; omega); have HB := Aside0.mk hb; have HX := Aside0.mk hbx; have HGX := Aside0.mk hgx; clear hb hbx hgx) | (go_at_call 118; (with_reducible refine (hE.out _ (by repeat (first | exact HB.out | apply pw_below_drewN))).mono ?_); rintro e w1 ⟨rfl, hb⟩; have hc0 := pw_cell_below hb h0; have hx0' := pw_cell_below hb hx0; have hx1' := pw_cell_below hb hx1; have hfz1 := hff.out _ (below_step HB.out hb); have hxs : ∀ u, (w1.setCell ⟨g, 0, none⟩ u).cell? ⟨gx, 0, none⟩ = some (.int .i64 19) := fun u => (World.cell?_setCell_other w1 _ _ u (by have := HGX.out; have := HLT.out; intro e; injection e with e1; omega)).trans hx0'; have hxs1 : ∀ u, (w1.setCell ⟨g, 0, none⟩ u).cell? ⟨gx, 1, none⟩ = some (.int .i64 a) := fun u => (World.cell?_setCell_other w1 _ _ u (by have := HGX.out; have := HLT.out; intro e; injection e with e1; omega)).trans hx1'; have HB1 := Aside0.mk (below_step HB.out hb); clear hb))
  go_quiet ((first | (go_at_call 120; exact Calls.quiet_of (hFl.out _ (by repeat (first | exact HB1.out | apply pw_below_drewN)))) | (go_at_call 119; exact Calls.quiet_of_same (hT.out _))))
  go_wp2_with (first | (go_at_call 48; (with_reducible refine (sin_f _ 19 (by decide)).mono ?_); rintro e w2 ⟨rfl, rfl⟩))
  · exact h7.out (by have hq : (8 < ((T.size : Int) + (Q.size : Int))) := (by assumption); omega) _ (by repeat (first | exact HB1.out | apply pw_below_drewN))
  · exact hZ.out (by have hq : (((T.size : Int) + (Q.size : Int)) ≤ 8) := (by assumption); omega) (w1.drewN _) (by repeat (first | exact HB1.out | apply pw_below_drewN))
set_option maxRecDepth 100000 in
set_option maxHeartbeats 1000000 in
theorem sstep_20_err (w : World) (g nk ck : Nat) (ak : Option Addr) (R at_ a b cc : Int) (S P Q T : ByteArray) (post : Ending → World → Prop)
    (h0 : w.cell? ⟨g, 0, none⟩ = some (.string S)) (hf : w.frozen? ⟨g, 0, none⟩ = false) (ga : decide (a ≥ (nk : Int)) = false) (hQ : Q.size ≤ 1)
    (hE : Aside0 (∀ W : World, Below w.heap.size w W → Calls Try.prog 118 #[.agg #[.int .i64 20, .int .i64 a], .slice ak nk ck] W fun e w' => e = .returned (.tuple #[.string P, .string Q]) ∧ Below W.heap.size W w'))
    (hFl : Aside0 (∀ W : World, Below w.heap.size w W → Calls Try.prog 120 #[.pointer (some ⟨g, 0, none⟩)] W fun e w' => e = .returned (.int .i64 b) ∧ ∃ m, w' = W.drewN m))
    (hT : Aside0 (∀ W : World, Calls Try.prog 119 #[.string S, .string P, .int .i64 b] W fun e w' => e = .returned (.tuple #[.string T, .int .i64 cc]) ∧ w' = W))
    (hcc : (cc != 0) = true) (hK : Aside0 (∀ W : World, Below w.heap.size w W → post (.returned (.int .i64 cc)) W)) :
    Calls Try.prog 86 #[.pointer (some ⟨g, 0, none⟩), .agg #[.int .i64 20, .int .i64 a], .int .i64 at_, .slice ak nk ck, .int .i64 R] w post := by
  have HLT : Aside0 (g < w.heap.size) := ⟨World.block_lt_of_cell? w ⟨g, 0, none⟩ h0⟩
  have hff : Aside0 (∀ W, Below w.heap.size w W → W.frozen? ⟨g, 0, none⟩ = false) := ⟨fun W hb => (World.frozen?_of_block (w := w) (w' := W) (a := ⟨g, 0, none⟩) (hb.block g (World.block_lt_of_cell? w ⟨g, 0, none⟩ h0))).trans hf⟩
  go_enter Try.func86, Try.ntmps86
  go_wp2_with (first | ((with_reducible refine gate_dst (N := 6) rfl ?_); refine box_event ?hg (N := 6) ?hd (cs := #[.int .i64 20, .int .i64 a]) (t := 91) ?hr ?_; (case hd => rfl); (case hg => rfl); (case hr => first | (go_simp; done) | (go_simp; rfl)); intro gx hgx W hbx hb; have hx0 : W.cell? ⟨gx, 0, none⟩ = some (.int .i64 20) := (blk_cell hbx 0).trans rfl; have hx1 : W.cell? ⟨gx, 1, none⟩ = some (.int .i64 a) := (blk_cell hbx 1).trans rfl; replace h0 := pw_cell_below hb h0; have hfz := hff.out _ hb; have hne1 : (g = gx) = False := eq_false (by have := HLT.out; omega); have hne2 : (gx = g) = False := eq_false (by have := HLT.out; omega); have HB := Aside0.mk hb; have HX := Aside0.mk hbx; have HGX := Aside0.mk hgx; clear hb hbx hgx) | (go_at_call 118; (with_reducible refine (hE.out _ (by repeat (first | exact HB.out | apply pw_below_drewN))).mono ?_); rintro e w1 ⟨rfl, hb⟩; have hc0 := pw_cell_below hb h0; have hx0' := pw_cell_below hb hx0; have hx1' := pw_cell_below hb hx1; have hfz1 := hff.out _ (below_step HB.out hb); have hxs : ∀ u, (w1.setCell ⟨g, 0, none⟩ u).cell? ⟨gx, 0, none⟩ = some (.int .i64 20) := fun u => (World.cell?_setCell_other w1 _ _ u (by have := HGX.out; have := HLT.out; intro e; injection e with e1; omega)).trans hx0'; have hxs1 : ∀ u, (w1.setCell ⟨g, 0, none⟩ u).cell? ⟨gx, 1, none⟩ = some (.int .i64 a) := fun u => (World.cell?_setCell_other w1 _ _ u (by have := HGX.out; have := HLT.out; intro e; injection e with e1; omega)).trans hx1'; have HB1 := Aside0.mk (below_step HB.out hb); clear hb))
  go_quiet ((first | (go_at_call 120; exact Calls.quiet_of (hFl.out _ (by repeat (first | exact HB1.out | apply pw_below_drewN)))) | (go_at_call 119; exact Calls.quiet_of_same (hT.out _))))
  go_wp2
  exact hK.out _ (by repeat (first | exact HB1.out | apply pw_below_drewN))
set_option maxRecDepth 100000 in
set_option maxHeartbeats 1000000 in
theorem sstep_20_flat (w : World) (g nk ck : Nat) (ak : Option Addr) (R at_ a b cc : Int) (S P Q T : ByteArray) (post : Ending → World → Prop)
    (h0 : w.cell? ⟨g, 0, none⟩ = some (.string S)) (hf : w.frozen? ⟨g, 0, none⟩ = false) (ga : decide (a ≥ (nk : Int)) = false) (hQ : Q.size ≤ 1)
    (hE : Aside0 (∀ W : World, Below w.heap.size w W → Calls Try.prog 118 #[.agg #[.int .i64 20, .int .i64 a], .slice ak nk ck] W fun e w' => e = .returned (.tuple #[.string P, .string Q]) ∧ Below W.heap.size W w'))
    (hFl : Aside0 (∀ W : World, Below w.heap.size w W → Calls Try.prog 120 #[.pointer (some ⟨g, 0, none⟩)] W fun e w' => e = .returned (.int .i64 b) ∧ ∃ m, w' = W.drewN m))
    (hT : Aside0 (∀ W : World, Calls Try.prog 119 #[.string S, .string P, .int .i64 b] W fun e w' => e = .returned (.tuple #[.string T, .int .i64 cc]) ∧ w' = W))
    (hcc : (cc != 0) = false) (ht : T.size ≤ 8)
    (h7 : Aside0 (8 < T.size + Q.size → ∀ W : World, Below w.heap.size w W → post (.returned (.int .i64 7)) W))
    (hZ : Aside0 (T.size + Q.size ≤ 8 → ∀ W : World, Below w.heap.size w W → post (.returned (.int .i64 0)) (W.setCell ⟨g, 0, none⟩ (.string (T ++ Q))))) :
    Calls Try.prog 86 #[.pointer (some ⟨g, 0, none⟩), .agg #[.int .i64 20, .int .i64 a], .int .i64 at_, .slice ak nk ck, .int .i64 R] w post := by
  have HLT : Aside0 (g < w.heap.size) := ⟨World.block_lt_of_cell? w ⟨g, 0, none⟩ h0⟩
  have hff : Aside0 (∀ W, Below w.heap.size w W → W.frozen? ⟨g, 0, none⟩ = false) := ⟨fun W hb => (World.frozen?_of_block (w := w) (w' := W) (a := ⟨g, 0, none⟩) (hb.block g (World.block_lt_of_cell? w ⟨g, 0, none⟩ h0))).trans hf⟩
  go_enter Try.func86, Try.ntmps86
  go_wp2_with (first | ((with_reducible refine gate_dst (N := 6) rfl ?_); refine box_event ?hg (N := 6) ?hd (cs := #[.int .i64 20, .int .i64 a]) (t := 91) ?hr ?_; (case hd => rfl); (case hg => rfl); (case hr => first | (go_simp; done) | (go_simp; rfl)); intro gx hgx W hbx hb; have hx0 : W.cell? ⟨gx, 0, none⟩ = some (.int .i64 20) := (blk_cell hbx 0).trans rfl; have hx1 : W.cell? ⟨gx, 1, none⟩ = some (.int .i64 a) := (blk_cell hbx 1).trans rfl; replace h0 := pw_cell_below hb h0; have hfz := hff.out _ hb; have hne1 : (g = gx) = False := eq_false (by have := HLT.out; omega); have hne2 : (gx = g) = False := eq_false (by have := HLT.out; omega); have HB := Aside0.mk hb; have HX := Aside0.mk hbx; have HGX := Aside0.mk hgx; clear hb hbx hgx) | (go_at_call 118; (with_reducible refine (hE.out _ (by repeat (first | exact HB.out | apply pw_below_drewN))).mono ?_); rintro e w1 ⟨rfl, hb⟩; have hc0 := pw_cell_below hb h0; have hx0' := pw_cell_below hb hx0; have hx1' := pw_cell_below hb hx1; have hfz1 := hff.out _ (below_step HB.out hb); have hxs : ∀ u, (w1.setCell ⟨g, 0, none⟩ u).cell? ⟨gx, 0, none⟩ = some (.int .i64 20) := fun u => (World.cell?_setCell_other w1 _ _ u (by have := HGX.out; have := HLT.out; intro e; injection e with e1; omega)).trans hx0'; have hxs1 : ∀ u, (w1.setCell ⟨g, 0, none⟩ u).cell? ⟨gx, 1, none⟩ = some (.int .i64 a) := fun u => (World.cell?_setCell_other w1 _ _ u (by have := HGX.out; have := HLT.out; intro e; injection e with e1; omega)).trans hx1'; have HB1 := Aside0.mk (below_step HB.out hb); clear hb))
  go_quiet ((first | (go_at_call 120; exact Calls.quiet_of (hFl.out _ (by repeat (first | exact HB1.out | apply pw_below_drewN)))) | (go_at_call 119; exact Calls.quiet_of_same (hT.out _))))
  go_wp2_with (first | (go_at_call 48; (with_reducible refine (sin_f _ 20 (by decide)).mono ?_); rintro e w2 ⟨rfl, rfl⟩))
  · exact h7.out (by have hq : (8 < ((T.size : Int) + (Q.size : Int))) := (by assumption); omega) _ (by repeat (first | exact HB1.out | apply pw_below_drewN))
  · exact hZ.out (by have hq : (((T.size : Int) + (Q.size : Int)) ≤ 8) := (by assumption); omega) (w1.drewN _) (by repeat (first | exact HB1.out | apply pw_below_drewN))
set_option maxRecDepth 100000 in
set_option maxHeartbeats 1000000 in
theorem sstep_26_err (w : World) (g nk ck : Nat) (ak : Option Addr) (R at_ a b cc : Int) (S P Q T : ByteArray) (post : Ending → World → Prop)
    (h0 : w.cell? ⟨g, 0, none⟩ = some (.string S)) (hf : w.frozen? ⟨g, 0, none⟩ = false) (gr : decide (a ≥ R) = false) (hQ : Q.size ≤ 1)
    (hE : Aside0 (∀ W : World, Below w.heap.size w W → Calls Try.prog 118 #[.agg #[.int .i64 26, .int .i64 a], .slice ak nk ck] W fun e w' => e = .returned (.tuple #[.string P, .string Q]) ∧ Below W.heap.size W w'))
    (hFl : Aside0 (∀ W : World, Below w.heap.size w W → Calls Try.prog 120 #[.pointer (some ⟨g, 0, none⟩)] W fun e w' => e = .returned (.int .i64 b) ∧ ∃ m, w' = W.drewN m))
    (hT : Aside0 (∀ W : World, Calls Try.prog 119 #[.string S, .string P, .int .i64 b] W fun e w' => e = .returned (.tuple #[.string T, .int .i64 cc]) ∧ w' = W))
    (hcc : (cc != 0) = true) (hK : Aside0 (∀ W : World, Below w.heap.size w W → post (.returned (.int .i64 cc)) W)) :
    Calls Try.prog 86 #[.pointer (some ⟨g, 0, none⟩), .agg #[.int .i64 26, .int .i64 a], .int .i64 at_, .slice ak nk ck, .int .i64 R] w post := by
  have HLT : Aside0 (g < w.heap.size) := ⟨World.block_lt_of_cell? w ⟨g, 0, none⟩ h0⟩
  have hff : Aside0 (∀ W, Below w.heap.size w W → W.frozen? ⟨g, 0, none⟩ = false) := ⟨fun W hb => (World.frozen?_of_block (w := w) (w' := W) (a := ⟨g, 0, none⟩) (hb.block g (World.block_lt_of_cell? w ⟨g, 0, none⟩ h0))).trans hf⟩
  go_enter Try.func86, Try.ntmps86
  go_wp2_with (first | ((with_reducible refine gate_dst (N := 6) rfl ?_); refine box_event ?hg (N := 6) ?hd (cs := #[.int .i64 26, .int .i64 a]) (t := 91) ?hr ?_; (case hd => rfl); (case hg => rfl); (case hr => first | (go_simp; done) | (go_simp; rfl)); intro gx hgx W hbx hb; have hx0 : W.cell? ⟨gx, 0, none⟩ = some (.int .i64 26) := (blk_cell hbx 0).trans rfl; have hx1 : W.cell? ⟨gx, 1, none⟩ = some (.int .i64 a) := (blk_cell hbx 1).trans rfl; replace h0 := pw_cell_below hb h0; have hfz := hff.out _ hb; have hne1 : (g = gx) = False := eq_false (by have := HLT.out; omega); have hne2 : (gx = g) = False := eq_false (by have := HLT.out; omega); have HB := Aside0.mk hb; have HX := Aside0.mk hbx; have HGX := Aside0.mk hgx; clear hb hbx hgx) | (go_at_call 118; (with_reducible refine (hE.out _ (by repeat (first | exact HB.out | apply pw_below_drewN))).mono ?_); rintro e w1 ⟨rfl, hb⟩; have hc0 := pw_cell_below hb h0; have hx0' := pw_cell_below hb hx0; have hx1' := pw_cell_below hb hx1; have hfz1 := hff.out _ (below_step HB.out hb); have hxs : ∀ u, (w1.setCell ⟨g, 0, none⟩ u).cell? ⟨gx, 0, none⟩ = some (.int .i64 26) := fun u => (World.cell?_setCell_other w1 _ _ u (by have := HGX.out; have := HLT.out; intro e; injection e with e1; omega)).trans hx0'; have hxs1 : ∀ u, (w1.setCell ⟨g, 0, none⟩ u).cell? ⟨gx, 1, none⟩ = some (.int .i64 a) := fun u => (World.cell?_setCell_other w1 _ _ u (by have := HGX.out; have := HLT.out; intro e; injection e with e1; omega)).trans hx1'; have HB1 := Aside0.mk (below_step HB.out hb); clear hb))
  go_quiet ((first | (go_at_call 120; exact Calls.quiet_of (hFl.out _ (by repeat (first | exact HB1.out | apply pw_below_drewN)))) | (go_at_call 119; exact Calls.quiet_of_same (hT.out _))))
  go_wp2
  exact hK.out _ (by repeat (first | exact HB1.out | apply pw_below_drewN))
set_option maxRecDepth 100000 in
set_option maxHeartbeats 1000000 in
theorem sstep_26_flat (w : World) (g nk ck : Nat) (ak : Option Addr) (R at_ a b cc : Int) (S P Q T : ByteArray) (post : Ending → World → Prop)
    (h0 : w.cell? ⟨g, 0, none⟩ = some (.string S)) (hf : w.frozen? ⟨g, 0, none⟩ = false) (gr : decide (a ≥ R) = false) (hQ : Q.size ≤ 1)
    (hE : Aside0 (∀ W : World, Below w.heap.size w W → Calls Try.prog 118 #[.agg #[.int .i64 26, .int .i64 a], .slice ak nk ck] W fun e w' => e = .returned (.tuple #[.string P, .string Q]) ∧ Below W.heap.size W w'))
    (hFl : Aside0 (∀ W : World, Below w.heap.size w W → Calls Try.prog 120 #[.pointer (some ⟨g, 0, none⟩)] W fun e w' => e = .returned (.int .i64 b) ∧ ∃ m, w' = W.drewN m))
    (hT : Aside0 (∀ W : World, Calls Try.prog 119 #[.string S, .string P, .int .i64 b] W fun e w' => e = .returned (.tuple #[.string T, .int .i64 cc]) ∧ w' = W))
    (hcc : (cc != 0) = false) (ht : T.size ≤ 8)
    (h7 : Aside0 (8 < T.size + Q.size → ∀ W : World, Below w.heap.size w W → post (.returned (.int .i64 7)) W))
    (hZ : Aside0 (T.size + Q.size ≤ 8 → ∀ W : World, Below w.heap.size w W → post (.returned (.int .i64 0)) (W.setCell ⟨g, 0, none⟩ (.string (T ++ Q))))) :
    Calls Try.prog 86 #[.pointer (some ⟨g, 0, none⟩), .agg #[.int .i64 26, .int .i64 a], .int .i64 at_, .slice ak nk ck, .int .i64 R] w post := by
  have HLT : Aside0 (g < w.heap.size) := ⟨World.block_lt_of_cell? w ⟨g, 0, none⟩ h0⟩
  have hff : Aside0 (∀ W, Below w.heap.size w W → W.frozen? ⟨g, 0, none⟩ = false) := ⟨fun W hb => (World.frozen?_of_block (w := w) (w' := W) (a := ⟨g, 0, none⟩) (hb.block g (World.block_lt_of_cell? w ⟨g, 0, none⟩ h0))).trans hf⟩
  go_enter Try.func86, Try.ntmps86
  go_wp2_with (first | ((with_reducible refine gate_dst (N := 6) rfl ?_); refine box_event ?hg (N := 6) ?hd (cs := #[.int .i64 26, .int .i64 a]) (t := 91) ?hr ?_; (case hd => rfl); (case hg => rfl); (case hr => first | (go_simp; done) | (go_simp; rfl)); intro gx hgx W hbx hb; have hx0 : W.cell? ⟨gx, 0, none⟩ = some (.int .i64 26) := (blk_cell hbx 0).trans rfl; have hx1 : W.cell? ⟨gx, 1, none⟩ = some (.int .i64 a) := (blk_cell hbx 1).trans rfl; replace h0 := pw_cell_below hb h0; have hfz := hff.out _ hb; have hne1 : (g = gx) = False := eq_false (by have := HLT.out; omega); have hne2 : (gx = g) = False := eq_false (by have := HLT.out; omega); have HB := Aside0.mk hb; have HX := Aside0.mk hbx; have HGX := Aside0.mk hgx; clear hb hbx hgx) | (go_at_call 118; (with_reducible refine (hE.out _ (by repeat (first | exact HB.out | apply pw_below_drewN))).mono ?_); rintro e w1 ⟨rfl, hb⟩; have hc0 := pw_cell_below hb h0; have hx0' := pw_cell_below hb hx0; have hx1' := pw_cell_below hb hx1; have hfz1 := hff.out _ (below_step HB.out hb); have hxs : ∀ u, (w1.setCell ⟨g, 0, none⟩ u).cell? ⟨gx, 0, none⟩ = some (.int .i64 26) := fun u => (World.cell?_setCell_other w1 _ _ u (by have := HGX.out; have := HLT.out; intro e; injection e with e1; omega)).trans hx0'; have hxs1 : ∀ u, (w1.setCell ⟨g, 0, none⟩ u).cell? ⟨gx, 1, none⟩ = some (.int .i64 a) := fun u => (World.cell?_setCell_other w1 _ _ u (by have := HGX.out; have := HLT.out; intro e; injection e with e1; omega)).trans hx1'; have HB1 := Aside0.mk (below_step HB.out hb); clear hb))
  go_quiet ((first | (go_at_call 120; exact Calls.quiet_of (hFl.out _ (by repeat (first | exact HB1.out | apply pw_below_drewN)))) | (go_at_call 119; exact Calls.quiet_of_same (hT.out _))))
  go_wp2_with (first | (go_at_call 48; (with_reducible refine (sin_f _ 26 (by decide)).mono ?_); rintro e w2 ⟨rfl, rfl⟩))
  · exact h7.out (by have hq : (8 < ((T.size : Int) + (Q.size : Int))) := (by assumption); omega) _ (by repeat (first | exact HB1.out | apply pw_below_drewN))
  · exact hZ.out (by have hq : (((T.size : Int) + (Q.size : Int)) ≤ 8) := (by assumption); omega) (w1.drewN _) (by repeat (first | exact HB1.out | apply pw_below_drewN))
end Go.Proofs.Ytjgdfbcjlebniaa.MFnExactVerifyCode
