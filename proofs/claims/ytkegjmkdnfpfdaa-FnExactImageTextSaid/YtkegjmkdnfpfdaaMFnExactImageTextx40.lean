-- By a program of this session.
import Derived.Test.YtkegjmkdnfpfdaaMFnExactImageTextx0
import Derived.Test.YtkegjmkdnfpfdaaMFnExactImageTextx27
import Derived.Test.YtkegjmkdnfpfdaaMFnExactImageTextx39
namespace Go.Proofs.Ytkegjmkdnfpfdaa.MFnExactImageText
open Go.RowKit Go.Proofs.YtkegjmkdnfpfdaaW.PrintWords Go.Proofs.YtkegjmkdnfpfdaaW.PrintLast Go.Proofs.YtkegjmkdnfpfdaaW.PrintMore
attribute [local go_sem] max2_int min2_int max_two min_two max_three min_three max_four min_four
set_option linter.unusedVariables false
set_option linter.unusedSimpArgs false
set_option maxHeartbeats 8000000
set_option maxRecDepth 100000

/-! ### impl_codeText: function 112 -/
def tlay169_ren : Go.Shelf.Ren := ⟨fun | 169 => 181 | n => n, fun | 70 => 205 | 9 => 9 | 0 => 0 | 72 => 207 | 37 => 195 | 127 => 255 | 3 => 3 | 5 => 5 | n => n, fun | n => n⟩
theorem tlay169 : Go.Proofs.Lays.n169 Try.prog tlay169_ren := {
 mixed := by kernel_rfl
 f169 := Try.func181.trans (congrArg some (by kernel_rfl))
 t0 := Try.underlying0
 a0 := Try.isAgg0
 z0 := Try.sizeOf0
 v0 := Try.zeroValue0
 t3 := Try.underlying3
 a3 := Try.isAgg3
 z3 := Try.sizeOf3
 v3 := Try.zeroValue3
 t9 := Try.underlying9
 a9 := Try.isAgg9
 z9 := Try.sizeOf9
 v9 := Try.zeroValue9
 t37 := Try.underlying195
 a37 := Try.isAgg195
 z37 := Try.sizeOf195
 v37 := Try.zeroValue195
 t70 := Try.underlying205
 a70 := Try.isAgg205
 z70 := Try.sizeOf205
 v70 := Try.zeroValue205
 t72 := Try.underlying207
 a72 := Try.isAgg207
 z72 := Try.sizeOf207
 v72 := Try.zeroValue207
 t127 := Try.underlying255
 a127 := Try.isAgg255
 z127 := Try.sizeOf255
 v127 := Try.zeroValue255 }
theorem tlayX169 : Go.Proofs.Builder.Extra Try.prog tlay169_ren := {
 sizeBuilder := by kernel_rfl
 liesBuilder := by kernel_rfl
 t5 := Try.underlying5
 a5 := Try.isAgg5
 z5 := Try.sizeOf5
 v5 := Try.zeroValue5
 infoByte := by kernel_rfl
 cellsByte := by kernel_rfl
 sizeByte := by kernel_rfl
 neB5 := by decide }
theorem bd_string (B b : Nat) (l : List UInt8) (w : World) (h : Lib.IsBuilder 207 5 B b (Lib.byteCells l) w) (hBw : B ≤ w.heap.size) :
 Calls Try.prog 181 #[.pointer (some ⟨b, 0, none⟩)] w fun e w' => e = .returned (.string ⟨l.toArray⟩) ∧ Below B w w' := Go.Proofs.Any.Builder_String_any tlay169 tlayX169 B b l w h hBw
theorem bdSize : (Try.prog.info? 207).map (·.size) = some 2 := by kernel_rfl
theorem bdLies : liesAt Try.prog Try.prog.depth 207 (2 / Try.prog.cellsOf 207) 0 207 1 = true := by kernel_rfl
theorem bdInfo : (Try.prog.info? 5).map (fun i => (i.zero, i.size, i.bytes)) = some (some (.int .u8 0), 1, 1) := by kernel_rfl
theorem bd_alloc {T e : TypeId} {B b : Nat} {bs : List Value} {w : World} (h : Lib.IsBuilder T e B b bs w) (o : Obj) : Lib.IsBuilder T e B b bs (w.alloc o) := by
 rcases h with ⟨h1, v, h2, h3, h4⟩ | ⟨h1, v, h2, h3, h4⟩
 ·exact .inl ⟨h1, v, blk_alloc h2 o, h3.alloc o, h4⟩
 ·exact .inr ⟨h1, v, blk_alloc h2 o, h3.alloc o, h4⟩
theorem bd_drew {T e : TypeId} {B b : Nat} {bs : List Value} {w : World} (h : Lib.IsBuilder T e B b bs w) : Lib.IsBuilder T e B b bs w.drew := h
theorem bd_drewN {T e : TypeId} {B b : Nat} {bs : List Value} {w : World} (h : Lib.IsBuilder T e B b bs w) (n : Nat) : Lib.IsBuilder T e B b bs (w.drewN n) := h
theorem own_belowS {B : Nat} {e : TypeId} {k : Nat} {v : Value} {n : Nat} {xs : List Value} {w w' : World} (h : w.ownsRow B e k v n xs) (hb : Below w.heap.size w w') : w'.ownsRow B e k v n xs :=
 h.kept (row := none) ⟨hb.os, hb.tape, hb.output, hb.size, fun i hi _ => hb.block i hi⟩ (by cases v.ownBlock <;> simp)
theorem bd_below {T e : TypeId} {B b : Nat} {bs : List Value} {w w' : World} (h : Lib.IsBuilder T e B b bs w) (hb : Below w.heap.size w w') : Lib.IsBuilder T e B b bs w' := by
 rcases h with ⟨h1, v, h2, h3, h4⟩ | ⟨h1, v, h2, h3, h4⟩
 ·exact .inl ⟨h1, v, blk_below h2 hb, own_belowS h3 hb, h4⟩
 ·exact .inr ⟨h1, v, blk_below h2 hb, own_belowS h3 hb, h4⟩
/-- What is neither a builder nor bytes is as it was. -/
def KT (w w' : World) : Prop := ∀ (g : Nat) (cs : Array Value) (t : TypeId), w.heap[g]? = some (.cells cs t (0, 0)) → t ≠ 207 → t ≠ 5 → w'.heap[g]? = some (.cells cs t (0, 0))
theorem bd_ne {w : World} {g g' : Nat} {t t' : TypeId} {cs cs' : Array Value} (h : w.heap[g]? = some (.cells cs t (0, 0))) (h' : w.heap[g']? = some (.cells cs' t' (0, 0))) (hne : t ≠ t') : g ≠ g' := by
 rintro rfl
 rw [h] at h'
 simp only [Option.some.injEq, Obj.cells.injEq] at h'
 exact hne h'.2.1
theorem KT.rf (w : World) : KT w w := fun _ _ _ h _ _ => h
theorem KT.tr {w w1 w2 : World} (h : KT w w1) (k : KT w1 w2) : KT w w2 := fun g cs t q a b => k g cs t (h g cs t q a b) a b
theorem KT.al {w w1 : World} (h : KT w w1) (o : Obj) : KT w (w1.alloc o) := fun g cs t q a b => blk_alloc (h g cs t q a b) o
theorem KT.st {w w1 : World} (h : KT w w1) {b j : Nat} {cs0 : Array Value} (hb : w1.heap[b]? = some (.cells cs0 207 (0, 0))) (v : Value) : KT w (w1.setCell ⟨b, j, none⟩ v) := fun g cs t q a c =>
 blk_far (p := ⟨b, j, none⟩) (h g cs t q a c) (bd_ne (h g cs t q a c) hb a) v
theorem KT.gr {w w1 w2 : World} (h : KT w w1) {v : Value} {B n : Nat} {xs : List Value} (hown : w1.ownsRow B 5 1 v n xs) (hg : w1.grownBy w2 v.ownBlock) : KT w w2 := fun g cs t q a c => by
 have h1 := h g cs t q a c
 refine (hg.block g (blk_lt h1) (fun e => ?_)).trans h1
 obtain ⟨c', fz, h2⟩ := Lib.ownsRow_kind hown g e.symm
 rw [h1] at h2
 simp only [Option.some.injEq, Obj.cells.injEq] at h2
 exact c h2.2.1
set_option maxHeartbeats 1000000 in
theorem bd_check (B b : Nat) (bs : List Value) (w : World) (h : Lib.IsBuilder 207 5 B b bs w) :
 Calls Try.prog 231 #[.pointer (some ⟨b, 0, none⟩)] w fun e w' => e = .returned (.tuple #[]) ∧ (Lib.BuilderAt 207 5 B b (.pointer (some ⟨b, 0, none⟩)) bs w' ∧ Below B w w' ∧ KT w w') := by
 obtain ⟨j, hj, hjs⟩ := Option.map_eq_some_iff.1 bdSize
 rcases h with h | h
 ·have h0 := h.cell0
  have hsh := h.shape
  have hfz := h.frozen0
  have HB := zQ h
  clear h
  go_enter Try.func231, Try.ntmps231
  go_wp2
  rw [Lib.run_to_unsafe w ⟨b, 0, none⟩ Try.underlying205 Try.underlying276 hj (by rw [hjs]; decide) hsh (Nat.zero_lt_succ 1)]
  simp only [Result.andThen]
  rw [Oper.upon_value]
  go_wp2
  rw [run_callFunc_extern Try.func258 (by kernel_rfl) (by kernel_rfl) (by kernel_rfl) (e := Extern.AbiNoEscape.same) (by kernel_rfl)]
  rw [Lib.run_noEscape]
  simp only [Result.andThen]
  rw [Oper.upon_value]
  go_wp2
  rw [Lib.run_from_unsafe w ⟨b, 0, none⟩ Try.underlying276 Try.underlying205 hj hsh bdLies]
  simp only [Result.andThen]
  rw [Oper.upon_value]
  go_wp2
  go_end0
  obtain ⟨v, hbk, _⟩ := HB.out.2
  exact ⟨rfl, HB.out.used _, (Below.refl B w).setCell (p := ⟨b, 0, none⟩) HB.out.1 _, (KT.rf w).st hbk _⟩
 ·have h0 := h.cell0
  have HB := zQ h
  clear h
  go_enter Try.func231, Try.ntmps231
  go_wp2
  rw [Lib.run_neq_ptr_same w _ Try.underlying205 hj]
  go_wp2
  go_end0
  exact ⟨rfl, HB.out, Below.refl B _, KT.rf _⟩
set_option maxHeartbeats 2000000 in
theorem bd_byte (B b : Nat) (bs : List Value) (c : Int) (w : World) (h : Lib.IsBuilder 207 5 B b bs w) (hlen : bs.length + 1 ≤ 140737488355328) (hBw : B ≤ w.heap.size) :
 Calls Try.prog 178 #[.pointer (some ⟨b, 0, none⟩), .int .u8 c] w fun e w' => e = .returned .nilIface ∧ (Lib.BuilderAt 207 5 B b (.pointer (some ⟨b, 0, none⟩)) (bs ++ [.int .u8 c]) w' ∧ Below B w w' ∧ KT w w') := by
 obtain ⟨i0, hi, hz0, hz1, hz2⟩ := info_parts bdInfo
 go_enter Try.func178, Try.ntmps178
 go_wp2_with (go_at_call 231; refine (bd_check B b bs _ h).mono ?_)
 rintro e w1 ⟨rfl, h1, hb1, kt1⟩
 obtain ⟨hB, v, hbk, hown, hne⟩ := h1
 have c0 : w1.cell? ⟨b, 0, none⟩ = some (.pointer (some ⟨b, 0, none⟩)) := by rw [Lib.cell_of_heap hbk]; rfl
 have c1 : w1.cell? ⟨b, 1, none⟩ = some v := by rw [Lib.cell_of_heap hbk]; rfl
 go_wp2_with (at_builtin; refine wpList_append_own _ rfl _ _ 195 rfl B 5 i0 (.int .u8 0) 1 1 Try.underlying195 hi hz0 hz1 hz2 rfl (by decide) _ _ _ rfl (hown.alloc _) ⟨w1.heap.size, 0, none⟩ 1 1 [.int .u8 c] rfl rfl ?c1 ?c2 ?c3 ?c4 ?c5 ?_)
 case c1 =>
  intro j u hj
  match j, hj with
  | 0, hj => simp at hj; subst hj; simp [Addr.add]
 case c2 => intro u hu; simp at hu; subst hu; rfl
 case c3 => unfold maxLen; omega
 case c4 => omega
 case c5 => have := hb1.size; simp; omega
 intro v' w2 hown' hgrow _
 have hlt : b < w1.heap.size := blk_lt hbk
 have hb2 : w2.heap[b]? = some (.cells #[.pointer (some ⟨b, 0, none⟩), v] 207 (0, 0)) := by
  rw [hgrow.block b (by simp; omega) (fun e => hne e.symm)]
  exact blk_alloc hbk _
 have d0 : w2.cell? ⟨b, 0, none⟩ = some (.pointer (some ⟨b, 0, none⟩)) := by rw [Lib.cell_of_heap hb2]; rfl
 have d1 : w2.cell? ⟨b, 1, none⟩ = some v := by rw [Lib.cell_of_heap hb2]; rfl
 have f1 : w2.frozen? ⟨b, 1, none⟩ = false := Lib.frozen_of_heap hb2 1
 obtain ⟨g, cap, rfl⟩ : ∃ g cap, v' = .slice (some ⟨g, 0, none⟩) (bs.length + 1) cap := by
  rcases hown'.2 with ⟨_, h0⟩ | ⟨g, cap, cur, hv, _⟩
  ·omega
  ·exact ⟨g, cap, hv⟩
 go_wp2
 go_ret
 refine ⟨rfl, ?_, ?_, ?_⟩
 ·exact Lib.BuilderAt.put (T := 207) (e := 5) hB hb2 (bs' := bs ++ [.int .u8 c]) (by simpa using hown') (by decide)
 ·exact ((hb1.alloc (by have := hb1.size; omega) _).grown hgrow (by have := hb1.size; simp; omega) (fun k hk => (hown.lt k hk).1)).setCell (p := ⟨b, 1, none⟩) hB _
 ·exact ((kt1.al _).gr (hown.alloc _) hgrow).st hb2 _
set_option maxHeartbeats 2000000 in
theorem bd_str (B b : Nat) (bs : List Value) (s : ByteArray) (w : World) (h : Lib.IsBuilder 207 5 B b bs w) (hlen : bs.length + s.size ≤ 140737488355328) (hBw : B ≤ w.heap.size) :
 Calls Try.prog 180 #[.pointer (some ⟨b, 0, none⟩), .string s] w fun e w' => e = .returned (.tuple #[.int .i64 s.size, .nilIface]) ∧ (Lib.BuilderAt 207 5 B b (.pointer (some ⟨b, 0, none⟩)) (bs ++ Lib.strCells s) w' ∧ Below B w w' ∧ KT w w') := by
 obtain ⟨i0, hi, hz0, hz1, hz2⟩ := info_parts bdInfo
 go_enter Try.func180, Try.ntmps180
 go_wp2_with (go_at_call 231; refine (bd_check B b bs _ h).mono ?_)
 rintro e w1 ⟨rfl, h1, hb1, kt1⟩
 obtain ⟨hB, v, hbk, hown, hne⟩ := h1
 have c0 : w1.cell? ⟨b, 0, none⟩ = some (.pointer (some ⟨b, 0, none⟩)) := by rw [Lib.cell_of_heap hbk]; rfl
 have c1 : w1.cell? ⟨b, 1, none⟩ = some v := by rw [Lib.cell_of_heap hbk]; rfl
 go_wp2_with (at_builtin; refine Lib.wpList_append_own_string _ rfl _ _ 195 9 rfl B 5 i0 Try.underlying195 Try.underlying9 hi hz0 hz1 hz2 _ _ _ rfl hown s rfl ?c3 ?c4 ?c5 ?_)
 case c3 => unfold maxLen; omega
 case c4 => omega
 case c5 => have := hb1.size; omega
 intro v' w2 hown' hgrow _
 have hlt : b < w1.heap.size := blk_lt hbk
 have hb2 : w2.heap[b]? = some (.cells #[.pointer (some ⟨b, 0, none⟩), v] 207 (0, 0)) := by
  rw [hgrow.block b hlt (fun e => hne e.symm)]
  exact hbk
 have d0 : w2.cell? ⟨b, 0, none⟩ = some (.pointer (some ⟨b, 0, none⟩)) := by rw [Lib.cell_of_heap hb2]; rfl
 have d1 : w2.cell? ⟨b, 1, none⟩ = some v := by rw [Lib.cell_of_heap hb2]; rfl
 have f1 : w2.frozen? ⟨b, 1, none⟩ = false := Lib.frozen_of_heap hb2 1
 obtain ⟨ao, n', cap, rfl⟩ : ∃ ao n' cap, v' = .slice ao n' cap := by
  rcases hown'.2 with ⟨hv, _⟩ | ⟨g, cap, cur, hv, _⟩
  ·exact ⟨_, _, _, hv⟩
  ·exact ⟨_, _, _, hv⟩
 go_wp2
 go_ret2
 refine ⟨rfl, ?_, ?_, ?_⟩
 ·exact Lib.BuilderAt.put (T := 207) (e := 5) hB hb2 (bs' := bs ++ Lib.strCells s) (by simpa [Lib.strCells_length] using hown') (by decide)
 ·exact (hb1.grown hgrow (by have := hb1.size; omega) (fun k hk => (hown.lt k hk).1)).setCell (p := ⟨b, 1, none⟩) hB _
 ·exact (kt1.gr hown hgrow).st hb2 _

/-- The bytes of code, from some place on. -/
def ct_go : List S96 → List UInt8 → Option (List UInt8)
 | [], acc => some acc
 | x :: xs, acc => (impl_hasOperand.f 10 x.f0).bind fun b => if b = true then ((impl_put.f 10 x.f1 4).bind fun s => if acc.length + 1 + s.size ≤ 140737488355328 then ct_go xs (acc ++ [UInt8.ofNat (x.f0 % 256).toNat] ++ s.data.toList) else none) else (if acc.length + 1 ≤ 140737488355328 then ct_go xs (acc ++ [UInt8.ofNat (x.f0 % 256).toNat]) else none)
def impl_codeText.f (l0 : List S96) : Option ByteArray := if l0.length ≤ 4096 then ((ct_go l0 []).bind fun l => some ⟨l.toArray⟩) else none
theorem ct_cell (a : Int) : Value.int .u8 (a % 256) = Value.int .u8 ((UInt8.ofNat (a % 256).toNat).toNat : Int) := by
 congr 1
 rw [UInt8.toNat_ofNat']
 omega
theorem ct_cells (acc : List UInt8) (a : Int) : Lib.byteCells acc ++ [Value.int .u8 (a % 256)] = Lib.byteCells (acc ++ [UInt8.ofNat (a % 256).toNat]) := by
 rw [ct_cell]
 simp [Lib.byteCells]
theorem ct_strs (acc : List UInt8) (s : ByteArray) : Lib.byteCells acc ++ Lib.strCells s = Lib.byteCells (acc ++ s.data.toList) := by
 simp [Lib.byteCells, Lib.strCells]
theorem bd_used {T e : TypeId} {B b : Nat} {bs : List Value} {w : World} (h : Lib.BuilderAt T e B b (.pointer (some ⟨b, 0, none⟩)) bs w) : Lib.IsBuilder T e B b bs w := .inr h
theorem impl_codeText.calls (A0 : Option Addr) (c0 : Nat) (l0 : List (S96)) (r : ByteArray) (w : World) (hr0 : Kd.C k96 w A0 l0.length l0) (hc0 : l0.length ≤ c0) (h : impl_codeText.f l0 = some r) :
 Calls Try.prog 112 #[.slice A0 l0.length c0] w fun e w' => e = .returned (.string r) ∧ Below w.heap.size w w' := by
 unfold impl_codeText.f at h
 by_cases hn : l0.length ≤ 4096
 case neg => rw [if_neg hn] at h; cases h
 rw [if_pos hn] at h
 obtain ⟨l, hl, h2⟩ := Option.bind_eq_some_iff.mp h
 obtain rfl := Option.some.inj h2
 clear h h2
 have HN := zQ hn
 clear hn
 have HR0 := zQ hr0
 have HC0 := zQ hc0
 have HL := zQ hl
 have HF := zQ (Lib.fresh_isBuilder 207 5 w)
 have HB := zQ (Below.refl w.heap.size w)
 clear hr0 hc0 hl
 have hu96 := Try.underlying96
 go_enter Try.func112, Try.ntmps112
 go_wp2
 go_loopg [9] (l0.length) (fun kq v9 w' => ∃ (i : Nat) (acc : List UInt8), v9 = .int .i64 (i : Int) ∧ Aside0 (kq + i = l0.length) ∧ Aside0 (ct_go (l0.drop i) acc = some l) ∧ Aside0 (Lib.IsBuilder 207 5 w.heap.size w.heap.size (Lib.byteCells acc) w') ∧ Aside0 (Below w.heap.size w w'))
 case atStart => exact ⟨0, [], by rfl, ⟨by omega⟩, ⟨HL.out⟩, ⟨HF.out⟩, ⟨zB HB.out⟩⟩
 case round =>
  clear HL HF HB
  obtain ⟨i, acc, rfl, HK, HG, HI, HB⟩ := hrel
  have hk0 := HK.out
  by_cases hlt : i < l0.length
  ·cases gk with
   | zero => omega
   | succ k1 =>
    have hg := HG.out
    rw [List.drop_eq_getElem_cons hlt] at hg
    have e0 : rd_T96 l0 (i : Int) = l0[i] := by simp [rd_T96, List.getD_eq_getElem?_getD, hlt]
    rw [← e0] at hg
    simp only [ct_go] at hg
    obtain ⟨b, hb0, hg⟩ := Option.bind_eq_some_iff.mp hg
    obtain ⟨ad, e1, hx0, hx1⟩ := at_T96 HR0.out (i : Int) (by omega) (by omega)
    cases e1
    replace hx0 := zX HB.out hx0
    replace hx1 := zX HB.out hx1
    simp only [Int.toNat_natCast] at hx0 hx1
    have A1 := zQ hb0
    have hn0 := HN.out
    have hbd : (i : Int) ≤ 4096 := by omega
    have hbd0 : (0 : Int) ≤ (i : Int) := by omega
    have p1 : ((i : Int) < (l0.length : Int)) = True := eq_true (by omega)
    have p2 : ((0 : Int) ≤ (i : Int)) = True := eq_true (by omega)
    have p1b : decide ((i : Int) < (l0.length : Int)) = true := decide_eq_true (by omega)
    have HK1 := zQ (show k1 + (i + 1) = l0.length by omega)
    clear hb0 hk0 hn0 hlt e0 HG HK
    cases b with
    | true =>
     rw [if_pos rfl] at hg
     obtain ⟨s, hs0, hg⟩ := Option.bind_eq_some_iff.mp hg
     by_cases hc : acc.length + 1 + s.size ≤ 140737488355328
     case neg => rw [if_neg hc] at hg; cases hg
     rw [if_pos hc] at hg
     have A2 := zQ hs0
     have HG := zQ hg
     have HC := zQ hc
     clear hs0 hg hc
     go_wp2_with (first | (go_at_call 178; (with_reducible refine (bd_byte w.heap.size w.heap.size (Lib.byteCells acc) _ _ (bd_alloc HI.out _) ?l1 ?l2).mono ?_); (case l1 => rw [Lib.byteCells_length]; have := HC.out; omega); (case l2 => have := HB.out.size; simp only [World.alloc, Array.size_push]; omega); rintro e w4 ⟨rfl, hi, hb, kt⟩; have n0_ := zQ ((below_alloc HB.out _).trans hb); have n1_ : Aside0 (Lib.IsBuilder 207 5 w.heap.size w.heap.size (Lib.byteCells (acc ++ [UInt8.ofNat (((rd_T96 l0 (i : Int)).f0) % 256).toNat])) w4) := ⟨by have q_ := bd_used hi; (try simp only [IntKind.wrap_u8] at q_); rw [ct_cells] at q_; exact q_⟩; have n2_ := zQ (kt _ _ _ (blk_new _ _) (by decide) (by decide)); clear HB HI hi hb kt; have HB := n0_; have HI := n1_; have BX := n2_; clear n0_ n1_ n2_; have hc0 := (blk_cell BX.out 0).trans rfl; have hc1 := (blk_cell BX.out 1).trans rfl) | (go_at_call 179; (with_reducible refine (impl_hasOperand.calls 10 _ true _ A1.out).mono ?_); rintro e w' ⟨rfl, ⟨nd, rfl⟩⟩) | (go_at_call 111; (with_reducible refine (impl_put.calls 10 _ 4 s _ A2.out).mono ?_); rintro e w6 ⟨rfl, hb⟩; have n0_ := zQ (below_step (zB HB.out) hb); have n1_ := zQ (bd_below (bd_drewN HI.out _) hb); clear HB HI hb; have HB := n0_; have HI := n1_; clear n0_ n1_) | (go_at_call 180; (with_reducible refine (bd_str w.heap.size w.heap.size _ s _ HI.out ?l3 ?l4).mono ?_); (case l3 => rw [Lib.byteCells_length]; have := HC.out; simp only [List.length_append, List.length_cons, List.length_nil]; omega); (case l4 => exact HB.out.size); rintro e w8 ⟨rfl, hi, hb, kt⟩; have n0_ := zQ (HB.out.trans hb); have n1_ := zQ (bd_used hi); clear HB HI hi hb kt; have HB := n0_; have HI := n1_; clear n0_ n1_))
     go_roundg k1
     case measure => have := HK1.out; omega
     case rel => exact ⟨i + 1, _, by go_num, HK1, HG, ⟨by have q_ := HI.out; rw [ct_strs] at q_; exact q_⟩, HB⟩
    | false =>
     rw [if_neg (by decide)] at hg
     by_cases hc : acc.length + 1 ≤ 140737488355328
     case neg => rw [if_neg hc] at hg; cases hg
     rw [if_pos hc] at hg
     have HG := zQ hg
     have HC := zQ hc
     clear hg hc
     go_wp2_with (first | (go_at_call 178; (with_reducible refine (bd_byte w.heap.size w.heap.size (Lib.byteCells acc) _ _ (bd_alloc HI.out _) ?l1 ?l2).mono ?_); (case l1 => rw [Lib.byteCells_length]; have := HC.out; omega); (case l2 => have := HB.out.size; simp only [World.alloc, Array.size_push]; omega); rintro e w4 ⟨rfl, hi, hb, kt⟩; have n0_ := zQ ((below_alloc HB.out _).trans hb); have n1_ : Aside0 (Lib.IsBuilder 207 5 w.heap.size w.heap.size (Lib.byteCells (acc ++ [UInt8.ofNat (((rd_T96 l0 (i : Int)).f0) % 256).toNat])) w4) := ⟨by have q_ := bd_used hi; (try simp only [IntKind.wrap_u8] at q_); rw [ct_cells] at q_; exact q_⟩; have n2_ := zQ (kt _ _ _ (blk_new _ _) (by decide) (by decide)); clear HB HI hi hb kt; have HB := n0_; have HI := n1_; have BX := n2_; clear n0_ n1_ n2_; have hc0 := (blk_cell BX.out 0).trans rfl; have hc1 := (blk_cell BX.out 1).trans rfl) | (go_at_call 179; (with_reducible refine (impl_hasOperand.calls 10 _ false _ A1.out).mono ?_); rintro e w' ⟨rfl, ⟨nd, rfl⟩⟩))
     go_roundg k1
     case measure => have := HK1.out; omega
     case rel => exact ⟨i + 1, _, by go_num, HK1, HG, ⟨bd_drewN HI.out _⟩, ⟨zB HB.out⟩⟩
  ·have e_ : i = l0.length := by omega
   subst e_
   have p1 : ((l0.length : Int) < (l0.length : Int)) = False := eq_false (by omega)
   have p1b : decide ((l0.length : Int) < (l0.length : Int)) = false := decide_eq_false (by omega)
   have hg := HG.out
   rw [List.drop_of_length_le (Nat.le_refl _)] at hg
   simp only [ct_go] at hg
   obtain rfl := Option.some.inj hg
   clear hg hk0 HG HK hlt
   go_wp2_with (go_at_call 181; (with_reducible refine (bd_string w.heap.size w.heap.size acc _ HI.out ?l5).mono ?_); (case l5 => exact HB.out.size); rintro e w9 ⟨rfl, hb⟩; have n0_ := zQ (HB.out.trans hb); clear HB HI hb; have HB := n0_; clear n0_)
   go_ret
   exact ⟨rfl, HB.out⟩

/-! ### impl_bit: function 113 -/
def impl_bit.f (a0 : Bool) : Option (Int) := if a0 = true then (some 1) else (some 0)
theorem impl_bit.calls (a0 : Bool) (r : Int) (w : World) (h : impl_bit.f a0 = some r) :
 Calls Try.prog 113 #[.bool a0] w fun e w' => e = .returned (.int .i64 r) ∧ Drawn0 w w' := by
 have H : (if a0 = true then (some 1) else (some 0)) = some r := h
 clear h
 by_cases c2 : a0 = true
 ·subst c2
  have H1 : (some 1) = some r := by rw [if_pos rfl] at H; exact H
  clear H
  have H := H1
  clear H1
  obtain rfl := Option.some.inj H
  go_enter Try.func113, Try.ntmps113
  go_wp2
  go_ret
  exact ⟨by first | rfl | (simp; done) | (simp [*]; done), zD⟩
 ·replace c2 := Bool.eq_false_iff.mpr c2
  subst c2
  have H1 : (some 0) = some r := by rw [if_neg (show ¬ (false = true) by decide)] at H; exact H
  clear H
  have H := H1
  clear H1
  obtain rfl := Option.some.inj H
  go_enter Try.func113, Try.ntmps113
  go_wp2
  go_ret
  exact ⟨by first | rfl | (simp; done) | (simp [*]; done), zD⟩

/-! ### impl_long: function 182 -/
def impl_long.f (a0 : ByteArray) : Option (Int) := (impl_when.f (decide ((a0.size : Int) > 65536)) 2).bind fun t339 => (some t339)
theorem impl_long.calls (a0 : ByteArray) (r : Int) (w : World) (h : impl_long.f a0 = some r) :
 Calls Try.prog 182 #[.string a0] w fun e w' => e = .returned (.int .i64 r) ∧ Drawn0 w w' := by
 have H : ((impl_when.f (decide ((a0.size : Int) > 65536)) 2).bind fun t339 => (some t339)) = some r := h
 clear h
 replace H := Option.bind_eq_some_iff.mp H
 obtain ⟨t339, A20, H⟩ := H
 replace H : (some t339) = some r := H
 have A2 := zQ A20
 clear A20
 obtain rfl := Option.some.inj H
 go_enter Try.func182, Try.ntmps182
 go_wp2_with (first | ((with_reducible refine gate_callee (f := 72) rfl ?_); refine goesL_ (some 6) rfl rfl Try.func72 (by kernel_rfl) rfl #[.bool (decide ((a0.size : Int) > 65536)), .int .i64 2] rfl zS ?_; (with_reducible refine (impl_when.calls (decide ((a0.size : Int) > 65536)) 2 t339 _ A2.out).mono ?_); rintro e w' ⟨rfl, ⟨nd, rfl⟩⟩; refine ⟨_, rfl, ?_⟩))
 go_ret
 exact ⟨by first | rfl | (simp; done) | (simp [*]; done), zD⟩

end Go.Proofs.Ytkegjmkdnfpfdaa.MFnExactImageText
