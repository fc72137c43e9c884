/- Proved: the tied card of the law FnExactFbText of the given program: for every input the law returns true, the listed package-level variables reading as the program's own initialisers lay them (tied by the given Tie text). Conditions: none beyond the card's own. -/
import Derived.Test.YtjgdfbcjlebniaaDoorCards
import Derived.Test.YtjgdfbcjlebniaaDoorTie
import Derived.Test.YtjgdfbcjlebniaaDoorMFnExactFbTextx0
import Derived.Test.YtjgdfbcjlebniaaDoorMFnExactFbTextx1
import Derived.Test.YtjgdfbcjlebniaaDoorMFnExactFbTextx2
import Derived.Test.YtjgdfbcjlebniaaDoorMFnExactFbTextx3
import Derived.Test.YtjgdfbcjlebniaaDoorMFnExactFbTextx4
import Derived.Test.YtjgdfbcjlebniaaDoorMFnExactFbTextx5
import Derived.Shelf.LaysM
import Derived.Shelf.Strings.SplitShaped
import Derived.Lib.LaidTab
import Derived.Lib.ItoaLen
import Derived.Lib.AppendIntMem
import Derived.Shelf.Strconv.Itoa3
import Derived.Stop.LaidErr
import Derived.MakeChecks
import Derived.LaidMore
import Derived.WalkKit
import Derived.ProofKit
import Derived.OpenShut
import Derived.ShutString
import Derived.ChangeOld
import Derived.Below
import Derived.SizedLaws
import Derived.ChangeSame
import Derived.Stop.Joined
import Derived.SevenTiedAt
set_option linter.unusedVariables false
set_option linter.unusedSimpArgs false
namespace Go.Proofs
open Go.Shelf
def Tryd.laysM171_ren : Go.Shelf.Ren := ⟨fun | 171 => 65 | 243 => 77 | 246 => 80 | 283 => 83 | 284 => 84 | 285 => 85 | 286 => 86 | 129 => 88 | 317 => 87 | 318 => 89 | 319 => 90 | 320 => 91 | 337 => 92 | 338 => 93 | n => n, fun | 3 => 3 | 9 => 9 | 2 => 2 | 4 => 4 | 171 => 108 | 0 => 0 | 53 => 109 | 37 => 29 | 5 => 5 | 173 => 112 | 212 => 118 | 51 => 93 | 20 => 20 | 213 => 119 | 46 => 115 | 232 => 122 | 233 => 123 | n => n, fun | 17 => 2 | 18 => 3 | 19 => 4 | n => n⟩
theorem Tryd.laysM171 : Go.Proofs.LaysM.n171 Tryd.prog Tryd.laysM171_ren := {
  mixed := by kernel_rfl
  f129 := Tryd.func88.trans (congrArg some (by kernel_rfl))
  f171 := Tryd.func65.trans (congrArg some (by kernel_rfl))
  f243 := Tryd.func77.trans (congrArg some (by kernel_rfl))
  f246 := Tryd.func80.trans (congrArg some (by kernel_rfl))
  f283 := Tryd.func83.trans (congrArg some (by kernel_rfl))
  f284 := Tryd.func84.trans (congrArg some (by kernel_rfl))
  f285 := Tryd.func85.trans (congrArg some (by kernel_rfl))
  f286 := Tryd.func86.trans (congrArg some (by kernel_rfl))
  f317 := Tryd.func87.trans (congrArg some (by kernel_rfl))
  f318 := Tryd.func89.trans (congrArg some (by kernel_rfl))
  f319 := Tryd.func90.trans (congrArg some (by kernel_rfl))
  f320 := Tryd.func91.trans (congrArg some (by kernel_rfl))
  f337 := Tryd.func92.trans (congrArg some (by kernel_rfl))
  f338 := Tryd.func93.trans (congrArg some (by kernel_rfl))
  t0 := Tryd.underlying0
  a0 := Tryd.isAgg0
  z0 := Tryd.sizeOf0
  v0 := Tryd.zeroValue0
  t2 := Tryd.underlying2
  a2 := Tryd.isAgg2
  z2 := Tryd.sizeOf2
  v2 := Tryd.zeroValue2
  t3 := Tryd.underlying3
  a3 := Tryd.isAgg3
  z3 := Tryd.sizeOf3
  v3 := Tryd.zeroValue3
  t4 := Tryd.underlying4
  a4 := Tryd.isAgg4
  z4 := Tryd.sizeOf4
  v4 := Tryd.zeroValue4
  t5 := Tryd.underlying5
  a5 := Tryd.isAgg5
  z5 := Tryd.sizeOf5
  v5 := Tryd.zeroValue5
  t9 := Tryd.underlying9
  a9 := Tryd.isAgg9
  z9 := Tryd.sizeOf9
  v9 := Tryd.zeroValue9
  t20 := Tryd.underlying20
  a20 := Tryd.isAgg20
  z20 := Tryd.sizeOf20
  v20 := Tryd.zeroValue20
  t37 := Tryd.underlying29
  a37 := Tryd.isAgg29
  z37 := Tryd.sizeOf29
  v37 := Tryd.zeroValue29
  t46 := Tryd.underlying115
  a46 := Tryd.isAgg115
  z46 := Tryd.sizeOf115
  v46 := Tryd.zeroValue115
  t51 := Tryd.underlying93
  a51 := Tryd.isAgg93
  z51 := Tryd.sizeOf93
  v51 := Tryd.zeroValue93
  t53 := Tryd.underlying109
  a53 := Tryd.isAgg109
  z53 := Tryd.sizeOf109
  v53 := Tryd.zeroValue109
  t171 := Tryd.underlying108
  a171 := Tryd.isAgg108
  z171 := Tryd.sizeOf108
  v171 := Tryd.zeroValue108
  t173 := Tryd.underlying112
  a173 := Tryd.isAgg112
  z173 := Tryd.sizeOf112
  v173 := Tryd.zeroValue112
  t212 := Tryd.underlying118
  a212 := Tryd.isAgg118
  z212 := Tryd.sizeOf118
  v212 := Tryd.zeroValue118
  t213 := Tryd.underlying119
  a213 := Tryd.isAgg119
  z213 := Tryd.sizeOf119
  t232 := Tryd.underlying122
  a232 := Tryd.isAgg122
  z232 := Tryd.sizeOf122
  v232 := Tryd.zeroValue122
  t233 := Tryd.underlying123
  a233 := Tryd.isAgg123
  z233 := Tryd.sizeOf123
  v233 := Tryd.zeroValue123
  g17 := by kernel_rfl
  g18 := by kernel_rfl
  g19 := by kernel_rfl
  i0 := by kernel_rfl
  i2 := by kernel_rfl
  i3 := by kernel_rfl
  i4 := by kernel_rfl
  i5 := by kernel_rfl
  i9 := by kernel_rfl
  i20 := by kernel_rfl
  i37 := by kernel_rfl
  i46 := by kernel_rfl
  i51 := by kernel_rfl
  i53 := by kernel_rfl
  i171 := by kernel_rfl
  i173 := by kernel_rfl
  i212 := by kernel_rfl
  i232 := by kernel_rfl
  i233 := by kernel_rfl
  m17 := by kernel_rfl
  m18 := by kernel_rfl
  m19 := by kernel_rfl }
open Go.RowKit Go.Sort Go.Lib in
theorem Tryd.strconv_Itoa (n : Int) (h0 : -9223372036854775808 ≤ n) (h1 : n ≤ 9223372036854775807) (w : World) (htab : Lib.TabIs Tryd.prog w "internal/strconv.uint64pow10" .u64 Lib.pow10Tab) :
    Calls Tryd.prog 65 #[.int .i64 n] w fun e w' => e = .returned (.string ⟨(Lib.itoa n).toArray⟩) ∧ ∃ k os, w' = grow (w.drewN k) os := Any.strconv_Itoa Tryd.laysM171 n h0 h1 w htab

end Go.Proofs
namespace Go.Proofs.YtjgdfbcjlebniaaDoor.DFbText
open Go.ChangeShapes Go.WideShapes Go.ChangeAt Go.RowKit
open Go.ChangeMaps (open_string shut_string)
open Go.Proofs.YtjgdfbcjlebniaaDoor.MFnExactFbText Go.Proofs.YtjgdfbcjlebniaaDoorW.PrintWords Go.Proofs.YtjgdfbcjlebniaaDoorW.PrintLast
theorem tab_below {name : String} {kd_ : IntKind} {zs : List Int} {w w' : World} (h : Lib.TabIs Tryd.prog w name kd_ zs) (hb : Below w.heap.size w w') : Lib.TabIs Tryd.prog w' name kd_ zs := by
  unfold Lib.TabIs World.var? at h ⊢
  cases hg : Tryd.prog.globalNamed name with
  | none => simp [hg] at h
  | some g =>
    simp only [hg, Option.bind_some] at h ⊢
    have hlt : g < w.heap.size := by
      rcases Nat.lt_or_ge g w.heap.size with h' | h'
      · exact h'
      · simp [Array.getElem?_eq_none h'] at h
    rw [hb.block g hlt]
    exact h
theorem bcell0 {W w1 : World} (hb : Below W.heap.size W w1) : ∀ b o, b < W.heap.size → w1.cell? ⟨b, o, none⟩ = W.cell? ⟨b, o, none⟩ := fun b o h => hb.cell (p := ⟨b, o, none⟩) h
theorem pow_of_laid {W : World} (h : laidMetH Tryd.prog [("math/bits.deBruijn32tab", Rows.laid_math_bits_deBruijn32tab), ("math/bits.deBruijn64tab", Rows.laid_math_bits_deBruijn64tab), ("internal/strconv.uint64pow10", Rows.laid_internal_strconv_uint64pow10)] W) : Lib.TabIs Tryd.prog W "internal/strconv.uint64pow10" .u64 Lib.pow10Tab := by
  rw [MakeChecks.laidMetH_plain _ _ _ (by kernel_rfl)] at h
  have h2 := h.tail.tail
  rw [show (Rows.laid_internal_strconv_uint64pow10 : DataW Unit) = Lib.tabData .u64 Lib.pow10Tab from by kernel_rfl] at h2
  exact Lib.tabIs_of_head (g := 2) (t := 118) (e := 109) (n := 20) (by kernel_rfl) (by kernel_rfl) (by kernel_rfl) (by kernel_rfl) (by kernel_rfl) (by kernel_rfl) h2
theorem decDigits_len (u : Nat) (h : u < 18446744073709551616) : (Lib.decDigits u).length ≤ 20 := by rw [Lib.decDigits_length]; exact Lib.nDigits_le20 u h
theorem str1 (v : Nat) (h : v < 10) : strOfNums [(wrap64 (48 + (v : Int))) % 256] = ⟨#[UInt8.ofNat (48 + v)]⟩ := by
  have hw : wrap64 (48 + (v : Int)) = ((48 + v : Nat) : Int) := by unfold wrap64; omega
  rw [hw]
  unfold strOfNums
  have e : (((48 + v : Nat) : Int) % 256).toNat = 48 + v := by omega
  simp only [List.map_cons, List.map_nil, e]
theorem digits_nat : ∀ (k u : Nat), u < 10 ^ k → u ≤ 4611686018427387904 → 1 ≤ k → spec_l00Digits.f k (u : Int) = some ⟨(Lib.decDigits u).toArray⟩ := by
  intro k
  induction k with
  | zero => intro u _ _ h; omega
  | succ k ih =>
    intro u hu hb _
    have n1 : ¬ (u : Int) = -9223372036854775808 := by omega
    have n2 : ¬ (u : Int) < 0 := by omega
    simp only [spec_l00Digits.f, if_neg n1, if_neg n2]
    by_cases h : u < 10
    · rw [if_pos (by omega), str1 u h, Lib.decDigits_one h]
    · have hk : 1 ≤ k := by
        rcases Nat.eq_zero_or_pos k with h0 | h0
        · subst h0; simp at hu; omega
        · exact h0
      have hu2 : u / 10 < 10 ^ k := by
        rw [Nat.pow_succ] at hu
        omega
      have ht : Int.tdiv (u : Int) 10 = ((u / 10 : Nat) : Int) := by rw [Int.tdiv_eq_ediv_of_nonneg (by omega)]; omega
      have hm : Int.tmod (u : Int) 10 = ((u % 10 : Nat) : Int) := by rw [Int.tmod_eq_emod_of_nonneg (by omega)]; omega
      have hw : wrap64 (((u / 10 : Nat) : Int)) = ((u / 10 : Nat) : Int) := by unfold wrap64; omega
      have hs : Lib.decDigits u = Lib.decDigits (u / 10) ++ [UInt8.ofNat (48 + u % 10)] := by rw [Lib.decDigits, dif_neg h]
      have hl := decDigits_len (u / 10) (by omega)
      rw [if_neg (by omega), ht, hm, hw, ih (u / 10) hu2 (by omega) hk]
      simp only [Option.bind_some]
      rw [str1 (u % 10) (by omega), if_pos (by
        have e1 : (⟨(Lib.decDigits (u / 10)).toArray⟩ : ByteArray).size = (Lib.decDigits (u / 10)).length := by simp [ByteArray.size]
        have e2 : (⟨#[UInt8.ofNat (48 + u % 10)]⟩ : ByteArray).size = 1 := rfl
        omega), hs]
      congr 1
      try (apply ByteArray.ext; simp)
theorem digits_int (n : Int) (h0 : -4611686018427387904 ≤ n) (h1 : n ≤ 4611686018427387904) (k : Nat) (hk : 25 ≤ k) : spec_l00Digits.f k n = some ⟨(Lib.itoa n).toArray⟩ := by
  by_cases h : n < 0
  · obtain ⟨k, rfl⟩ : ∃ m, k = m + 1 := ⟨k - 1, by omega⟩
    obtain ⟨u, rfl⟩ : ∃ u : Nat, n = -(u : Int) := ⟨n.natAbs, by omega⟩
    have n1 : ¬ -(u : Int) = -9223372036854775808 := by omega
    have hw : wrap64 (-(-(u : Int))) = (u : Int) := by unfold wrap64; omega
    have hp : u < 10 ^ k := Nat.lt_of_lt_of_le (show u < 10 ^ 20 by omega) (Nat.pow_le_pow_right (by omega) (by omega))
    have hl := decDigits_len u (by omega)
    simp only [spec_l00Digits.f, if_neg n1, if_pos h, hw]
    rw [digits_nat k u hp (by omega) (by omega)]
    simp only [Option.bind_some]
    rw [if_pos (by
      have e1 : (⟨(Lib.decDigits u).toArray⟩ : ByteArray).size = (Lib.decDigits u).length := by simp [ByteArray.size]
      omega), Lib.itoa_neg u (by omega)]
    congr 1
    try (apply ByteArray.ext; simp)
  · obtain ⟨u, rfl⟩ : ∃ u : Nat, n = (u : Int) := ⟨n.toNat, by omega⟩
    have hp : u < 10 ^ k := Nat.lt_of_lt_of_le (show u < 10 ^ 20 by omega) (Nat.pow_le_pow_right (by omega) (by omega))
    rw [digits_nat k u hp (by omega) (by omega), Lib.itoa_nonneg]
theorem itoa_size (n : Int) (h0 : -9223372036854775808 ≤ n) (h1 : n ≤ 9223372036854775807) : (⟨(Lib.itoa n).toArray⟩ : ByteArray).size ≤ 21 := by
  have := Lib.itoa_length_le n h0 h1
  simpa [ByteArray.size] using this
theorem decimal_calls (n : Int) (h0 : -9223372036854775808 ≤ n) (h1 : n ≤ 9223372036854775807) (s : ByteArray) (hs : s = ⟨(Lib.itoa n).toArray⟩) (w : World) (hT : Lib.TabIs Tryd.prog w "internal/strconv.uint64pow10" .u64 Lib.pow10Tab) :
    Calls Tryd.prog 54 #[.int .i64 n] w fun e w' => e = .returned (.string s) ∧ Below w.heap.size w w' := by
  have cI := Tryd.strconv_Itoa n h0 h1 w hT
  rw [← hs] at cI
  clear hs hT
  go_enter Tryd.func54, Tryd.ntmps54
  go_wp2_with (first | (go_at_call 65; refine cI.mono ?_; rintro e w1 ⟨rfl, k, os, hw⟩; have HB1 := Aside0.mk (show Below w.heap.size w w1 by rw [hw]; exact Lib.below_grow _ w (Nat.le_refl _) k os); clear hw))
  go_ret
  exact ⟨rfl, HB1.out⟩
theorem within_eq (a lo hi : Int) : impl_within.f a lo hi = some (decide (lo ≤ a ∧ a ≤ hi)) := by
  unfold impl_within.f
  by_cases h : a ≥ lo
  · have h' : lo ≤ a := h
    simp [h, h']
  · have h' : ¬ lo ≤ a := h
    simp [h, h']
theorem l01In_eq (a lo hi : Int) : spec_l01In.f a lo hi = some (decide (lo ≤ a ∧ a ≤ hi)) := by
  unfold spec_l01In.f
  by_cases h : a ≥ lo
  · have h' : lo ≤ a := h
    simp [h, h']
  · have h' : ¬ lo ≤ a := h
    simp [h, h']
def fbokb (kind : Int) (on : Bool) (start count : Int) : Bool :=
  if kind = 1 then decide (0 ≤ start ∧ start ≤ 2147483647 ∧ 0 ≤ count ∧ count ≤ 2147483647 ∧ (on = true ∨ (start = 0 ∧ count = 0)))
  else if kind = 2 then decide (start = 0 ∧ 0 ≤ count ∧ count ≤ 2147483647)
  else if kind = 3 ∨ kind = 4 then decide (start = 0 ∧ count = 0) else false
theorem isTime_eq (a : Int) : impl_isTime.f a = some (decide (0 ≤ a ∧ a ≤ 2147483647)) := by
  unfold impl_isTime.f; rw [within_eq]; rfl
theorem spec_fbok (a : Int) (b : Bool) (c d : Int) : spec_FbOK.f a b c d = some (fbokb a b c d) := by
  unfold spec_FbOK.f fbokb
  simp only [l01In_eq, Option.bind_some]
  by_cases h1 : a = 1
  · simp only [h1, if_true]
    by_cases p : 0 ≤ c ∧ c ≤ 2147483647
    · by_cases q : 0 ≤ d ∧ d ≤ 2147483647
      · cases b
        · by_cases c0 : c = 0
          · by_cases d0 : d = 0 <;> simp [p, q, c0, d0]
          · simp [p, q, c0]
        · simp [p, q]
      · simp [p, q]
        omega
    · simp [p]
      omega
  · by_cases h2 : a = 2
    · subst h2
      by_cases c0 : c = 0 <;> simp [c0]
    · by_cases h3 : a = 3
      · subst h3
        by_cases c0 : c = 0 <;> simp [c0]
        by_cases d0 : d = 0 <;> simp [d0]
      · by_cases h4 : a = 4
        · subst h4
          by_cases c0 : c = 0 <;> simp [c0]
          by_cases d0 : d = 0 <;> simp [d0]
        · simp [h1, h2, h3, h4]
theorem impl_fbok (k : Nat) (hk : 1 ≤ k) (a : Int) (b : Bool) (c d : Int) : impl_FbOK.f k a b c d = some (fbokb a b c d) := by
  obtain ⟨k, rfl⟩ : ∃ m, k = m + 1 := ⟨k - 1, by omega⟩
  unfold impl_FbOK.f fbokb
  simp only [isTime_eq, Option.bind_some, impl_FbOK.j0]
  by_cases p : 0 ≤ c ∧ c ≤ 2147483647
  · by_cases q : 0 ≤ d ∧ d ≤ 2147483647
    · by_cases h1 : a = 1
      · cases b
        · by_cases c0 : c = 0
          · by_cases d0 : d = 0 <;> simp [p, q, h1, c0, d0]
          · simp [p, q, h1, c0]
        · simp [p, q, h1]
      · by_cases h2 : a = 2
        · subst h2
          by_cases c0 : c = 0 <;> simp [p, q, c0]
        · by_cases h3 : a = 3
          · subst h3
            by_cases c0 : c = 0 <;> simp [p, q, c0]
            by_cases d0 : d = 0 <;> simp [d0]
          · by_cases h4 : a = 4
            · subst h4
              by_cases c0 : c = 0 <;> simp [p, q, c0]
              by_cases d0 : d = 0 <;> simp [d0]
            · simp [p, q, h1, h2, h3, h4]
    · have e : (decide (0 ≤ d ∧ d ≤ 2147483647)) = false := by simpa using q
      have z : ¬ d = 0 := by omega
      simp [p, e, z]
      intros
      omega
  · have e : (decide (0 ≤ c ∧ c ≤ 2147483647)) = false := by simpa using p
    have z : ¬ c = 0 := by omega
    simp [e, z]
    intros
    omega
set_option maxHeartbeats 4000000 in
set_option maxRecDepth 100000 in
theorem fbT1t (st ct : Int) (hs0 : 0 ≤ st) (hs1 : st ≤ 2147483647) (hc0 : 0 ≤ ct) (hc1 : ct ≤ 2147483647) (S C : ByteArray) (hS : S = ⟨(Lib.itoa st).toArray⟩) (hC : C = ⟨(Lib.itoa ct).toArray⟩) (w : World) (hP : Lib.TabIs Tryd.prog w "internal/strconv.uint64pow10" .u64 Lib.pow10Tab) :
    Calls Tryd.prog 27 #[.agg #[.int .i64 1, .bool true, .int .i64 st, .int .i64 ct]] w fun e w' => e = .returned (.string (((⟨#[116, 105, 109, 101, 114, 32, 111, 110]⟩ : ByteArray) ++ ((⟨#[32, 115, 116, 97, 114, 116, 32]⟩ : ByteArray) ++ S)) ++ ((⟨#[32, 99, 111, 117, 110, 116, 32]⟩ : ByteArray) ++ C))) ∧ Below w.heap.size w w' := by
  have i0 : ∀ w, (Instr.index 70 (.agg #[.string ⟨#[116, 105, 109, 101, 114]⟩, .string ⟨#[99, 111, 117, 110, 116, 101, 114]⟩, .string ⟨#[101, 100, 103, 101]⟩, .string ⟨#[108, 97, 116, 99, 104]⟩]) (.int .i64 0)).run Tryd.prog w = .ok (.string (⟨#[116, 105, 109, 101, 114]⟩ : ByteArray)) w := fun _ => by kernel_rfl
  have cS := fun w hP => decimal_calls st (by omega) (by omega) S hS w hP
  have cC := fun w hP => decimal_calls ct (by omega) (by omega) C hC w hP
  have zS : S.size ≤ 21 := by rw [hS]; exact itoa_size st (by omega) (by omega)
  have zC : C.size ≤ 21 := by rw [hC]; exact itoa_size ct (by omega) (by omega)
  have HB0 := Aside0.mk ((Below.refl w.heap.size w).alloc (Nat.le_refl _) (.cells #[.int .i64 1, .bool true, .int .i64 st, .int .i64 ct] 26))
  have HP := Aside0.mk (tab_below hP ((Below.refl _ w).alloc (Nat.le_refl _) (.cells #[.int .i64 1, .bool true, .int .i64 st, .int .i64 ct] 26)))
  have s1 : (9223372036854775807 < 7 + S.size) = False := eq_false (by omega)
  have s2 : (9223372036854775807 < 7 + C.size) = False := eq_false (by omega)
  have s3 : (9223372036854775807 < 8 + (7 + C.size)) = False := eq_false (by omega)
  have s4 : (9223372036854775807 < 8 + (7 + S.size)) = False := eq_false (by omega)
  have s5 : (9223372036854775807 < 8 + (7 + S.size) + (7 + C.size)) = False := eq_false (by omega)
  clear hP hS hC zS zC hs0 hs1 hc0 hc1
  go_enter Tryd.func27, Tryd.ntmps27
  go_upto_region 6 with (first | (go_at_call 54; refine (cS _ HP.out).mono ?_; rintro e w1 ⟨rfl, hb⟩; have hcell := bcell0 hb; have HB1 := Aside0.mk (below_then HB0.out HB0.out.size hb); have HP1 := Aside0.mk (tab_below HP.out hb); have hz1 : w.heap.size < w1.heap.size := (by have := hb.size; simp at this; omega); clear hb))
  go_wp2_with (first | (go_at_call 54; refine (cC _ HP1.out).mono ?_; rintro e w2 ⟨rfl, hb⟩; have HB2 := Aside0.mk (below_then HB1.out HB1.out.size hb); clear hb))
  go_ret
  exact ⟨rfl, HB2.out⟩

set_option maxHeartbeats 4000000 in
set_option maxRecDepth 100000 in
theorem fbT1f (st ct : Int) (hs0 : 0 ≤ st) (hs1 : st ≤ 2147483647) (hc0 : 0 ≤ ct) (hc1 : ct ≤ 2147483647) (S C : ByteArray) (hS : S = ⟨(Lib.itoa st).toArray⟩) (hC : C = ⟨(Lib.itoa ct).toArray⟩) (w : World) (hP : Lib.TabIs Tryd.prog w "internal/strconv.uint64pow10" .u64 Lib.pow10Tab) :
    Calls Tryd.prog 27 #[.agg #[.int .i64 1, .bool false, .int .i64 st, .int .i64 ct]] w fun e w' => e = .returned (.string (((⟨#[116, 105, 109, 101, 114, 32, 111, 102, 102]⟩ : ByteArray) ++ ((⟨#[32, 115, 116, 97, 114, 116, 32]⟩ : ByteArray) ++ S)) ++ ((⟨#[32, 99, 111, 117, 110, 116, 32]⟩ : ByteArray) ++ C))) ∧ Below w.heap.size w w' := by
  have i0 : ∀ w, (Instr.index 70 (.agg #[.string ⟨#[116, 105, 109, 101, 114]⟩, .string ⟨#[99, 111, 117, 110, 116, 101, 114]⟩, .string ⟨#[101, 100, 103, 101]⟩, .string ⟨#[108, 97, 116, 99, 104]⟩]) (.int .i64 0)).run Tryd.prog w = .ok (.string (⟨#[116, 105, 109, 101, 114]⟩ : ByteArray)) w := fun _ => by kernel_rfl
  have cS := fun w hP => decimal_calls st (by omega) (by omega) S hS w hP
  have cC := fun w hP => decimal_calls ct (by omega) (by omega) C hC w hP
  have zS : S.size ≤ 21 := by rw [hS]; exact itoa_size st (by omega) (by omega)
  have zC : C.size ≤ 21 := by rw [hC]; exact itoa_size ct (by omega) (by omega)
  have HB0 := Aside0.mk ((Below.refl w.heap.size w).alloc (Nat.le_refl _) (.cells #[.int .i64 1, .bool false, .int .i64 st, .int .i64 ct] 26))
  have HP := Aside0.mk (tab_below hP ((Below.refl _ w).alloc (Nat.le_refl _) (.cells #[.int .i64 1, .bool false, .int .i64 st, .int .i64 ct] 26)))
  have s1 : (9223372036854775807 < 7 + S.size) = False := eq_false (by omega)
  have s2 : (9223372036854775807 < 7 + C.size) = False := eq_false (by omega)
  have s3 : (9223372036854775807 < 9 + (7 + C.size)) = False := eq_false (by omega)
  have s4 : (9223372036854775807 < 9 + (7 + S.size)) = False := eq_false (by omega)
  have s5 : (9223372036854775807 < 9 + (7 + S.size) + (7 + C.size)) = False := eq_false (by omega)
  clear hP hS hC zS zC hs0 hs1 hc0 hc1
  go_enter Tryd.func27, Tryd.ntmps27
  go_upto_region 6 with (first | (go_at_call 54; refine (cS _ HP.out).mono ?_; rintro e w1 ⟨rfl, hb⟩; have hcell := bcell0 hb; have HB1 := Aside0.mk (below_then HB0.out HB0.out.size hb); have HP1 := Aside0.mk (tab_below HP.out hb); have hz1 : w.heap.size < w1.heap.size := (by have := hb.size; simp at this; omega); clear hb))
  go_wp2_with (first | (go_at_call 54; refine (cC _ HP1.out).mono ?_; rintro e w2 ⟨rfl, hb⟩; have HB2 := Aside0.mk (below_then HB1.out HB1.out.size hb); clear hb))
  go_ret
  exact ⟨rfl, HB2.out⟩

set_option maxHeartbeats 4000000 in
set_option maxRecDepth 100000 in
theorem fbT2t (st ct : Int) (hs0 : 0 ≤ st) (hs1 : st ≤ 2147483647) (hc0 : 0 ≤ ct) (hc1 : ct ≤ 2147483647) (S C : ByteArray) (hS : S = ⟨(Lib.itoa st).toArray⟩) (hC : C = ⟨(Lib.itoa ct).toArray⟩) (w : World) (hP : Lib.TabIs Tryd.prog w "internal/strconv.uint64pow10" .u64 Lib.pow10Tab) :
    Calls Tryd.prog 27 #[.agg #[.int .i64 2, .bool true, .int .i64 st, .int .i64 ct]] w fun e w' => e = .returned (.string ((⟨#[99, 111, 117, 110, 116, 101, 114, 32, 111, 110]⟩ : ByteArray) ++ ((⟨#[32, 99, 111, 117, 110, 116, 32]⟩ : ByteArray) ++ C))) ∧ Below w.heap.size w w' := by
  have i0 : ∀ w, (Instr.index 70 (.agg #[.string ⟨#[116, 105, 109, 101, 114]⟩, .string ⟨#[99, 111, 117, 110, 116, 101, 114]⟩, .string ⟨#[101, 100, 103, 101]⟩, .string ⟨#[108, 97, 116, 99, 104]⟩]) (.int .i64 1)).run Tryd.prog w = .ok (.string (⟨#[99, 111, 117, 110, 116, 101, 114]⟩ : ByteArray)) w := fun _ => by kernel_rfl
  have cS := fun w hP => decimal_calls st (by omega) (by omega) S hS w hP
  have cC := fun w hP => decimal_calls ct (by omega) (by omega) C hC w hP
  have zS : S.size ≤ 21 := by rw [hS]; exact itoa_size st (by omega) (by omega)
  have zC : C.size ≤ 21 := by rw [hC]; exact itoa_size ct (by omega) (by omega)
  have HB0 := Aside0.mk ((Below.refl w.heap.size w).alloc (Nat.le_refl _) (.cells #[.int .i64 2, .bool true, .int .i64 st, .int .i64 ct] 26))
  have HP := Aside0.mk (tab_below hP ((Below.refl _ w).alloc (Nat.le_refl _) (.cells #[.int .i64 2, .bool true, .int .i64 st, .int .i64 ct] 26)))
  have s1 : (9223372036854775807 < 7 + S.size) = False := eq_false (by omega)
  have s2 : (9223372036854775807 < 7 + C.size) = False := eq_false (by omega)
  have s3 : (9223372036854775807 < 10 + (7 + C.size)) = False := eq_false (by omega)
  have s4 : (9223372036854775807 < 10 + (7 + S.size)) = False := eq_false (by omega)
  have s5 : (9223372036854775807 < 10 + (7 + S.size) + (7 + C.size)) = False := eq_false (by omega)
  clear hP hS hC zS zC hs0 hs1 hc0 hc1
  go_enter Tryd.func27, Tryd.ntmps27
  go_wp2_with (first | (go_at_call 54; refine (cC _ HP.out).mono ?_; rintro e w2 ⟨rfl, hb⟩; have HB2 := Aside0.mk (below_then HB0.out HB0.out.size hb); clear hb))
  go_ret
  exact ⟨rfl, HB2.out⟩

set_option maxHeartbeats 4000000 in
set_option maxRecDepth 100000 in
theorem fbT2f (st ct : Int) (hs0 : 0 ≤ st) (hs1 : st ≤ 2147483647) (hc0 : 0 ≤ ct) (hc1 : ct ≤ 2147483647) (S C : ByteArray) (hS : S = ⟨(Lib.itoa st).toArray⟩) (hC : C = ⟨(Lib.itoa ct).toArray⟩) (w : World) (hP : Lib.TabIs Tryd.prog w "internal/strconv.uint64pow10" .u64 Lib.pow10Tab) :
    Calls Tryd.prog 27 #[.agg #[.int .i64 2, .bool false, .int .i64 st, .int .i64 ct]] w fun e w' => e = .returned (.string ((⟨#[99, 111, 117, 110, 116, 101, 114, 32, 111, 102, 102]⟩ : ByteArray) ++ ((⟨#[32, 99, 111, 117, 110, 116, 32]⟩ : ByteArray) ++ C))) ∧ Below w.heap.size w w' := by
  have i0 : ∀ w, (Instr.index 70 (.agg #[.string ⟨#[116, 105, 109, 101, 114]⟩, .string ⟨#[99, 111, 117, 110, 116, 101, 114]⟩, .string ⟨#[101, 100, 103, 101]⟩, .string ⟨#[108, 97, 116, 99, 104]⟩]) (.int .i64 1)).run Tryd.prog w = .ok (.string (⟨#[99, 111, 117, 110, 116, 101, 114]⟩ : ByteArray)) w := fun _ => by kernel_rfl
  have cS := fun w hP => decimal_calls st (by omega) (by omega) S hS w hP
  have cC := fun w hP => decimal_calls ct (by omega) (by omega) C hC w hP
  have zS : S.size ≤ 21 := by rw [hS]; exact itoa_size st (by omega) (by omega)
  have zC : C.size ≤ 21 := by rw [hC]; exact itoa_size ct (by omega) (by omega)
  have HB0 := Aside0.mk ((Below.refl w.heap.size w).alloc (Nat.le_refl _) (.cells #[.int .i64 2, .bool false, .int .i64 st, .int .i64 ct] 26))
  have HP := Aside0.mk (tab_below hP ((Below.refl _ w).alloc (Nat.le_refl _) (.cells #[.int .i64 2, .bool false, .int .i64 st, .int .i64 ct] 26)))
  have s1 : (9223372036854775807 < 7 + S.size) = False := eq_false (by omega)
  have s2 : (9223372036854775807 < 7 + C.size) = False := eq_false (by omega)
  have s3 : (9223372036854775807 < 11 + (7 + C.size)) = False := eq_false (by omega)
  have s4 : (9223372036854775807 < 11 + (7 + S.size)) = False := eq_false (by omega)
  have s5 : (9223372036854775807 < 11 + (7 + S.size) + (7 + C.size)) = False := eq_false (by omega)
  clear hP hS hC zS zC hs0 hs1 hc0 hc1
  go_enter Tryd.func27, Tryd.ntmps27
  go_wp2_with (first | (go_at_call 54; refine (cC _ HP.out).mono ?_; rintro e w2 ⟨rfl, hb⟩; have HB2 := Aside0.mk (below_then HB0.out HB0.out.size hb); clear hb))
  go_ret
  exact ⟨rfl, HB2.out⟩

set_option maxHeartbeats 4000000 in
set_option maxRecDepth 100000 in
theorem fbT3t (st ct : Int) (hs0 : 0 ≤ st) (hs1 : st ≤ 2147483647) (hc0 : 0 ≤ ct) (hc1 : ct ≤ 2147483647) (S C : ByteArray) (hS : S = ⟨(Lib.itoa st).toArray⟩) (hC : C = ⟨(Lib.itoa ct).toArray⟩) (w : World) (hP : Lib.TabIs Tryd.prog w "internal/strconv.uint64pow10" .u64 Lib.pow10Tab) :
    Calls Tryd.prog 27 #[.agg #[.int .i64 3, .bool true, .int .i64 st, .int .i64 ct]] w fun e w' => e = .returned (.string ((⟨#[101, 100, 103, 101, 32, 111, 110]⟩ : ByteArray))) ∧ Below w.heap.size w w' := by
  have i0 : ∀ w, (Instr.index 70 (.agg #[.string ⟨#[116, 105, 109, 101, 114]⟩, .string ⟨#[99, 111, 117, 110, 116, 101, 114]⟩, .string ⟨#[101, 100, 103, 101]⟩, .string ⟨#[108, 97, 116, 99, 104]⟩]) (.int .i64 2)).run Tryd.prog w = .ok (.string (⟨#[101, 100, 103, 101]⟩ : ByteArray)) w := fun _ => by kernel_rfl
  have cS := fun w hP => decimal_calls st (by omega) (by omega) S hS w hP
  have cC := fun w hP => decimal_calls ct (by omega) (by omega) C hC w hP
  have zS : S.size ≤ 21 := by rw [hS]; exact itoa_size st (by omega) (by omega)
  have zC : C.size ≤ 21 := by rw [hC]; exact itoa_size ct (by omega) (by omega)
  have HB0 := Aside0.mk ((Below.refl w.heap.size w).alloc (Nat.le_refl _) (.cells #[.int .i64 3, .bool true, .int .i64 st, .int .i64 ct] 26))
  have HP := Aside0.mk (tab_below hP ((Below.refl _ w).alloc (Nat.le_refl _) (.cells #[.int .i64 3, .bool true, .int .i64 st, .int .i64 ct] 26)))
  have s1 : (9223372036854775807 < 7 + S.size) = False := eq_false (by omega)
  have s2 : (9223372036854775807 < 7 + C.size) = False := eq_false (by omega)
  have s3 : (9223372036854775807 < 7 + (7 + C.size)) = False := eq_false (by omega)
  have s4 : (9223372036854775807 < 7 + (7 + S.size)) = False := eq_false (by omega)
  have s5 : (9223372036854775807 < 7 + (7 + S.size) + (7 + C.size)) = False := eq_false (by omega)
  clear hP hS hC zS zC hs0 hs1 hc0 hc1
  go_enter Tryd.func27, Tryd.ntmps27
  go_wp2
  go_ret
  exact ⟨rfl, HB0.out⟩

set_option maxHeartbeats 4000000 in
set_option maxRecDepth 100000 in
theorem fbT3f (st ct : Int) (hs0 : 0 ≤ st) (hs1 : st ≤ 2147483647) (hc0 : 0 ≤ ct) (hc1 : ct ≤ 2147483647) (S C : ByteArray) (hS : S = ⟨(Lib.itoa st).toArray⟩) (hC : C = ⟨(Lib.itoa ct).toArray⟩) (w : World) (hP : Lib.TabIs Tryd.prog w "internal/strconv.uint64pow10" .u64 Lib.pow10Tab) :
    Calls Tryd.prog 27 #[.agg #[.int .i64 3, .bool false, .int .i64 st, .int .i64 ct]] w fun e w' => e = .returned (.string ((⟨#[101, 100, 103, 101, 32, 111, 102, 102]⟩ : ByteArray))) ∧ Below w.heap.size w w' := by
  have i0 : ∀ w, (Instr.index 70 (.agg #[.string ⟨#[116, 105, 109, 101, 114]⟩, .string ⟨#[99, 111, 117, 110, 116, 101, 114]⟩, .string ⟨#[101, 100, 103, 101]⟩, .string ⟨#[108, 97, 116, 99, 104]⟩]) (.int .i64 2)).run Tryd.prog w = .ok (.string (⟨#[101, 100, 103, 101]⟩ : ByteArray)) w := fun _ => by kernel_rfl
  have cS := fun w hP => decimal_calls st (by omega) (by omega) S hS w hP
  have cC := fun w hP => decimal_calls ct (by omega) (by omega) C hC w hP
  have zS : S.size ≤ 21 := by rw [hS]; exact itoa_size st (by omega) (by omega)
  have zC : C.size ≤ 21 := by rw [hC]; exact itoa_size ct (by omega) (by omega)
  have HB0 := Aside0.mk ((Below.refl w.heap.size w).alloc (Nat.le_refl _) (.cells #[.int .i64 3, .bool false, .int .i64 st, .int .i64 ct] 26))
  have HP := Aside0.mk (tab_below hP ((Below.refl _ w).alloc (Nat.le_refl _) (.cells #[.int .i64 3, .bool false, .int .i64 st, .int .i64 ct] 26)))
  have s1 : (9223372036854775807 < 7 + S.size) = False := eq_false (by omega)
  have s2 : (9223372036854775807 < 7 + C.size) = False := eq_false (by omega)
  have s3 : (9223372036854775807 < 8 + (7 + C.size)) = False := eq_false (by omega)
  have s4 : (9223372036854775807 < 8 + (7 + S.size)) = False := eq_false (by omega)
  have s5 : (9223372036854775807 < 8 + (7 + S.size) + (7 + C.size)) = False := eq_false (by omega)
  clear hP hS hC zS zC hs0 hs1 hc0 hc1
  go_enter Tryd.func27, Tryd.ntmps27
  go_wp2
  go_ret
  exact ⟨rfl, HB0.out⟩

set_option maxHeartbeats 4000000 in
set_option maxRecDepth 100000 in
theorem fbT4t (st ct : Int) (hs0 : 0 ≤ st) (hs1 : st ≤ 2147483647) (hc0 : 0 ≤ ct) (hc1 : ct ≤ 2147483647) (S C : ByteArray) (hS : S = ⟨(Lib.itoa st).toArray⟩) (hC : C = ⟨(Lib.itoa ct).toArray⟩) (w : World) (hP : Lib.TabIs Tryd.prog w "internal/strconv.uint64pow10" .u64 Lib.pow10Tab) :
    Calls Tryd.prog 27 #[.agg #[.int .i64 4, .bool true, .int .i64 st, .int .i64 ct]] w fun e w' => e = .returned (.string ((⟨#[108, 97, 116, 99, 104, 32, 111, 110]⟩ : ByteArray))) ∧ Below w.heap.size w w' := by
  have i0 : ∀ w, (Instr.index 70 (.agg #[.string ⟨#[116, 105, 109, 101, 114]⟩, .string ⟨#[99, 111, 117, 110, 116, 101, 114]⟩, .string ⟨#[101, 100, 103, 101]⟩, .string ⟨#[108, 97, 116, 99, 104]⟩]) (.int .i64 3)).run Tryd.prog w = .ok (.string (⟨#[108, 97, 116, 99, 104]⟩ : ByteArray)) w := fun _ => by kernel_rfl
  have cS := fun w hP => decimal_calls st (by omega) (by omega) S hS w hP
  have cC := fun w hP => decimal_calls ct (by omega) (by omega) C hC w hP
  have zS : S.size ≤ 21 := by rw [hS]; exact itoa_size st (by omega) (by omega)
  have zC : C.size ≤ 21 := by rw [hC]; exact itoa_size ct (by omega) (by omega)
  have HB0 := Aside0.mk ((Below.refl w.heap.size w).alloc (Nat.le_refl _) (.cells #[.int .i64 4, .bool true, .int .i64 st, .int .i64 ct] 26))
  have HP := Aside0.mk (tab_below hP ((Below.refl _ w).alloc (Nat.le_refl _) (.cells #[.int .i64 4, .bool true, .int .i64 st, .int .i64 ct] 26)))
  have s1 : (9223372036854775807 < 7 + S.size) = False := eq_false (by omega)
  have s2 : (9223372036854775807 < 7 + C.size) = False := eq_false (by omega)
  have s3 : (9223372036854775807 < 8 + (7 + C.size)) = False := eq_false (by omega)
  have s4 : (9223372036854775807 < 8 + (7 + S.size)) = False := eq_false (by omega)
  have s5 : (9223372036854775807 < 8 + (7 + S.size) + (7 + C.size)) = False := eq_false (by omega)
  clear hP hS hC zS zC hs0 hs1 hc0 hc1
  go_enter Tryd.func27, Tryd.ntmps27
  go_wp2
  go_ret
  exact ⟨rfl, HB0.out⟩

set_option maxHeartbeats 4000000 in
set_option maxRecDepth 100000 in
theorem fbT4f (st ct : Int) (hs0 : 0 ≤ st) (hs1 : st ≤ 2147483647) (hc0 : 0 ≤ ct) (hc1 : ct ≤ 2147483647) (S C : ByteArray) (hS : S = ⟨(Lib.itoa st).toArray⟩) (hC : C = ⟨(Lib.itoa ct).toArray⟩) (w : World) (hP : Lib.TabIs Tryd.prog w "internal/strconv.uint64pow10" .u64 Lib.pow10Tab) :
    Calls Tryd.prog 27 #[.agg #[.int .i64 4, .bool false, .int .i64 st, .int .i64 ct]] w fun e w' => e = .returned (.string ((⟨#[108, 97, 116, 99, 104, 32, 111, 102, 102]⟩ : ByteArray))) ∧ Below w.heap.size w w' := by
  have i0 : ∀ w, (Instr.index 70 (.agg #[.string ⟨#[116, 105, 109, 101, 114]⟩, .string ⟨#[99, 111, 117, 110, 116, 101, 114]⟩, .string ⟨#[101, 100, 103, 101]⟩, .string ⟨#[108, 97, 116, 99, 104]⟩]) (.int .i64 3)).run Tryd.prog w = .ok (.string (⟨#[108, 97, 116, 99, 104]⟩ : ByteArray)) w := fun _ => by kernel_rfl
  have cS := fun w hP => decimal_calls st (by omega) (by omega) S hS w hP
  have cC := fun w hP => decimal_calls ct (by omega) (by omega) C hC w hP
  have zS : S.size ≤ 21 := by rw [hS]; exact itoa_size st (by omega) (by omega)
  have zC : C.size ≤ 21 := by rw [hC]; exact itoa_size ct (by omega) (by omega)
  have HB0 := Aside0.mk ((Below.refl w.heap.size w).alloc (Nat.le_refl _) (.cells #[.int .i64 4, .bool false, .int .i64 st, .int .i64 ct] 26))
  have HP := Aside0.mk (tab_below hP ((Below.refl _ w).alloc (Nat.le_refl _) (.cells #[.int .i64 4, .bool false, .int .i64 st, .int .i64 ct] 26)))
  have s1 : (9223372036854775807 < 7 + S.size) = False := eq_false (by omega)
  have s2 : (9223372036854775807 < 7 + C.size) = False := eq_false (by omega)
  have s3 : (9223372036854775807 < 9 + (7 + C.size)) = False := eq_false (by omega)
  have s4 : (9223372036854775807 < 9 + (7 + S.size)) = False := eq_false (by omega)
  have s5 : (9223372036854775807 < 9 + (7 + S.size) + (7 + C.size)) = False := eq_false (by omega)
  clear hP hS hC zS zC hs0 hs1 hc0 hc1
  go_enter Tryd.func27, Tryd.ntmps27
  go_wp2
  go_ret
  exact ⟨rfl, HB0.out⟩
/-- The text of a block. -/
def fbtx (a : Int) (b : Bool) (S C : ByteArray) : ByteArray := if a = 1 then (if b = true then (((⟨#[116, 105, 109, 101, 114, 32, 111, 110]⟩ : ByteArray) ++ ((⟨#[32, 115, 116, 97, 114, 116, 32]⟩ : ByteArray) ++ S)) ++ ((⟨#[32, 99, 111, 117, 110, 116, 32]⟩ : ByteArray) ++ C)) else (((⟨#[116, 105, 109, 101, 114, 32, 111, 102, 102]⟩ : ByteArray) ++ ((⟨#[32, 115, 116, 97, 114, 116, 32]⟩ : ByteArray) ++ S)) ++ ((⟨#[32, 99, 111, 117, 110, 116, 32]⟩ : ByteArray) ++ C))) else if a = 2 then (if b = true then ((⟨#[99, 111, 117, 110, 116, 101, 114, 32, 111, 110]⟩ : ByteArray) ++ ((⟨#[32, 99, 111, 117, 110, 116, 32]⟩ : ByteArray) ++ C)) else ((⟨#[99, 111, 117, 110, 116, 101, 114, 32, 111, 102, 102]⟩ : ByteArray) ++ ((⟨#[32, 99, 111, 117, 110, 116, 32]⟩ : ByteArray) ++ C))) else if a = 3 then (if b = true then (⟨#[101, 100, 103, 101, 32, 111, 110]⟩ : ByteArray) else (⟨#[101, 100, 103, 101, 32, 111, 102, 102]⟩ : ByteArray)) else if a = 4 then (if b = true then (⟨#[108, 97, 116, 99, 104, 32, 111, 110]⟩ : ByteArray) else (⟨#[108, 97, 116, 99, 104, 32, 111, 102, 102]⟩ : ByteArray)) else ⟨#[]⟩
theorem fbok_kinds {a c d : Int} {b : Bool} (h : fbokb a b c d = true) : (a = 1 ∨ a = 2 ∨ a = 3 ∨ a = 4) ∧ 0 ≤ c ∧ c ≤ 2147483647 ∧ 0 ≤ d ∧ d ≤ 2147483647 := by
  unfold fbokb at h
  split at h
  · have := of_decide_eq_true h; omega
  · split at h
    · have := of_decide_eq_true h; omega
    · split at h
      · have := of_decide_eq_true h; omega
      · cases h
theorem fbText_calls (a : Int) (b : Bool) (c d : Int) (h : fbokb a b c d = true) (S C : ByteArray) (hS : S = ⟨(Lib.itoa c).toArray⟩) (hC : C = ⟨(Lib.itoa d).toArray⟩) (w : World) (hP : Lib.TabIs Tryd.prog w "internal/strconv.uint64pow10" .u64 Lib.pow10Tab) :
    Calls Tryd.prog 27 #[.agg #[.int .i64 a, .bool b, .int .i64 c, .int .i64 d]] w fun e w' => e = .returned (.string (fbtx a b S C)) ∧ Below w.heap.size w w' := by
  obtain ⟨hk, c0, c1, d0, d1⟩ := fbok_kinds h
  rcases hk with rfl | rfl | rfl | rfl <;> cases b
  · exact fbT1f c d c0 c1 d0 d1 S C hS hC w hP
  · exact fbT1t c d c0 c1 d0 d1 S C hS hC w hP
  · exact fbT2f c d c0 c1 d0 d1 S C hS hC w hP
  · exact fbT2t c d c0 c1 d0 d1 S C hS hC w hP
  · exact fbT3f c d c0 c1 d0 d1 S C hS hC w hP
  · exact fbT3t c d c0 c1 d0 d1 S C hS hC w hP
  · exact fbT4f c d c0 c1 d0 d1 S C hS hC w hP
  · exact fbT4t c d c0 c1 d0 d1 S C hS hC w hP
set_option maxHeartbeats 4000000 in
theorem FbText_calls (a : Int) (b : Bool) (c d : Int) (S C : ByteArray) (hS : S = ⟨(Lib.itoa c).toArray⟩) (hC : C = ⟨(Lib.itoa d).toArray⟩) (w : World) (hP : Lib.TabIs Tryd.prog w "internal/strconv.uint64pow10" .u64 Lib.pow10Tab) :
    Calls Tryd.prog 9 #[.agg #[.int .i64 a, .bool b, .int .i64 c, .int .i64 d]] w fun e w' => e = .returned (.tuple #[.string (if fbokb a b c d = true then fbtx a b S C else ⟨#[]⟩), .int .i64 (if fbokb a b c d = true then 0 else 1)]) ∧ Below w.heap.size w w' := by
  have HB0 := Aside0.mk ((Below.refl w.heap.size w).alloc (Nat.le_refl _) (.cells #[.int .i64 a, .bool b, .int .i64 c, .int .i64 d] 26))
  have HP := Aside0.mk (tab_below hP ((Below.refl _ w).alloc (Nat.le_refl _) (.cells #[.int .i64 a, .bool b, .int .i64 c, .int .i64 d] 26)))
  cases hb : fbokb a b c d
  · have cK := fun w => impl_FbOK.calls 3 a b c d false w (by rw [impl_fbok 3 (by omega), hb])
    simp only [Bool.false_eq_true, if_false]
    clear hS hC hP hb
    go_enter Tryd.func9, Tryd.ntmps9
    go_wp2_with (first | (go_at_call 26; refine (cK _).mono ?_; rintro e w1 ⟨rfl, hb⟩; have HB1 := Aside0.mk (below_then HB0.out HB0.out.size hb); clear hb))
    go_ret2
    exact ⟨rfl, HB1.out⟩
  · have cK := fun w => impl_FbOK.calls 3 a b c d true w (by rw [impl_fbok 3 (by omega), hb])
    have cT := fun w hP => fbText_calls a b c d hb S C hS hC w hP
    simp only [if_true]
    generalize fbtx a b S C = r at cT ⊢
    clear hS hC hP hb
    go_enter Tryd.func9, Tryd.ntmps9
    go_wp2_with (first | (go_at_call 26; refine (cK _).mono ?_; rintro e w1 ⟨rfl, hb⟩; have hcell := bcell0 hb; have HB1 := Aside0.mk (below_then HB0.out HB0.out.size hb); have HP1 := Aside0.mk (tab_below HP.out hb); clear hb) | (go_at_call 27; refine (cT _ HP1.out).mono ?_; rintro e w2 ⟨rfl, hb⟩; have HB2 := Aside0.mk (below_then HB1.out HB1.out.size hb); clear hb))
    go_ret2
    exact ⟨rfl, HB2.out⟩
/-- What the reference tells. -/
theorem specl03 (a : Int) (b : Bool) (c d : Int) (h : fbokb a b c d = true) (S C : ByteArray) (hS : S = ⟨(Lib.itoa c).toArray⟩) (hC : C = ⟨(Lib.itoa d).toArray⟩) : spec_l03Text.f 41 a b c d = some (fbtx a b S C) := by
  obtain ⟨hk, c0, c1, d0, d1⟩ := fbok_kinds h
  have dS := digits_int c (by omega) (by omega) 40 (by omega)
  have dC := digits_int d (by omega) (by omega) 40 (by omega)
  rw [← hS] at dS
  rw [← hC] at dC
  have zS : S.size ≤ 21 := by rw [hS]; exact itoa_size c (by omega) (by omega)
  have zC : C.size ≤ 21 := by rw [hC]; exact itoa_size d (by omega) (by omega)
  clear hS hC h
  unfold spec_l03Text.f spec_l03Names.f
  simp only [Option.bind_some]
  rcases hk with rfl | rfl | rfl | rfl
  · rw [if_pos (by decide +kernel), if_pos (by decide +kernel)]
    cases b
    · rw [if_neg (by decide), if_pos (by decide +kernel)]
      rw [show rdOf ByteArray.empty [(⟨#[116, 105, 109, 101, 114]⟩ : ByteArray), (⟨#[99, 111, 117, 110, 116, 101, 114]⟩ : ByteArray), (⟨#[101, 100, 103, 101]⟩ : ByteArray), (⟨#[108, 97, 116, 99, 104]⟩ : ByteArray)] (wrap64 (1 - 1)) ++ (⟨#[32, 111, 102, 102]⟩ : ByteArray) = (⟨#[116, 105, 109, 101, 114, 32, 111, 102, 102]⟩ : ByteArray) from by decide +kernel]
      have e0 : (⟨#[116, 105, 109, 101, 114, 32, 111, 102, 102]⟩ : ByteArray).size = 9 := rfl
      have e1 : (⟨#[32, 115, 116, 97, 114, 116, 32]⟩ : ByteArray).size = 7 := rfl
      have e2 : (⟨#[32, 99, 111, 117, 110, 116, 32]⟩ : ByteArray).size = 7 := rfl
      simp only [spec_l03Text.j0, if_true, dS, dC, Option.bind_some, ByteArray.size_append, e0, e1, e2]
      rw [if_pos (by omega), if_pos (by omega), if_pos (by omega), if_pos (by omega)]
      simp only [fbtx, if_true, ByteArray.append_assoc, Bool.false_eq_true, if_false]
    · rw [if_pos rfl, if_pos (by decide +kernel)]
      rw [show rdOf ByteArray.empty [(⟨#[116, 105, 109, 101, 114]⟩ : ByteArray), (⟨#[99, 111, 117, 110, 116, 101, 114]⟩ : ByteArray), (⟨#[101, 100, 103, 101]⟩ : ByteArray), (⟨#[108, 97, 116, 99, 104]⟩ : ByteArray)] (wrap64 (1 - 1)) ++ (⟨#[32, 111, 110]⟩ : ByteArray) = (⟨#[116, 105, 109, 101, 114, 32, 111, 110]⟩ : ByteArray) from by decide +kernel]
      have e0 : (⟨#[116, 105, 109, 101, 114, 32, 111, 110]⟩ : ByteArray).size = 8 := rfl
      have e1 : (⟨#[32, 115, 116, 97, 114, 116, 32]⟩ : ByteArray).size = 7 := rfl
      have e2 : (⟨#[32, 99, 111, 117, 110, 116, 32]⟩ : ByteArray).size = 7 := rfl
      simp only [spec_l03Text.j0, if_true, dS, dC, Option.bind_some, ByteArray.size_append, e0, e1, e2]
      rw [if_pos (by omega), if_pos (by omega), if_pos (by omega), if_pos (by omega)]
      simp only [fbtx, if_true, ByteArray.append_assoc]
  · rw [if_pos (by decide +kernel), if_pos (by decide +kernel)]
    cases b
    · rw [if_neg (by decide), if_pos (by decide +kernel)]
      rw [show rdOf ByteArray.empty [(⟨#[116, 105, 109, 101, 114]⟩ : ByteArray), (⟨#[99, 111, 117, 110, 116, 101, 114]⟩ : ByteArray), (⟨#[101, 100, 103, 101]⟩ : ByteArray), (⟨#[108, 97, 116, 99, 104]⟩ : ByteArray)] (wrap64 (2 - 1)) ++ (⟨#[32, 111, 102, 102]⟩ : ByteArray) = (⟨#[99, 111, 117, 110, 116, 101, 114, 32, 111, 102, 102]⟩ : ByteArray) from by decide +kernel]
      have e0 : (⟨#[99, 111, 117, 110, 116, 101, 114, 32, 111, 102, 102]⟩ : ByteArray).size = 11 := rfl
      have e2 : (⟨#[32, 99, 111, 117, 110, 116, 32]⟩ : ByteArray).size = 7 := rfl
      simp only [spec_l03Text.j0, if_true, dS, dC, Option.bind_some, ByteArray.size_append, e0, e2]
      rw [if_neg (by decide), if_pos (by omega), if_pos (by omega)]
      rfl
    · rw [if_pos rfl, if_pos (by decide +kernel)]
      rw [show rdOf ByteArray.empty [(⟨#[116, 105, 109, 101, 114]⟩ : ByteArray), (⟨#[99, 111, 117, 110, 116, 101, 114]⟩ : ByteArray), (⟨#[101, 100, 103, 101]⟩ : ByteArray), (⟨#[108, 97, 116, 99, 104]⟩ : ByteArray)] (wrap64 (2 - 1)) ++ (⟨#[32, 111, 110]⟩ : ByteArray) = (⟨#[99, 111, 117, 110, 116, 101, 114, 32, 111, 110]⟩ : ByteArray) from by decide +kernel]
      have e0 : (⟨#[99, 111, 117, 110, 116, 101, 114, 32, 111, 110]⟩ : ByteArray).size = 10 := rfl
      have e2 : (⟨#[32, 99, 111, 117, 110, 116, 32]⟩ : ByteArray).size = 7 := rfl
      simp only [spec_l03Text.j0, if_true, dS, dC, Option.bind_some, ByteArray.size_append, e0, e2]
      rw [if_neg (by decide), if_pos (by omega), if_pos (by omega)]
      rfl
  · rw [if_pos (by decide +kernel), if_pos (by decide +kernel)]
    cases b
    · rw [if_neg (by decide), if_pos (by decide +kernel)]
      rw [show rdOf ByteArray.empty [(⟨#[116, 105, 109, 101, 114]⟩ : ByteArray), (⟨#[99, 111, 117, 110, 116, 101, 114]⟩ : ByteArray), (⟨#[101, 100, 103, 101]⟩ : ByteArray), (⟨#[108, 97, 116, 99, 104]⟩ : ByteArray)] (wrap64 (3 - 1)) ++ (⟨#[32, 111, 102, 102]⟩ : ByteArray) = (⟨#[101, 100, 103, 101, 32, 111, 102, 102]⟩ : ByteArray) from by decide +kernel]
      rfl
    · rw [if_pos rfl, if_pos (by decide +kernel)]
      rw [show rdOf ByteArray.empty [(⟨#[116, 105, 109, 101, 114]⟩ : ByteArray), (⟨#[99, 111, 117, 110, 116, 101, 114]⟩ : ByteArray), (⟨#[101, 100, 103, 101]⟩ : ByteArray), (⟨#[108, 97, 116, 99, 104]⟩ : ByteArray)] (wrap64 (3 - 1)) ++ (⟨#[32, 111, 110]⟩ : ByteArray) = (⟨#[101, 100, 103, 101, 32, 111, 110]⟩ : ByteArray) from by decide +kernel]
      rfl
  · rw [if_pos (by decide +kernel), if_pos (by decide +kernel)]
    cases b
    · rw [if_neg (by decide), if_pos (by decide +kernel)]
      rw [show rdOf ByteArray.empty [(⟨#[116, 105, 109, 101, 114]⟩ : ByteArray), (⟨#[99, 111, 117, 110, 116, 101, 114]⟩ : ByteArray), (⟨#[101, 100, 103, 101]⟩ : ByteArray), (⟨#[108, 97, 116, 99, 104]⟩ : ByteArray)] (wrap64 (4 - 1)) ++ (⟨#[32, 111, 102, 102]⟩ : ByteArray) = (⟨#[108, 97, 116, 99, 104, 32, 111, 102, 102]⟩ : ByteArray) from by decide +kernel]
      rfl
    · rw [if_pos rfl, if_pos (by decide +kernel)]
      rw [show rdOf ByteArray.empty [(⟨#[116, 105, 109, 101, 114]⟩ : ByteArray), (⟨#[99, 111, 117, 110, 116, 101, 114]⟩ : ByteArray), (⟨#[101, 100, 103, 101]⟩ : ByteArray), (⟨#[108, 97, 116, 99, 104]⟩ : ByteArray)] (wrap64 (4 - 1)) ++ (⟨#[32, 111, 110]⟩ : ByteArray) = (⟨#[108, 97, 116, 99, 104, 32, 111, 110]⟩ : ByteArray) from by decide +kernel]
      rfl
theorem specFbText (a : Int) (b : Bool) (c d : Int) (S C : ByteArray) (hS : S = ⟨(Lib.itoa c).toArray⟩) (hC : C = ⟨(Lib.itoa d).toArray⟩) : spec_FbText.f 41 a b c d = some (if fbokb a b c d = true then fbtx a b S C else ⟨#[]⟩, if fbokb a b c d = true then 0 else 1) := by
  unfold spec_FbText.f
  rw [spec_fbok]
  simp only [Option.bind_some]
  cases hb : fbokb a b c d
  · rfl
  · simp only [if_true]
    rw [specl03 a b c d hb S C hS hC]
    rfl
set_option maxHeartbeats 4000000 in
theorem walk (a : Int) (b : Bool) (c d : Int) (w : World) (hP : Lib.TabIs Tryd.prog w "internal/strconv.uint64pow10" .u64 Lib.pow10Tab) :
    Calls Tryd.prog 3 #[.agg #[.int .i64 a, .bool b, .int .i64 c, .int .i64 d]] w fun e w' => e = .returned (.bool true) ∧ Below w.heap.size w w' := by
  have cI := fun w hP => FbText_calls a b c d _ _ rfl rfl w hP
  have cS := fun w => spec_FbText.calls 41 a b c d _ _ w (specFbText a b c d _ _ rfl rfl)
  have cO := fun w => laws_toFb.calls a b c d a b c d w rfl
  generalize (if fbokb a b c d = true then fbtx a b ⟨(Lib.itoa c).toArray⟩ ⟨(Lib.itoa d).toArray⟩ else ⟨#[]⟩) = r at cI cS
  generalize (if fbokb a b c d = true then (0 : Int) else 1) = k at cI cS
  have HB0 := Aside0.mk ((Below.refl w.heap.size w).alloc (Nat.le_refl _) (.cells #[.int .i64 a, .bool b, .int .i64 c, .int .i64 d] 23))
  have HP := Aside0.mk (tab_below hP ((Below.refl _ w).alloc (Nat.le_refl _) (.cells #[.int .i64 a, .bool b, .int .i64 c, .int .i64 d] 23)))
  clear hP
  go_enter Tryd.func3, Tryd.ntmps3
  go_upto_region 2 with (first | (go_at_call 8; refine (cO _).mono ?_; rintro e w1 ⟨rfl, hb⟩; have hcell := bcell0 hb; have HB1 := Aside0.mk (below_then HB0.out HB0.out.size hb); have HP1 := Aside0.mk (tab_below HP.out hb); have hz1 : w.heap.size < w1.heap.size := (by have := hb.size; simp at this; omega); clear hb) | (go_at_call 7; refine (cS _).mono ?_; rintro e w2 ⟨rfl, hb⟩; have hcell2 := bcell0 hb; have HB2 := Aside0.mk (below_then HB1.out HB1.out.size hb); have HP2 := Aside0.mk (tab_below HP1.out hb); have hz2 : w.heap.size < w2.heap.size := (by have := hb.size; omega); clear hb))
  go_wp2_with (first | (go_at_call 8; refine (cO _).mono ?_; rintro e w3 ⟨rfl, hb⟩; have HB3 := Aside0.mk (below_then HB2.out HB2.out.size hb); have HP3 := Aside0.mk (tab_below HP2.out hb); clear hb) | (go_at_call 9; refine (cI _ HP3.out).mono ?_; rintro e w4 ⟨rfl, hb⟩; have HB4 := Aside0.mk (below_then HB3.out HB3.out.size hb); clear hb))
  go_ret
  exact ⟨rfl, HB4.out⟩
theorem four_cells {cs : List Value} {v0 v1 v2 v3 : Value} (hl : cs.length = 4) (e0 : (cs.drop 0).take 1 = [v0]) (e1 : (cs.drop 1).take 1 = [v1]) (e2 : (cs.drop 2).take 1 = [v2]) (e3 : (cs.drop 3).take 1 = [v3]) : cs = [v0, v1, v2, v3] := by
  match cs, hl with
  | [x, y, z, u], _ => simp at e0 e1 e2 e3; rw [e0, e1, e2, e3]
theorem own : ownKnob Tryd.prog.godebug = none := by kernel_rfl
theorem laidOut : laidOutB Tryd.prog = true := by kernel_rfl
theorem door_met (os : Os) (args : Array Value) : laidMetH Tryd.prog [("math/bits.deBruijn32tab", Rows.laid_math_bits_deBruijn32tab), ("math/bits.deBruijn64tab", Rows.laid_math_bits_deBruijn64tab), ("internal/strconv.uint64pow10", Rows.laid_internal_strconv_uint64pow10)] ((World.doorLaid Tryd.prog 48 os).forCall (fun _ _ => 0) ⟨#[], args, []⟩).memory :=
  laidMetH_of_parts3 (fuel := 8) (laidMet_of_run' 8 (by kernel_rfl) (by kernel_rfl)) (by kernel_rfl) (by kernel_rfl)
set_option maxRecDepth 100000 in
theorem lifted (os : Os) (started : os.Started) (H : Type) (enc : TypeId × Value → H) :
    ReturnsInHanded {} Tryd.checked os 3 .any (fun w args => (Rows.fnExactFbTextSpec.pre enc Tryd.prog Tryd.f3 [] false w args ∧ laidMetH Tryd.prog [("math/bits.deBruijn32tab", Rows.laid_math_bits_deBruijn32tab), ("math/bits.deBruijn64tab", Rows.laid_math_bits_deBruijn64tab), ("internal/strconv.uint64pow10", Rows.laid_internal_strconv_uint64pow10)] w) ∧ sizedMet enc Tryd.prog Tryd.f3 (OpenSpec.ofChange Rows.fnExactFbTextSpec) false w args)
      (Rows.fnExactFbTextSpec.post enc Tryd.prog Tryd.f3 false true false false) := by
  refine returnsInHanded_of_change_and (C := Tryd.checked) (X := fun w _ => laidMetH Tryd.prog [("math/bits.deBruijn32tab", Rows.laid_math_bits_deBruijn32tab), ("math/bits.deBruijn64tab", Rows.laid_math_bits_deBruijn64tab), ("internal/strconv.uint64pow10", Rows.laid_internal_strconv_uint64pow10)] w) (fun _ _ _ hh h => h.of_heap hh) own started (by kernel_rfl) Tryd.func3
    (ChangeSpec.witness_shaped (enc := enc) (C := Tryd.checked) (os := os) (X := fun w _ => laidMetH Tryd.prog [("math/bits.deBruijn32tab", Rows.laid_math_bits_deBruijn32tab), ("math/bits.deBruijn64tab", Rows.laid_math_bits_deBruijn64tab), ("internal/strconv.uint64pow10", Rows.laid_internal_strconv_uint64pow10)] w) false (World.doorLaid Tryd.prog 48 os) #[.agg #[.int .i64 0, .bool false, .int .i64 0, .int .i64 0]] 8 rfl (World.shaped_of_RefB (by kernel_rfl) (by kernel_rfl)) (by kernel_rfl) (by kernel_rfl) (by kernel_rfl) (door_met os _)) ?_
  intro W base args ds gs before hval0 hW _ _ hL _
  have hval : ∀ (j : Nat) t v, Tryd.f3.params[j]? = some t → args[j]? = some v → Value.okWide Tryd.prog W .any base t v := hval0
  have hW' := hW
  obtain ⟨p, q, hA0, hV, rfl, hfz, hnd⟩ := hW
  have hA : DataW.TrodAll enc Tryd.prog W 0 (fun _ => true) true Tryd.f3.params.toList args.toList ds p := hA0
  rw [Tryd.params3] at hA hval
  obtain ⟨v0, vs0, d0, ds0, p0, q0, hargs, rfl, rfl, h0, r0⟩ := trodAll_cons hA
  obtain ⟨rfl, rfl, rfl⟩ := trodAll_nil r0
  obtain rfl : args = #[v0] := by cases args; simp_all
  obtain ⟨rfl, rfl⟩ := trodVars_none hV
  have k0_ := h0
  have lt0 : ∀ x ∈ p0, x.block < W.heap.size := by obtain ⟨m, hm⟩ := k0_; exact DataW.trod_lt m _ _ _ hm
  obtain ⟨cs0, rfl, hsz0⟩ := okWide_struct Tryd.underlying23 (hval 0 23 v0 rfl rfl)
  obtain ⟨a, b, c, d, rfl⟩ : ∃ (a : Int) (b : Bool) (c d : Int), cs0 = #[.int .i64 a, .bool b, .int .i64 c, .int .i64 d] := by
    obtain ⟨fuel, hf⟩ := h0
    obtain ⟨xs, n, _, _, hlen, hxl, hg⟩ := DataW.trod_struct Tryd.underlying23 hf
    have hlen2 : cs0.toList.length = 4 := hlen.trans (show Tryd.prog.cellsOf 23 = 4 from by kernel_rfl)
    have g0 : DataW.trod enc Tryd.prog W 0 (fun _ => true) true n 3 ((cs0.toList.drop 0).take (Tryd.prog.cellsOf 3)) = xs[0]? := hg 0 _ rfl
    rw [show Tryd.prog.cellsOf 3 = 1 from by kernel_rfl] at g0
    have g1 : DataW.trod enc Tryd.prog W 0 (fun _ => true) true n 4 ((cs0.toList.drop 1).take (Tryd.prog.cellsOf 4)) = xs[1]? := hg 1 _ rfl
    rw [show Tryd.prog.cellsOf 4 = 1 from by kernel_rfl] at g1
    have g2 : DataW.trod enc Tryd.prog W 0 (fun _ => true) true n 3 ((cs0.toList.drop 2).take (Tryd.prog.cellsOf 3)) = xs[2]? := hg 2 _ rfl
    rw [show Tryd.prog.cellsOf 3 = 1 from by kernel_rfl] at g2
    have g3 : DataW.trod enc Tryd.prog W 0 (fun _ => true) true n 3 ((cs0.toList.drop 3).take (Tryd.prog.cellsOf 3)) = xs[3]? := hg 3 _ rfl
    rw [show Tryd.prog.cellsOf 3 = 1 from by kernel_rfl] at g3
    obtain ⟨a0, e0, _⟩ := DataW.trod_int Tryd.underlying3 (g0.trans (List.getElem?_eq_getElem (by rw [hxl]; decide)))
    obtain ⟨a1, e1, _⟩ := DataW.trod_bool Tryd.underlying4 (g1.trans (List.getElem?_eq_getElem (by rw [hxl]; decide)))
    obtain ⟨a2, e2, _⟩ := DataW.trod_int Tryd.underlying3 (g2.trans (List.getElem?_eq_getElem (by rw [hxl]; decide)))
    obtain ⟨a3, e3, _⟩ := DataW.trod_int Tryd.underlying3 (g3.trans (List.getElem?_eq_getElem (by rw [hxl]; decide)))
    refine ⟨a0, a1, a2, a3, Array.toList_inj.1 ?_⟩
    exact four_cells hlen2 e0 e1 e2 e3
  have hP := pow_of_laid hL
  clear hA0 hval0 hL hsz0
  refine (walk a b c d W hP).mono fun e W' ⟨he, bel⟩ => ?_
  subst he
  exact ⟨_, rfl, _, _, _, [], _, [], hW', trodAll_mk1 (shut_bool Tryd.underlying4 _), (trodAll_cons_mk (Below.trod laidOut (by kernel_rfl) (of_decide_eq_true (by kernel_rfl)) k0_ bel lt0) trodAll_mk0), rfl, bel.frame _, fun h => by cases h⟩
theorem said : Rows.FnExactFbTextSaid :=
  OpenClaim.holds_of_wide 3 Tryd.f3 rfl rfl rfl rfl rfl rfl rfl ⟨rfl, rfl, rfl, rfl, rfl⟩ rfl rfl rfl rfl rfl (by kernel_rfl) Tryd.func3 (by kernel_rfl)
    (of_decide_eq_true (by kernel_rfl)) (by unfold Func.isWrapper; first | (rw [if_pos (by decide +kernel)]; kernel_rfl) | (rw [if_neg (by decide +kernel)]; exact ⟨rfl, rfl⟩))
    (fun os started H enc _ => lifted os started H enc)
theorem card : Rows.FnExactFbTextCardSaid :=
  Claim7.holds_tied_plain_at .later [] [.data, .data, .data] true (true, "47d084c603a420e989eb15adc428b4ad82a1d4bd393e058c2c636265c8713f70") false
    said (fun _ h => by cases h) (by kernel_rfl) (fun _ h => by cases h) fnExactFbText_row_tie rfl ⟨rfl, rfl⟩ (by kernel_rfl) rfl
    (fun f fn hf hfn => by
      obtain rfl : f = 3 := Option.some.inj ((show Tryd.prog.funcNamed "loop.example/g00684/laws.FnExactFbText" = some 3 by kernel_rfl).symm.trans hf) |>.symm
      obtain rfl : fn = Tryd.f3 := (Option.some.inj (Tryd.func3.symm.trans hfn)).symm
      exact ⟨by kernel_rfl, fun j t ht => by
        rw [Tryd.params3] at ht
        have hm : t ∈ [23] := by simpa using Array.mem_of_getElem? ht
        have hall : ([23].all fun u => !Tryd.prog.wantsStandIn u) = true := by kernel_rfl
        exact (show Tryd.prog.wantsStandIn t = false by simpa using List.all_eq_true.1 hall t hm)⟩)
    (by kernel_rfl)
#print axioms card
end Go.Proofs.YtjgdfbcjlebniaaDoor.DFbText
namespace Go.Proofs.YtjgdfbcjlebniaaDoor
/-- The card, under a short name, for the claim. -/
theorem fnExactFbTextCard_holds : Rows.FnExactFbTextCardSaid := DFbText.card
end Go.Proofs.YtjgdfbcjlebniaaDoor
