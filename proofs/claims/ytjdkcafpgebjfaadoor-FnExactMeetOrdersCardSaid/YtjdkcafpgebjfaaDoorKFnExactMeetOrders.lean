/- The law FnExactMeetOrders holds at every input. Written by wip/pack.py: the kit's printed words that are used, the functions' walks as wip/gen.py prints them, and hand proofs. -/
import Derived.Test.YtjdkcafpgebjfaaDoorKFnExactMeetOrders2
import Derived.Test.YtjdkcafpgebjfaaDoorRows
import Derived.Test.YtjdkcafpgebjfaaDoorCards
import Derived.Test.YtjdkcafpgebjfaaDoorTie
import Derived.WalkKit
import Derived.ProofKit
import Derived.OpenShut
import Derived.ShutString
import Derived.ChangeOld
import Derived.Below
import Derived.SizedLaws
import Derived.LaidMore
import Derived.Stop.Joined
import Derived.Stop.LaidErr
import Derived.Lib.LaidTab
import Derived.Lib.SmallJoins
import Derived.SevenTiedAt
namespace Go.Proofs.YtjdkcafpgebjfaaDoor.P
open Go.RowKit Go.Proofs.YtjdkcafpgebjfaaDoorW.PrintWords Go.Proofs.YtjdkcafpgebjfaaDoorW.PrintLast Go.Proofs.YtjdkcafpgebjfaaDoorW.PrintMore
open Bool renaming true → T, false → F
open List renaming setIfInBounds_toArray → L_, set_cons_zero → M_, set_cons_succ → N_, map_toArray → P_, map_cons → Q_, map_nil → R_, length_drop → S_, length_take → U_
open Aside0 renaming mk → A_
set_option linter.unusedVariables false
def laws_FnExactMeetOrders.Pure : Prop := ∀ (a0_0 : Int) (l0_1 : List Int) (a1_0 : Int) (l1_1 : List Int), (Lit.int .i64 a0_0).wf = true → l0_1.length ≤ maxLen → (∀ x ∈ l0_1, (Lit.int .i64 x).wf = true) → (Lit.int .i64 a1_0).wf = true → l1_1.length ≤ maxLen → (∀ x ∈ l1_1, (Lit.int .i64 x).wf = true) → ∃ k, laws_FnExactMeetOrders.f k a0_0 l0_1 a1_0 l1_1 = some true
theorem laws_FnExactMeetOrders.walk (P : laws_FnExactMeetOrders.Pure) (a0_0 : Int) (a0_1 : Option Addr) (len0_1 cap0_1 : Nat) (z0_1 : List Int) (a1_0 : Int) (a1_1 : Option Addr) (len1_1 cap1_1 : Nat) (z1_1 : List Int) (w : World) (w0_0 : (Lit.int .i64 a0_0).wf = true) (w0_1 : (a0_1 = none ∧ len0_1 = 0 ∧ cap0_1 = 0 ∧ z0_1 = []) ∨ ∃ x, a0_1 = some x ∧ len0_1 ≤ cap0_1 ∧ cap0_1 ≤ maxLen ∧ z0_1.length = cap0_1 ∧ (∀ i, i < z0_1.length → w.cell? (x.add i) = some (.int .i64 (z0_1.getD i 0))) ∧ ∀ n ∈ z0_1, (Lit.int .i64 n).wf = true) (w1_0 : (Lit.int .i64 a1_0).wf = true) (w1_1 : (a1_1 = none ∧ len1_1 = 0 ∧ cap1_1 = 0 ∧ z1_1 = []) ∨ ∃ x, a1_1 = some x ∧ len1_1 ≤ cap1_1 ∧ cap1_1 ≤ maxLen ∧ z1_1.length = cap1_1 ∧ (∀ i, i < z1_1.length → w.cell? (x.add i) = some (.int .i64 (z1_1.getD i 0))) ∧ ∀ n ∈ z1_1, (Lit.int .i64 n).wf = true) (hT : TabOK w) :
    Calls Tryd.prog 3 #[.agg #[.int .i64 a0_0, .slice a0_1 len0_1 cap0_1], .agg #[.int .i64 a1_0, .slice a1_1 len1_1 cap1_1]] w fun e w' => e = .returned (.bool true) ∧ Below w.heap.size w w' := by
  obtain ⟨l0_1, rfl, hr0_1, hm0_1, hw0_1, hc0_1⟩ := ReadsInt.ofRowC w0_1
  obtain ⟨l1_1, rfl, hr1_1, hm1_1, hw1_1, hc1_1⟩ := ReadsInt.ofRowC w1_1
  obtain ⟨k, h⟩ := P a0_0 l0_1 a1_0 l1_1 w0_0 hm0_1 hw0_1 w1_0 hm1_1 hw1_1
  refine (laws_FnExactMeetOrders.calls k a0_0 _ _ l0_1 a1_0 _ _ l1_1 true w (Kd.C_of_reads (d := (0 : Int)) (h1 := fun _ => rfl) hr0_1) hc0_1 (Kd.C_of_reads (d := (0 : Int)) (h1 := fun _ => rfl) hr1_1) hc1_1 hT h).mono ?_
  rintro e w' ⟨rfl, hd⟩
  exact ⟨rfl, hd⟩
end Go.Proofs.YtjdkcafpgebjfaaDoor.P
namespace Go.Proofs.YtjdkcafpgebjfaaDoor.M
open Go.RowKit Go.Proofs.YtjdkcafpgebjfaaDoorW.PrintMore Go.Proofs.YtjdkcafpgebjfaaDoorW.PrintLast Go.Proofs.YtjdkcafpgebjfaaDoorW.PrintWords
theorem i64_small (n : Nat) (h : n < 9223372036854775808) : IntKind.i64.wrap (n : Int) = (n : Int) := by
  simp [IntKind.wrap, IntKind.signed, IntKind.bits]
  omega
theorem wrap64_id (x : Int) (h0 : -9223372036854775808 ≤ x) (h1 : x ≤ 9223372036854775807) : wrap64 x = x := by
  unfold wrap64
  omega
theorem ofInt64 (a : Nat) (ha : a < 18446744073709551616) : (BitVec.ofInt 64 (a : Int)).toNat = a := by
  rw [BitVec.ofInt_natCast, BitVec.toNat_ofNat]; exact Nat.mod_eq_of_lt (by omega)
theorem and_i64 (a b : Nat) (ha : a < 9223372036854775808) (hb : b < 9223372036854775808) : Go.bits .and .i64 (a : Int) (b : Int) = ((a &&& b : Nat) : Int) := by
  have hx : a &&& b < 2 ^ 63 := Nat.and_lt_two_pow _ (by omega)
  show IntKind.i64.wrap ((BitVec.ofInt 64 (a : Int) &&& BitVec.ofInt 64 (b : Int)).toNat : Int) = _
  rw [BitVec.toNat_and, ofInt64 a (by omega), ofInt64 b (by omega), i64_small _ (by omega)]
theorem or_i64 (a b : Nat) (ha : a < 9223372036854775808) (hb : b < 9223372036854775808) : Go.bits .or .i64 (a : Int) (b : Int) = ((a ||| b : Nat) : Int) := by
  have hx : a ||| b < 2 ^ 63 := Nat.or_lt_two_pow (by omega) (by omega)
  show IntKind.i64.wrap ((BitVec.ofInt 64 (a : Int) ||| BitVec.ofInt 64 (b : Int)).toNat : Int) = _
  rw [BitVec.toNat_or, ofInt64 a (by omega), ofInt64 b (by omega), i64_small _ (by omega)]
def diff (a b : Nat) : Nat := a &&& (a ^^^ b)
theorem testBit_diff (a b i : Nat) : (diff a b).testBit i = (a.testBit i && !b.testBit i) := by
  unfold diff
  rw [Nat.testBit_and, Nat.testBit_xor]
  cases a.testBit i <;> cases b.testBit i <;> rfl
theorem andNot_i64 (a b : Nat) (ha : a < 9223372036854775808) (hb : b < 9223372036854775808) : Go.bits .andNot .i64 (a : Int) (b : Int) = ((diff a b : Nat) : Int) := by
  have hx : diff a b < 2 ^ 63 := Nat.lt_of_le_of_lt Nat.and_le_left (by omega)
  show IntKind.i64.wrap ((BitVec.ofInt 64 (a : Int) &&& ~~~ BitVec.ofInt 64 (b : Int)).toNat : Int) = _
  have e : (BitVec.ofInt 64 (a : Int) &&& ~~~ BitVec.ofInt 64 (b : Int)).toNat = diff a b := by
    apply Nat.eq_of_testBit_eq
    intro i
    rw [BitVec.toNat_and, Nat.testBit_and, testBit_diff, ofInt64 a (by omega)]
    by_cases hi : i < 64
    · rw [show (~~~ BitVec.ofInt 64 (b : Int)).toNat.testBit i = !(BitVec.ofInt 64 (b : Int)).toNat.testBit i from by
        rw [BitVec.testBit_toNat, BitVec.testBit_toNat, BitVec.getLsbD_not]; simp [hi], ofInt64 b (by omega)]
    · rw [Nat.testBit_lt_two_pow (x := a) (i := i) (Nat.lt_of_lt_of_le (by omega : a < 2 ^ 64) (Nat.pow_le_pow_right (by decide) (by omega)))]
      rfl
  rw [e, i64_small _ (by omega)]
theorem shl1 (j : Nat) (h : j ≤ 62) : shl .i64 1 (j : Int) = ((2 ^ j : Nat) : Int) := by
  unfold shl
  have h2 : (2 : Nat) ^ j < 9223372036854775808 := Nat.lt_of_le_of_lt (Nat.pow_le_pow_right (by decide) h) (by decide)
  rw [Int.toNat_natCast, Nat.min_eq_left (by show j ≤ 64; omega), Int.one_mul]
  have := i64_small (2 ^ j) h2
  rwa [Int.natCast_pow] at this ⊢
theorem shr_nat (a j : Nat) (h : j ≤ 64) : shr .i64 (a : Int) (j : Int) = ((a / 2 ^ j : Nat) : Int) := by
  unfold shr
  rw [Int.toNat_natCast, Nat.min_eq_left (by exact h)]
  simp
def bit (s : Int) (j : Nat) : Bool := s.toNat.testBit j
theorem bit_cast (a j : Nat) : bit (a : Int) j = a.testBit j := by simp [bit]
theorem and_one (a : Nat) (j : Nat) : ((a / 2 ^ j) &&& 1 : Nat) = if a.testBit j then 1 else 0 := by
  rw [Nat.and_one_is_mod, Nat.testBit_eq_decide_div_mod_eq]
  rcases Nat.mod_two_eq_zero_or_one (a / 2 ^ j) with h | h <;> simp [h]
theorem has_and (s : Int) (j : Nat) (h0 : 0 ≤ s) (h1 : s < 9223372036854775808) (hj : j ≤ 64) : (Go.bits .and .i64 (shr .i64 s (j : Int)) 1 == 1) = bit s j := by
  obtain ⟨a, rfl⟩ := Int.eq_ofNat_of_zero_le h0
  have hl : a / 2 ^ j < 9223372036854775808 := Nat.lt_of_le_of_lt (Nat.div_le_self _ _) (by omega)
  rw [shr_nat a j hj, show (1 : Int) = ((1 : Nat) : Int) from rfl, and_i64 _ 1 hl (by decide), and_one, bit_cast]
  cases a.testBit j <;> rfl
theorem has_mod (s : Int) (j : Nat) (h0 : 0 ≤ s) (hj : j ≤ 64) : (Int.tmod (shr .i64 s (j : Int)) 2 == 1) = bit s j := by
  obtain ⟨a, rfl⟩ := Int.eq_ofNat_of_zero_le h0
  rw [shr_nat a j hj, bit_cast, Nat.testBit_eq_decide_div_mod_eq, Int.tmod_eq_emod_of_nonneg (Int.natCast_nonneg _)]
  rcases Nat.mod_two_eq_zero_or_one (a / 2 ^ j) with h | h
  · rw [show ((a / 2 ^ j : Nat) : Int) % 2 = 0 from by omega]; simp [h]
  · rw [show ((a / 2 ^ j : Nat) : Int) % 2 = 1 from by omega]; simp [h]
def setOf : Nat → (Nat → Bool) → Nat
  | 0, _ => 0
  | n + 1, q => setOf n q ||| (if q n then 2 ^ n else 0)
theorem testBit_setOf (n : Nat) (q : Nat → Bool) (j : Nat) : (setOf n q).testBit j = (decide (j < n) && q j) := by
  induction n with
  | zero => simp [setOf]
  | succ n ih =>
    unfold setOf
    rw [Nat.testBit_or, ih]
    by_cases hq : q n
    · rw [if_pos hq, Nat.testBit_two_pow]
      by_cases h : n = j
      · subst h; simp [hq]
      · have : (j < n + 1) ↔ j < n := by omega
        simp [h, this]
    · rw [if_neg hq]
      by_cases h : n = j
      · subst h; simp [hq]
      · have : (j < n + 1) ↔ j < n := by omega
        simp [this]
theorem setOf_lt (n : Nat) (q : Nat → Bool) : setOf n q < 2 ^ n := by
  induction n with
  | zero => simp [setOf]
  | succ n ih =>
    unfold setOf
    have h1 : setOf n q < 2 ^ (n + 1) := Nat.lt_of_lt_of_le ih (Nat.pow_le_pow_right (by decide) (by omega))
    refine Nat.or_lt_two_pow h1 ?_
    split
    · exact Nat.pow_lt_pow_right (by decide) (by omega)
    · exact Nat.two_pow_pos _
theorem lt62 {n s : Nat} (h : s < 2 ^ n) (hn : n ≤ 62) : s < 9223372036854775808 := Nat.lt_of_lt_of_le h (Nat.le_trans (Nat.pow_le_pow_right (by decide) hn) (by decide))
theorem setOf_62 (n : Nat) (q : Nat → Bool) (hn : n ≤ 62) : setOf n q < 9223372036854775808 := lt62 (setOf_lt n q) hn
end Go.Proofs.YtjdkcafpgebjfaaDoor.M
namespace Go.Proofs.YtjdkcafpgebjfaaDoor.M
open Go.RowKit Go.Proofs.YtjdkcafpgebjfaaDoorW.PrintMore Go.Proofs.YtjdkcafpgebjfaaDoorW.PrintLast Go.Proofs.YtjdkcafpgebjfaaDoorW.PrintWords
theorem Ev.up {α : Type} {r : α} (G : Nat → Nat → Option α) (n : Nat) (step : ∀ i, i < n → Ev (G (i + 1)) r → Ev (G i) r) (stop : Ev (G n) r) : Ev (G 0) r := by
  have key : ∀ m, m ≤ n → Ev (G (n - m)) r := by
    intro m
    induction m with
    | zero => intro _; exact stop
    | succ m ih =>
      intro hm
      have h := step (n - (m + 1)) (by omega)
      rw [show n - (m + 1) + 1 = n - m from by omega] at h
      exact h (ih (by omega))
  have := key n (Nat.le_refl _)
  rwa [Nat.sub_self] at this
theorem Ev.from {α : Type} {r : α} (G : Nat → Nat → Option α) (n i : Nat) (hi : i ≤ n) (step : ∀ i, i < n → Ev (G (i + 1)) r → Ev (G i) r) (stop : Ev (G n) r) : Ev (G i) r := by
  have h := Ev.up (fun j => G (i + j)) (n - i) (fun j hj h => step (i + j) (by omega) h) (by rw [show i + (n - i) = n from by omega]; exact stop)
  exact h
def allB (n : Nat) (p : Nat → Bool) : Bool := (List.range n).all p
theorem allB_iff {n : Nat} {p : Nat → Bool} : allB n p = true ↔ ∀ j, j < n → p j = true := by simp [allB]
theorem allB_false {n : Nat} {p : Nat → Bool} : allB n p = false ↔ ∃ j, j < n ∧ p j = false := by simp [allB]
theorem least_false {n : Nat} {p : Nat → Bool} (h : ∃ j, j < n ∧ p j = false) : ∃ j, j < n ∧ p j = false ∧ ∀ i, i < j → p i = true := by
  obtain ⟨j, hj, hp⟩ := h
  induction j using Nat.strongRecOn with
  | _ j ih =>
    by_cases hl : ∃ i, i < j ∧ p i = false
    · obtain ⟨i, hi, hpi⟩ := hl
      exact ih i hi (by omega) hpi
    · refine ⟨j, hj, hp, fun i hi => ?_⟩
      cases hc : p i with
      | true => rfl
      | false => exact absurd ⟨i, hi, hc⟩ hl
theorem Ev.all (G : Nat → Nat → Option Bool) (n : Nat) (p : Nat → Bool) (yes : ∀ i r, i < n → p i = true → Ev (G (i + 1)) r → Ev (G i) r) (no : ∀ i, i < n → p i = false → Ev (G i) false) (stop : Ev (G n) true) :
    Ev (G 0) (allB n p) := by
  cases h : allB n p with
  | true =>
    have h := allB_iff.1 h
    exact Ev.up G n (fun i hi => yes i true hi (h i hi)) stop
  | false =>
    obtain ⟨j, hj, hp, hl⟩ := least_false (allB_false.1 h)
    exact Ev.up G j (fun i hi => yes i false (by omega) (hl i hi)) (no j hj hp)
theorem Ev.const {α : Type} {x : Option α} {r : α} (h : x = some r) : Ev (fun _ => x) r := ⟨0, fun _ _ => h⟩
theorem Ev.to {α : Type} {g : Nat → Option α} {r r' : α} (h : Ev g r) (e : r = r') : Ev g r' := e ▸ h
theorem rd_nat (l : List Int) (i : Nat) : rd l (i : Int) = l.getD i 0 := by simp [rd]
theorem rd_get (l : List Int) (i : Nat) (h : i < l.length) : rd l (i : Int) = l[i] := by simp [rd, h]
theorem next64 (i n : Nat) (h : i < n) (hn : n ≤ 140737488355328) : wrap64 ((i : Int) + 1) = ((i + 1 : Nat) : Int) := by unfold wrap64; omega
theorem list_ext_getD {l l' : List Int} (hl : l.length = l'.length) (h : ∀ i, i < l.length → l.getD i 0 = l'.getD i 0) : l = l' := by
  apply List.ext_getElem hl
  intro i h1 h2
  have := h i h1
  simpa [h1, h2] using this
end Go.Proofs.YtjdkcafpgebjfaaDoor.M
namespace Go.Proofs.YtjdkcafpgebjfaaDoor.M
open Go.RowKit Go.Proofs.YtjdkcafpgebjfaaDoorW.PrintMore Go.Proofs.YtjdkcafpgebjfaaDoorW.PrintLast Go.Proofs.YtjdkcafpgebjfaaDoorW.PrintWords Go.Proofs.YtjdkcafpgebjfaaDoor.P
def elems (n s : Nat) : List Nat := (List.range n).filter fun j => s.testBit j
theorem mem_elems {n s j : Nat} : j ∈ elems n s ↔ j < n ∧ s.testBit j = true := by simp [elems]
theorem elems_zero (n : Nat) : elems n 0 = [] := by simp [elems]
def ints (l : List Nat) : List Int := l.map fun (j : Nat) => (j : Int)
theorem ints_length (l : List Nat) : (ints l).length = l.length := by simp [ints]
theorem elems_length_le (n s : Nat) : (elems n s).length ≤ n := by
  unfold elems
  exact Nat.le_trans (List.length_filter_le _ _) (by simp)
theorem filter_range_split (n c : Nat) (h : c < n) (p : Nat → Bool) : (List.range n).filter p = (List.range c).filter p ++ ((if p c then [c] else []) ++ (List.range' (c + 1) (n - (c + 1))).filter p) := by
  have e : List.range n = List.range c ++ ([c] ++ List.range' (c + 1) (n - (c + 1))) := by
    rw [List.range_eq_range', List.range_eq_range']
    have h1 : n = c + (1 + (n - (c + 1))) := by omega
    have e1 : List.range' 0 n = List.range' 0 c ++ List.range' c (1 + (n - (c + 1))) := by
      have := List.range'_append_1 (s := 0) (m := c) (n := 1 + (n - (c + 1)))
      rw [Nat.zero_add] at this
      rw [this, ← h1]
    rw [e1, Nat.add_comm 1, List.range'_succ]
    rfl
  rw [e, List.filter_append, List.filter_append]
  congr 1
  cases hp : p c <;> simp [hp]
theorem elems_least (n s c m : Nat) (hs : s = 2 ^ c * (2 * m + 1)) (hn : s < 2 ^ n) : elems n s = c :: elems n (s &&& (s - 1)) := by
  have hp : 0 < 2 ^ c := Nat.two_pow_pos c
  have e1 : s - 1 = 2 ^ (c + 1) * m + (2 ^ c - 1) := by
    have a1 : 2 ^ c * (2 * m + 1) = 2 ^ (c + 1) * m + 2 ^ c := by rw [Nat.pow_succ, Nat.mul_add, Nat.mul_assoc]; simp
    omega
  have hb : ∀ j, s.testBit j = if j < c then false else if j = c then true else m.testBit (j - (c + 1)) := by
    intro j
    rw [hs, Nat.mul_comm, Nat.testBit_mul_two_pow]
    by_cases h1 : j < c
    · rw [if_pos h1]; simp; omega
    · rw [if_neg h1]
      by_cases h2 : j = c
      · subst h2; simp
      · rw [if_neg h2]
        obtain ⟨d, rfl⟩ : ∃ d, j = c + (d + 1) := ⟨j - c - 1, by omega⟩
        rw [show c + (d + 1) - c = d + 1 from by omega, show c + (d + 1) - (c + 1) = d from by omega, Nat.testBit_succ, show (2 * m + 1) / 2 = m from by omega]
        simp
  have hb1 : ∀ j, (s - 1).testBit j = if j < c then true else if j = c then false else m.testBit (j - (c + 1)) := by
    intro j
    rw [e1, Nat.testBit_two_pow_mul_add m (by have : 2 ^ c < 2 ^ (c + 1) := Nat.pow_lt_pow_right (by decide) (by omega); omega)]
    by_cases h1 : j < c
    · rw [if_pos (by omega), if_pos h1, Nat.testBit_two_pow_sub_one]; simp [h1]
    · rw [if_neg h1]
      by_cases h2 : j = c
      · subst h2; rw [if_pos (by omega), if_pos rfl, Nat.testBit_two_pow_sub_one]; simp
      · rw [if_neg (by omega), if_neg h2]
  have hb2 : ∀ j, (s &&& (s - 1)).testBit j = if j ≤ c then false else s.testBit j := by
    intro j
    rw [Nat.testBit_and, hb, hb1]
    by_cases h1 : j < c
    · simp [h1, Nat.le_of_lt h1]
    · by_cases h2 : j = c
      · simp [h2]
      · rw [if_neg h1, if_neg h1, if_neg h2, if_neg h2, if_neg (by omega)]; simp
  have hc : c < n := by
    apply Nat.lt_of_not_le
    intro hle
    have h1 : 2 ^ n ≤ 2 ^ c := Nat.pow_le_pow_right (by decide) hle
    have h2 : 2 ^ c ≤ s := by rw [hs]; exact Nat.le_mul_of_pos_right _ (by omega)
    omega
  unfold elems
  rw [filter_range_split n c hc, filter_range_split n c hc (fun j => (s &&& (s - 1)).testBit j)]
  have z1 : (List.range c).filter (fun j => s.testBit j) = [] := by
    rw [List.filter_eq_nil_iff]; intro j hj; simp at hj; rw [hb, if_pos hj]; simp
  have z2 : (List.range c).filter (fun j => (s &&& (s - 1)).testBit j) = [] := by
    rw [List.filter_eq_nil_iff]; intro j hj; simp at hj; rw [hb2, if_pos (by omega)]; simp
  have z3 : (List.range' (c + 1) (n - (c + 1))).filter (fun j => s.testBit j) = (List.range' (c + 1) (n - (c + 1))).filter (fun j => (s &&& (s - 1)).testBit j) := by
    apply List.filter_congr
    intro j hj
    rw [List.mem_range'] at hj
    obtain ⟨i, hi, rfl⟩ := hj
    rw [hb2, if_neg (by omega)]
  have y1 : s.testBit c = true := by rw [hb, if_neg (by omega), if_pos rfl]
  have y2 : (s &&& (s - 1)).testBit c = false := by rw [hb2, if_pos (Nat.le_refl _)]
  rw [z1, z2, z3, if_pos y1, y2]
  rfl
theorem and_pred_lt (s : Nat) (h : s ≠ 0) : s &&& (s - 1) < s := Nat.lt_of_le_of_lt Nat.and_le_right (by omega)
theorem u64_small (n : Nat) (h : n < 18446744073709551616) : IntKind.u64.wrap (n : Int) = (n : Int) := by
  simp [IntKind.wrap, IntKind.signed, IntKind.bits]
  omega
theorem members_ev (n : Nat) (hn : n ≤ 62) (s : Nat) (hs : s < 2 ^ n) : Ev (fun k => impl_members.f k (s : Int)) (ints (elems n s)) := by
  have key : ∀ d s, s ≤ d → s < 2 ^ n → ∀ acc : List Int, acc.length + (elems n s).length ≤ 64 → Ev (fun k => impl_members.l0 k (s : Int) acc) (acc ++ ints (elems n s)) := by
    intro d
    induction d with
    | zero =>
      intro s h0 _ acc _
      obtain rfl : s = 0 := by omega
      refine Ev.step (fun _ => rfl) ?_
      simp only [impl_members.l0, Int.natCast_zero, if_true]
      rw [elems_zero]
      simpa [ints] using Ev.now acc
    | succ d ih =>
      intro s h0 hs acc ha
      by_cases hz : s = 0
      · exact ih s (by omega) hs acc ha
      · have hs2 := lt62 hs hn
        obtain ⟨m, hm, hk⟩ := Lib.ctzFrom_spec 64 s (by omega) (by omega)
        have he := elems_least n s _ m hm hs
        have hl : (elems n s).length = (elems n (s &&& (s - 1))).length + 1 := by rw [he]; rfl
        refine Ev.step (fun _ => rfl) ?_
        have hc : Lib.ctz 64 s = Lib.ctzFrom 64 s := by unfold Lib.ctz; rw [if_neg hz]
        have e1 : bits_TrailingZeros.f (IntKind.u64.wrap (s : Int)) = some ((Lib.ctzFrom 64 s : Nat) : Int) := by
          rw [u64_small s (by omega)]
          unfold bits_TrailingZeros.f bits_TrailingZeros64.f
          rw [if_pos ⟨by omega, by omega⟩, Int.toNat_natCast, hc]
          rfl
        have e2 : Go.bits .and .i64 (s : Int) (wrap64 ((s : Int) - 1)) = ((s &&& (s - 1) : Nat) : Int) := by
          rw [show wrap64 ((s : Int) - 1) = ((s - 1 : Nat) : Int) from by unfold wrap64; omega]
          exact and_i64 _ _ (by omega) (by omega)
        simp only [impl_members.l0, if_neg (show ¬ (s : Int) = 0 by omega), e1, Option.bind_some, if_pos (show acc.length < 17592186044416 by omega), e2]
        have := ih (s &&& (s - 1)) (by have := and_pred_lt s hz; omega) (Nat.lt_of_le_of_lt Nat.and_le_left hs) (acc ++ [((Lib.ctzFrom 64 s : Nat) : Int)]) (by simp; omega)
        refine Ev.to this ?_
        rw [he]
        simp [ints]
  have h := key s s (Nat.le_refl _) hs [] (by have := elems_length_le n s; simp; omega)
  exact h
theorem orHas_eq (s : Nat) (j : Nat) (hj : j ≤ 64) : spec_orHas.f (s : Int) (j : Int) = some (s.testBit j) := by
  unfold spec_orHas.f
  rw [if_pos (by omega), has_mod _ _ (by omega) hj, bit_cast]
theorem orList_ev (n : Nat) (hn : n ≤ 62) (s : Nat) (hs : s < 2 ^ n) : Ev (fun k => spec_orList.f k (s : Int)) (ints (elems n s)) := by
  -- up to the place behind the last element
  obtain ⟨t, ht, hlt, hgt⟩ : ∃ t, t ≤ n ∧ s / 2 ^ t = 0 ∧ ∀ i, i < t → 0 < s / 2 ^ i := by
    refine ⟨(if s = 0 then 0 else Nat.log2 s + 1), ?_, ?_, ?_⟩
    · split
      · omega
      · rename_i h
        have := (Nat.log2_lt h (k := n)).2 hs
        omega
    · split
      · rename_i h; simp [h]
      · exact Nat.div_eq_of_lt (Nat.lt_log2_self)
    · intro i hi
      split at hi
      · omega
      · rename_i h
        apply Nat.div_pos _ (Nat.two_pow_pos _)
        exact Nat.le_trans (Nat.pow_le_pow_right (by decide) (by omega : i ≤ Nat.log2 s)) (Nat.log2_self_le h)
  have hs2 := lt62 hs hn
  have hsplit : elems n s = elems t s := by
    unfold elems
    have e : List.range n = List.range t ++ List.range' t (n - t) := by
      rw [List.range_eq_range', List.range_eq_range']
      have := List.range'_append_1 (s := 0) (m := t) (n := n - t)
      rw [Nat.zero_add] at this
      rw [this]
      congr 1
      omega
    rw [e, List.filter_append]
    have z : (List.range' t (n - t)).filter (fun j => s.testBit j) = [] := by
      rw [List.filter_eq_nil_iff]
      intro j hj
      rw [List.mem_range'] at hj
      obtain ⟨i, hi, rfl⟩ := hj
      have h1 : s < 2 ^ t := by
        rcases Nat.div_eq_zero_iff.1 hlt with h | h
        · exact absurd h (Nat.ne_of_gt (Nat.two_pow_pos _))
        · exact h
      rw [Nat.testBit_lt_two_pow (Nat.lt_of_lt_of_le h1 (Nat.pow_le_pow_right (by decide) (by omega)))]
      simp
    rw [z, List.append_nil]
  rw [hsplit]
  unfold spec_orList.f
  refine Ev.up (fun i k => spec_orList.l0 k (s : Int) (ints (elems i s)) (i : Int)) t ?_ ?_
  · intro i hi h
    refine Ev.step (fun _ => rfl) ?_
    have e1 : shr .i64 (s : Int) (i : Int) > 0 := by rw [shr_nat s i (by omega)]; have := hgt i hi; omega
    have hlen := elems_length_le i s
    have e2 : elems (i + 1) s = elems i s ++ (if s.testBit i then [i] else []) := by
      unfold elems
      rw [List.range_succ, List.filter_append]
      congr 1
      cases hb2 : s.testBit i <;> simp [hb2]
    simp only [spec_orList.l0, if_pos (show (0 : Int) ≤ (i : Int) by omega), if_pos e1, orHas_eq s i (by omega), Option.bind_some, next64 i t hi (by omega)]
    rw [e2] at h
    cases hb : s.testBit i with
    | true =>
      simp only [if_true, ints_length, if_pos (show (elems i s).length < 17592186044416 by omega)]
      rw [hb] at h
      simpa [ints] using h
    | false =>
      rw [hb] at h
      simpa [ints] using h
  · refine Ev.step (fun _ => rfl) ?_
    have e1 : ¬ shr .i64 (s : Int) (t : Int) > 0 := by rw [shr_nat s t (by omega)]; omega
    simp only [spec_orList.l0, if_pos (show (0 : Int) ≤ (t : Int) by omega), if_neg e1]
    exact Ev.now _
end Go.Proofs.YtjdkcafpgebjfaaDoor.M
namespace Go.Proofs.YtjdkcafpgebjfaaDoor.M
open Go.RowKit Go.Proofs.YtjdkcafpgebjfaaDoorW.PrintMore Go.Proofs.YtjdkcafpgebjfaaDoorW.PrintLast Go.Proofs.YtjdkcafpgebjfaaDoorW.PrintWords Go.Proofs.YtjdkcafpgebjfaaDoor.P
def isRel (n : Int) (l : List Int) : Bool := decide (0 ≤ n ∧ n ≤ 10 ∧ (l.length : Int) = n ∧ ∀ x ∈ l, 0 ≤ x ∧ x ≤ ((2 ^ n.toNat : Nat) : Int) - 1)
def row (l : List Int) (i : Nat) : Nat := (l.getD i 0).toNat
def B (l : List Int) (i j : Nat) : Bool := (row l i).testBit j
structure Rel (n : Nat) (l : List Int) : Prop where
  le : n ≤ 10
  len : l.length = n
  mem : ∀ x ∈ l, 0 ≤ x ∧ x ≤ ((2 ^ n : Nat) : Int) - 1
theorem isRel_iff {n : Int} {l : List Int} : isRel n l = true ↔ ∃ m : Nat, n = m ∧ Rel m l := by
  unfold isRel
  rw [decide_eq_true_iff]
  constructor
  · rintro ⟨h0, h1, h2, h3⟩
    obtain ⟨m, rfl⟩ := Int.eq_ofNat_of_zero_le h0
    exact ⟨m, rfl, by omega, by omega, by simpa using h3⟩
  · rintro ⟨m, rfl, h⟩
    refine ⟨by omega, by have := h.le; omega, by have := h.len; omega, by simpa using h.mem⟩
section
variable {n : Nat} {l : List Int}
theorem Rel.getD (h : Rel n l) (i : Nat) : l.getD i 0 = ((row l i : Nat) : Int) := by
  unfold row
  by_cases hi : i < l.length
  · have := (h.mem l[i] (List.getElem_mem hi)).1
    rw [show l.getD i 0 = l[i] by simp [hi]]
    omega
  · rw [show l.getD i 0 = 0 by simp [Nat.not_lt.1 hi]]
    rfl
theorem Rel.row_lt (h : Rel n l) (i : Nat) : row l i < 2 ^ n := by
  have hp : 0 < 2 ^ n := Nat.two_pow_pos n
  by_cases hi : i < l.length
  · have h1 := h.mem l[i] (List.getElem_mem hi)
    have h2 := h.getD i
    rw [show l.getD i 0 = l[i] by simp [hi]] at h2
    omega
  · unfold row
    rw [show l.getD i 0 = 0 by simp [Nat.not_lt.1 hi]]
    simpa using hp
theorem Rel.row_62 (h : Rel n l) (i : Nat) : row l i < 9223372036854775808 := lt62 (h.row_lt i) (by have := h.le; omega)
theorem Rel.B_lt (h : Rel n l) {i j : Nat} (hb : B l i j = true) : j < n := by
  apply Nat.lt_of_not_le
  intro hle
  unfold B at hb
  rw [Nat.testBit_lt_two_pow (Nat.lt_of_lt_of_le (h.row_lt i) (Nat.pow_le_pow_right (by decide) hle))] at hb
  cases hb
theorem Rel.B_lt' (h : Rel n l) {i j : Nat} (hb : B l i j = true) : i < n := by
  apply Nat.lt_of_not_le
  intro hle
  unfold B row at hb
  rw [show l.getD i 0 = 0 by simp [h.len, hle]] at hb
  simp at hb
theorem Rel.rd (h : Rel n l) (i : Nat) : rd l (i : Int) = ((row l i : Nat) : Int) := by rw [rd_nat, h.getD]
theorem Rel.bit (h : Rel n l) (i j : Nat) : M.bit (Go.Proofs.YtjdkcafpgebjfaaDoorW.PrintWords.rd l (i : Int)) j = B l i j := by rw [h.rd, bit_cast]; rfl
end
def relL (n : Nat) (p : Nat → Nat → Bool) : List Int := (List.range n).map fun i => ((setOf n (p i) : Nat) : Int)
theorem relL_length (n : Nat) (p : Nat → Nat → Bool) : (relL n p).length = n := by simp [relL]
theorem within_eq (a b c : Int) : impl_within.f a b c = some (decide (b ≤ a ∧ a ≤ c)) := by
  unfold impl_within.f
  by_cases h : a ≥ b
  · rw [if_pos h]; simp [h]
  · rw [if_neg h]; simp; omega
theorem l1In_eq (a b c : Int) : spec_l1In.f a b c = some (decide (b ≤ a ∧ a ≤ c)) := by
  unfold spec_l1In.f
  by_cases h : a ≥ b
  · rw [if_pos h]; simp [h]
  · rw [if_neg h]; simp; omega
def allIn (l : List Int) (a b : Int) : Bool := decide (∀ x ∈ l, a ≤ x ∧ x ≤ b)
theorem allIn_eq (l : List Int) (a b : Int) : allIn l a b = allB l.length fun i => decide (a ≤ l.getD i 0 ∧ l.getD i 0 ≤ b) := by
  rw [Bool.eq_iff_iff, allB_iff]
  simp only [allIn, decide_eq_true_iff]
  constructor
  · intro h i hi
    have := h l[i] (List.getElem_mem hi)
    simpa [hi] using this
  · intro h x hx
    obtain ⟨i, hi, rfl⟩ := List.getElem_of_mem hx
    have := h i hi
    simpa [hi] using this
theorem allWithin_ev (l : List Int) (a b : Int) (hl : l.length ≤ 140737488355328) : Ev (fun k => impl_allWithin.f k l a b) (allIn l a b) := by
  rw [allIn_eq]
  unfold impl_allWithin.f
  refine Ev.all (fun i k => impl_allWithin.l0 k a b l (l.length : Int) (i : Int)) l.length _ ?_ ?_ ?_
  · intro i r hi hp h
    refine Ev.step (fun _ => rfl) ?_
    rw [decide_eq_true_iff] at hp
    simp only [impl_allWithin.l0, if_pos (show (i : Int) < (l.length : Int) by omega), if_pos (show (0 : Int) ≤ (i : Int) by omega), within_eq, rd_nat, Option.bind_some, decide_eq_true hp, if_true, next64 i l.length hi hl]
    exact h
  · intro i hi hp
    refine Ev.step (fun _ => rfl) ?_
    rw [decide_eq_false_iff_not] at hp
    simp only [impl_allWithin.l0, if_pos (show (i : Int) < (l.length : Int) by omega), if_pos (show (0 : Int) ≤ (i : Int) by omega), within_eq, rd_nat, Option.bind_some, decide_eq_false hp, Bool.false_eq_true, if_false]
    exact Ev.now _
  · refine Ev.step (fun _ => rfl) ?_
    simp only [impl_allWithin.l0, if_neg (show ¬ (l.length : Int) < (l.length : Int) by omega)]
    exact Ev.now _
theorem l1All_ev (l : List Int) (a b : Int) (hl : l.length ≤ 140737488355328) : Ev (fun k => spec_l1All.f k l a b) (allIn l a b) := by
  rw [allIn_eq]
  unfold spec_l1All.f
  refine Ev.all (fun i k => spec_l1All.l0 k a b l (l.length : Int) (i : Int)) l.length _ ?_ ?_ ?_
  · intro i r hi hp h
    refine Ev.step (fun _ => rfl) ?_
    rw [decide_eq_true_iff] at hp
    simp only [spec_l1All.l0, if_pos (show (i : Int) < (l.length : Int) by omega), if_pos (show (0 : Int) ≤ (i : Int) by omega), l1In_eq, rd_nat, Option.bind_some, decide_eq_true hp, if_true, next64 i l.length hi hl]
    exact h
  · intro i hi hp
    refine Ev.step (fun _ => rfl) ?_
    rw [decide_eq_false_iff_not] at hp
    simp only [spec_l1All.l0, if_pos (show (i : Int) < (l.length : Int) by omega), if_pos (show (0 : Int) ≤ (i : Int) by omega), l1In_eq, rd_nat, Option.bind_some, decide_eq_false hp, Bool.false_eq_true, if_false]
    exact Ev.now _
  · refine Ev.step (fun _ => rfl) ?_
    simp only [spec_l1All.l0, if_neg (show ¬ (l.length : Int) < (l.length : Int) by omega)]
    exact Ev.now _
theorem pow_of (n : Int) (h0 : 0 ≤ n) (h1 : n ≤ 10) : wrap64 (shl .i64 1 n - 1) = ((2 ^ n.toNat : Nat) : Int) - 1 := by
  obtain ⟨m, rfl⟩ := Int.eq_ofNat_of_zero_le h0
  rw [shl1 m (by omega), Int.toNat_natCast]
  have h2 : (2 : Nat) ^ m ≤ 2 ^ 10 := Nat.pow_le_pow_right (by decide) (by omega)
  have h3 : 0 < (2 : Nat) ^ m := Nat.two_pow_pos m
  exact wrap64_id _ (by omega) (by omega)
theorem isRel_parts (n : Int) (l : List Int) : isRel n l = (decide (0 ≤ n ∧ n ≤ 10) && (decide ((l.length : Int) = n) && allIn l 0 (((2 ^ n.toNat : Nat) : Int) - 1))) := by
  rw [Bool.eq_iff_iff]
  simp only [isRel, allIn, Bool.and_eq_true, decide_eq_true_iff]
  exact ⟨fun ⟨a, b, c, d⟩ => ⟨⟨a, b⟩, c, d⟩, fun ⟨⟨a, b⟩, c, d⟩ => ⟨a, b, c, d⟩⟩
theorem IsRelation_ev (n : Int) (l : List Int) (hl : l.length ≤ 140737488355328) : Ev (fun k => impl_IsRelation.f k n l) (isRel n l) := by
  unfold impl_IsRelation.f
  simp only [within_eq, Option.bind_some]
  rw [isRel_parts]
  by_cases h1 : 0 ≤ n ∧ n ≤ 10
  · by_cases h2 : (l.length : Int) = n
    · simp only [decide_eq_true h1, if_true, if_pos h2, if_pos h1.1, pow_of n h1.1 h1.2, decide_eq_true h2, Bool.true_and]
      exact Ev.bind (allWithin_ev l _ _ hl) (Ev.now _)
    · simp only [decide_eq_true h1, if_true, if_neg h2, decide_eq_false h2, Bool.false_and, Bool.and_false]
      exact Ev.now _
  · simp only [decide_eq_false h1, Bool.false_eq_true, if_false, Bool.false_and]
    exact Ev.now _
theorem orRelation_ev (n : Int) (l : List Int) (hl : l.length ≤ 140737488355328) : Ev (fun k => spec_orRelation.f k n l) (isRel n l) := by
  unfold spec_orRelation.f
  simp only [l1In_eq, Option.bind_some]
  rw [isRel_parts]
  by_cases h1 : 0 ≤ n ∧ n ≤ 10
  · by_cases h2 : (l.length : Int) = n
    · simp only [decide_eq_true h1, if_true, if_pos h2, if_pos h1.1, pow_of n h1.1 h1.2, decide_eq_true h2, Bool.true_and]
      exact Ev.bind (l1All_ev l _ _ hl) (Ev.now _)
    · simp only [decide_eq_true h1, if_true, if_neg h2, decide_eq_false h2, Bool.false_and, Bool.and_false]
      exact Ev.now _
  · simp only [decide_eq_false h1, Bool.false_eq_true, if_false, Bool.false_and]
    exact Ev.now _
def closedAt (n : Nat) (l : List Int) (i : Nat) : Bool := allB (elems n (row l i)).length fun q => diff (row l ((elems n (row l i)).getD q 0)) (row l i) == 0
def isOrd (n : Int) (l : List Int) : Bool := isRel n l && allB l.length fun i => !B l i i && closedAt l.length l i
theorem better_eq {n : Nat} {l : List Int} (h : Rel n l) (m : Int) (i j : Nat) (hi : i < n) (hj : j ≤ 62) : impl_Order_better.f m l (i : Int) (j : Int) = some (B l i j) := by
  unfold impl_Order_better.f
  rw [if_pos (by omega), if_pos (by rw [h.len]; omega), if_pos (by omega), has_and _ _ (by rw [h.rd]; omega) (by rw [h.rd]; have := h.row_62 i; omega) (by omega), h.bit]
theorem diff_zero (a b : Nat) : (diff a b = 0) ↔ ∀ j, a.testBit j = true → b.testBit j = true := by
  constructor
  · intro h j hj
    have := testBit_diff a b j
    rw [h, hj] at this
    simpa using this.symm
  · intro h
    apply Nat.eq_of_testBit_eq
    intro j
    rw [testBit_diff]
    cases hj : a.testBit j with
    | false => simp
    | true => simp [h j hj]
theorem ints_getD (l : List Nat) (q : Nat) (h : q < l.length) : (ints l).getD q 0 = ((l.getD q 0 : Nat) : Int) := by simp [ints, h]
theorem closed_iff {n : Nat} {l : List Int} (h : Rel n l) (i : Nat) : closedAt n l i = true ↔ ∀ j k, B l i j = true → B l j k = true → B l i k = true := by
  unfold closedAt
  rw [allB_iff]
  constructor
  · intro H j k hij hjk
    have hm : j ∈ elems n (row l i) := mem_elems.2 ⟨h.B_lt hij, hij⟩
    obtain ⟨q, hq, e⟩ := List.getElem_of_mem hm
    have := H q hq
    rw [show (elems n (row l i)).getD q 0 = j by simp [hq, e], beq_iff_eq, diff_zero] at this
    exact this k hjk
  · intro H q hq
    rw [beq_iff_eq, diff_zero]
    intro k hk
    have hm : (elems n (row l i)).getD q 0 ∈ elems n (row l i) := by simp [hq]
    exact H _ k (mem_elems.1 hm).2 hk
structure Ord (n : Nat) (l : List Int) : Prop extends Rel n l where
  irr : ∀ i, B l i i = false
  trans : ∀ i j k, B l i j = true → B l j k = true → B l i k = true
theorem isOrd_iff {n : Int} {l : List Int} : isOrd n l = true ↔ ∃ m : Nat, n = m ∧ Ord m l := by
  unfold isOrd
  rw [Bool.and_eq_true, isRel_iff, allB_iff]
  constructor
  · rintro ⟨⟨m, rfl, h⟩, H⟩
    rw [h.len] at H
    refine ⟨m, rfl, h, fun i => ?_, fun i j k hij hjk => ?_⟩
    · cases hc : B l i i with
      | false => rfl
      | true =>
        have := H i (h.B_lt hc)
        rw [hc] at this
        simp at this
    · have := H i (h.B_lt' hij)
      rw [Bool.and_eq_true] at this
      exact (closed_iff h i).1 this.2 j k hij hjk
  · rintro ⟨m, rfl, h⟩
    refine ⟨⟨m, rfl, h.toRel⟩, fun i _ => ?_⟩
    rw [h.irr i, h.len, (closed_iff h.toRel i).2 (h.trans i)]
    rfl
theorem IsOrder_ev (n : Int) (l : List Int) (hl : l.length ≤ 140737488355328) : Ev (fun k => impl_IsOrder.f k n l) (isOrd n l) := by
  unfold impl_IsOrder.f isOrd
  refine Ev.bind (IsRelation_ev n l hl) ?_
  cases hr : isRel n l with
  | false => simp only [Bool.false_eq_true, if_false, Bool.false_and]; exact Ev.now _
  | true =>
    obtain ⟨m, rfl, h⟩ := isRel_iff.1 hr
    have hlen := h.len
    have h10 := h.le
    simp only [if_true, Bool.true_and]
    refine Ev.all (fun i k => impl_IsOrder.l0 k l (l.length : Int) (i : Int) (m : Int) l) l.length _ ?_ ?_ ?_
    · intro i r hi hp hrest
      rw [Bool.and_eq_true] at hp
      have hB : B l i i = false := by simpa using hp.1
      refine Ev.step (fun _ => rfl) ?_
      simp only [impl_IsOrder.l0, if_pos (show (i : Int) < (l.length : Int) by omega), if_pos (show (0 : Int) ≤ (i : Int) by omega), better_eq h _ i i (by omega) (by omega), Option.bind_some, hB, Bool.false_eq_true, if_false, h.rd]
      refine Ev.bind (members_ev m (by omega) (row l i) (h.row_lt i)) ?_
      have hE := elems_length_le m (row l i)
      rw [ints_length]
      refine Ev.up (fun q k => impl_IsOrder.l1 k ((row l i : Nat) : Int) l (l.length : Int) (i : Int) (ints (elems m (row l i))) ((elems m (row l i)).length : Int) (q : Int) (m : Int) l) (elems m (row l i)).length ?_ ?_
      · intro q hq hn
        refine Ev.step (fun _ => rfl) ?_
        have hmem : (elems m (row l i)).getD q 0 ∈ elems m (row l i) := by simp [hq]
        have hlt := (mem_elems.1 hmem).1
        have e0 : rd (ints (elems m (row l i))) (q : Int) = (((elems m (row l i)).getD q 0 : Nat) : Int) := by rw [rd_nat, ints_getD _ _ hq]
        have hd : diff (row l ((elems m (row l i)).getD q 0)) (row l i) = 0 := by
          have hc := hp.2
          unfold closedAt at hc
          rw [allB_iff, hlen] at hc
          exact beq_iff_eq.1 (hc q hq)
        simp only [impl_IsOrder.l1, if_pos (show (q : Int) < ((elems m (row l i)).length : Int) by omega), if_pos (show (0 : Int) ≤ (q : Int) by omega), ints_length, e0, if_pos (show (0 : Int) ≤ (((elems m (row l i)).getD q 0 : Nat) : Int) by omega), if_pos (show (((elems m (row l i)).getD q 0 : Nat) : Int) < (l.length : Int) by omega), h.rd, andNot_i64 _ _ (h.row_62 _) (h.row_62 _), hd, Int.natCast_zero, if_true, next64 q _ hq (by omega)]
        exact hn
      · refine Ev.step (fun _ => rfl) ?_
        simp only [impl_IsOrder.l1, if_neg (show ¬ ((elems m (row l i)).length : Int) < ((elems m (row l i)).length : Int) by omega), next64 i l.length hi (by omega)]
        exact hrest
    · intro i hi hp
      refine Ev.step (fun _ => rfl) ?_
      simp only [impl_IsOrder.l0, if_pos (show (i : Int) < (l.length : Int) by omega), if_pos (show (0 : Int) ≤ (i : Int) by omega), better_eq h _ i i (by omega) (by omega), Option.bind_some]
      cases hB : B l i i with
      | true => simp only [if_true]; exact Ev.now _
      | false =>
        rw [hB] at hp
        have hc : closedAt l.length l i = false := by simpa using hp
        unfold closedAt at hc
        rw [hlen] at hc
        obtain ⟨j, hj, hbad, hless⟩ := least_false (allB_false.1 hc)
        simp only [Bool.false_eq_true, if_false, h.rd]
        refine Ev.bind (members_ev m (by omega) (row l i) (h.row_lt i)) ?_
        have hE := elems_length_le m (row l i)
        rw [ints_length]
        refine Ev.up (fun q k => impl_IsOrder.l1 k ((row l i : Nat) : Int) l (l.length : Int) (i : Int) (ints (elems m (row l i))) ((elems m (row l i)).length : Int) (q : Int) (m : Int) l) j ?_ ?_
        · intro q hq hn
          refine Ev.step (fun _ => rfl) ?_
          have hmem : (elems m (row l i)).getD q 0 ∈ elems m (row l i) := by simp [show q < (elems m (row l i)).length by omega]
          have hlt := (mem_elems.1 hmem).1
          have e0 : rd (ints (elems m (row l i))) (q : Int) = (((elems m (row l i)).getD q 0 : Nat) : Int) := by rw [rd_nat, ints_getD _ _ (by omega)]
          have hd : diff (row l ((elems m (row l i)).getD q 0)) (row l i) = 0 := beq_iff_eq.1 (hless q hq)
          simp only [impl_IsOrder.l1, if_pos (show (q : Int) < ((elems m (row l i)).length : Int) by omega), if_pos (show (0 : Int) ≤ (q : Int) by omega), ints_length, e0, if_pos (show (0 : Int) ≤ (((elems m (row l i)).getD q 0 : Nat) : Int) by omega), if_pos (show (((elems m (row l i)).getD q 0 : Nat) : Int) < (l.length : Int) by omega), h.rd, andNot_i64 _ _ (h.row_62 _) (h.row_62 _), hd, Int.natCast_zero, if_true, next64 q _ (show q < (elems m (row l i)).length by omega) (by omega)]
          exact hn
        · refine Ev.step (fun _ => rfl) ?_
          have hmem : (elems m (row l i)).getD j 0 ∈ elems m (row l i) := by simp [hj]
          have hlt := (mem_elems.1 hmem).1
          have e0 : rd (ints (elems m (row l i))) (j : Int) = (((elems m (row l i)).getD j 0 : Nat) : Int) := by rw [rd_nat, ints_getD _ _ (by omega)]
          have hd : ¬ ((diff (row l ((elems m (row l i)).getD j 0)) (row l i) : Nat) : Int) = 0 := by
            have := beq_eq_false_iff_ne.1 hbad
            omega
          simp only [impl_IsOrder.l1, if_pos (show (j : Int) < ((elems m (row l i)).length : Int) by omega), if_pos (show (0 : Int) ≤ (j : Int) by omega), ints_length, e0, if_pos (show (0 : Int) ≤ (((elems m (row l i)).getD j 0 : Nat) : Int) by omega), if_pos (show (((elems m (row l i)).getD j 0 : Nat) : Int) < (l.length : Int) by omega), h.rd, andNot_i64 _ _ (h.row_62 _) (h.row_62 _), if_neg hd]
          exact Ev.now _
    · refine Ev.step (fun _ => rfl) ?_
      simp only [impl_IsOrder.l0, if_neg (show ¬ (l.length : Int) < (l.length : Int) by omega)]
      exact Ev.now _
end Go.Proofs.YtjdkcafpgebjfaaDoor.M
namespace Go.Proofs.YtjdkcafpgebjfaaDoor.M
open Go.RowKit Go.Proofs.YtjdkcafpgebjfaaDoorW.PrintMore Go.Proofs.YtjdkcafpgebjfaaDoorW.PrintLast Go.Proofs.YtjdkcafpgebjfaaDoorW.PrintWords Go.Proofs.YtjdkcafpgebjfaaDoor.P
theorem orGood_ev (n : Int) (l : List Int) (hl : l.length ≤ 140737488355328) : Ev (fun k => spec_orGood.f k n l) (isOrd n l) := by
  unfold spec_orGood.f isOrd
  refine Ev.bind (orRelation_ev n l hl) ?_
  cases hr : isRel n l with
  | false => simp only [Bool.false_eq_true, if_false, Bool.false_and]; exact Ev.now _
  | true =>
    obtain ⟨m, rfl, h⟩ := isRel_iff.1 hr
    have hlen := h.len
    have h10 := h.le
    simp only [if_true, Bool.true_and]
    refine Ev.all (fun i k => spec_orGood.l0 k l (l.length : Int) (i : Int) (m : Int) l) l.length _ ?_ ?_ ?_
    · intro i r hi hp hrest
      rw [Bool.and_eq_true] at hp
      have hB : B l i i = false := by simpa using hp.1
      refine Ev.step (fun _ => rfl) ?_
      simp only [spec_orGood.l0, if_pos (show (i : Int) < (l.length : Int) by omega), if_pos (show (0 : Int) ≤ (i : Int) by omega), h.rd, orHas_eq (row l i) i (by omega), show (row l i).testBit i = B l i i from rfl, Option.bind_some, hB, Bool.false_eq_true, if_false]
      refine Ev.bind (orList_ev m (by omega) (row l i) (h.row_lt i)) ?_
      have hE := elems_length_le m (row l i)
      rw [ints_length]
      refine Ev.up (fun q k => spec_orGood.l1 k ((row l i : Nat) : Int) l (l.length : Int) (i : Int) (ints (elems m (row l i))) ((elems m (row l i)).length : Int) (q : Int) (m : Int) l) (elems m (row l i)).length ?_ ?_
      · intro q hq hn
        refine Ev.step (fun _ => rfl) ?_
        have hmem : (elems m (row l i)).getD q 0 ∈ elems m (row l i) := by simp [hq]
        have hlt := (mem_elems.1 hmem).1
        have e0 : rd (ints (elems m (row l i))) (q : Int) = (((elems m (row l i)).getD q 0 : Nat) : Int) := by rw [rd_nat, ints_getD _ _ hq]
        have hd : diff (row l ((elems m (row l i)).getD q 0)) (row l i) = 0 := by
          have hc := hp.2
          unfold closedAt at hc
          rw [allB_iff, hlen] at hc
          exact beq_iff_eq.1 (hc q hq)
        simp only [spec_orGood.l1, if_pos (show (q : Int) < ((elems m (row l i)).length : Int) by omega), if_pos (show (0 : Int) ≤ (q : Int) by omega), ints_length, e0, if_pos (show (0 : Int) ≤ (((elems m (row l i)).getD q 0 : Nat) : Int) by omega), if_pos (show (((elems m (row l i)).getD q 0 : Nat) : Int) < (l.length : Int) by omega), h.rd, andNot_i64 _ _ (h.row_62 _) (h.row_62 _), hd, Int.natCast_zero, if_true, next64 q _ hq (by omega)]
        exact hn
      · refine Ev.step (fun _ => rfl) ?_
        simp only [spec_orGood.l1, if_neg (show ¬ ((elems m (row l i)).length : Int) < ((elems m (row l i)).length : Int) by omega), next64 i l.length hi (by omega)]
        exact hrest
    · intro i hi hp
      refine Ev.step (fun _ => rfl) ?_
      simp only [spec_orGood.l0, if_pos (show (i : Int) < (l.length : Int) by omega), if_pos (show (0 : Int) ≤ (i : Int) by omega), h.rd, orHas_eq (row l i) i (by omega), show (row l i).testBit i = B l i i from rfl, Option.bind_some]
      cases hB : B l i i with
      | true => simp only [if_true]; exact Ev.now _
      | false =>
        rw [hB] at hp
        have hc : closedAt l.length l i = false := by simpa using hp
        unfold closedAt at hc
        rw [hlen] at hc
        obtain ⟨j, hj, hbad, hless⟩ := least_false (allB_false.1 hc)
        simp only [Bool.false_eq_true, if_false]
        refine Ev.bind (orList_ev m (by omega) (row l i) (h.row_lt i)) ?_
        have hE := elems_length_le m (row l i)
        rw [ints_length]
        refine Ev.up (fun q k => spec_orGood.l1 k ((row l i : Nat) : Int) l (l.length : Int) (i : Int) (ints (elems m (row l i))) ((elems m (row l i)).length : Int) (q : Int) (m : Int) l) j ?_ ?_
        · intro q hq hn
          refine Ev.step (fun _ => rfl) ?_
          have hmem : (elems m (row l i)).getD q 0 ∈ elems m (row l i) := by simp [show q < (elems m (row l i)).length by omega]
          have hlt := (mem_elems.1 hmem).1
          have e0 : rd (ints (elems m (row l i))) (q : Int) = (((elems m (row l i)).getD q 0 : Nat) : Int) := by rw [rd_nat, ints_getD _ _ (by omega)]
          have hd : diff (row l ((elems m (row l i)).getD q 0)) (row l i) = 0 := beq_iff_eq.1 (hless q hq)
          simp only [spec_orGood.l1, if_pos (show (q : Int) < ((elems m (row l i)).length : Int) by omega), if_pos (show (0 : Int) ≤ (q : Int) by omega), ints_length, e0, if_pos (show (0 : Int) ≤ (((elems m (row l i)).getD q 0 : Nat) : Int) by omega), if_pos (show (((elems m (row l i)).getD q 0 : Nat) : Int) < (l.length : Int) by omega), h.rd, andNot_i64 _ _ (h.row_62 _) (h.row_62 _), hd, Int.natCast_zero, if_true, next64 q _ (show q < (elems m (row l i)).length by omega) (by omega)]
          exact hn
        · refine Ev.step (fun _ => rfl) ?_
          have hmem : (elems m (row l i)).getD j 0 ∈ elems m (row l i) := by simp [hj]
          have hlt := (mem_elems.1 hmem).1
          have e0 : rd (ints (elems m (row l i))) (j : Int) = (((elems m (row l i)).getD j 0 : Nat) : Int) := by rw [rd_nat, ints_getD _ _ (by omega)]
          have hd : ¬ ((diff (row l ((elems m (row l i)).getD j 0)) (row l i) : Nat) : Int) = 0 := by
            have := beq_eq_false_iff_ne.1 hbad
            omega
          simp only [spec_orGood.l1, if_pos (show (j : Int) < ((elems m (row l i)).length : Int) by omega), if_pos (show (0 : Int) ≤ (j : Int) by omega), ints_length, e0, if_pos (show (0 : Int) ≤ (((elems m (row l i)).getD j 0 : Nat) : Int) by omega), if_pos (show (((elems m (row l i)).getD j 0 : Nat) : Int) < (l.length : Int) by omega), h.rd, andNot_i64 _ _ (h.row_62 _) (h.row_62 _), if_neg hd]
          exact Ev.now _
    · refine Ev.step (fun _ => rfl) ?_
      simp only [spec_orGood.l0, if_neg (show ¬ (l.length : Int) < (l.length : Int) by omega)]
      exact Ev.now _
theorem setOf_bit_or (q : Nat → Bool) (j : Nat) : setOf (j + 1) q = if q j then setOf j q ||| 2 ^ j else setOf j q := by
  show setOf j q ||| (if q j then 2 ^ j else 0) = _
  cases q j <;> simp
def part (n : Nat) (p : Nat → Nat → Bool) (i j : Nat) : List Int := (List.range n).map fun a => ((setOf (if a < i then n else if a = i then j else 0) (p a) : Nat) : Int)
theorem part_length (n : Nat) (p : Nat → Nat → Bool) (i j : Nat) : (part n p i j).length = n := by simp [part]
theorem part_getD (n : Nat) (p : Nat → Nat → Bool) (i j a : Nat) (h : a < n) : (part n p i j).getD a 0 = ((setOf (if a < i then n else if a = i then j else 0) (p a) : Nat) : Int) := by simp [part, h]
theorem part_next (n : Nat) (p : Nat → Nat → Bool) (i : Nat) : part n p i n = part n p (i + 1) 0 := by
  unfold part
  apply List.map_congr_left
  intro a _
  by_cases h1 : a < i
  · rw [if_pos h1, if_pos (by omega)]
  · rw [if_neg h1]
    by_cases h2 : a = i
    · rw [if_pos h2, if_pos (by omega)]
    · rw [if_neg h2, if_neg (by omega)]
      by_cases h3 : a = i + 1
      · rw [if_pos h3]
      · rw [if_neg h3]
theorem part_no (n : Nat) (p : Nat → Nat → Bool) (i j : Nat) (hi : i < n) (h : p i j = false) : part n p i j = part n p i (j + 1) := by
  unfold part
  apply List.map_congr_left
  intro a _
  by_cases h2 : a = i
  · subst h2
    rw [if_neg (Nat.lt_irrefl _), if_pos rfl, if_neg (Nat.lt_irrefl _), if_pos rfl, setOf_bit_or, h]
    rfl
  · rw [if_neg h2, if_neg h2]
theorem part_yes (n : Nat) (p : Nat → Nat → Bool) (i j : Nat) (hi : i < n) (h : p i j = true) : (part n p i j).set i ((setOf j (p i) ||| 2 ^ j : Nat) : Int) = part n p i (j + 1) := by
  apply list_ext_getD (by simp [part_length])
  intro a ha
  have ha : a < n := by simpa [part_length] using ha
  rw [part_getD n p i (j + 1) a ha]
  by_cases h2 : a = i
  · subst h2
    rw [if_neg (Nat.lt_irrefl _), if_pos rfl, setOf_bit_or, h]
    rw [List.getD_eq_getElem?_getD, List.getElem?_set_self (by rw [part_length]; exact hi)]
    rfl
  · have e : ((part n p i j).set i ((setOf j (p i) ||| 2 ^ j : Nat) : Int)).getD a 0 = (part n p i j).getD a 0 := by
      simp [List.getD, Ne.symm h2]
    rw [e, part_getD n p i j a ha, if_neg h2, if_neg h2]
theorem part_zero (n : Nat) (p : Nat → Nat → Bool) : part n p 0 0 = List.replicate n 0 := by
  apply list_ext_getD (by simp [part_length])
  intro a ha
  have ha : a < n := by simpa [part_length] using ha
  rw [part_getD n p 0 0 a ha, if_neg (Nat.not_lt_zero _)]
  have : (if a = 0 then 0 else 0) = 0 := by split <;> rfl
  rw [this]
  simp [setOf, ha]
theorem part_all (n : Nat) (p : Nat → Nat → Bool) : part n p n 0 = relL n p := by
  unfold part relL
  apply List.map_congr_left
  intro a ha
  rw [List.mem_range] at ha
  rw [if_pos ha]
theorem relation_ev (n : Nat) (hn : n ≤ 62) (g : Nat → Int → Int → Option Bool) (p : Nat → Nat → Bool) (hg : ∀ i j, i < n → j < n → Ev (fun k => g k (i : Int) (j : Int)) (p i j)) :
    Ev (fun k => impl_relation.f k (n : Int) (g k)) ((n : Int), relL n p) := by
  -- the tests all come to their answers from one number of rounds on
  obtain ⟨K, hK⟩ : ∃ K, ∀ k, K ≤ k → ∀ i j, i < n → j < n → g k (i : Int) (j : Int) = some (p i j) := by
    have one : ∀ m, ∃ K, ∀ k, K ≤ k → ∀ i j, i < n → j < n → i * n + j < m → g k (i : Int) (j : Int) = some (p i j) := by
      intro m
      induction m with
      | zero => exact ⟨0, fun k _ i j _ _ h => absurd h (Nat.not_lt_zero _)⟩
      | succ m ih =>
        obtain ⟨K, hK⟩ := ih
        by_cases hx : ∃ i j, i < n ∧ j < n ∧ i * n + j = m
        · obtain ⟨i, j, hi, hj, hm⟩ := hx
          obtain ⟨K', hK'⟩ := hg i j hi hj
          refine ⟨max K K', fun k hk i' j' hi' hj' h => ?_⟩
          by_cases he : i' * n + j' = m
          · have e1 : i' = i := by
              have a1 : (i' * n + j') / n = i' := by rw [Nat.mul_comm, Nat.mul_add_div (by omega), Nat.div_eq_of_lt hj', Nat.add_zero]
              have a2 : (i * n + j) / n = i := by rw [Nat.mul_comm, Nat.mul_add_div (by omega), Nat.div_eq_of_lt hj, Nat.add_zero]
              rw [← a1, ← a2, he, hm]
            subst e1
            have e2 : j' = j := by omega
            subst e2
            exact hK' k (by omega)
          · exact hK k (by omega) i' j' hi' hj' (by omega)
        · exact ⟨K, fun k hk i j hi hj h => hK k hk i j hi hj (by
            rcases Nat.lt_or_ge (i * n + j) m with h1 | h1
            · exact h1
            · exact absurd ⟨i, j, hi, hj, by omega⟩ hx)⟩
    obtain ⟨K, h⟩ := one (n * n + n)
    refine ⟨K, fun k hk i j hi hj => h k hk i j hi hj ?_⟩
    have : i * n ≤ n * n := Nat.mul_le_mul_right n (by omega)
    omega
  -- with the tests as' at one number
  have main : ∀ is : Int → Int → Option Bool, (∀ i j, i < n → j < n → is (i : Int) (j : Int) = some (p i j)) → Ev (fun k => impl_relation.f k (n : Int) is) ((n : Int), relL n p) := by
    intro is his
    unfold impl_relation.f
    simp only [if_pos (show (0 : Int) ≤ (n : Int) by omega), Int.toNat_natCast, if_pos (show n ≤ 35184372088832 by omega)]
    rw [← part_zero n p]
    refine Ev.up (fun i k => impl_relation.l0 is k (n : Int) (n : Int) (i : Int) (n : Int) (part n p i 0)) n ?_ ?_
    · intro i hi h
      refine Ev.step (fun _ => rfl) ?_
      simp only [impl_relation.l0, if_pos (show (i : Int) < (n : Int) by omega)]
      refine Ev.up (fun j k => impl_relation.l1 is k (n : Int) (i : Int) (n : Int) (i : Int) (n : Int) (j : Int) (n : Int) (part n p i j)) n ?_ ?_
      · intro j hj h
        refine Ev.step (fun _ => rfl) ?_
        simp only [impl_relation.l1, if_pos (show (j : Int) < (n : Int) by omega), his i j hi hj, Option.bind_some, next64 j n hj (by omega)]
        cases hp : p i j with
        | false =>
          simp only [Bool.false_eq_true, if_false]
          rw [part_no n p i j hi hp]
          exact h
        | true =>
          have hs : setOf j (p i) < 9223372036854775808 := setOf_62 _ _ (by omega)
          have h2 : (2 : Nat) ^ j < 9223372036854775808 := Nat.lt_of_le_of_lt (Nat.pow_le_pow_right (by decide) (by omega : j ≤ 62)) (by decide)
          have e1 : rd (part n p i j) (i : Int) = ((setOf j (p i) : Nat) : Int) := by
            rw [rd_nat, part_getD n p i j i hi, if_neg (Nat.lt_irrefl _), if_pos rfl]
          simp only [if_true, if_pos (show (0 : Int) ≤ (i : Int) by omega), part_length, if_pos (show (i : Int) < (n : Int) by omega), if_pos (show (0 : Int) ≤ (j : Int) by omega), e1, shl1 j (by omega), or_i64 _ _ hs h2, Int.toNat_natCast]
          rw [part_yes n p i j hi hp]
          exact h
      · refine Ev.step (fun _ => rfl) ?_
        simp only [impl_relation.l1, if_neg (show ¬ (n : Int) < (n : Int) by omega), next64 i n hi (by omega)]
        rw [part_next]
        exact h
    · refine Ev.step (fun _ => rfl) ?_
      simp only [impl_relation.l0, if_neg (show ¬ (n : Int) < (n : Int) by omega)]
      rw [part_all]
      exact Ev.now _
  -- the least test that answers so
  have h0 := main (fun x y => if 0 ≤ x ∧ x < n ∧ 0 ≤ y ∧ y < n then some (p x.toNat y.toNat) else none) (fun i j hi hj => by
    show (if _ then _ else _) = _
    rw [if_pos ⟨by omega, by omega, by omega, by omega⟩, Int.toNat_natCast, Int.toNat_natCast])
  obtain ⟨K', hK'⟩ := h0
  refine ⟨max K K' + 1, fun k hk => ?_⟩
  obtain ⟨d, rfl⟩ : ∃ d, k = d + 1 := ⟨k - 1, by omega⟩
  refine impl_relation.mono2 (is := fun x y => if 0 ≤ x ∧ x < n ∧ 0 ≤ y ∧ y < n then some (p x.toNat y.toNat) else none) (is' := g (d + 1)) (fun x y r hr => ?_) (n : Int) d _ (hK' d (by omega))
  by_cases hxy : 0 ≤ x ∧ x < n ∧ 0 ≤ y ∧ y < n
  · rw [if_pos hxy] at hr
    obtain ⟨i, rfl⟩ := Int.eq_ofNat_of_zero_le hxy.1
    obtain ⟨j, rfl⟩ := Int.eq_ofNat_of_zero_le hxy.2.2.1
    rw [Int.toNat_natCast, Int.toNat_natCast] at hr
    rw [hK (d + 1) (by omega) i j (by omega) (by omega)]
    exact hr
  · rw [if_neg hxy] at hr
    cases hr
end Go.Proofs.YtjdkcafpgebjfaaDoor.M
namespace Go.Proofs.YtjdkcafpgebjfaaDoor.P
open Go.RowKit Go.Proofs.YtjdkcafpgebjfaaDoorW.PrintWords Go.Proofs.YtjdkcafpgebjfaaDoorW.PrintLast Go.Proofs.YtjdkcafpgebjfaaDoorW.PrintMore
open Bool renaming true → T, false → F
open List renaming setIfInBounds_toArray → L_, set_cons_zero → M_, set_cons_succ → N_, map_toArray → P_, map_cons → Q_, map_nil → R_, length_drop → S_, length_take → U_
open Aside0 renaming mk → A_
attribute [local go_sem] max2_int min2_int max_two min_two max_three min_three max_four min_four
set_option linter.unusedVariables false
set_option linter.unusedSimpArgs false
attribute [local go_sem] fldOrder_0 fldOrder_1
def spec_l1Cur_next.f (s0_0 : List Int) (s0_1 : Int) (s0_2 : Int) : Option (Int × Int × Int) := if s0_1 < (s0_0.length : Int) then (if 0 ≤ s0_1 then (if (wrap64 (s0_1 + 1)) ≤ (s0_0.length : Int) then (some (wrap64 (rd s0_0 s0_1), wrap64 (s0_1 + 1), IntKind.u64.wrap ((IntKind.u64.wrap ((IntKind.u64.wrap (s0_2 * 6364136223846793005)) + (IntKind.u64.wrap (wrap64 (rd s0_0 s0_1))))) + 1442695040888963407))) else (some (wrap64 (Go.bits .and .u64 ((IntKind.u64.wrap ((IntKind.u64.wrap ((IntKind.u64.wrap (s0_2 * 6364136223846793005)) + (IntKind.u64.wrap (wrap64 (rd s0_0 s0_1))))) + 1442695040888963407)) / 1099511627776) 255), wrap64 (s0_1 + 1), IntKind.u64.wrap ((IntKind.u64.wrap ((IntKind.u64.wrap (s0_2 * 6364136223846793005)) + (IntKind.u64.wrap (wrap64 (rd s0_0 s0_1))))) + 1442695040888963407)))) else (none)) else (if (wrap64 (s0_1 + 1)) ≤ (s0_0.length : Int) then (some (0, wrap64 (s0_1 + 1), IntKind.u64.wrap ((IntKind.u64.wrap ((IntKind.u64.wrap (s0_2 * 6364136223846793005)))) + 1442695040888963407))) else (some (wrap64 (Go.bits .and .u64 ((IntKind.u64.wrap ((IntKind.u64.wrap ((IntKind.u64.wrap (s0_2 * 6364136223846793005)))) + 1442695040888963407)) / 1099511627776) 255), wrap64 (s0_1 + 1), IntKind.u64.wrap ((IntKind.u64.wrap ((IntKind.u64.wrap (s0_2 * 6364136223846793005)))) + 1442695040888963407))))
def spec_l1Cur_pick.f (s0_0 : List Int) (s0_1 : Int) (s0_2 : Int) (a1 : Int) : Option (Int × Int × Int) := if a1 ≤ 1 then (some (0, s0_1, s0_2)) else ((spec_l1Cur_next.f s0_0 s0_1 s0_2).bind fun bt265 => (if a1 > 200 then ((spec_l1Cur_next.f s0_0 bt265.2.1 bt265.2.2).bind fun bt268 => (if a1 = 0 then (none) else (some (Int.tmod (wrap64 ((wrap64 (bt265.1 * 256)) + bt268.1)) a1, bt268.2.1, bt268.2.2)))) else (if a1 = 0 then (none) else (some (Int.tmod bt265.1 a1, bt265.2.1, bt265.2.2)))))
def spec_l1Cur_one.f (s0_0 : List Int) (s0_1 : Int) (s0_2 : Int) (a1 : Int) : Option (Bool × Int × Int) := (spec_l1Cur_pick.f s0_0 s0_1 s0_2 a1).bind fun bt275 => (some ((bt275.1 == 0), bt275.2.1, bt275.2.2))
mutual
def spec_l1Cur_relation.l0 : Nat → List Int → Int → Int → Int → List Int → Option (Int × List Int × Int × Int)
 | 0,_,_,_,_,_=>none
 | k + 1,x1000,x1001,x1002,x472000,x472001=>if (x472001.length : Int) < x472000 then (spec_l1Cur_relation.l1 k 0 0 x1000 x1001 x1002 x472000 x472001) else (some (x472000,x472001,x1001,x1002))
def spec_l1Cur_relation.l1 : Nat → Int → Int → List Int → Int → Int → Int → List Int → Option (Int × List Int × Int × Int)
 | 0,_,_,_,_,_,_,_=>none
 | k + 1,x6,x7,x1000,x1001,x1002,x472000,x472001=>if x7 < x472000 then ((spec_l1Cur_one.f x1000 x1001 x1002 4).bind fun bt472=>(if bt472.1 = true then (if 0 ≤ x7 then (spec_l1Cur_relation.l1 k (Go.bits .or .i64 x6 (shl .i64 1 x7)) (wrap64 (x7 + 1)) x1000 bt472.2.1 bt472.2.2 x472000 x472001) else (none)) else (spec_l1Cur_relation.l1 k x6 (wrap64 (x7 + 1)) x1000 bt472.2.1 bt472.2.2 x472000 x472001))) else (if x472001.length < 17592186044416 then (spec_l1Cur_relation.l0 k x1000 x1001 x1002 x472000 (x472001 ++ [x6])) else (none))
end
def spec_l1Own.f (l0 : List Int) : Option (List Int) := (some (([] : List Int) : List Int)).bind fun y478 => (if y478.length + l0.length < 17592186044416 then (some (y478 ++ l0)) else (none))
mutual
def spec_CloseRelation.l0 : Nat → Int → Int → Int → List Int → Option (Int × List Int × Bool)
 | 0,_,_,_,_=>none
 | k + 1,x19,x20,x491000,x491001=>if x20 < x19 then (spec_CloseRelation.l1 k x20 x19 x20 (x491001.length : Int) 0 x491000 x491001) else (some (x491000,x491001,true))
def spec_CloseRelation.l1 : Nat → Int → Int → Int → Int → Int → Int → List Int → Option (Int × List Int × Bool)
 | 0,_,_,_,_,_,_,_=>none
 | k + 1,x5,x19,x20,x25,x26,x491000,x491001=>if x26 < x25 then (if 0 ≤ x26 then (if x26 < (x491001.length : Int) then ((spec_orHas.f (rd x491001 x26) x5).bind fun t492=>(if t492 = true then (if 0 ≤ x5 then (if x5 < (x491001.length : Int) then (spec_CloseRelation.l1 k x5 x19 x20 x25 (wrap64 (x26 + 1)) x491000 (x491001.set (x26 : Int).toNat (Go.bits .or .i64 (rd x491001 x26) (rd x491001 x5)))) else (none)) else (none)) else (spec_CloseRelation.l1 k x5 x19 x20 x25 (wrap64 (x26 + 1)) x491000 x491001))) else (none)) else (none)) else (spec_CloseRelation.l0 k x19 (wrap64 (x20 + 1)) x491000 x491001)
end
def spec_CloseRelation.f (k : Nat) (a0_0 : Int) (l0_1 : List Int) : Option (Int × List Int × Bool) := (spec_orRelation.f k a0_0 l0_1).bind fun t486 => (if t486 = true then ((spec_l1Own.f l0_1).bind fun t487 => (spec_CloseRelation.l0 k (t487.length : Int) 0 a0_0 t487)) else (some (0, ([] : List Int), false)))
mutual
def spec_l1Cur_order.l0 : Nat → Int → Int → List Int → List Int → Int → List Int → Int → Int → Int → List Int → Option (Int × List Int × Int × Int)
 | 0,_,_,_,_,_,_,_,_,_,_=>none
 | k + 1,x5,x7,x8,x9,x10,x1000,x1001,x1002,x504000,x504001=>if x10 < x5 then ((spec_l1Cur_pick.f x1000 x1001 x1002 8).bind fun bt507=>(if x8.length < 17592186044416 then ((some (x8 ++ [bt507.1] : List Int)).bind fun y510=>(if x7 = 1 then ((spec_l1Cur_pick.f x1000 bt507.2.1 bt507.2.2 4).bind fun bt513=>(if x9.length < 17592186044416 then (spec_l1Cur_order.l0 k x5 x7 y510 (x9 ++ [wrap64 (bt507.1 + bt513.1)]) (wrap64 (x10 + 1)) x1000 bt513.2.1 bt513.2.2 x504000 x504001) else (none))) else (if x9.length < 17592186044416 then (spec_l1Cur_order.l0 k x5 x7 y510 (x9 ++ [wrap64 (bt507.1 + 2)]) (wrap64 (x10 + 1)) x1000 bt507.2.1 bt507.2.2 x504000 x504001) else (none)))) else (none))) else (spec_l1Cur_order.l1 k x5 x7 x8 x9 0 x1000 x1001 x1002 x504000 x504001)
def spec_l1Cur_order.l1 : Nat → Int → Int → List Int → List Int → Int → List Int → Int → Int → Int → List Int → Option (Int × List Int × Int × Int)
 | 0,_,_,_,_,_,_,_,_,_,_=>none
 | k + 1,x5,x7,x8,x9,x12,x1000,x1001,x1002,x504000,x504001=>if x12 < x5 then (spec_l1Cur_order.l2 k x5 x7 x8 x9 x12 0 x1000 x1001 x1002 x504000 x504001) else (if x7 > 0 then (some (x504000,x504001,x1001,x1002)) else ((spec_CloseRelation.f k x504000 x504001).bind fun bt522=>(some (bt522.1,bt522.2.1,x1001,x1002))))
def spec_l1Cur_order.l2 : Nat → Int → Int → List Int → List Int → Int → Int → List Int → Int → Int → Int → List Int → Option (Int × List Int × Int × Int)
 | 0,_,_,_,_,_,_,_,_,_,_,_=>none
 | k + 1,x5,x7,x8,x9,x12,x13,x1000,x1001,x1002,x504000,x504001=>if x13 < x5 then (if x7 > 0 then (if 0 ≤ x12 then (if x12 < (x9.length : Int) then (if 0 ≤ x13 then (if x13 < (x8.length : Int) then (if (rd x9 x12) < (rd x8 x13) then (if x12 < (x504001.length : Int) then (spec_l1Cur_order.l2 k x5 x7 x8 x9 x12 (wrap64 (x13 + 1)) x1000 x1001 x1002 x504000 (x504001.set (x12 : Int).toNat (Go.bits .or .i64 (rd x504001 x12) (shl .i64 1 x13)))) else (none)) else (if x7 = 0 then (if x12 < x13 then ((spec_l1Cur_one.f x1000 x1001 x1002 3).bind fun bt532=>(if bt532.1 = true then (if x12 < (x504001.length : Int) then (spec_l1Cur_order.l2 k x5 x7 x8 x9 x12 (wrap64 (x13 + 1)) x1000 bt532.2.1 bt532.2.2 x504000 (x504001.set (x12 : Int).toNat (Go.bits .or .i64 (rd x504001 x12) (shl .i64 1 x13)))) else (none)) else (spec_l1Cur_order.l2 k x5 x7 x8 x9 x12 (wrap64 (x13 + 1)) x1000 bt532.2.1 bt532.2.2 x504000 x504001))) else (spec_l1Cur_order.l2 k x5 x7 x8 x9 x12 (wrap64 (x13 + 1)) x1000 x1001 x1002 x504000 x504001)) else (spec_l1Cur_order.l2 k x5 x7 x8 x9 x12 (wrap64 (x13 + 1)) x1000 x1001 x1002 x504000 x504001))) else (none)) else (none)) else (none)) else (none)) else (if x7 = 0 then (if x12 < x13 then ((spec_l1Cur_one.f x1000 x1001 x1002 3).bind fun bt537=>(if bt537.1 = true then (if 0 ≤ x12 then (if x12 < (x504001.length : Int) then (if 0 ≤ x13 then (spec_l1Cur_order.l2 k x5 x7 x8 x9 x12 (wrap64 (x13 + 1)) x1000 bt537.2.1 bt537.2.2 x504000 (x504001.set (x12 : Int).toNat (Go.bits .or .i64 (rd x504001 x12) (shl .i64 1 x13)))) else (none)) else (none)) else (none)) else (spec_l1Cur_order.l2 k x5 x7 x8 x9 x12 (wrap64 (x13 + 1)) x1000 bt537.2.1 bt537.2.2 x504000 x504001))) else (spec_l1Cur_order.l2 k x5 x7 x8 x9 x12 (wrap64 (x13 + 1)) x1000 x1001 x1002 x504000 x504001)) else (spec_l1Cur_order.l2 k x5 x7 x8 x9 x12 (wrap64 (x13 + 1)) x1000 x1001 x1002 x504000 x504001))) else (spec_l1Cur_order.l1 k x5 x7 x8 x9 (wrap64 (x12 + 1)) x1000 x1001 x1002 x504000 x504001)
end
end Go.Proofs.YtjdkcafpgebjfaaDoor.P
namespace Go.Proofs.YtjdkcafpgebjfaaDoor.P
open Go.RowKit Go.Proofs.YtjdkcafpgebjfaaDoorW.PrintWords Go.Proofs.YtjdkcafpgebjfaaDoorW.PrintLast Go.Proofs.YtjdkcafpgebjfaaDoorW.PrintMore
open Bool renaming true → T, false → F
open List renaming setIfInBounds_toArray → L_, set_cons_zero → M_, set_cons_succ → N_, map_toArray → P_, map_cons → Q_, map_nil → R_, length_drop → S_, length_take → U_
open Aside0 renaming mk → A_
attribute [local go_sem] max2_int min2_int max_two min_two max_three min_three max_four min_four
set_option linter.unusedVariables false
set_option linter.unusedSimpArgs false
attribute [local go_sem] fldOrder_0 fldOrder_1
end Go.Proofs.YtjdkcafpgebjfaaDoor.P
namespace Go.Proofs.YtjdkcafpgebjfaaDoor.M
open Go.RowKit Go.Proofs.YtjdkcafpgebjfaaDoorW.PrintMore Go.Proofs.YtjdkcafpgebjfaaDoorW.PrintLast Go.Proofs.YtjdkcafpgebjfaaDoorW.PrintWords Go.Proofs.YtjdkcafpgebjfaaDoor.P
def By (l : List Int) : Prop := ∀ x ∈ l, 0 ≤ x ∧ x ≤ 255
theorem By.rd {l : List Int} (h : By l) (i : Nat) : 0 ≤ rd l (i : Int) ∧ rd l (i : Int) ≤ 255 := by
  rw [rd_nat]
  by_cases hi : i < l.length
  · have := h l[i] (List.getElem_mem hi)
    simpa [hi] using this
  · simp [Nat.not_lt.1 hi]
theorem wrap64_in (x : Int) (h0 : -9223372036854775808 ≤ x) (h1 : x ≤ 9223372036854775807) : wrap64 x = x := by unfold wrap64; omega
end Go.Proofs.YtjdkcafpgebjfaaDoor.M
namespace Go.Proofs.YtjdkcafpgebjfaaDoor.P
open Go.RowKit Go.Proofs.YtjdkcafpgebjfaaDoorW.PrintWords Go.Proofs.YtjdkcafpgebjfaaDoorW.PrintLast Go.Proofs.YtjdkcafpgebjfaaDoorW.PrintMore
open Bool renaming true → T, false → F
open List renaming setIfInBounds_toArray → L_, set_cons_zero → M_, set_cons_succ → N_, map_toArray → P_, map_cons → Q_, map_nil → R_, length_drop → S_, length_take → U_
open Aside0 renaming mk → A_
attribute [local go_sem] max2_int min2_int max_two min_two max_three min_three max_four min_four
set_option linter.unusedVariables false
set_option linter.unusedSimpArgs false
attribute [local go_sem] fldOrder_0 fldOrder_1
def spec_orBelow.l0 : Nat → Int → Int → List Int → Int → Int → Option (Int)
 | 0,_,_,_,_,_=>none
 | k + 1,x1,x5,x9,x10,x11=>if x11 < x10 then (if 0 ≤ x11 then (if x11 < (x9.length : Int) then ((spec_orHas.f (rd x9 x11) x1).bind fun t598=>(if t598 = true then (spec_orBelow.l0 k x1 (Go.bits .or .i64 x5 (shl .i64 1 x11)) x9 x10 (wrap64 (x11 + 1))) else (spec_orBelow.l0 k x1 x5 x9 x10 (wrap64 (x11 + 1))))) else (none)) else (none)) else (some x5)
def spec_orBelow.f (k : Nat) (a0_0 : Int) (l0_1 : List Int) (a1 : Int) : Option (Int) := spec_orBelow.l0 k a1 0 l0_1 (l0_1.length : Int) 0
def spec_orMirror.l0 : Nat → Int → Int → Int → List Int → Int → List Int → Option (Int × List Int)
 | 0,_,_,_,_,_,_=>none
 | k + 1,x10,x11,x600000,x600001,x602000,x602001=>if x11 < x10 then ((spec_orBelow.f k x600000 x600001 x11).bind fun t602=>(if x602001.length < 17592186044416 then (spec_orMirror.l0 k x10 (wrap64 (x11 + 1)) x600000 x600001 x602000 (x602001 ++ [t602])) else (none))) else (some (x602000,x602001))
def impl_Order_all.f (a0_0 : Int) (l0_1 : List Int) : Option (Int) := if 0 ≤ a0_0 then (some (wrap64 ((shl .i64 1 a0_0) - 1))) else (none)
def impl_Order_indifferent.l0 : Nat → List Int → Int → Int → Int → List Int → Int → List Int → Option (List Int)
 | 0,_,_,_,_,_,_,_=>none
 | k + 1,x3,x10,x11,x376000,x376001,x384000,x384001=>if x11 < x10 then ((impl_Order_all.f x376000 x376001).bind fun t384=>(if 0 ≤ x11 then (if x11 < (x376001.length : Int) then (if x11 < (x384001.length : Int) then (if x3.length < 17592186044416 then (impl_Order_indifferent.l0 k (x3 ++ [Go.bits .andNot .i64 (Go.bits .andNot .i64 (Go.bits .andNot .i64 t384 (rd x376001 x11)) (rd x384001 x11)) (shl .i64 1 x11)]) x10 (wrap64 (x11 + 1)) x376000 x376001 x384000 x384001) else (none)) else (none)) else (none)) else (none))) else (some x3)
def laws_pSame.l0 : Nat → List Int → List Int → Int → Int → Option (Bool)
 | 0,_,_,_,_=>none
 | k + 1,x0,x1,x12,x13=>if x13 < x12 then (if 0 ≤ x13 then (if x13 < (x0.length : Int) then (if x13 < (x1.length : Int) then (if (rd x0 x13) = (rd x1 x13) then (laws_pSame.l0 k x0 x1 x12 (wrap64 (x13 + 1))) else (some false)) else (none)) else (none)) else (none)) else (some true)

end Go.Proofs.YtjdkcafpgebjfaaDoor.P
namespace Go.Proofs.YtjdkcafpgebjfaaDoor.P
open Go.RowKit Go.Proofs.YtjdkcafpgebjfaaDoorW.PrintWords Go.Proofs.YtjdkcafpgebjfaaDoorW.PrintLast Go.Proofs.YtjdkcafpgebjfaaDoorW.PrintMore
open Bool renaming true → T, false → F
open List renaming setIfInBounds_toArray → L_, set_cons_zero → M_, set_cons_succ → N_, map_toArray → P_, map_cons → Q_, map_nil → R_, length_drop → S_, length_take → U_
open Aside0 renaming mk → A_
attribute [local go_sem] max2_int min2_int max_two min_two max_three min_three max_four min_four
set_option linter.unusedVariables false
set_option linter.unusedSimpArgs false
attribute [local go_sem] fldOrder_0 fldOrder_1
end Go.Proofs.YtjdkcafpgebjfaaDoor.P
namespace Go.Proofs.YtjdkcafpgebjfaaDoor.M
open Go.RowKit Go.Proofs.YtjdkcafpgebjfaaDoorW.PrintMore Go.Proofs.YtjdkcafpgebjfaaDoorW.PrintLast Go.Proofs.YtjdkcafpgebjfaaDoorW.PrintWords Go.Proofs.YtjdkcafpgebjfaaDoor.P
theorem toIntS_ev (l : List Int) (hl : l.length ≤ 1048576) : Ev (fun k => laws_toIntS.f k l) l := by
  unfold laws_toIntS.f
  simp only [if_pos (show (0 : Int) ≤ (l.length : Int) by omega), Int.toNat_natCast, if_pos (show l.length ≤ 35184372088832 by omega)]
  have hz : List.replicate l.length (0 : Int) = l.take 0 ++ List.replicate (l.length - 0) 0 := by simp
  rw [hz]
  refine Ev.to (Ev.up (r := l.take l.length ++ List.replicate (l.length - l.length) 0) (fun i k => laws_toIntS.l0 k l (l.take i ++ List.replicate (l.length - i) 0) (i : Int)) l.length ?_ ?_) (by simp)
  · intro i hi next
    refine Ev.step (fun _ => rfl) ?_
    have e : (l.take i ++ List.replicate (l.length - i) (0 : Int)).set i (rd l (i : Int)) = l.take (i + 1) ++ List.replicate (l.length - (i + 1)) 0 := by
      have e1 : l.take (i + 1) = l.take i ++ [l[i]] := by rw [List.take_add_one]; simp [hi]
      rw [List.set_append_right _ _ (by rw [List.length_take]; omega), List.length_take, Nat.min_eq_left (Nat.le_of_lt hi), Nat.sub_self, show l.length - i = (l.length - (i + 1)) + 1 by omega, List.replicate_succ, List.set_cons_zero, e1, List.append_assoc, rd_get l i hi]
      rfl
    simp only [laws_toIntS.l0, if_pos (show (i : Int) < (l.length : Int) by omega), if_pos (show (0 : Int) ≤ (i : Int) by omega), List.length_append, List.length_take, List.length_replicate, if_pos (show (i : Int) < ((min i l.length + (l.length - i) : Nat) : Int) by omega), Int.toNat_natCast, e, next64 i l.length hi (by omega)]
    exact next
  · refine Ev.step (fun _ => rfl) ?_
    simp only [laws_toIntS.l0, if_neg (show ¬ (l.length : Int) < (l.length : Int) by omega)]
    exact Ev.now _
theorem toOrder_ev (n : Int) (l : List Int) (hl : l.length ≤ 1048576) : Ev (fun k => laws_toOrder.f k n l) (n, l) := by
  unfold laws_toOrder.f
  exact Ev.bind (toIntS_ev l hl) (Ev.now _)
theorem eqIntS_ev (l l' : List Int) (hl : l.length ≤ 1048576) : Ev (fun k => laws_eqIntS.f k l l') (decide (l = l')) := by
  unfold laws_eqIntS.f
  by_cases h : (l.length : Int) = (l'.length : Int)
  · simp only [if_pos h]
    refine Ev.to (Ev.all (fun i k => laws_eqIntS.l0 k l l' (i : Int)) l.length (fun i => decide (l.getD i 0 = l'.getD i 0)) ?_ ?_ ?_) ?_
    · intro i r hi hp next
      refine Ev.step (fun _ => rfl) ?_
      simp only [laws_eqIntS.l0, if_pos (show (i : Int) < (l.length : Int) by omega), if_pos (show (0 : Int) ≤ (i : Int) by omega), if_pos (show (i : Int) < (l'.length : Int) by omega), rd_nat, if_pos (of_decide_eq_true hp), next64 i l.length hi (by omega)]
      exact next
    · intro i hi hp
      refine Ev.step (fun _ => rfl) ?_
      simp only [laws_eqIntS.l0, if_pos (show (i : Int) < (l.length : Int) by omega), if_pos (show (0 : Int) ≤ (i : Int) by omega), if_pos (show (i : Int) < (l'.length : Int) by omega), rd_nat, if_neg (of_decide_eq_false hp)]
      exact Ev.now _
    · refine Ev.step (fun _ => rfl) ?_
      simp only [laws_eqIntS.l0, if_neg (show ¬ (l.length : Int) < (l.length : Int) by omega)]
      exact Ev.now _
    · rw [Bool.eq_iff_iff, allB_iff, decide_eq_true_iff]
      constructor
      · intro H
        exact list_ext_getD (by omega) fun i hi => of_decide_eq_true (H i hi)
      · rintro rfl i _
        simp
  · simp only [if_neg h]
    refine Ev.to (Ev.now _) ?_
    symm
    rw [decide_eq_false_iff_not]
    rintro rfl
    exact h rfl
theorem eqOrder_ev (n m : Int) (l l' : List Int) (hl : l.length ≤ 1048576) : Ev (fun k => laws_eqOrder.f k n l m l') (decide (n = m ∧ l = l')) := by
  unfold laws_eqOrder.f
  by_cases h : n = m
  · simp only [if_pos h]
    refine Ev.bind (eqIntS_ev l l' hl) ?_
    by_cases h2 : l = l'
    · simp only [decide_eq_true h2, if_true]
      exact Ev.to (Ev.now _) (by simp [h, h2])
    · simp only [decide_eq_false h2, Bool.false_eq_true, if_false]
      exact Ev.to (Ev.now _) (by simp [h2])
  · simp only [if_neg h]
    exact Ev.to (Ev.now _) (by simp [h])
theorem eqOrder_same (n : Int) (l : List Int) (hl : l.length ≤ 1048576) : Ev (fun k => laws_eqOrder.f k n l n l) true := Ev.to (eqOrder_ev n n l l hl) (by simp)
def marks (a n : Nat) : List Int := (List.range n).map fun i => ((a + i : Nat) : Int)
theorem marks_length (a n : Nat) : (marks a n).length = n := by simp [marks]
theorem marks_getD (a n i : Nat) (h : i < n) : (marks a n).getD i 0 = ((a + i : Nat) : Int) := by simp [marks, h]
theorem marks_succ (a n : Nat) : marks a (n + 1) = marks a n ++ [((a + n : Nat) : Int)] := by simp [marks, List.range_succ]
theorem markOrder_ev (n : Int) (l : List Int) (a : Nat) (ha : a ≤ 4194304) (hl : l.length ≤ 1048576) : Ev (fun k => laws_markOrder.f k n l (a : Int)) (((a + l.length : Nat) : Int), marks a l.length) := by
  unfold laws_markOrder.f laws_markIntS.f
  refine Ev.bind (Ev.to (r := (((a + l.length : Nat) : Int), marks a l.length ++ l.drop l.length)) ?_ (by rw [List.drop_length, List.append_nil])) (Ev.now _)
  have e0 : l = marks a 0 ++ l.drop 0 := by simp [marks]
  have h0 : Ev (fun k => laws_markIntS.l0 k (marks a 0 ++ l.drop 0) ((a + 0 : Nat) : Int) ((0 : Nat) : Int)) (((a + l.length : Nat) : Int), marks a l.length ++ l.drop l.length) := by
    refine Ev.up (fun i k => laws_markIntS.l0 k (marks a i ++ l.drop i) ((a + i : Nat) : Int) (i : Int)) l.length ?_ ?_
    · intro i hi next
      refine Ev.step (fun _ => rfl) ?_
      have e : (marks a i ++ l.drop i).set i ((a + i : Nat) : Int) = marks a (i + 1) ++ l.drop (i + 1) := by
        rw [List.set_append_right _ _ (by rw [marks_length]; omega), marks_length, Nat.sub_self, List.drop_eq_getElem_cons hi, List.set_cons_zero, marks_succ, List.append_assoc]
        rfl
      have ew : wrap64 (((a + i : Nat) : Int) + 1) = ((a + (i + 1) : Nat) : Int) := by rw [wrap64_in _ (by omega) (by omega)]; omega
      simp only [laws_markIntS.l0, List.length_append, marks_length, List.length_drop, if_pos (show (i : Int) < ((i + (l.length - i) : Nat) : Int) by omega), if_pos (show (0 : Int) ≤ (i : Int) by omega), Int.toNat_natCast, e, ew, next64 i l.length hi (by omega)]
      exact next
    · refine Ev.step (fun _ => rfl) ?_
      simp only [laws_markIntS.l0, List.length_append, marks_length, List.length_drop, if_neg (show ¬ (l.length : Int) < ((l.length + (l.length - l.length) : Nat) : Int) by omega)]
      exact Ev.now _
  rw [← e0] at h0
  exact h0
theorem heldOrder_ev (n : Int) (m a : Nat) (ha : a ≤ 4194304) (hm : m ≤ 1048576) : Ev (fun k => laws_heldOrder.f k n (marks a m) (a : Int)) ((a + m : Nat) : Int) := by
  unfold laws_heldOrder.f laws_heldIntS.f
  refine Ev.bind (a := ((a + m : Nat) : Int)) ?_ ?_
  · have h0 : Ev (fun k => laws_heldIntS.l0 k (marks a m) ((a + 0 : Nat) : Int) ((0 : Nat) : Int)) ((a + m : Nat) : Int) := by
      refine Ev.up (fun i k => laws_heldIntS.l0 k (marks a m) ((a + i : Nat) : Int) (i : Int)) m ?_ ?_
      · intro i hi next
        refine Ev.step (fun _ => rfl) ?_
        have ew : wrap64 (((a + i : Nat) : Int) + 1) = ((a + (i + 1) : Nat) : Int) := by rw [wrap64_in _ (by omega) (by omega)]; omega
        simp only [laws_heldIntS.l0, marks_length, if_pos (show (i : Int) < (m : Int) by omega), if_pos (show (0 : Int) ≤ (i : Int) by omega), rd_nat, marks_getD a m i hi, if_true, ew, next64 i m hi (by omega)]
        exact next
      · refine Ev.step (fun _ => rfl) ?_
        simp only [laws_heldIntS.l0, marks_length, if_neg (show ¬ (m : Int) < (m : Int) by omega)]
        exact Ev.now _
    exact h0
  · simp only [if_neg (show ¬ ((a + m : Nat) : Int) < 0 by omega)]
    exact Ev.now _
theorem szOrder_eq (n : Int) (l : List Int) (a : Int) (ha : 0 ≤ a) (ha2 : a ≤ 1048576) (hl : l.length ≤ maxLen) : laws_szOrder.f n l a = some (if a < (l.length : Int) then -1 else a - (l.length : Int)) := by
  have hl : l.length ≤ 9223372036854775807 := hl
  unfold laws_szOrder.f laws_szIntS.f
  rw [wrap64_in _ (by omega) (by omega)]
  by_cases h : a < (l.length : Int)
  · rw [if_pos (show a - (l.length : Int) < 0 by omega), if_pos h, Option.bind_some, if_pos (by omega)]
  · rw [if_neg (show ¬ a - (l.length : Int) < 0 by omega), if_neg h, Option.bind_some, if_neg (by omega)]
end Go.Proofs.YtjdkcafpgebjfaaDoor.M
namespace Go.Proofs.YtjdkcafpgebjfaaDoor.Pure
open Go.RowKit Go.Proofs.YtjdkcafpgebjfaaDoorW.PrintMore Go.Proofs.YtjdkcafpgebjfaaDoorW.PrintLast Go.Proofs.YtjdkcafpgebjfaaDoorW.PrintWords Go.Proofs.YtjdkcafpgebjfaaDoor.P Go.Proofs.YtjdkcafpgebjfaaDoor.M
set_option maxRecDepth 4000
def meet (n : Int) (l : List Int) (m : Int) (l' : List Int) : Int × List Int × Bool := if isOrd n l && (isOrd m l' && decide (n = m)) then (n, relL n.toNat (fun i j => B l i j && B l' i j), true) else (0, [], false)
theorem areOrders_ev (n : Int) (l : List Int) (m : Int) (l' : List Int) (hl : l.length ≤ 1048576) (hl' : l'.length ≤ 1048576) : Ev (fun k => impl_areOrders.f k n l m l') (isOrd n l && (isOrd m l' && decide (n = m))) := by
  unfold impl_areOrders.f
  refine Ev.bind (IsOrder_ev n l (by omega)) ?_
  cases isOrd n l with
  | false => simp only [Bool.false_eq_true, if_false, Bool.false_and]; exact Ev.now _
  | true =>
    simp only [if_true, Bool.true_and]
    refine Ev.bind (IsOrder_ev m l' (by omega)) ?_
    cases isOrd m l' with
    | false => simp only [Bool.false_eq_true, if_false, Bool.false_and]; exact Ev.now _
    | true =>
      simp only [if_true, Bool.true_and]
      exact Ev.to (Ev.now _) (by rw [Bool.eq_iff_iff]; simp)
theorem MeetOrders_ev (n : Int) (l : List Int) (m : Int) (l' : List Int) (hl : l.length ≤ 1048576) (hl' : l'.length ≤ 1048576) : Ev (fun k => impl_MeetOrders.f k n l m l') (meet n l m l') := by
  unfold impl_MeetOrders.f meet
  refine Ev.bind (areOrders_ev n l m l' hl hl') ?_
  cases hc : (isOrd n l && (isOrd m l' && decide (n = m))) with
  | false => simp only [Bool.false_eq_true, if_false]; exact Ev.now _
  | true =>
    rw [Bool.and_eq_true, Bool.and_eq_true, decide_eq_true_iff] at hc
    obtain ⟨h1, h2, rfl⟩ := hc
    obtain ⟨n, rfl, o⟩ := isOrd_iff.1 h1
    obtain ⟨n', hn', o'⟩ := isOrd_iff.1 h2
    obtain rfl : n = n' := by omega
    have hn := o.le
    simp only [if_true, Int.toNat_natCast]
    refine Ev.bind (relation_ev n (by omega) (fun _ x y => impl_MeetOrders_1.f x y (n : Int) l (n : Int) l') (fun i j => B l i j && B l' i j) ?_) (Ev.now _)
    intro i j hi hj
    refine Ev.const ?_
    unfold impl_MeetOrders_1.f
    rw [better_eq o.toRel n i j hi (by omega), better_eq o'.toRel n i j hi (by omega)]
    cases B l i j <;> cases B l' i j <;> rfl
theorem sMeetOrders_ev (n : Int) (l : List Int) (m : Int) (l' : List Int) (hl : l.length ≤ 1048576) (hl' : l'.length ≤ 1048576) : Ev (fun k => spec_MeetOrders.f k n l m l') (meet n l m l') := by
  have no : Ev (fun k => spec_MeetOrders.j0 k true n l m l') ((0 : Int), ([] : List Int), false) := by
    refine Ev.step (fun _ => rfl) ?_
    simp only [spec_MeetOrders.j0, if_true]
    exact Ev.now _
  unfold spec_MeetOrders.f meet
  refine Ev.bind (orGood_ev n l (by omega)) ?_
  cases h1 : isOrd n l with
  | false => simp only [Bool.false_eq_true, if_false, Bool.false_and]; exact no
  | true =>
  simp only [if_true, Bool.true_and]
  refine Ev.bind (orGood_ev m l' (by omega)) ?_
  cases h2 : isOrd m l' with
  | false => simp only [Bool.false_eq_true, if_false, Bool.false_and]; exact no
  | true =>
  simp only [if_true, Bool.true_and]
  by_cases h3 : n = m
  · subst h3
    obtain ⟨n, rfl, o⟩ := isOrd_iff.1 h1
    obtain ⟨n', hn', o'⟩ := isOrd_iff.1 h2
    obtain rfl : n = n' := by omega
    have hn := o.le
    simp only [bne_self_eq_false, decide_true, if_true, Int.toNat_natCast]
    refine Ev.step (fun _ => rfl) ?_
    simp only [spec_MeetOrders.j0, Bool.false_eq_true, if_false, o.len]
    have e : ∀ i, i < n → Go.bits .and .i64 (rd l (i : Int)) (rd l' (i : Int)) = ((setOf n fun j => B l i j && B l' i j : Nat) : Int) := by
      intro i hi
      rw [o.toRel.rd, o'.toRel.rd, and_i64 _ _ (o.toRel.row_62 i) (o'.toRel.row_62 i)]
      congr 1
      apply Nat.eq_of_testBit_eq
      intro j
      rw [Nat.testBit_and, testBit_setOf]
      show (B l i j && B l' i j) = _
      by_cases hj : j < n
      · simp [hj]
      · cases hb : B l i j with
        | false => simp
        | true => exact absurd (o.toRel.B_lt hb) hj
    have h0 : Ev (fun k => spec_MeetOrders.l0 k l (n : Int) ((0 : Nat) : Int) (n : Int) l' (n : Int) ((List.range 0).map fun i => ((setOf n fun j => B l i j && B l' i j : Nat) : Int))) ((n : Int), relL n (fun i j => B l i j && B l' i j), true) := by
      refine Ev.up (fun i k => spec_MeetOrders.l0 k l (n : Int) (i : Int) (n : Int) l' (n : Int) ((List.range i).map fun i => ((setOf n fun j => B l i j && B l' i j : Nat) : Int))) n ?_ ?_
      · intro i hi next
        refine Ev.step (fun _ => rfl) ?_
        simp only [spec_MeetOrders.l0, if_pos (show (i : Int) < (n : Int) by omega), if_pos (show (0 : Int) ≤ (i : Int) by omega), o.len, o'.len, List.length_map, List.length_range, if_pos (show i < 17592186044416 by omega), e i hi, next64 i n hi (by omega)]
        simpa [List.range_succ] using next
      · refine Ev.step (fun _ => rfl) ?_
        simp only [spec_MeetOrders.l0, if_neg (show ¬ (n : Int) < (n : Int) by omega)]
        exact Ev.now _
    exact h0
  · simp only [show (n != m) = true from by simpa using h3, decide_eq_false h3, Bool.false_eq_true, if_false]
    exact no
theorem meet_len (n : Int) (l : List Int) (m : Int) (l' : List Int) : (meet n l m l').2.1.length ≤ 10 := by
  unfold meet
  split
  · rename_i h
    rw [Bool.and_eq_true] at h
    obtain ⟨n, rfl, o⟩ := isOrd_iff.1 h.1
    have := o.le
    simpa [relL_length] using this
  · simp
theorem FnExactMeetOrders : P.laws_FnExactMeetOrders.Pure := by
  intro n l m l' _ hl _ _ hl' _
  refine Ev.rounds (g := fun k => laws_FnExactMeetOrders.f k n l m l') ?_
  unfold laws_FnExactMeetOrders.f
  rw [szOrder_eq n l 1048576 (by omega) (by omega) hl]
  simp only [Option.bind_some]
  by_cases hc : (1048576 : Int) < (l.length : Int)
  · simp only [if_pos hc, if_pos (show (-1 : Int) < 0 by omega)]
    exact Ev.now _
  simp only [if_neg hc, if_neg (show ¬ 1048576 - (l.length : Int) < 0 by omega)]
  rw [szOrder_eq m l' (1048576 - (l.length : Int)) (by omega) (by omega) hl']
  simp only [Option.bind_some]
  by_cases hc' : 1048576 - (l.length : Int) < (l'.length : Int)
  · simp only [if_pos hc', if_pos (show (-1 : Int) < 0 by omega)]
    exact Ev.now _
  simp only [if_neg hc', if_neg (show ¬ 1048576 - (l.length : Int) - (l'.length : Int) < 0 by omega)]
  have hl1 : l.length ≤ 1048576 := by omega
  have hl2 : l'.length ≤ 1048576 := by omega
  have hlen := meet_len n l m l'
  refine Ev.bind (toOrder_ev n l hl1) ?_
  refine Ev.bind (toOrder_ev m l' hl2) ?_
  refine Ev.bind (sMeetOrders_ev n l m l' hl1 hl2) ?_
  refine Ev.bind (toOrder_ev n l hl1) ?_
  refine Ev.bind (toOrder_ev m l' hl2) ?_
  refine Ev.bind (MeetOrders_ev n l m l' hl1 hl2) ?_
  refine Ev.bind (eqOrder_same _ _ (by omega)) ?_
  simp only [if_true, bne_self_eq_false]
  refine Ev.step (fun _ => rfl) ?_
  simp only [laws_FnExactMeetOrders.j0, Bool.false_eq_true, if_false]
  refine Ev.bind (toOrder_ev n l hl1) ?_
  refine Ev.bind (eqOrder_same _ _ hl1) ?_
  simp only [if_true]
  refine Ev.bind (toOrder_ev m l' hl2) ?_
  refine Ev.bind (eqOrder_same _ _ hl2) ?_
  simp only [if_true]
  refine Ev.bind (markOrder_ev n l 1 (by omega) hl1) ?_
  refine Ev.bind (markOrder_ev m l' (1 + l.length) (by omega) hl2) ?_
  simp only [if_neg (show ¬ ((1 + l.length + l'.length : Nat) : Int) < 0 by omega)]
  refine Ev.bind (eqOrder_same _ _ (by omega)) ?_
  simp only [if_true, bne_self_eq_false]
  refine Ev.step (fun _ => rfl) ?_
  simp only [laws_FnExactMeetOrders.j1, Bool.false_eq_true, if_false]
  refine Ev.bind (markOrder_ev _ _ 1 (by omega) (by omega)) ?_
  refine Ev.bind (heldOrder_ev _ _ 1 (by omega) (by omega)) ?_
  simp only [if_neg (show ¬ ((1 + (meet n l m l').2.1.length : Nat) : Int) < 0 by omega), if_true]
  refine Ev.bind (toOrder_ev n l hl1) ?_
  refine Ev.bind (toOrder_ev m l' hl2) ?_
  refine Ev.bind (MeetOrders_ev n l m l' hl1 hl2) ?_
  refine Ev.bind (eqOrder_same _ _ (by omega)) ?_
  simp only [if_true, bne_self_eq_false]
  refine Ev.step (fun _ => rfl) ?_
  simp only [laws_FnExactMeetOrders.j2, Bool.false_eq_true, if_false]
  refine Ev.bind (heldOrder_ev _ _ 1 (by omega) (by omega)) ?_
  simp only [if_neg (show ¬ ((1 + (meet n l m l').2.1.length : Nat) : Int) < 0 by omega), if_true]
  exact Ev.now _
end Go.Proofs.YtjdkcafpgebjfaaDoor.Pure
namespace Go.Proofs.YtjdkcafpgebjfaaDoor.fnExactMeetOrders
open Go.ChangeShapes Go.WideShapes Go.ChangeAt Go.RowKit
open Go.ChangeMaps (open_string shut_string)
open Go.Proofs.YtjdkcafpgebjfaaDoorW
set_option linter.unusedVariables false
theorem own : ownKnob Tryd.prog.godebug = none := by kernel_rfl
theorem laidOut : laidOutB Tryd.prog = true := by kernel_rfl
def IsRow (k : IntKind) (w : World) (a : Option Addr) (len cap : Nat) (zs : List Int) : Prop :=
  (a = none ∧ len = 0 ∧ cap = 0 ∧ zs = []) ∨
  ∃ x, a = some x ∧ len ≤ cap ∧ cap ≤ maxLen ∧ zs.length = cap ∧ (∀ i, i < zs.length → w.cell? (x.add i) = some (.int k (zs.getD i 0))) ∧ ∀ n ∈ zs, (Lit.int k n).wf = true
theorem gT : Tryd.prog.globalNamed "math/bits.deBruijn64tab" = some 1 := by kernel_rfl
theorem tT : (Tryd.prog.globals[1]?).map (·.type) = some 124 := by kernel_rfl
theorem cT : Tryd.prog.cellsOf 124 = 64 := by kernel_rfl
theorem cE : Tryd.prog.cellsOf 5 = 1 := by kernel_rfl
def tab64 : List Int := Lib.deBruijn64tab.map fun (z : Nat) => (z : Int)
theorem tab64_at : ∀ j, j < 64 → tab64.getD j 0 = ((Lib.deBruijn64tab.getD j 0 : Nat) : Int) := by decide +kernel
theorem table {W : World} (h : laidMetH Tryd.prog Rows.fnExactMeetOrdersRow.laid W) : P.TabOK W := by
  rw [MakeChecks.laidMetH_plain _ _ _ (by kernel_rfl)] at h
  have h1 : laidMet Tryd.prog [("math/bits.deBruijn32tab", Rows.laid_math_bits_deBruijn32tab), ("math/bits.deBruijn64tab", Lib.tabData .u8 tab64)] W := h
  have h0 := laidMet.tail (h1)
  have ht := Lib.tabIs_of_head gT tT Tryd.underlying124 Tryd.underlying5 cE cT h0
  intro j hj
  rw [ht.cell gT j (by exact hj), tab64_at j hj]
theorem door_met (os : Os) (args : Array Value) : laidMetH Tryd.prog Rows.fnExactMeetOrdersRow.laid ((World.doorLaid Tryd.prog 400 os).forCall (fun _ _ => 0) ⟨#[], args, []⟩).memory :=
  laidMetH_of_parts3 (fuel := 8) (laidMet_of_run' 8 (by kernel_rfl) (by kernel_rfl)) (by kernel_rfl) (by kernel_rfl)
set_option maxRecDepth 100000 in
theorem lifted (os : Os) (started : os.Started) (H : Type) (enc : TypeId × Value → H) :
    ReturnsInHanded {} Tryd.checked os 3 .any (fun w args => (Rows.fnExactMeetOrdersSpec.pre enc Tryd.prog Tryd.f3 [] false w args ∧ laidMetH Tryd.prog Rows.fnExactMeetOrdersRow.laid w) ∧ sizedMet enc Tryd.prog Tryd.f3 (OpenSpec.ofChange Rows.fnExactMeetOrdersSpec) false w args)
      (Rows.fnExactMeetOrdersSpec.post enc Tryd.prog Tryd.f3 false true false false) := by
  refine returnsInHanded_of_change_and (C := Tryd.checked) (X := fun w _ => laidMetH Tryd.prog Rows.fnExactMeetOrdersRow.laid w) (fun _ _ _ hh h => h.of_heap hh) own started (by kernel_rfl) Tryd.func3
    (ChangeSpec.witness_shaped (enc := enc) (C := Tryd.checked) (os := os) (X := fun w _ => laidMetH Tryd.prog Rows.fnExactMeetOrdersRow.laid w) false (World.doorLaid Tryd.prog 400 os) #[.agg #[.int .i64 0, .slice none 0 0], .agg #[.int .i64 0, .slice none 0 0]] 8 rfl (World.shaped_of_RefB (by kernel_rfl) (by kernel_rfl)) (by kernel_rfl) (by kernel_rfl) (by kernel_rfl) (door_met os _)) ?_
  intro W base args ds gs before hval0 hW hcnd hsz0 hL _
  have hsz : (DataW.weightsEach Tryd.prog (Tryd.f3.params.toList ++ Rows.fnExactMeetOrdersSpec.plain.varTypes Tryd.prog) (ds ++ gs)).all (· ≤ reachBytes) = true := hsz0
  have hval : ∀ (j : Nat) t v, Tryd.f3.params[j]? = some t → args[j]? = some v → Value.okWide Tryd.prog W .any base t v := hval0
  have hW' := hW
  obtain ⟨p, q, hA0, hV, rfl, hfz, hnd⟩ := hW
  have hA : DataW.TrodAll enc Tryd.prog W 0 (fun _ => true) true Tryd.f3.params.toList args.toList ds p := hA0
  rw [Tryd.params3] at hA hval hsz
  obtain ⟨v0, vs0, d0, ds0, p0, q0, hargs, rfl, rfl, h0, r0⟩ := trodAll_cons hA
  obtain ⟨v1, vs1, d1, ds1, p1, q1, rfl, rfl, rfl, h1, r1⟩ := trodAll_cons r0
  obtain ⟨rfl, rfl, rfl⟩ := trodAll_nil r1
  obtain rfl : args = #[v0, v1] := by cases args; simp_all
  obtain ⟨rfl, rfl⟩ := trodVars_none hV
  have k0 := h0
  have lt0 : ∀ x ∈ p0, x.block < W.heap.size := by obtain ⟨m, hm⟩ := k0; exact DataW.trod_lt m _ _ _ hm
  obtain ⟨u0_0, u0_1, y0_0, y0_1, n0_, rfl, hd0_, hp0_, e0_0, e0_1⟩ := Go.Joins.open_agg2 Tryd.underlying24 (by kernel_rfl) (by kernel_rfl) (hval 0 24 v0 rfl rfl) h0
  obtain ⟨a0_0, hc0_0, _, w0_0⟩ := DataW.trod_int Tryd.underlying3 e0_0
  simp only [List.cons.injEq, and_true] at hc0_0
  subst hc0_0
  obtain ⟨a0_1, len0_1, cap0_1, hc0_1⟩ := Go.Joins.slice_form Tryd.underlying22 e0_1
  simp only [List.cons.injEq, and_true] at hc0_1
  subst hc0_1
  obtain ⟨z0_1, w0_1⟩ : ∃ zs, IsRow .i64 W a0_1 len0_1 cap0_1 zs := by
    rcases open_ints Tryd.underlying22 Tryd.underlying3 (by kernel_rfl) e0_1 with ⟨hcs, _⟩ | ⟨x, l, c, zs, hcs, _, hl, hm, hz, _, hcell, hwz⟩
    · simp at hcs
      obtain ⟨rfl, rfl, rfl⟩ := hcs
      exact ⟨[], .inl ⟨rfl, rfl, rfl, rfl⟩⟩
    · simp at hcs
      obtain ⟨rfl, rfl, rfl⟩ := hcs
      exact ⟨zs, .inr ⟨_, rfl, hl, hm, by simpa using hz, hcell, hwz⟩⟩
  have k1 := h1
  have lt1 : ∀ x ∈ p1, x.block < W.heap.size := by obtain ⟨m, hm⟩ := k1; exact DataW.trod_lt m _ _ _ hm
  obtain ⟨u1_0, u1_1, y1_0, y1_1, n1_, rfl, hd1_, hp1_, e1_0, e1_1⟩ := Go.Joins.open_agg2 Tryd.underlying24 (by kernel_rfl) (by kernel_rfl) (hval 1 24 v1 rfl rfl) h1
  obtain ⟨a1_0, hc1_0, _, w1_0⟩ := DataW.trod_int Tryd.underlying3 e1_0
  simp only [List.cons.injEq, and_true] at hc1_0
  subst hc1_0
  obtain ⟨a1_1, len1_1, cap1_1, hc1_1⟩ := Go.Joins.slice_form Tryd.underlying22 e1_1
  simp only [List.cons.injEq, and_true] at hc1_1
  subst hc1_1
  obtain ⟨z1_1, w1_1⟩ : ∃ zs, IsRow .i64 W a1_1 len1_1 cap1_1 zs := by
    rcases open_ints Tryd.underlying22 Tryd.underlying3 (by kernel_rfl) e1_1 with ⟨hcs, _⟩ | ⟨x, l, c, zs, hcs, _, hl, hm, hz, _, hcell, hwz⟩
    · simp at hcs
      obtain ⟨rfl, rfl, rfl⟩ := hcs
      exact ⟨[], .inl ⟨rfl, rfl, rfl, rfl⟩⟩
    · simp at hcs
      obtain ⟨rfl, rfl, rfl⟩ := hcs
      exact ⟨zs, .inr ⟨_, rfl, hl, hm, by simpa using hz, hcell, hwz⟩⟩
  clear hA0 hval0 hsz0 hsz
  refine (P.laws_FnExactMeetOrders.walk Pure.FnExactMeetOrders a0_0 a0_1 len0_1 cap0_1 z0_1 a1_0 a1_1 len1_1 cap1_1 z1_1 W w0_0 w0_1 w1_0 w1_1 (table hL)).mono fun e W' ⟨he, bel⟩ => ?_
  subst he
  exact ⟨_, rfl, _, _, _, [], _, [], hW', trodAll_mk1 (shut_bool Tryd.underlying4 _), (trodAll_cons_mk (Below.trod laidOut (by kernel_rfl) (of_decide_eq_true (by kernel_rfl)) k0 bel lt0) (trodAll_cons_mk (Below.trod laidOut (by kernel_rfl) (of_decide_eq_true (by kernel_rfl)) k1 bel lt1) trodAll_mk0)), rfl, bel.frame _, fun h => by cases h⟩
theorem over : Rows.fnExactMeetOrdersRow.holds Tryd.pinned (OpenSpec.ofChange Rows.fnExactMeetOrdersSpec) :=
  OpenClaim.holds_of_wide 3 Tryd.f3 rfl rfl rfl rfl rfl rfl rfl ⟨rfl, rfl, rfl, rfl, rfl⟩ rfl rfl rfl rfl rfl (by kernel_rfl) Tryd.func3 (by kernel_rfl)
    (of_decide_eq_true (by kernel_rfl)) (by unfold Func.isWrapper; first | (rw [if_pos (by decide +kernel)]; kernel_rfl) | (rw [if_neg (by decide +kernel)]; exact ⟨rfl, rfl⟩))
    (fun os started H enc _ => lifted os started H enc)
theorem proved : Rows.FnExactMeetOrdersCardSaid :=
  Claim7.holds_tied_plain_at .later [] [.data, .data] true (true, "5d58891a245336e29b7e5b518917121b9d138b4959fb48b1af33e9c76743e3aa") false
    over (fun _ h => by cases h) (by kernel_rfl) (fun _ h => by cases h) fnExactMeetOrders_row_tie rfl ⟨rfl, rfl⟩ (by kernel_rfl) rfl
    (fun f fn hf hfn => by
      obtain rfl : f = 3 := Option.some.inj ((show Tryd.prog.funcNamed "loop.example/g01106/laws.FnExactMeetOrders" = some 3 by kernel_rfl).symm.trans hf) |>.symm
      obtain rfl : fn = Tryd.f3 := (Option.some.inj (Tryd.func3.symm.trans hfn)).symm
      exact ⟨by kernel_rfl, fun j t ht => by
        rw [Tryd.params3] at ht
        have hm : t ∈ [24] := by have hq := Array.mem_of_getElem? ht; simp at hq; simp [hq]
        have hall : ([24].all fun u => !Tryd.prog.wantsStandIn u) = true := by kernel_rfl
        exact (show Tryd.prog.wantsStandIn t = false by simpa using List.all_eq_true.1 hall t hm)⟩)
    (by kernel_rfl)
end Go.Proofs.YtjdkcafpgebjfaaDoor.fnExactMeetOrders
namespace Go.Proofs.YtjdkcafpgebjfaaDoor
theorem fnExactMeetOrders_holds : Rows.FnExactMeetOrdersCardSaid := fnExactMeetOrders.proved
end Go.Proofs.YtjdkcafpgebjfaaDoor
