/- The law FnRefinements holds at every input. Written by wip/pack.py: the kit's printed words that are used, the functions' walks as wip/gen.py prints them, and hand proofs. -/
import Derived.Test.YtimjblnglhmakaaDoorKFnRefinements6
import Derived.Lib.SlicesCompact
import Derived.SizedLaws
import Derived.ChangeSlices
import Derived.Test.YtimjblnglhmakaaDoorRows
import Derived.Test.YtimjblnglhmakaaDoorCards
import Derived.Test.YtimjblnglhmakaaDoorTie
import Derived.WalkKit
import Derived.ProofKit
import Derived.OpenShut
import Derived.ShutString
import Derived.ChangeOld
import Derived.Below
import Derived.LaidMore
import Derived.Stop.Joined
import Derived.Stop.LaidErr
import Derived.Lib.LaidTab
import Derived.Lib.SmallJoins
import Derived.SevenTiedAt
namespace Go.Proofs.YtimjblnglhmakaaDoor.M
open Go.RowKit Go.Proofs.YtimjblnglhmakaaDoorW.PrintMore Go.Proofs.YtimjblnglhmakaaDoorW.PrintLast Go.Proofs.YtimjblnglhmakaaDoorW.PrintWords Go.Proofs.YtimjblnglhmakaaDoor.P
def isRel (n : Int) (l : List Int) : Bool := decide (0 ≤ n ∧ n ≤ 10 ∧ (l.length : Int) = n ∧ ∀ x ∈ l, 0 ≤ x ∧ x ≤ ((2 ^ n.toNat : Nat) : Int) - 1)
def row (l : List Int) (i : Nat) : Nat := (l.getD i 0).toNat
def B (l : List Int) (i j : Nat) : Bool := (row l i).testBit j
structure Rel (n : Nat) (l : List Int) : Prop where
  le : n ≤ 10
  len : l.length = n
  mem : ∀ x ∈ l, 0 ≤ x ∧ x ≤ ((2 ^ n : Nat) : Int) - 1
theorem isRel_iff {n : Int} {l : List Int} : isRel n l = true ↔ ∃ m : Nat, n = m ∧ Rel m l := by
  unfold isRel
  rw [decide_eq_true_iff]
  constructor
  · rintro ⟨h0, h1, h2, h3⟩
    obtain ⟨m, rfl⟩ := Int.eq_ofNat_of_zero_le h0
    exact ⟨m, rfl, by omega, by omega, by simpa using h3⟩
  · rintro ⟨m, rfl, h⟩
    refine ⟨by omega, by have := h.le; omega, by have := h.len; omega, by simpa using h.mem⟩
section
variable {n : Nat} {l : List Int}
theorem Rel.getD (h : Rel n l) (i : Nat) : l.getD i 0 = ((row l i : Nat) : Int) := by
  unfold row
  by_cases hi : i < l.length
  · have := (h.mem l[i] (List.getElem_mem hi)).1
    rw [show l.getD i 0 = l[i] by simp [hi]]
    omega
  · rw [show l.getD i 0 = 0 by simp [Nat.not_lt.1 hi]]
    rfl
theorem Rel.row_lt (h : Rel n l) (i : Nat) : row l i < 2 ^ n := by
  have hp : 0 < 2 ^ n := Nat.two_pow_pos n
  by_cases hi : i < l.length
  · have h1 := h.mem l[i] (List.getElem_mem hi)
    have h2 := h.getD i
    rw [show l.getD i 0 = l[i] by simp [hi]] at h2
    omega
  · unfold row
    rw [show l.getD i 0 = 0 by simp [Nat.not_lt.1 hi]]
    simpa using hp
theorem Rel.row_62 (h : Rel n l) (i : Nat) : row l i < 9223372036854775808 := lt62 (h.row_lt i) (by have := h.le; omega)
theorem Rel.B_lt (h : Rel n l) {i j : Nat} (hb : B l i j = true) : j < n := by
  apply Nat.lt_of_not_le
  intro hle
  unfold B at hb
  rw [Nat.testBit_lt_two_pow (Nat.lt_of_lt_of_le (h.row_lt i) (Nat.pow_le_pow_right (by decide) hle))] at hb
  cases hb
theorem Rel.B_lt' (h : Rel n l) {i j : Nat} (hb : B l i j = true) : i < n := by
  apply Nat.lt_of_not_le
  intro hle
  unfold B row at hb
  rw [show l.getD i 0 = 0 by simp [h.len, hle]] at hb
  simp at hb
theorem Rel.rd (h : Rel n l) (i : Nat) : rd l (i : Int) = ((row l i : Nat) : Int) := by rw [rd_nat, h.getD]
theorem Rel.bit (h : Rel n l) (i j : Nat) : M.bit (Go.Proofs.YtimjblnglhmakaaDoorW.PrintWords.rd l (i : Int)) j = B l i j := by rw [h.rd, bit_cast]; rfl
theorem Rel.ext {l' : List Int} (h : Rel n l) (h' : Rel n l') (hb : ∀ i j, i < n → j < n → B l i j = B l' i j) : l = l' := by
  apply list_ext_getD (by rw [h.len, h'.len])
  intro i hi
  rw [h.getD, h'.getD]
  congr 1
  apply Nat.eq_of_testBit_eq
  intro j
  by_cases hj : j < n
  · exact hb i j (by rw [← h.len]; exact hi) hj
  · have e1 : B l i j = false := by
      cases hc : B l i j with
      | false => rfl
      | true => exact absurd (h.B_lt hc) hj
    have e2 : B l' i j = false := by
      cases hc : B l' i j with
      | false => rfl
      | true => exact absurd (h'.B_lt hc) hj
    exact e1.trans e2.symm
end
def relL (n : Nat) (p : Nat → Nat → Bool) : List Int := (List.range n).map fun i => ((setOf n (p i) : Nat) : Int)
theorem relL_length (n : Nat) (p : Nat → Nat → Bool) : (relL n p).length = n := by simp [relL]
theorem relL_row (n : Nat) (p : Nat → Nat → Bool) (i : Nat) (h : i < n) : row (relL n p) i = setOf n (p i) := by
  simp [row, relL, h]
theorem relL_B (n : Nat) (p : Nat → Nat → Bool) (i j : Nat) : B (relL n p) i j = (decide (i < n) && (decide (j < n) && p i j)) := by
  unfold B
  by_cases h : i < n
  · rw [relL_row n p i h, testBit_setOf]; simp [h]
  · have : row (relL n p) i = 0 := by simp [row, relL, h]
    rw [this]; simp [h]
theorem relL_rel (n : Nat) (hn : n ≤ 10) (p : Nat → Nat → Bool) : Rel n (relL n p) where
  le := hn
  len := relL_length n p
  mem := by
    intro x hx
    simp only [relL, List.mem_map, List.mem_range] at hx
    obtain ⟨i, _, rfl⟩ := hx
    have := setOf_lt n (p i)
    omega
theorem within_eq (a b c : Int) : Aba.f a b c = some (decide (b ≤ a ∧ a ≤ c)) := by
  unfold Aba.f
  by_cases h : a ≥ b
  · rw [if_pos h]; simp [h]
  · rw [if_neg h]; simp; omega
theorem l1In_eq (a b c : Int) : Abl.f a b c = some (decide (b ≤ a ∧ a ≤ c)) := by
  unfold Abl.f
  by_cases h : a ≥ b
  · rw [if_pos h]; simp [h]
  · rw [if_neg h]; simp; omega
def allIn (l : List Int) (a b : Int) : Bool := decide (∀ x ∈ l, a ≤ x ∧ x ≤ b)
theorem allIn_eq (l : List Int) (a b : Int) : allIn l a b = allB l.length fun i => decide (a ≤ l.getD i 0 ∧ l.getD i 0 ≤ b) := by
  rw [Bool.eq_iff_iff, allB_iff]
  simp only [allIn, decide_eq_true_iff]
  constructor
  · intro h i hi
    have := h l[i] (List.getElem_mem hi)
    simpa [hi] using this
  · intro h x hx
    obtain ⟨i, hi, rfl⟩ := List.getElem_of_mem hx
    have := h i hi
    simpa [hi] using this
theorem allWithin_ev (l : List Int) (a b : Int) (hl : l.length ≤ 140737488355328) : Ev (fun k => Aay.f k l a b) (allIn l a b) := by
  rw [allIn_eq]
  unfold Aay.f
  refine Ev.all (fun i k => Aay.l0 k a b l (l.length : Int) (i : Int)) l.length _ ?_ ?_ ?_
  · intro i r hi hp h
    refine Ev.step (fun _ => rfl) ?_
    rw [decide_eq_true_iff] at hp
    simp only [Aay.l0, if_pos (show (i : Int) < (l.length : Int) by omega), if_pos (show (0 : Int) ≤ (i : Int) by omega), within_eq, rd_nat, Option.bind_some, decide_eq_true hp, if_true, next64 i l.length hi hl]
    exact h
  · intro i hi hp
    refine Ev.step (fun _ => rfl) ?_
    rw [decide_eq_false_iff_not] at hp
    simp only [Aay.l0, if_pos (show (i : Int) < (l.length : Int) by omega), if_pos (show (0 : Int) ≤ (i : Int) by omega), within_eq, rd_nat, Option.bind_some, decide_eq_false hp, Bool.false_eq_true, if_false]
    exact Ev.now _
  · refine Ev.step (fun _ => rfl) ?_
    simp only [Aay.l0, if_neg (show ¬ (l.length : Int) < (l.length : Int) by omega)]
    exact Ev.now _
theorem l1All_ev (l : List Int) (a b : Int) (hl : l.length ≤ 140737488355328) : Ev (fun k => Aa3.f k l a b) (allIn l a b) := by
  rw [allIn_eq]
  unfold Aa3.f
  refine Ev.all (fun i k => Aa3.l0 k a b l (l.length : Int) (i : Int)) l.length _ ?_ ?_ ?_
  · intro i r hi hp h
    refine Ev.step (fun _ => rfl) ?_
    rw [decide_eq_true_iff] at hp
    simp only [Aa3.l0, if_pos (show (i : Int) < (l.length : Int) by omega), if_pos (show (0 : Int) ≤ (i : Int) by omega), l1In_eq, rd_nat, Option.bind_some, decide_eq_true hp, if_true, next64 i l.length hi hl]
    exact h
  · intro i hi hp
    refine Ev.step (fun _ => rfl) ?_
    rw [decide_eq_false_iff_not] at hp
    simp only [Aa3.l0, if_pos (show (i : Int) < (l.length : Int) by omega), if_pos (show (0 : Int) ≤ (i : Int) by omega), l1In_eq, rd_nat, Option.bind_some, decide_eq_false hp, Bool.false_eq_true, if_false]
    exact Ev.now _
  · refine Ev.step (fun _ => rfl) ?_
    simp only [Aa3.l0, if_neg (show ¬ (l.length : Int) < (l.length : Int) by omega)]
    exact Ev.now _
theorem pow_of (n : Int) (h0 : 0 ≤ n) (h1 : n ≤ 10) : wrap64 (shl .i64 1 n - 1) = ((2 ^ n.toNat : Nat) : Int) - 1 := by
  obtain ⟨m, rfl⟩ := Int.eq_ofNat_of_zero_le h0
  rw [shl1 m (by omega), Int.toNat_natCast]
  have h2 : (2 : Nat) ^ m ≤ 2 ^ 10 := Nat.pow_le_pow_right (by decide) (by omega)
  have h3 : 0 < (2 : Nat) ^ m := Nat.two_pow_pos m
  exact wrap64_id _ (by omega) (by omega)
theorem isRel_parts (n : Int) (l : List Int) : isRel n l = (decide (0 ≤ n ∧ n ≤ 10) && (decide ((l.length : Int) = n) && allIn l 0 (((2 ^ n.toNat : Nat) : Int) - 1))) := by
  rw [Bool.eq_iff_iff]
  simp only [isRel, allIn, Bool.and_eq_true, decide_eq_true_iff]
  exact ⟨fun ⟨a, b, c, d⟩ => ⟨⟨a, b⟩, c, d⟩, fun ⟨⟨a, b⟩, c, d⟩ => ⟨a, b, c, d⟩⟩
theorem IsRelation_ev (n : Int) (l : List Int) (hl : l.length ≤ 140737488355328) : Ev (fun k => Abq.f k n l) (isRel n l) := by
  unfold Abq.f
  simp only [within_eq, Option.bind_some]
  rw [isRel_parts]
  by_cases h1 : 0 ≤ n ∧ n ≤ 10
  · by_cases h2 : (l.length : Int) = n
    · simp only [decide_eq_true h1, if_true, if_pos h2, if_pos h1.1, pow_of n h1.1 h1.2, decide_eq_true h2, Bool.true_and]
      exact Ev.bind (allWithin_ev l _ _ hl) (Ev.now _)
    · simp only [decide_eq_true h1, if_true, if_neg h2, decide_eq_false h2, Bool.false_and, Bool.and_false]
      exact Ev.now _
  · simp only [decide_eq_false h1, Bool.false_eq_true, if_false, Bool.false_and]
    exact Ev.now _
theorem orRelation_ev (n : Int) (l : List Int) (hl : l.length ≤ 140737488355328) : Ev (fun k => Abe.f k n l) (isRel n l) := by
  unfold Abe.f
  simp only [l1In_eq, Option.bind_some]
  rw [isRel_parts]
  by_cases h1 : 0 ≤ n ∧ n ≤ 10
  · by_cases h2 : (l.length : Int) = n
    · simp only [decide_eq_true h1, if_true, if_pos h2, if_pos h1.1, pow_of n h1.1 h1.2, decide_eq_true h2, Bool.true_and]
      exact Ev.bind (l1All_ev l _ _ hl) (Ev.now _)
    · simp only [decide_eq_true h1, if_true, if_neg h2, decide_eq_false h2, Bool.false_and, Bool.and_false]
      exact Ev.now _
  · simp only [decide_eq_false h1, Bool.false_eq_true, if_false, Bool.false_and]
    exact Ev.now _
def closedAt (n : Nat) (l : List Int) (i : Nat) : Bool := allB (elems n (row l i)).length fun q => diff (row l ((elems n (row l i)).getD q 0)) (row l i) == 0
def isOrd (n : Int) (l : List Int) : Bool := isRel n l && allB l.length fun i => !B l i i && closedAt l.length l i
theorem better_eq {n : Nat} {l : List Int} (h : Rel n l) (m : Int) (i j : Nat) (hi : i < n) (hj : j ≤ 62) : Aa4.f m l (i : Int) (j : Int) = some (B l i j) := by
  unfold Aa4.f
  rw [if_pos (by omega), if_pos (by rw [h.len]; omega), if_pos (by omega), has_and _ _ (by rw [h.rd]; omega) (by rw [h.rd]; have := h.row_62 i; omega) (by omega), h.bit]
theorem diff_zero (a b : Nat) : (diff a b = 0) ↔ ∀ j, a.testBit j = true → b.testBit j = true := by
  constructor
  · intro h j hj
    have := testBit_diff a b j
    rw [h, hj] at this
    simpa using this.symm
  · intro h
    apply Nat.eq_of_testBit_eq
    intro j
    rw [testBit_diff]
    cases hj : a.testBit j with
    | false => simp
    | true => simp [h j hj]
theorem ints_getD (l : List Nat) (q : Nat) (h : q < l.length) : (ints l).getD q 0 = ((l.getD q 0 : Nat) : Int) := by simp [ints, h]
theorem closed_iff {n : Nat} {l : List Int} (h : Rel n l) (i : Nat) : closedAt n l i = true ↔ ∀ j k, B l i j = true → B l j k = true → B l i k = true := by
  unfold closedAt
  rw [allB_iff]
  constructor
  · intro H j k hij hjk
    have hm : j ∈ elems n (row l i) := mem_elems.2 ⟨h.B_lt hij, hij⟩
    obtain ⟨q, hq, e⟩ := List.getElem_of_mem hm
    have := H q hq
    rw [show (elems n (row l i)).getD q 0 = j by simp [hq, e], beq_iff_eq, diff_zero] at this
    exact this k hjk
  · intro H q hq
    rw [beq_iff_eq, diff_zero]
    intro k hk
    have hm : (elems n (row l i)).getD q 0 ∈ elems n (row l i) := by simp [hq]
    exact H _ k (mem_elems.1 hm).2 hk
structure Ord (n : Nat) (l : List Int) : Prop extends Rel n l where
  irr : ∀ i, B l i i = false
  trans : ∀ i j k, B l i j = true → B l j k = true → B l i k = true
theorem isOrd_iff {n : Int} {l : List Int} : isOrd n l = true ↔ ∃ m : Nat, n = m ∧ Ord m l := by
  unfold isOrd
  rw [Bool.and_eq_true, isRel_iff, allB_iff]
  constructor
  · rintro ⟨⟨m, rfl, h⟩, H⟩
    rw [h.len] at H
    refine ⟨m, rfl, h, fun i => ?_, fun i j k hij hjk => ?_⟩
    · cases hc : B l i i with
      | false => rfl
      | true =>
        have := H i (h.B_lt hc)
        rw [hc] at this
        simp at this
    · have := H i (h.B_lt' hij)
      rw [Bool.and_eq_true] at this
      exact (closed_iff h i).1 this.2 j k hij hjk
  · rintro ⟨m, rfl, h⟩
    refine ⟨⟨m, rfl, h.toRel⟩, fun i _ => ?_⟩
    rw [h.irr i, h.len, (closed_iff h.toRel i).2 (h.trans i)]
    rfl
theorem IsOrder_ev (n : Int) (l : List Int) (hl : l.length ≤ 140737488355328) : Ev (fun k => Aap.f k n l) (isOrd n l) := by
  unfold Aap.f isOrd
  refine Ev.bind (IsRelation_ev n l hl) ?_
  cases hr : isRel n l with
  | false => simp only [Bool.false_eq_true, if_false, Bool.false_and]; exact Ev.now _
  | true =>
    obtain ⟨m, rfl, h⟩ := isRel_iff.1 hr
    have hlen := h.len
    have h10 := h.le
    simp only [if_true, Bool.true_and]
    refine Ev.all (fun i k => Aap.l0 k l (l.length : Int) (i : Int) (m : Int) l) l.length _ ?_ ?_ ?_
    · intro i r hi hp hrest
      rw [Bool.and_eq_true] at hp
      have hB : B l i i = false := by simpa using hp.1
      refine Ev.step (fun _ => rfl) ?_
      simp only [Aap.l0, if_pos (show (i : Int) < (l.length : Int) by omega), if_pos (show (0 : Int) ≤ (i : Int) by omega), better_eq h _ i i (by omega) (by omega), Option.bind_some, hB, Bool.false_eq_true, if_false, h.rd]
      refine Ev.bind (members_ev m (by omega) (row l i) (h.row_lt i)) ?_
      have hE := elems_length_le m (row l i)
      rw [ints_length]
      refine Ev.up (fun q k => Aap.l1 k ((row l i : Nat) : Int) l (l.length : Int) (i : Int) (ints (elems m (row l i))) ((elems m (row l i)).length : Int) (q : Int) (m : Int) l) (elems m (row l i)).length ?_ ?_
      · intro q hq hn
        refine Ev.step (fun _ => rfl) ?_
        have hmem : (elems m (row l i)).getD q 0 ∈ elems m (row l i) := by simp [hq]
        have hlt := (mem_elems.1 hmem).1
        have e0 : rd (ints (elems m (row l i))) (q : Int) = (((elems m (row l i)).getD q 0 : Nat) : Int) := by rw [rd_nat, ints_getD _ _ hq]
        have hd : diff (row l ((elems m (row l i)).getD q 0)) (row l i) = 0 := by
          have hc := hp.2
          unfold closedAt at hc
          rw [allB_iff, hlen] at hc
          exact beq_iff_eq.1 (hc q hq)
        simp only [Aap.l1, if_pos (show (q : Int) < ((elems m (row l i)).length : Int) by omega), if_pos (show (0 : Int) ≤ (q : Int) by omega), ints_length, e0, if_pos (show (0 : Int) ≤ (((elems m (row l i)).getD q 0 : Nat) : Int) by omega), if_pos (show (((elems m (row l i)).getD q 0 : Nat) : Int) < (l.length : Int) by omega), h.rd, andNot_i64 _ _ (h.row_62 _) (h.row_62 _), hd, Int.natCast_zero, if_true, next64 q _ hq (by omega)]
        exact hn
      · refine Ev.step (fun _ => rfl) ?_
        simp only [Aap.l1, if_neg (show ¬ ((elems m (row l i)).length : Int) < ((elems m (row l i)).length : Int) by omega), next64 i l.length hi (by omega)]
        exact hrest
    · intro i hi hp
      refine Ev.step (fun _ => rfl) ?_
      simp only [Aap.l0, if_pos (show (i : Int) < (l.length : Int) by omega), if_pos (show (0 : Int) ≤ (i : Int) by omega), better_eq h _ i i (by omega) (by omega), Option.bind_some]
      cases hB : B l i i with
      | true => simp only [if_true]; exact Ev.now _
      | false =>
        rw [hB] at hp
        have hc : closedAt l.length l i = false := by simpa using hp
        unfold closedAt at hc
        rw [hlen] at hc
        obtain ⟨j, hj, hbad, hless⟩ := least_false (allB_false.1 hc)
        simp only [Bool.false_eq_true, if_false, h.rd]
        refine Ev.bind (members_ev m (by omega) (row l i) (h.row_lt i)) ?_
        have hE := elems_length_le m (row l i)
        rw [ints_length]
        refine Ev.up (fun q k => Aap.l1 k ((row l i : Nat) : Int) l (l.length : Int) (i : Int) (ints (elems m (row l i))) ((elems m (row l i)).length : Int) (q : Int) (m : Int) l) j ?_ ?_
        · intro q hq hn
          refine Ev.step (fun _ => rfl) ?_
          have hmem : (elems m (row l i)).getD q 0 ∈ elems m (row l i) := by simp [show q < (elems m (row l i)).length by omega]
          have hlt := (mem_elems.1 hmem).1
          have e0 : rd (ints (elems m (row l i))) (q : Int) = (((elems m (row l i)).getD q 0 : Nat) : Int) := by rw [rd_nat, ints_getD _ _ (by omega)]
          have hd : diff (row l ((elems m (row l i)).getD q 0)) (row l i) = 0 := beq_iff_eq.1 (hless q hq)
          simp only [Aap.l1, if_pos (show (q : Int) < ((elems m (row l i)).length : Int) by omega), if_pos (show (0 : Int) ≤ (q : Int) by omega), ints_length, e0, if_pos (show (0 : Int) ≤ (((elems m (row l i)).getD q 0 : Nat) : Int) by omega), if_pos (show (((elems m (row l i)).getD q 0 : Nat) : Int) < (l.length : Int) by omega), h.rd, andNot_i64 _ _ (h.row_62 _) (h.row_62 _), hd, Int.natCast_zero, if_true, next64 q _ (show q < (elems m (row l i)).length by omega) (by omega)]
          exact hn
        · refine Ev.step (fun _ => rfl) ?_
          have hmem : (elems m (row l i)).getD j 0 ∈ elems m (row l i) := by simp [hj]
          have hlt := (mem_elems.1 hmem).1
          have e0 : rd (ints (elems m (row l i))) (j : Int) = (((elems m (row l i)).getD j 0 : Nat) : Int) := by rw [rd_nat, ints_getD _ _ (by omega)]
          have hd : ¬ ((diff (row l ((elems m (row l i)).getD j 0)) (row l i) : Nat) : Int) = 0 := by
            have := beq_eq_false_iff_ne.1 hbad
            omega
          simp only [Aap.l1, if_pos (show (j : Int) < ((elems m (row l i)).length : Int) by omega), if_pos (show (0 : Int) ≤ (j : Int) by omega), ints_length, e0, if_pos (show (0 : Int) ≤ (((elems m (row l i)).getD j 0 : Nat) : Int) by omega), if_pos (show (((elems m (row l i)).getD j 0 : Nat) : Int) < (l.length : Int) by omega), h.rd, andNot_i64 _ _ (h.row_62 _) (h.row_62 _), if_neg hd]
          exact Ev.now _
    · refine Ev.step (fun _ => rfl) ?_
      simp only [Aap.l0, if_neg (show ¬ (l.length : Int) < (l.length : Int) by omega)]
      exact Ev.now _
end Go.Proofs.YtimjblnglhmakaaDoor.M
namespace Go.Proofs.YtimjblnglhmakaaDoor.M
open Go.RowKit Go.Proofs.YtimjblnglhmakaaDoorW.PrintMore Go.Proofs.YtimjblnglhmakaaDoorW.PrintLast Go.Proofs.YtimjblnglhmakaaDoorW.PrintWords Go.Proofs.YtimjblnglhmakaaDoor.P
theorem orGood_ev (n : Int) (l : List Int) (hl : l.length ≤ 140737488355328) : Ev (fun k => Aan.f k n l) (isOrd n l) := by
  unfold Aan.f isOrd
  refine Ev.bind (orRelation_ev n l hl) ?_
  cases hr : isRel n l with
  | false => simp only [Bool.false_eq_true, if_false, Bool.false_and]; exact Ev.now _
  | true =>
    obtain ⟨m, rfl, h⟩ := isRel_iff.1 hr
    have hlen := h.len
    have h10 := h.le
    simp only [if_true, Bool.true_and]
    refine Ev.all (fun i k => Aan.l0 k l (l.length : Int) (i : Int) (m : Int) l) l.length _ ?_ ?_ ?_
    · intro i r hi hp hrest
      rw [Bool.and_eq_true] at hp
      have hB : B l i i = false := by simpa using hp.1
      refine Ev.step (fun _ => rfl) ?_
      simp only [Aan.l0, if_pos (show (i : Int) < (l.length : Int) by omega), if_pos (show (0 : Int) ≤ (i : Int) by omega), h.rd, orHas_eq (row l i) i (by omega), show (row l i).testBit i = B l i i from rfl, Option.bind_some, hB, Bool.false_eq_true, if_false]
      refine Ev.bind (orList_ev m (by omega) (row l i) (h.row_lt i)) ?_
      have hE := elems_length_le m (row l i)
      rw [ints_length]
      refine Ev.up (fun q k => Aan.l1 k ((row l i : Nat) : Int) l (l.length : Int) (i : Int) (ints (elems m (row l i))) ((elems m (row l i)).length : Int) (q : Int) (m : Int) l) (elems m (row l i)).length ?_ ?_
      · intro q hq hn
        refine Ev.step (fun _ => rfl) ?_
        have hmem : (elems m (row l i)).getD q 0 ∈ elems m (row l i) := by simp [hq]
        have hlt := (mem_elems.1 hmem).1
        have e0 : rd (ints (elems m (row l i))) (q : Int) = (((elems m (row l i)).getD q 0 : Nat) : Int) := by rw [rd_nat, ints_getD _ _ hq]
        have hd : diff (row l ((elems m (row l i)).getD q 0)) (row l i) = 0 := by
          have hc := hp.2
          unfold closedAt at hc
          rw [allB_iff, hlen] at hc
          exact beq_iff_eq.1 (hc q hq)
        simp only [Aan.l1, if_pos (show (q : Int) < ((elems m (row l i)).length : Int) by omega), if_pos (show (0 : Int) ≤ (q : Int) by omega), ints_length, e0, if_pos (show (0 : Int) ≤ (((elems m (row l i)).getD q 0 : Nat) : Int) by omega), if_pos (show (((elems m (row l i)).getD q 0 : Nat) : Int) < (l.length : Int) by omega), h.rd, andNot_i64 _ _ (h.row_62 _) (h.row_62 _), hd, Int.natCast_zero, if_true, next64 q _ hq (by omega)]
        exact hn
      · refine Ev.step (fun _ => rfl) ?_
        simp only [Aan.l1, if_neg (show ¬ ((elems m (row l i)).length : Int) < ((elems m (row l i)).length : Int) by omega), next64 i l.length hi (by omega)]
        exact hrest
    · intro i hi hp
      refine Ev.step (fun _ => rfl) ?_
      simp only [Aan.l0, if_pos (show (i : Int) < (l.length : Int) by omega), if_pos (show (0 : Int) ≤ (i : Int) by omega), h.rd, orHas_eq (row l i) i (by omega), show (row l i).testBit i = B l i i from rfl, Option.bind_some]
      cases hB : B l i i with
      | true => simp only [if_true]; exact Ev.now _
      | false =>
        rw [hB] at hp
        have hc : closedAt l.length l i = false := by simpa using hp
        unfold closedAt at hc
        rw [hlen] at hc
        obtain ⟨j, hj, hbad, hless⟩ := least_false (allB_false.1 hc)
        simp only [Bool.false_eq_true, if_false]
        refine Ev.bind (orList_ev m (by omega) (row l i) (h.row_lt i)) ?_
        have hE := elems_length_le m (row l i)
        rw [ints_length]
        refine Ev.up (fun q k => Aan.l1 k ((row l i : Nat) : Int) l (l.length : Int) (i : Int) (ints (elems m (row l i))) ((elems m (row l i)).length : Int) (q : Int) (m : Int) l) j ?_ ?_
        · intro q hq hn
          refine Ev.step (fun _ => rfl) ?_
          have hmem : (elems m (row l i)).getD q 0 ∈ elems m (row l i) := by simp [show q < (elems m (row l i)).length by omega]
          have hlt := (mem_elems.1 hmem).1
          have e0 : rd (ints (elems m (row l i))) (q : Int) = (((elems m (row l i)).getD q 0 : Nat) : Int) := by rw [rd_nat, ints_getD _ _ (by omega)]
          have hd : diff (row l ((elems m (row l i)).getD q 0)) (row l i) = 0 := beq_iff_eq.1 (hless q hq)
          simp only [Aan.l1, if_pos (show (q : Int) < ((elems m (row l i)).length : Int) by omega), if_pos (show (0 : Int) ≤ (q : Int) by omega), ints_length, e0, if_pos (show (0 : Int) ≤ (((elems m (row l i)).getD q 0 : Nat) : Int) by omega), if_pos (show (((elems m (row l i)).getD q 0 : Nat) : Int) < (l.length : Int) by omega), h.rd, andNot_i64 _ _ (h.row_62 _) (h.row_62 _), hd, Int.natCast_zero, if_true, next64 q _ (show q < (elems m (row l i)).length by omega) (by omega)]
          exact hn
        · refine Ev.step (fun _ => rfl) ?_
          have hmem : (elems m (row l i)).getD j 0 ∈ elems m (row l i) := by simp [hj]
          have hlt := (mem_elems.1 hmem).1
          have e0 : rd (ints (elems m (row l i))) (j : Int) = (((elems m (row l i)).getD j 0 : Nat) : Int) := by rw [rd_nat, ints_getD _ _ (by omega)]
          have hd : ¬ ((diff (row l ((elems m (row l i)).getD j 0)) (row l i) : Nat) : Int) = 0 := by
            have := beq_eq_false_iff_ne.1 hbad
            omega
          simp only [Aan.l1, if_pos (show (j : Int) < ((elems m (row l i)).length : Int) by omega), if_pos (show (0 : Int) ≤ (j : Int) by omega), ints_length, e0, if_pos (show (0 : Int) ≤ (((elems m (row l i)).getD j 0 : Nat) : Int) by omega), if_pos (show (((elems m (row l i)).getD j 0 : Nat) : Int) < (l.length : Int) by omega), h.rd, andNot_i64 _ _ (h.row_62 _) (h.row_62 _), if_neg hd]
          exact Ev.now _
    · refine Ev.step (fun _ => rfl) ?_
      simp only [Aan.l0, if_neg (show ¬ (l.length : Int) < (l.length : Int) by omega)]
      exact Ev.now _
theorem setOf_bit_or (q : Nat → Bool) (j : Nat) : setOf (j + 1) q = if q j then setOf j q ||| 2 ^ j else setOf j q := by
  show setOf j q ||| (if q j then 2 ^ j else 0) = _
  cases q j <;> simp
def part (n : Nat) (p : Nat → Nat → Bool) (i j : Nat) : List Int := (List.range n).map fun a => ((setOf (if a < i then n else if a = i then j else 0) (p a) : Nat) : Int)
theorem part_length (n : Nat) (p : Nat → Nat → Bool) (i j : Nat) : (part n p i j).length = n := by simp [part]
theorem part_getD (n : Nat) (p : Nat → Nat → Bool) (i j a : Nat) (h : a < n) : (part n p i j).getD a 0 = ((setOf (if a < i then n else if a = i then j else 0) (p a) : Nat) : Int) := by simp [part, h]
theorem part_next (n : Nat) (p : Nat → Nat → Bool) (i : Nat) : part n p i n = part n p (i + 1) 0 := by
  unfold part
  apply List.map_congr_left
  intro a _
  by_cases h1 : a < i
  · rw [if_pos h1, if_pos (by omega)]
  · rw [if_neg h1]
    by_cases h2 : a = i
    · rw [if_pos h2, if_pos (by omega)]
    · rw [if_neg h2, if_neg (by omega)]
      by_cases h3 : a = i + 1
      · rw [if_pos h3]
      · rw [if_neg h3]
theorem part_no (n : Nat) (p : Nat → Nat → Bool) (i j : Nat) (hi : i < n) (h : p i j = false) : part n p i j = part n p i (j + 1) := by
  unfold part
  apply List.map_congr_left
  intro a _
  by_cases h2 : a = i
  · subst h2
    rw [if_neg (Nat.lt_irrefl _), if_pos rfl, if_neg (Nat.lt_irrefl _), if_pos rfl, setOf_bit_or, h]
    rfl
  · rw [if_neg h2, if_neg h2]
theorem part_yes (n : Nat) (p : Nat → Nat → Bool) (i j : Nat) (hi : i < n) (h : p i j = true) : (part n p i j).set i ((setOf j (p i) ||| 2 ^ j : Nat) : Int) = part n p i (j + 1) := by
  apply list_ext_getD (by simp [part_length])
  intro a ha
  have ha : a < n := by simpa [part_length] using ha
  rw [part_getD n p i (j + 1) a ha]
  by_cases h2 : a = i
  · subst h2
    rw [if_neg (Nat.lt_irrefl _), if_pos rfl, setOf_bit_or, h]
    rw [List.getD_eq_getElem?_getD, List.getElem?_set_self (by rw [part_length]; exact hi)]
    rfl
  · have e : ((part n p i j).set i ((setOf j (p i) ||| 2 ^ j : Nat) : Int)).getD a 0 = (part n p i j).getD a 0 := by
      simp [List.getD, Ne.symm h2]
    rw [e, part_getD n p i j a ha, if_neg h2, if_neg h2]
theorem part_zero (n : Nat) (p : Nat → Nat → Bool) : part n p 0 0 = List.replicate n 0 := by
  apply list_ext_getD (by simp [part_length])
  intro a ha
  have ha : a < n := by simpa [part_length] using ha
  rw [part_getD n p 0 0 a ha, if_neg (Nat.not_lt_zero _)]
  have : (if a = 0 then 0 else 0) = 0 := by split <;> rfl
  rw [this]
  simp [setOf, ha]
theorem part_all (n : Nat) (p : Nat → Nat → Bool) : part n p n 0 = relL n p := by
  unfold part relL
  apply List.map_congr_left
  intro a ha
  rw [List.mem_range] at ha
  rw [if_pos ha]
theorem relation_ev (n : Nat) (hn : n ≤ 62) (g : Nat → Int → Int → Option Bool) (p : Nat → Nat → Bool) (hg : ∀ i j, i < n → j < n → Ev (fun k => g k (i : Int) (j : Int)) (p i j)) :
    Ev (fun k => Aah.f k (n : Int) (g k)) ((n : Int), relL n p) := by
  -- the tests all come to their answers from one number of rounds on
  obtain ⟨K, hK⟩ : ∃ K, ∀ k, K ≤ k → ∀ i j, i < n → j < n → g k (i : Int) (j : Int) = some (p i j) := by
    have one : ∀ m, ∃ K, ∀ k, K ≤ k → ∀ i j, i < n → j < n → i * n + j < m → g k (i : Int) (j : Int) = some (p i j) := by
      intro m
      induction m with
      | zero => exact ⟨0, fun k _ i j _ _ h => absurd h (Nat.not_lt_zero _)⟩
      | succ m ih =>
        obtain ⟨K, hK⟩ := ih
        by_cases hx : ∃ i j, i < n ∧ j < n ∧ i * n + j = m
        · obtain ⟨i, j, hi, hj, hm⟩ := hx
          obtain ⟨K', hK'⟩ := hg i j hi hj
          refine ⟨max K K', fun k hk i' j' hi' hj' h => ?_⟩
          by_cases he : i' * n + j' = m
          · have e1 : i' = i := by
              have a1 : (i' * n + j') / n = i' := by rw [Nat.mul_comm, Nat.mul_add_div (by omega), Nat.div_eq_of_lt hj', Nat.add_zero]
              have a2 : (i * n + j) / n = i := by rw [Nat.mul_comm, Nat.mul_add_div (by omega), Nat.div_eq_of_lt hj, Nat.add_zero]
              rw [← a1, ← a2, he, hm]
            subst e1
            have e2 : j' = j := by omega
            subst e2
            exact hK' k (by omega)
          · exact hK k (by omega) i' j' hi' hj' (by omega)
        · exact ⟨K, fun k hk i j hi hj h => hK k hk i j hi hj (by
            rcases Nat.lt_or_ge (i * n + j) m with h1 | h1
            · exact h1
            · exact absurd ⟨i, j, hi, hj, by omega⟩ hx)⟩
    obtain ⟨K, h⟩ := one (n * n + n)
    refine ⟨K, fun k hk i j hi hj => h k hk i j hi hj ?_⟩
    have : i * n ≤ n * n := Nat.mul_le_mul_right n (by omega)
    omega
  -- with the tests as' at one number
  have main : ∀ is : Int → Int → Option Bool, (∀ i j, i < n → j < n → is (i : Int) (j : Int) = some (p i j)) → Ev (fun k => Aah.f k (n : Int) is) ((n : Int), relL n p) := by
    intro is his
    unfold Aah.f
    simp only [if_pos (show (0 : Int) ≤ (n : Int) by omega), Int.toNat_natCast, if_pos (show n ≤ 35184372088832 by omega)]
    rw [← part_zero n p]
    refine Ev.up (fun i k => Aah.l0 is k (n : Int) (n : Int) (i : Int) (n : Int) (part n p i 0)) n ?_ ?_
    · intro i hi h
      refine Ev.step (fun _ => rfl) ?_
      simp only [Aah.l0, if_pos (show (i : Int) < (n : Int) by omega)]
      refine Ev.up (fun j k => Aah.l1 is k (n : Int) (i : Int) (n : Int) (i : Int) (n : Int) (j : Int) (n : Int) (part n p i j)) n ?_ ?_
      · intro j hj h
        refine Ev.step (fun _ => rfl) ?_
        simp only [Aah.l1, if_pos (show (j : Int) < (n : Int) by omega), his i j hi hj, Option.bind_some, next64 j n hj (by omega)]
        cases hp : p i j with
        | false =>
          simp only [Bool.false_eq_true, if_false]
          rw [part_no n p i j hi hp]
          exact h
        | true =>
          have hs : setOf j (p i) < 9223372036854775808 := setOf_62 _ _ (by omega)
          have h2 : (2 : Nat) ^ j < 9223372036854775808 := Nat.lt_of_le_of_lt (Nat.pow_le_pow_right (by decide) (by omega : j ≤ 62)) (by decide)
          have e1 : rd (part n p i j) (i : Int) = ((setOf j (p i) : Nat) : Int) := by
            rw [rd_nat, part_getD n p i j i hi, if_neg (Nat.lt_irrefl _), if_pos rfl]
          simp only [if_true, if_pos (show (0 : Int) ≤ (i : Int) by omega), part_length, if_pos (show (i : Int) < (n : Int) by omega), if_pos (show (0 : Int) ≤ (j : Int) by omega), e1, shl1 j (by omega), or_i64 _ _ hs h2, Int.toNat_natCast]
          rw [part_yes n p i j hi hp]
          exact h
      · refine Ev.step (fun _ => rfl) ?_
        simp only [Aah.l1, if_neg (show ¬ (n : Int) < (n : Int) by omega), next64 i n hi (by omega)]
        rw [part_next]
        exact h
    · refine Ev.step (fun _ => rfl) ?_
      simp only [Aah.l0, if_neg (show ¬ (n : Int) < (n : Int) by omega)]
      rw [part_all]
      exact Ev.now _
  -- the least test that answers so
  have h0 := main (fun x y => if 0 ≤ x ∧ x < n ∧ 0 ≤ y ∧ y < n then some (p x.toNat y.toNat) else none) (fun i j hi hj => by
    show (if _ then _ else _) = _
    rw [if_pos ⟨by omega, by omega, by omega, by omega⟩, Int.toNat_natCast, Int.toNat_natCast])
  obtain ⟨K', hK'⟩ := h0
  refine ⟨max K K' + 1, fun k hk => ?_⟩
  obtain ⟨d, rfl⟩ : ∃ d, k = d + 1 := ⟨k - 1, by omega⟩
  refine Aah.mono2 (is := fun x y => if 0 ≤ x ∧ x < n ∧ 0 ≤ y ∧ y < n then some (p x.toNat y.toNat) else none) (is' := g (d + 1)) (fun x y r hr => ?_) (n : Int) d _ (hK' d (by omega))
  by_cases hxy : 0 ≤ x ∧ x < n ∧ 0 ≤ y ∧ y < n
  · rw [if_pos hxy] at hr
    obtain ⟨i, rfl⟩ := Int.eq_ofNat_of_zero_le hxy.1
    obtain ⟨j, rfl⟩ := Int.eq_ofNat_of_zero_le hxy.2.2.1
    rw [Int.toNat_natCast, Int.toNat_natCast] at hr
    rw [hK (d + 1) (by omega) i j (by omega) (by omega)]
    exact hr
  · rw [if_neg hxy] at hr
    cases hr
end Go.Proofs.YtimjblnglhmakaaDoor.M
namespace Go.Proofs.YtimjblnglhmakaaDoor.M
open Go.RowKit Go.Proofs.YtimjblnglhmakaaDoorW.PrintMore Go.Proofs.YtimjblnglhmakaaDoorW.PrintLast Go.Proofs.YtimjblnglhmakaaDoorW.PrintWords Go.Proofs.YtimjblnglhmakaaDoor.P
def Tot {α : Type} (g : Nat → Option α) (Q : α → Prop) : Prop := ∃ r, Ev g r ∧ Q r
section
variable {α β : Type} {Q : α → Prop} {R : β → Prop}
theorem Tot.now {r : α} (h : Q r) : Tot (fun _ => some r) Q := ⟨r, Ev.now r, h⟩
theorem Tot.step {g f : Nat → Option α} (h : ∀ k, g (k + 1) = f k) (k : Tot f Q) : Tot g Q := by obtain ⟨r, k, hq⟩ := k; exact ⟨r, Ev.step h k, hq⟩
theorem Tot.bind {g : Nat → Option α} {f : Nat → α → Option β} (h : Tot g Q) (k : ∀ a, Q a → Tot (fun n => f n a) R) : Tot (fun n => (g n).bind (f n)) R := by
  obtain ⟨a, h, hq⟩ := h
  obtain ⟨r, k, hr⟩ := k a hq
  exact ⟨r, Ev.bind h k, hr⟩
theorem Tot.ebind {g : Nat → Option α} {f : Nat → α → Option β} {a : α} (h : Ev g a) (k : Tot (fun n => f n a) R) : Tot (fun n => (g n).bind (f n)) R := by
  obtain ⟨r, k, hr⟩ := k
  exact ⟨r, Ev.bind h k, hr⟩
theorem Tot.obind {x : Option α} {f : Nat → α → Option β} (h : ∃ r, x = some r ∧ Q r) (k : ∀ a, Q a → Tot (fun n => f n a) R) : Tot (fun n => x.bind (f n)) R := by
  obtain ⟨a, rfl, hq⟩ := h
  exact k a hq
theorem Tot.ite {c : Prop} [Decidable c] {f g : Nat → Option α} (h1 : c → Tot f Q) (h2 : ¬ c → Tot g Q) : Tot (fun k => if c then f k else g k) Q := by
  by_cases h : c
  · simp only [if_pos h]; exact h1 h
  · simp only [if_neg h]; exact h2 h
theorem Tot.up {S : Type} (G : Nat → S → Nat → Option α) (n : Nat) (Inv : Nat → S → Prop)
    (step : ∀ i s, i < n → Inv i s → (∀ s', Inv (i + 1) s' → Tot (G (i + 1) s') Q) → Tot (G i s) Q) (stop : ∀ s, Inv n s → Tot (G n s) Q) (i : Nat) (hi : i ≤ n) (s : S) (hs : Inv i s) : Tot (G i s) Q := by
  obtain ⟨d, rfl⟩ : ∃ d, n = i + d := ⟨n - i, by omega⟩
  clear hi
  induction d generalizing i s with
  | zero => exact stop s hs
  | succ d ih =>
    refine step i s (by omega) hs fun s' h' => ?_
    exact ih (i + 1) s' h' (fun a b ha => step a b (by omega)) (by rw [show i + 1 + d = i + (d + 1) by omega]; exact stop)
end
def By (l : List Int) : Prop := ∀ x ∈ l, 0 ≤ x ∧ x ≤ 255
theorem by_wf {l : List Int} (h : ∀ x ∈ l, (Lit.int .u8 x).wf = true) : By l := by
  intro x hx
  have := h x hx
  simp [Lit.wf, IntKind.min, IntKind.max, IntKind.signed, IntKind.bits] at this
  omega
theorem By.rd {l : List Int} (h : By l) (i : Nat) : 0 ≤ rd l (i : Int) ∧ rd l (i : Int) ≤ 255 := by
  rw [rd_nat]
  by_cases hi : i < l.length
  · have := h l[i] (List.getElem_mem hi)
    simpa [hi] using this
  · simp [Nat.not_lt.1 hi]
theorem and_255 (x : Int) : 0 ≤ Go.bits .and .u64 x 255 ∧ Go.bits .and .u64 x 255 ≤ 255 := by
  have e : Go.bits .and .u64 x 255 = IntKind.u64.wrap (((BitVec.ofInt 64 x).toNat &&& 255 : Nat) : Int) := by
    show IntKind.u64.wrap ((BitVec.ofInt 64 x &&& BitVec.ofInt 64 255).toNat : Int) = _
    rw [BitVec.toNat_and]; rfl
  have h : (BitVec.ofInt 64 x).toNat &&& 255 ≤ 255 := Nat.and_le_right
  rw [e, u64_small _ (by omega)]
  omega
theorem wrap64_in (x : Int) (h0 : -9223372036854775808 ≤ x) (h1 : x ≤ 9223372036854775807) : wrap64 x = x := by unfold wrap64; omega
theorem next_ok {l : List Int} (hb : By l) (p h : Int) (hp : 0 ≤ p) (hp2 : p ≤ 1000000) : ∃ r, Abd.f l p h = some r ∧ 0 ≤ r.1 ∧ r.1 ≤ 255 ∧ r.2.1 = p + 1 := by
  unfold Abd.f
  obtain ⟨i, rfl⟩ := Int.eq_ofNat_of_zero_le hp
  have h1 := hb.rd i
  rw [wrap64_in ((i : Int) + 1) (by omega) (by omega)]
  have ha := fun x => and_255 x
  by_cases h0 : (i : Int) < (l.length : Int)
  · rw [if_pos h0, if_pos hp, if_pos (show (i : Int) + 1 ≤ (l.length : Int) by omega)]
    exact ⟨_, rfl, by rw [wrap64_in _ (by omega) (by omega)]; omega, by rw [wrap64_in _ (by omega) (by omega)]; omega, rfl⟩
  · rw [if_neg h0, if_neg (show ¬ (i : Int) + 1 ≤ (l.length : Int) by omega)]
    refine ⟨_, rfl, ?_, ?_, rfl⟩
    · have := ha ((IntKind.u64.wrap (IntKind.u64.wrap (IntKind.u64.wrap (h * 6364136223846793005)) + 1442695040888963407)) / 1099511627776)
      rw [wrap64_in _ (by omega) (by omega)]; exact this.1
    · have := ha ((IntKind.u64.wrap (IntKind.u64.wrap (IntKind.u64.wrap (h * 6364136223846793005)) + 1442695040888963407)) / 1099511627776)
      rw [wrap64_in _ (by omega) (by omega)]; exact this.2
theorem pick_ok {l : List Int} (hb : By l) (p h a : Int) (hp : 0 ≤ p) (hp2 : p ≤ 999990) : ∃ r, Aaf.f l p h a = some r ∧ 0 ≤ r.1 ∧ (r.1 = 0 ∨ r.1 < a) ∧ p ≤ r.2.1 ∧ r.2.1 ≤ p + 2 := by
  unfold Aaf.f
  by_cases h1 : a ≤ 1
  · rw [if_pos h1]; exact ⟨_, rfl, by simp, by simp, by simp, by simp; omega⟩
  · rw [if_neg h1]
    obtain ⟨⟨v, p1, h'⟩, e, a1, a2, a3⟩ := next_ok hb p h hp (by omega)
    simp only at a1 a2 a3
    subst a3
    rw [e, Option.bind_some]
    by_cases h2 : a > 200
    · rw [if_pos h2]
      obtain ⟨⟨v2, p2, h''⟩, e2, b1, b2, b3⟩ := next_ok hb (p + 1) h' (by omega) (by omega)
      simp only at b1 b2 b3
      subst b3
      rw [e2, Option.bind_some, if_neg (by omega)]
      refine ⟨_, rfl, ?_, ?_, by simp; omega, by simp; omega⟩
      all_goals
        simp only
        rw [wrap64_in (v * 256) (by omega) (by omega), wrap64_in (v * 256 + v2) (by omega) (by omega), Int.tmod_eq_emod_of_nonneg (by omega)]
      · exact Int.emod_nonneg _ (by omega)
      · exact .inr (Int.emod_lt_of_pos _ (by omega))
    · rw [if_neg h2, if_neg (by omega)]
      refine ⟨_, rfl, ?_, ?_, by simp only; omega, by simp only; omega⟩
      all_goals
        simp only
        rw [Int.tmod_eq_emod_of_nonneg (by omega)]
      · exact Int.emod_nonneg _ (by omega)
      · exact .inr (Int.emod_lt_of_pos _ (by omega))
theorem one_ok {l : List Int} (hb : By l) (p h a : Int) (hp : 0 ≤ p) (hp2 : p ≤ 999990) : ∃ r, Aas.f l p h a = some r ∧ p ≤ r.2.1 ∧ r.2.1 ≤ p + 2 := by
  obtain ⟨r, e, h1⟩ := pick_ok hb p h a hp hp2
  unfold Aas.f
  rw [e]
  exact ⟨_, rfl, h1.2.2.1, h1.2.2.2⟩
theorem among_ok {l : List Int} (hb : By l) (p h : Int) (z : List Int) (hz : z ≠ []) (hp : 0 ≤ p) (hp2 : p ≤ 999990) : ∃ r, Aat.f l p h z = some r ∧ r.1 ∈ z ∧ p ≤ r.2.1 ∧ r.2.1 ≤ p + 2 := by
  obtain ⟨r, e, h1, h2, h3⟩ := pick_ok hb p h (z.length : Int) hp hp2
  have hz' := List.length_pos_iff.2 hz
  unfold Aat.f
  rw [e, Option.bind_some, if_pos h1, if_pos (by omega)]
  refine ⟨_, rfl, ?_, h3⟩
  obtain ⟨i, hi⟩ := Int.eq_ofNat_of_zero_le h1
  simp only [hi]
  rw [rd_get z i (by omega)]
  exact List.getElem_mem _
theorem orHas_ok (s j : Int) (hj : 0 ≤ j) : ∃ r, Abc.f s j = some r ∧ True := by unfold Abc.f; rw [if_pos hj]; exact ⟨_, rfl, trivial⟩
theorem l1Own_eq (l : List Int) (h : l.length < 17592186044416) : Abo.f l = some l := by
  unfold Abo.f
  simp [h]
theorem close_tot (n : Int) (l : List Int) (hl : l.length ≤ 140737488355328) : Tot (fun k => Aag.f k n l) (fun r => 0 ≤ r.1 ∧ (r.1 = 0 ∨ r.1 = n) ∧ r.1 ≤ 10 ∧ (r.2.1.length : Int) = r.1 ∧ r.2.2 = isRel n l) := by
  unfold Aag.f
  refine Tot.ebind (orRelation_ev n l hl) ?_
  cases hr : isRel n l with
  | false => simp only [Bool.false_eq_true, if_false]; exact Tot.now (by simp)
  | true =>
    obtain ⟨m, rfl, h⟩ := isRel_iff.1 hr
    have hlen := h.len
    have h10 := h.le
    simp only [if_true, l1Own_eq l (by omega), Option.bind_some, hlen]
    refine Tot.up (fun i s k => Aag.l0 k (m : Int) (i : Int) (m : Int) s) m (fun _ s => s.length = m) ?_ ?_ 0 (Nat.zero_le _) l hlen
    · intro i s hi hs next
      refine Tot.step (fun _ => rfl) ?_
      simp only [Aag.l0, if_pos (show (i : Int) < (m : Int) by omega), hs]
      refine Tot.up (fun j s k => Aag.l1 k (i : Int) (m : Int) (i : Int) (m : Int) (j : Int) (m : Int) s) m (fun _ s => s.length = m) ?_ ?_ 0 (Nat.zero_le _) s hs
      · intro j s hj hs next
        refine Tot.step (fun _ => rfl) ?_
        simp only [Aag.l1, hs, if_pos (show (j : Int) < (m : Int) by omega), if_pos (show (i : Int) < (m : Int) by omega), if_pos (show (0 : Int) ≤ (i : Int) by omega), if_pos (show (0 : Int) ≤ (j : Int) by omega), next64 j m hj (by omega)]
        refine Tot.obind (orHas_ok _ _ (by omega)) fun b _ => ?_
        refine Tot.ite (fun _ => ?_) (fun _ => ?_)
        · exact next _ (by simpa using hs)
        · exact next _ hs
      · intro s hs
        refine Tot.step (fun _ => rfl) ?_
        simp only [Aag.l1, if_neg (show ¬ (m : Int) < (m : Int) by omega), next64 i m hi (by omega)]
        exact next _ hs
    · intro s hs
      refine Tot.step (fun _ => rfl) ?_
      simp only [Aag.l0, if_neg (show ¬ (m : Int) < (m : Int) by omega)]
      exact Tot.now (by simp [hs]; omega)
theorem order_tot {l : List Int} (hb : By l) (p h a : Int) (hp : 0 ≤ p) (hp2 : p ≤ 999000) (ha0 : 0 ≤ a) (ha : a ≤ 10) :
    Tot (fun k => Aab.f k l p h a) (fun r => 0 ≤ r.1 ∧ r.1 ≤ a ∧ (r.2.1.length : Int) = r.1 ∧ p ≤ r.2.2.1 ∧ r.2.2.1 ≤ p + 400) := by
  unfold Aab.f
  rw [wrap64_in (a + 1) (by omega) (by omega)]
  refine Tot.obind (pick_ok hb p h (a + 1) hp (by omega)) ?_
  rintro ⟨n, p1, h1⟩ ⟨n0, n1, n2, n3⟩
  simp only at n0 n1 n2 n3
  simp only [if_pos n0]
  obtain ⟨m, rfl⟩ := Int.eq_ofNat_of_zero_le n0
  have hm : m ≤ 10 := by omega
  rw [Int.toNat_natCast]
  simp only [if_pos (show m ≤ 35184372088832 by omega)]
  refine Tot.obind (pick_ok hb p1 h1 3 (by omega) (by omega)) ?_
  rintro ⟨kd, p2, h2⟩ ⟨k0, k1, k2, k3⟩
  simp only at k0 k1 k2 k3
  refine Tot.up (fun i (s : List Int × List Int × Int × Int) k => Aab.l0 k (m : Int) kd s.1 s.2.1 (i : Int) l s.2.2.1 s.2.2.2 (m : Int) (List.replicate m 0)) m
    (fun i s => s.1.length = i ∧ s.2.1.length = i ∧ p ≤ s.2.2.1 ∧ s.2.2.1 ≤ p + 4 + 4 * (i : Int)) ?_ ?_ 0 (Nat.zero_le _) ([], [], p2, h2) ⟨rfl, rfl, by simp only; omega, by simp only; omega⟩
  · rintro i ⟨x8, x9, p3, h3⟩ hi ⟨s1, s2, s3, s4⟩ next
    simp only at s1 s2 s3 s4
    refine Tot.step (fun _ => rfl) ?_
    simp only [Aab.l0, if_pos (show (i : Int) < (m : Int) by omega), s1, s2, if_pos (show i < 17592186044416 by omega), next64 i m hi (by omega)]
    refine Tot.obind (pick_ok hb p3 h3 8 (by omega) (by omega)) ?_
    rintro ⟨v, p4, h4⟩ ⟨v0, v1, v2, v3⟩
    simp only at v0 v1 v2 v3
    simp only [Option.bind_some]
    refine Tot.ite (fun _ => ?_) (fun _ => ?_)
    · refine Tot.obind (pick_ok hb p4 h4 4 (by omega) (by omega)) ?_
      rintro ⟨v', p5, h5⟩ ⟨u0, u1, u2, u3⟩
      simp only at u0 u1 u2 u3
      exact next (_, _, _, _) ⟨by simp [s1], by simp [s2], by simp only; omega, by simp only; omega⟩
    · exact next (_, _, _, _) ⟨by simp [s1], by simp [s2], by simp only; omega, by simp only; omega⟩
  · rintro ⟨x8, x9, p3, h3⟩ ⟨s1, s2, s3, s4⟩
    simp only at s1 s2 s3 s4
    refine Tot.step (fun _ => rfl) ?_
    simp only [Aab.l0, if_neg (show ¬ (m : Int) < (m : Int) by omega)]
    refine Tot.up (fun i (s : Int × Int × List Int) k => Aab.l1 k (m : Int) kd x8 x9 (i : Int) l s.1 s.2.1 (m : Int) s.2.2) m
      (fun i s => p ≤ s.1 ∧ s.1 ≤ p + 44 + 22 * (i : Int) ∧ s.2.2.length = m) ?_ ?_ 0 (Nat.zero_le _) (p3, h3, List.replicate m 0) ⟨by simp only; omega, by simp only; omega, by simp⟩
    · rintro i ⟨p4, h4, z⟩ hi ⟨t1, t2, t3⟩ next
      simp only at t1 t2 t3
      refine Tot.step (fun _ => rfl) ?_
      simp only [Aab.l1, if_pos (show (i : Int) < (m : Int) by omega)]
      refine Tot.up (fun j (s : Int × Int × List Int) k => Aab.l2 k (m : Int) kd x8 x9 (i : Int) (j : Int) l s.1 s.2.1 (m : Int) s.2.2) m
        (fun j s => p ≤ s.1 ∧ s.1 ≤ p + 44 + 22 * (i : Int) + 2 * (j : Int) ∧ s.2.2.length = m) ?_ ?_ 0 (Nat.zero_le _) (p4, h4, z) ⟨by simp only; omega, by simp only; omega, t3⟩
      · rintro j ⟨p5, h5, z⟩ hj ⟨q1, q2, q3⟩ next
        simp only at q1 q2 q3
        have hone : ∀ v p' h' , p ≤ p' → p' ≤ p5 + 2 → Tot (fun k => Aab.l2 k (m : Int) kd x8 x9 (i : Int) ((j + 1 : Nat) : Int) l p' h' (m : Int) (z.set i v)) _ := fun v p' h' a1 a2 => next (p', h', z.set i v) ⟨a1, by simp only; omega, by simpa using q3⟩
        have hno : ∀ p' h' , p ≤ p' → p' ≤ p5 + 2 → Tot (fun k => Aab.l2 k (m : Int) kd x8 x9 (i : Int) ((j + 1 : Nat) : Int) l p' h' (m : Int) z) _ := fun p' h' a1 a2 => next (p', h', z) ⟨a1, by simp only; omega, q3⟩
        refine Tot.step (fun _ => rfl) ?_
        simp only [Aab.l2, if_pos (show (j : Int) < (m : Int) by omega), s1, s2, q3, if_pos (show (i : Int) < (m : Int) by omega), if_pos (show (0 : Int) ≤ (i : Int) by omega), if_pos (show (0 : Int) ≤ (j : Int) by omega), next64 j m hj (by omega), Int.toNat_natCast]
        refine Tot.ite (fun _ => ?_) (fun _ => ?_)
        · refine Tot.ite (fun _ => ?_) (fun _ => ?_)
          · exact hone _ _ _ (by omega) (by omega)
          · refine Tot.ite (fun _ => ?_) (fun _ => hno _ _ (by omega) (by omega))
            refine Tot.ite (fun _ => ?_) (fun _ => hno _ _ (by omega) (by omega))
            refine Tot.obind (one_ok hb p5 h5 3 (by omega) (by omega)) ?_
            rintro ⟨v, p6, h6⟩ ⟨u2, u3⟩
            simp only at u2 u3
            dsimp only
            exact Tot.ite (fun _ => hone _ _ _ (by omega) (by omega)) (fun _ => hno _ _ (by omega) (by omega))
        · refine Tot.ite (fun _ => ?_) (fun _ => hno _ _ (by omega) (by omega))
          refine Tot.ite (fun _ => ?_) (fun _ => hno _ _ (by omega) (by omega))
          refine Tot.obind (one_ok hb p5 h5 3 (by omega) (by omega)) ?_
          rintro ⟨v, p6, h6⟩ ⟨u2, u3⟩
          simp only at u2 u3
          dsimp only
          exact Tot.ite (fun _ => hone _ _ _ (by omega) (by omega)) (fun _ => hno _ _ (by omega) (by omega))
      · rintro ⟨p5, h5, z⟩ ⟨q1, q2, q3⟩
        simp only at q1 q2 q3
        refine Tot.step (fun _ => rfl) ?_
        simp only [Aab.l2, if_neg (show ¬ (m : Int) < (m : Int) by omega), next64 i m hi (by omega)]
        exact next (p5, h5, z) ⟨q1, by simp only; omega, q3⟩
    · rintro ⟨p4, h4, z⟩ ⟨t1, t2, t3⟩
      simp only at t1 t2 t3
      refine Tot.step (fun _ => rfl) ?_
      simp only [Aab.l1, if_neg (show ¬ (m : Int) < (m : Int) by omega)]
      refine Tot.ite (fun _ => Tot.now ⟨by simp only; omega, by simp only; omega, by simp only; omega, by simp only; omega, by simp only; omega⟩) (fun _ => ?_)
      refine Tot.bind (close_tot (m : Int) z (by omega)) ?_
      rintro ⟨a1, a2, a3⟩ ⟨c1, c2, c3, c4⟩
      exact Tot.now ⟨by simp only; omega, by simp only at c2 ⊢; omega, by simp only at c4 ⊢; omega, by simp only; omega, by simp only; omega⟩
theorem relation_tot {l : List Int} (hb : By l) (p h a : Int) (hp : 0 ≤ p) (hp2 : p ≤ 999000) (ha0 : 0 ≤ a) (ha : a ≤ 10) :
    Tot (fun k => Aao.f k l p h a) (fun r => 0 ≤ r.1 ∧ r.1 ≤ a ∧ (r.2.1.length : Int) = r.1 ∧ p ≤ r.2.2.1 ∧ r.2.2.1 ≤ p + 400) := by
  unfold Aao.f
  rw [wrap64_in (a + 1) (by omega) (by omega)]
  refine Tot.obind (pick_ok hb p h (a + 1) hp (by omega)) ?_
  rintro ⟨n, p1, h1⟩ ⟨n0, n1, n2, n3⟩
  simp only at n0 n1 n2 n3
  obtain ⟨m, rfl⟩ := Int.eq_ofNat_of_zero_le n0
  have hm : m ≤ 10 := by omega
  refine Tot.up (fun i (s : Int × Int × List Int) k => Aao.l0 k l s.1 s.2.1 (m : Int) s.2.2) m
    (fun i s => p ≤ s.1 ∧ s.1 ≤ p + 2 + 20 * (i : Int) ∧ s.2.2.length = i) ?_ ?_ 0 (Nat.zero_le _) (p1, h1, []) ⟨by simp only; omega, by simp only; omega, rfl⟩
  · rintro i ⟨p2, h2, z⟩ hi ⟨s1, s2, s3⟩ next
    simp only at s1 s2 s3
    refine Tot.step (fun _ => rfl) ?_
    simp only [Aao.l0, s3, if_pos (show (i : Int) < (m : Int) by omega)]
    refine Tot.up (fun j (s : Int × Int × Int) k => Aao.l1 k s.1 (j : Int) l s.2.1 s.2.2 (m : Int) z) m
      (fun j s => p ≤ s.2.1 ∧ s.2.1 ≤ p + 2 + 20 * (i : Int) + 2 * (j : Int)) ?_ ?_ 0 (Nat.zero_le _) (0, p2, h2) ⟨by simp only; omega, by simp only; omega⟩
    · rintro j ⟨x, p3, h3⟩ hj ⟨q1, q2⟩ next
      simp only at q1 q2
      refine Tot.step (fun _ => rfl) ?_
      simp only [Aao.l1, if_pos (show (j : Int) < (m : Int) by omega), if_pos (show (0 : Int) ≤ (j : Int) by omega), next64 j m hj (by omega)]
      refine Tot.obind (one_ok hb p3 h3 4 (by omega) (by omega)) ?_
      rintro ⟨v, p6, h6⟩ ⟨u2, u3⟩
      simp only at u2 u3
      dsimp only
      exact Tot.ite (fun _ => next (_, p6, h6) ⟨by simp only; omega, by simp only; omega⟩) (fun _ => next (_, p6, h6) ⟨by simp only; omega, by simp only; omega⟩)
    · rintro ⟨x, p3, h3⟩ ⟨q1, q2⟩
      simp only at q1 q2
      refine Tot.step (fun _ => rfl) ?_
      simp only [Aao.l1, if_neg (show ¬ (m : Int) < (m : Int) by omega), s3, if_pos (show i < 17592186044416 by omega)]
      exact next (p3, h3, z ++ [x]) ⟨q1, by simp only; omega, by simp [s3]⟩
  · rintro ⟨p2, h2, z⟩ ⟨s1, s2, s3⟩
    simp only at s1 s2 s3
    refine Tot.step (fun _ => rfl) ?_
    simp only [Aao.l0, s3, if_neg (show ¬ (m : Int) < (m : Int) by omega)]
    exact Tot.now ⟨by simp only; omega, by simp only; omega, by simp only; omega, by simp only; omega, by simp only; omega⟩
theorem anyOrder_tot {l : List Int} (hb : By l) (p h a : Int) (hp : 0 ≤ p) (hp2 : p ≤ 998000) (ha0 : 0 ≤ a) (ha : a ≤ 10) :
    Tot (fun k => Aax.f k l p h a) (fun r => r.2.1.length ≤ 10 ∧ p ≤ r.2.2.1 ∧ r.2.2.1 ≤ p + 900) := by
  unfold Aax.f
  refine Tot.bind (order_tot hb p h a hp (by omega) ha0 ha) ?_
  rintro ⟨n, z, p1, h1⟩ ⟨n0, n1, n2, n3, n4⟩
  simp only at n0 n1 n2 n3 n4
  refine Tot.obind (pick_ok hb p1 h1 14 (by omega) (by omega)) ?_
  rintro ⟨c, p2, h2⟩ ⟨k0, k1, k2, k3⟩
  simp only at k0 k1 k2 k3
  simp only []
  refine Tot.ite (fun _ => ?_) (fun _ => Tot.ite (fun _ => ?_) (fun _ => Tot.ite (fun _ => ?_) (fun _ => Tot.ite (fun _ => ?_) (fun _ => ?_))))
  · refine Tot.bind (relation_tot hb p2 h2 a (by omega) (by omega) ha0 ha) ?_
    rintro ⟨n', z', p', h'⟩ ⟨m0, m1, m2, m3, m4⟩
    simp only at m0 m1 m2 m3 m4
    exact Tot.now ⟨by simp only; omega, by simp only; omega, by simp only; omega⟩
  · refine Tot.obind (among_ok hb p2 h2 _ (by simp) (by omega) (by omega)) ?_
    rintro ⟨v, p', h'⟩ ⟨_, m3, m4⟩
    simp only at m3 m4
    exact Tot.now ⟨by simp only; omega, by simp only; omega, by simp only; omega⟩
  · refine Tot.ite (fun hz => ?_) (fun _ => Tot.now ⟨by simp only; omega, by simp only; omega, by simp only; omega⟩)
    refine Tot.obind (pick_ok hb p2 h2 _ (by omega) (by omega)) ?_
    rintro ⟨v, p', h'⟩ ⟨v0, v1, m3, m4⟩
    simp only at v0 v1 m3 m4
    simp only [if_pos n0]
    refine Tot.obind (among_ok hb p' h' _ (by simp) (by omega) (by omega)) ?_
    rintro ⟨v', p'', h''⟩ ⟨_, m5, m6⟩
    simp only at m5 m6
    simp only [if_pos v0]
    rw [if_pos (show v < (z.length : Int) by omega)]
    exact Tot.now ⟨by simp only [List.length_set]; omega, by simp only; omega, by simp only; omega⟩
  · refine Tot.bind (order_tot hb p2 h2 10 (by omega) (by omega) (by omega) (by omega)) ?_
    rintro ⟨n', z', p', h'⟩ ⟨m0, m1, m2, m3, m4⟩
    simp only at m0 m1 m2 m3 m4
    exact Tot.now ⟨by simp only; omega, by simp only; omega, by simp only; omega⟩
  · exact Tot.now ⟨by simp only; omega, by simp only; omega, by simp only; omega⟩
end Go.Proofs.YtimjblnglhmakaaDoor.M
namespace Go.Proofs.YtimjblnglhmakaaDoor.P
open Go.RowKit Go.Proofs.YtimjblnglhmakaaDoorW.PrintWords Go.Proofs.YtimjblnglhmakaaDoorW.PrintLast Go.Proofs.YtimjblnglhmakaaDoorW.PrintMore
open Bool renaming true → T, false → F
open List renaming setIfInBounds_toArray → L_, set_cons_zero → M_, set_cons_succ → N_, map_toArray → P_, map_cons → Q_, map_nil → R_, length_drop → S_, length_take → U_
open Aside0 renaming mk → A_
attribute [local go_sem] max2_int min2_int max_two min_two max_three min_three max_four min_four
set_option linter.unusedVariables false
set_option linter.unusedSimpArgs false
attribute [local go_sem] fldOrder_0 fldOrder_1

end Go.Proofs.YtimjblnglhmakaaDoor.P
namespace Go.Proofs.YtimjblnglhmakaaDoor.P
open Go.RowKit Go.Proofs.YtimjblnglhmakaaDoorW.PrintWords Go.Proofs.YtimjblnglhmakaaDoorW.PrintLast Go.Proofs.YtimjblnglhmakaaDoorW.PrintMore
open Bool renaming true → T, false → F
open List renaming setIfInBounds_toArray → L_, set_cons_zero → M_, set_cons_succ → N_, map_toArray → P_, map_cons → Q_, map_nil → R_, length_drop → S_, length_take → U_
open Aside0 renaming mk → A_
attribute [local go_sem] max2_int min2_int max_two min_two max_three min_three max_four min_four
set_option linter.unusedVariables false
set_option linter.unusedSimpArgs false
attribute [local go_sem] fldOrder_0 fldOrder_1
end Go.Proofs.YtimjblnglhmakaaDoor.P
namespace Go.Proofs.YtimjblnglhmakaaDoor.M
open Go.RowKit Go.Proofs.YtimjblnglhmakaaDoorW.PrintMore Go.Proofs.YtimjblnglhmakaaDoorW.PrintLast Go.Proofs.YtimjblnglhmakaaDoorW.PrintWords Go.Proofs.YtimjblnglhmakaaDoor.P
def mir (n : Nat) (l : List Int) : List Int := relL n fun i j => B l j i
theorem orBelow_ev {n : Nat} {l : List Int} (h : Rel n l) (z : Int) (i : Nat) (hi : i ≤ 62) : Ev (fun k => Aa5.f k z l (i : Int)) ((setOf n fun j => B l j i : Nat) : Int) := by
  have hlen := h.len
  have hn := h.le
  unfold Aa5.f
  rw [hlen]
  refine Ev.up (fun j k => Aa5.l0 k (i : Int) ((setOf j fun j => B l j i : Nat) : Int) l (n : Int) (j : Int)) n ?_ ?_
  · intro j hj next
    refine Ev.step (fun _ => rfl) ?_
    rw [setOf_bit_or] at next
    simp only [Aa5.l0, if_pos (show (j : Int) < (n : Int) by omega), if_pos (show (0 : Int) ≤ (j : Int) by omega), hlen, h.rd, orHas_eq _ i (by omega), Option.bind_some, next64 j n hj (by omega)]
    rw [show (row l j).testBit i = B l j i from rfl]
    cases hb : B l j i with
    | false =>
      rw [hb] at next
      simpa using next
    | true =>
      rw [hb] at next
      have h2 : (2 : Nat) ^ j < 9223372036854775808 := Nat.lt_of_le_of_lt (Nat.pow_le_pow_right (by decide) (by omega : j ≤ 62)) (by decide)
      simp only [if_true]
      rw [shl1 j (by omega), or_i64 (setOf j fun j => B l j i) (2 ^ j) (setOf_62 _ _ (by omega)) h2]
      simpa using next
  · refine Ev.step (fun _ => rfl) ?_
    simp only [Aa5.l0, if_neg (show ¬ (n : Int) < (n : Int) by omega)]
    exact Ev.now _
theorem orMirror_ev {n : Nat} {l : List Int} (h : Rel n l) (z : Int) : Ev (fun k => Aav.f k z l) (z, mir n l) := by
  have hlen := h.len
  have hn := h.le
  unfold Aav.f
  rw [hlen]
  refine Ev.up (fun i k => Aav.l0 k (n : Int) (i : Int) z l z ((List.range i).map fun i => ((setOf n fun j => B l j i : Nat) : Int))) n ?_ ?_
  · intro i hi next
    refine Ev.step (fun _ => rfl) ?_
    simp only [Aav.l0, if_pos (show (i : Int) < (n : Int) by omega), next64 i n hi (by omega), List.length_map, List.length_range, if_pos (show i < 17592186044416 by omega)]
    refine Ev.bind (orBelow_ev h z i (by omega)) ?_
    simpa [List.range_succ] using next
  · refine Ev.step (fun _ => rfl) ?_
    simp only [Aav.l0, if_neg (show ¬ (n : Int) < (n : Int) by omega)]
    exact Ev.now _
end Go.Proofs.YtimjblnglhmakaaDoor.M
namespace Go.Proofs.YtimjblnglhmakaaDoor.M
def srt (l : List Int) : List Int := l.mergeSort fun x y => decide (x ≤ y)
theorem srt_perm (l : List Int) : (srt l).Perm l := List.mergeSort_perm _ _
theorem srt_sorted (l : List Int) : (srt l).Pairwise (· ≤ ·) := by
  have h := List.pairwise_mergeSort (le := fun (x y : Int) => decide (x ≤ y)) (by intro a b c h1 h2; simp only [decide_eq_true_iff] at *; omega) (by intro a b; simp only [Bool.or_eq_true, decide_eq_true_iff]; omega) l
  exact h.imp (fun h => of_decide_eq_true h)
def put (T : List Nat) (k i : Nat) : List Nat := T.take k ++ i :: T.drop k
def ins (x : Int) : List Int → List Int
  | [] => [x]
  | y :: l => if y < x then y :: ins x l else if y = x then y :: l else x :: y :: l
def Inc (l : List Int) : Prop := l.Pairwise (· < ·)
theorem mem_ins (x y : Int) (l : List Int) : y ∈ ins x l ↔ y = x ∨ y ∈ l := by
  induction l with
  | nil => simp [ins]
  | cons z l ih =>
    unfold ins
    split
    · rw [List.mem_cons, ih, List.mem_cons]
      constructor
      · rintro (h | h | h)
        · exact .inr (.inl h)
        · exact .inl h
        · exact .inr (.inr h)
      · rintro (h | h | h)
        · exact .inr (.inl h)
        · exact .inl h
        · exact .inr (.inr h)
    · split
      · rename_i h1 h2
        rw [List.mem_cons]
        constructor
        · exact .inr
        · rintro (h | h)
          · exact .inl (h.trans h2.symm)
          · exact h
      · rw [List.mem_cons]
theorem inc_ins (x : Int) (l : List Int) (h : Inc l) : Inc (ins x l) := by
  induction l with
  | nil => simp [ins, Inc]
  | cons z l ih =>
    have h' := List.pairwise_cons.1 h
    unfold ins
    split
    · rename_i hz
      refine List.pairwise_cons.2 ⟨fun y hy => ?_, ih h'.2⟩
      rcases (mem_ins x y l).1 hy with rfl | hy
      · exact hz
      · exact h'.1 y hy
    · split
      · exact h
      · rename_i h1 h2
        refine List.pairwise_cons.2 ⟨fun y hy => ?_, h⟩
        rcases List.mem_cons.1 hy with rfl | hy
        · omega
        · have := h'.1 y hy; omega
def dif (l : List Int) : List Int := l.foldl (fun acc x => ins x acc) []
theorem dif_foldl (l acc : List Int) (h : Inc acc) : Inc (l.foldl (fun acc x => ins x acc) acc) ∧ ∀ y, y ∈ l.foldl (fun acc x => ins x acc) acc ↔ y ∈ acc ∨ y ∈ l := by
  induction l generalizing acc with
  | nil => exact ⟨h, fun y => by simp⟩
  | cons x l ih =>
    obtain ⟨h1, h2⟩ := ih (ins x acc) (inc_ins x acc h)
    refine ⟨h1, fun y => (h2 y).trans ?_⟩
    rw [mem_ins, List.mem_cons]
    constructor
    · rintro ((h | h) | h)
      · exact .inr (.inl h)
      · exact .inl h
      · exact .inr (.inr h)
    · rintro (h | h | h)
      · exact .inl (.inr h)
      · exact .inl (.inl h)
      · exact .inr h
theorem dif_inc (l : List Int) : Inc (dif l) := (dif_foldl l [] List.Pairwise.nil).1
theorem mem_dif (l : List Int) (y : Int) : y ∈ dif l ↔ y ∈ l := by
  have := (dif_foldl l [] List.Pairwise.nil).2 y
  unfold dif
  simpa using this
theorem inc_nodup {l : List Int} (h : Inc l) : l.Nodup := h.imp (fun h => by omega)
theorem inc_ext {l l' : List Int} (h : Inc l) (h' : Inc l') (hm : ∀ y, y ∈ l ↔ y ∈ l') : l = l' :=
  List.Perm.eq_of_pairwise (fun _ _ _ _ h1 h2 => by omega) h h' ((List.perm_ext_iff_of_nodup (inc_nodup h) (inc_nodup h')).2 hm)
theorem dif_length_le (l : List Int) : (dif l).length ≤ l.length := by
  have : ∀ (l acc : List Int), (l.foldl (fun acc x => ins x acc) acc).length ≤ acc.length + l.length := by
    intro l
    induction l with
    | nil => intro acc; simp
    | cons x l ih =>
      intro acc
      have h1 := ih (ins x acc)
      have h2 : (ins x acc).length ≤ acc.length + 1 := by
        clear h1 ih
        induction acc with
        | nil => simp [ins]
        | cons y acc ih => unfold ins; split <;> (try split) <;> simp <;> omega
      simp only [List.foldl_cons, List.length_cons]
      omega
  unfold dif
  simpa using this l []
def rank (l : List Int) (x : Int) : Nat := (dif l).countP fun y => decide (y < x)
theorem inc_place {l : List Int} (h : Inc l) (k : Nat) (hk : k < l.length) : l.countP (fun y => decide (y < l[k])) = k := by
  have hp := List.pairwise_iff_getElem.1 h
  have e : l = l.take k ++ l.drop k := (List.take_append_drop k l).symm
  have h1 : (l.take k).countP (fun y => decide (y < l[k])) = (l.take k).length := by
    rw [List.countP_eq_length]
    intro y hy
    obtain ⟨j, hj, rfl⟩ := List.mem_iff_getElem.1 hy
    rw [List.length_take] at hj
    rw [List.getElem_take, decide_eq_true_iff]
    exact hp j k (by omega) hk (by omega)
  have h2 : (l.drop k).countP (fun y => decide (y < l[k])) = 0 := by
    rw [List.countP_eq_zero]
    intro y hy
    obtain ⟨j, hj, rfl⟩ := List.mem_iff_getElem.1 hy
    rw [List.length_drop] at hj
    rw [List.getElem_drop, decide_eq_true_iff]
    by_cases h0 : j = 0
    · subst h0; simp
    · have := hp k (k + j) hk (by omega) (by omega); omega
  calc l.countP (fun y => decide (y < l[k])) = (l.take k ++ l.drop k).countP (fun y => decide (y < l[k])) := by rw [List.take_append_drop]
    _ = k := by rw [List.countP_append, h1, h2, List.length_take]; omega
theorem rank_at (l : List Int) (k : Nat) (hk : k < (dif l).length) : rank l (dif l)[k] = k := inc_place (dif_inc l) k hk
theorem rank_lt {l : List Int} {x : Int} (h : x ∈ l) : ∃ hk : rank l x < (dif l).length, (dif l)[rank l x] = x := by
  obtain ⟨k, hk, e⟩ := List.mem_iff_getElem.1 ((mem_dif l x).2 h)
  have := rank_at l k hk
  rw [e] at this
  exact ⟨by omega, by simp only [this]; exact e⟩
theorem rank_lt_iff {l : List Int} {x y : Int} (hx : x ∈ l) (hy : y ∈ l) : rank l x < rank l y ↔ x < y := by
  obtain ⟨h1, e1⟩ := rank_lt hx
  obtain ⟨h2, e2⟩ := rank_lt hy
  constructor
  · intro h
    have := List.pairwise_iff_getElem.1 (dif_inc l) _ _ h1 h2 h
    rwa [e1, e2] at this
  · intro h
    rcases Nat.lt_or_ge (rank l x) (rank l y) with h3 | h3
    · exact h3
    · rcases Nat.lt_or_eq_of_le h3 with h4 | h4
      · have := List.pairwise_iff_getElem.1 (dif_inc l) _ _ h2 h1 h4
        rw [e1, e2] at this
        omega
      · have : (dif l)[rank l y] = (dif l)[rank l x] := by simp only [h4]
        rw [e1, e2] at this
        omega
theorem dif_map {α : Type} (L : List α) (f g : α → Int) (h : ∀ x ∈ L, ∀ y ∈ L, f x < f y ↔ g x < g y) (x : α) (hx : x ∈ L) : rank (L.map f) (f x) = rank (L.map g) (g x) := by
  have key : ∀ (f g : α → Int), (∀ x ∈ L, ∀ y ∈ L, f x < f y ↔ g x < g y) → rank (L.map f) (f x) ≤ rank (L.map g) (g x) := by
    intro f g h
    have hsub : ∀ (M : List Int), Inc M → (∀ z ∈ M, z ∈ L.map f ∧ z < f x) → M.length ≤ rank (L.map g) (g x) := by
      intro M hM hz
      -- the g's of the members of M, in order
      have : ∃ N : List Int, N.length = M.length ∧ Inc N ∧ ∀ z ∈ N, z ∈ L.map g ∧ z < g x := by
        have step : ∀ (M : List Int), Inc M → (∀ z ∈ M, z ∈ L.map f ∧ z < f x) → ∃ N : List α, N.map f = M ∧ (∀ z ∈ N, z ∈ L ∧ f z < f x) := by
          intro M
          induction M with
          | nil => intro _ _; exact ⟨[], rfl, by simp⟩
          | cons m M ih =>
            intro hM hz
            obtain ⟨N, e, hN⟩ := ih (List.pairwise_cons.1 hM).2 fun z hzM => hz z (List.mem_cons_of_mem _ hzM)
            obtain ⟨h1, h2⟩ := hz m List.mem_cons_self
            obtain ⟨a, ha, rfl⟩ := List.mem_map.1 h1
            refine ⟨a :: N, by rw [List.map_cons, e], fun z hzN => ?_⟩
            rcases List.mem_cons.1 hzN with rfl | hzN
            · exact ⟨ha, h2⟩
            · exact hN z hzN
        obtain ⟨N, e, hN⟩ := step M hM hz
        refine ⟨N.map g, by rw [← e]; simp, ?_, ?_⟩
        · rw [Inc, ← e] at hM
          have hM : N.Pairwise fun a b => f a < f b := List.pairwise_map.1 hM
          refine List.pairwise_map.2 (List.Pairwise.imp_of_mem (fun ha hb hab => ?_) hM)
          exact (h _ (hN _ ha).1 _ (hN _ hb).1).1 hab
        · intro z hz
          obtain ⟨a, ha, rfl⟩ := List.mem_map.1 hz
          exact ⟨List.mem_map_of_mem (hN a ha).1, (h _ (hN a ha).1 _ hx).1 (hN a ha).2⟩
      obtain ⟨N, e, hN, hz⟩ := this
      rw [← e]
      have hs : N.Nodup := inc_nodup hN
      have hf : ((dif (L.map g)).filter fun y => decide (y < g x)).Nodup := List.Nodup.sublist List.filter_sublist (inc_nodup (dif_inc _))
      have : N.Subset ((dif (L.map g)).filter fun y => decide (y < g x)) := by
        intro z hzN
        rw [List.mem_filter, mem_dif, decide_eq_true_iff]
        exact hz z hzN
      unfold rank
      rw [List.countP_eq_length_filter]
      exact List.Nodup.length_le_of_subset hs this
    unfold rank
    rw [List.countP_eq_length_filter]
    refine hsub _ ((dif_inc _).sublist List.filter_sublist) fun z hz => ?_
    rw [List.mem_filter, mem_dif, decide_eq_true_iff] at hz
    exact hz
  exact Nat.le_antisymm (key f g h) (key g f fun a ha b hb => (h a ha b hb).symm)
theorem compact_srt (l : List Int) : Lib.compact (srt l) = dif l := by
  have hs := srt_sorted l
  have hp := List.pairwise_iff_getElem.1 hs
  have hg : ∀ j (hj : j < (srt l).length), (srt l).toArray[j]! = (srt l)[j] := by intro j hj; simp [hj]
  refine inc_ext ?_ (dif_inc l) fun y => ?_
  · unfold Lib.compact Lib.compactUpTo Inc
    rw [List.pairwise_map]
    refine List.Pairwise.imp_of_mem (R := fun a b => a < b) (fun {a b} ha hb hab => ?_) (List.pairwise_lt_range.sublist List.filter_sublist)
    rw [List.mem_filter, List.mem_range] at ha hb
    have hk := hb.2
    unfold Lib.keeps at hk
    rw [decide_eq_true_iff] at hk
    have hk := hk.resolve_left (by omega)
    rw [hg a ha.1, hg b hb.1]
    rw [hg b hb.1, hg (b - 1) (by omega)] at hk
    have h1 := hp (b - 1) b (by omega) hb.1 (by omega)
    by_cases hab' : a = b - 1
    · subst hab'; omega
    · have := hp a (b - 1) ha.1 (by omega) (by omega); omega
  · rw [mem_dif, ← (srt_perm l).mem_iff]
    unfold Lib.compact Lib.compactUpTo
    rw [List.mem_map]
    constructor
    · rintro ⟨j, hj, rfl⟩
      rw [List.mem_filter, List.mem_range] at hj
      rw [hg j hj.1]
      exact List.getElem_mem _
    · intro hy
      obtain ⟨j, hj, e⟩ := List.mem_iff_getElem.1 hy
      induction j using Nat.strongRecOn with
      | _ j ih =>
        by_cases h0 : j = 0 ∨ (srt l)[j] ≠ (srt l)[j - 1]'(by omega)
        · refine ⟨j, ?_, by rw [hg j hj]; exact e⟩
          rw [List.mem_filter, List.mem_range]
          refine ⟨hj, ?_⟩
          unfold Lib.keeps
          rw [decide_eq_true_iff, hg j hj, hg (j - 1) (by omega)]
          exact h0
        · have h1 : ¬ j = 0 := fun h => h0 (.inl h)
          have h2 : (srt l)[j] = (srt l)[j - 1]'(by omega) := Decidable.byContradiction fun h => h0 (.inr h)
          exact ih (j - 1) (by omega) (by omega) (by rw [← h2]; exact e)
end Go.Proofs.YtimjblnglhmakaaDoor.M
namespace Go.Proofs.YtimjblnglhmakaaDoor.P
open Go.RowKit Go.Proofs.YtimjblnglhmakaaDoorW.PrintWords Go.Proofs.YtimjblnglhmakaaDoorW.PrintLast Go.Proofs.YtimjblnglhmakaaDoorW.PrintMore
open Bool renaming true → T, false → F
open List renaming setIfInBounds_toArray → L_, set_cons_zero → M_, set_cons_succ → N_, map_toArray → P_, map_cons → Q_, map_nil → R_, length_drop → S_, length_take → U_
open Aside0 renaming mk → A_
attribute [local go_sem] max2_int min2_int max_two min_two max_three min_three max_four min_four
set_option linter.unusedVariables false
set_option linter.unusedSimpArgs false
attribute [local go_sem] fldOrder_0 fldOrder_1
mutual
def Abu.l0 : Nat → List Int → List Int → List Int → Int → Int → Option (List Int)
 | 0,_,_,_,_,_=>none
 | k + 1,x3,x5,x17,x18,x19=>if x19 < x18 then (if 0 ≤ x19 then (if x19 < (x17.length : Int) then (Abu.l1 k x3 x5 (rd x17 x19) 0 x17 x18 x19 x5 (x5.length : Int) 0) else (none)) else (none)) else (some x3)
def Abu.l1 : Nat → List Int → List Int → Int → Int → List Int → Int → Int → List Int → Int → Int → Option (List Int)
 | 0,_,_,_,_,_,_,_,_,_,_=>none
 | k + 1,x3,x5,x7,x8,x17,x18,x19,x23,x24,x25=>if x25 < x24 then (if 0 ≤ x25 then (if x25 < (x23.length : Int) then (if (rd x23 x25) = x7 then (Abu.l1 k x3 x5 x7 x8 x17 x18 x19 x23 x24 (wrap64 (x25 + 1))) else (if (Go.bits .andNot .i64 (rd x23 x25) x7) = 0 then (Abu.l1 k x3 x5 x7 (wrap64 (x8 + 1)) x17 x18 x19 x23 x24 (wrap64 (x25 + 1))) else (Abu.l1 k x3 x5 x7 x8 x17 x18 x19 x23 x24 (wrap64 (x25 + 1))))) else (none)) else (none)) else (if x3.length < 17592186044416 then (Abu.l0 k (x3 ++ [x8]) x5 x17 x18 (wrap64 (x19 + 1))) else (none))
end
end Go.Proofs.YtimjblnglhmakaaDoor.P
namespace Go.Proofs.YtimjblnglhmakaaDoor.M
open Go.RowKit Go.Proofs.YtimjblnglhmakaaDoorW.PrintMore Go.Proofs.YtimjblnglhmakaaDoorW.PrintLast Go.Proofs.YtimjblnglhmakaaDoorW.PrintWords Go.Proofs.YtimjblnglhmakaaDoor.P
set_option maxRecDepth 4000
theorem ins_at (x : Int) (l : List Int) (p : Nat) (hp : p ≤ l.length) (h1 : ∀ j, j < p → l.getD j 0 < x) (h2 : p < l.length → ¬ l.getD p 0 < x) : ins x l = if p < l.length ∧ l.getD p 0 = x then l else l.take p ++ x :: l.drop p := by
  induction l generalizing p with
  | nil =>
    obtain rfl : p = 0 := by simpa using hp
    simp [ins]
  | cons y l ih =>
    cases p with
    | zero =>
      have h2 := h2 (by simp)
      simp only [List.getD_cons_zero] at h2
      unfold ins
      rw [if_neg h2]
      simp
    | succ p =>
      have hy : y < x := by simpa using h1 0 (by omega)
      unfold ins
      rw [if_pos hy, ih p (by simpa using hp) (fun j hj => by simpa using h1 (j + 1) (by omega)) (fun hlt => by simpa using h2 (by simpa using hlt))]
      by_cases hc : p < l.length ∧ l.getD p 0 = x
      · rw [if_pos hc, if_pos (by simpa using hc)]
      · rw [if_neg hc, if_neg (by simpa using hc)]
        simp
theorem l1Put_ev (l : List Int) (x : Int) (hl : l.length ≤ 1048576) : Ev (fun k => Abf.f k l x) (ins x l) := by
  unfold Abf.f
  have key : ∀ m p, p + m = l.length → (∀ j, j < p → l.getD j 0 < x) → Ev (fun k => Abf.l0 k l x (p : Int)) (ins x l) := by
    intro m
    induction m with
    | zero =>
      intro p hp h1
      have e := ins_at x l p (by omega) h1 (fun h => by omega)
      rw [if_neg (fun h => by omega)] at e
      rw [e]
      refine Ev.step (fun _ => rfl) ?_
      simp only [Abf.l0, if_neg (show ¬ (p : Int) < (l.length : Int) by omega), if_pos (show (0 : Int) ≤ (p : Int) by omega), if_pos (show (p : Int) ≤ (l.length : Int) by omega), Option.bind_some, Int.toNat_natCast, List.nil_append, List.length_nil, List.length_append, List.length_take, List.length_drop, List.length_singleton,
        if_pos (show 0 + min p l.length < 17592186044416 by omega), if_pos (show 0 + min p l.length + 1 + (l.length - p) < 17592186044416 by omega)]
      exact Ev.to (Ev.now _) (by simp)
    | succ m ih =>
      intro p hp h1
      refine Ev.step (fun _ => rfl) ?_
      by_cases c : l.getD p 0 < x
      · simp only [Abf.l0, if_pos (show (p : Int) < (l.length : Int) by omega), if_pos (show (0 : Int) ≤ (p : Int) by omega), rd_nat, if_pos c, next64 p l.length (by omega) (by omega)]
        refine ih (p + 1) (by omega) fun j hj => ?_
        by_cases e : j = p
        · rw [e]; exact c
        · exact h1 j (by omega)
      · have e := ins_at x l p (by omega) h1 (fun _ => c)
        by_cases c2 : l.getD p 0 = x
        · rw [if_pos ⟨by omega, c2⟩] at e
          rw [e]
          simp only [Abf.l0, if_pos (show (p : Int) < (l.length : Int) by omega), if_pos (show (0 : Int) ≤ (p : Int) by omega), rd_nat, if_neg c, if_pos c2]
          exact Ev.now _
        · rw [if_neg (fun h => c2 h.2)] at e
          rw [e]
          simp only [Abf.l0, if_pos (show (p : Int) < (l.length : Int) by omega), if_pos (show (0 : Int) ≤ (p : Int) by omega), rd_nat, if_neg c, if_neg c2, if_pos (show (p : Int) ≤ (l.length : Int) by omega), Option.bind_some, Int.toNat_natCast, List.nil_append, List.length_nil, List.length_append, List.length_take, List.length_drop, List.length_singleton,
            if_pos (show 0 + min p l.length < 17592186044416 by omega), if_pos (show 0 + min p l.length + 1 + (l.length - p) < 17592186044416 by omega)]
          exact Ev.to (Ev.now _) (by simp)
  exact key l.length 0 (by omega) (fun j hj => by omega)
theorem orPlace_ev (l : List Int) (x : Int) (r : Nat) (hr : r < l.length) (hl : l.length ≤ 1048576) (h : l.getD r 0 = x) (h1 : ∀ j, j < r → l.getD j 0 ≠ x) : Ev (fun k => Abb.f k l x) ((r : Nat) : Int) := by
  unfold Abb.f
  refine Ev.up (fun j k => Abb.l0 k x l (l.length : Int) (j : Int)) r ?_ ?_
  · intro j hj next
    refine Ev.step (fun _ => rfl) ?_
    simp only [Abb.l0, if_pos (show (j : Int) < (l.length : Int) by omega), if_pos (show (0 : Int) ≤ (j : Int) by omega), rd_nat, if_neg (h1 j hj), next64 j r hj (by omega)]
    exact next
  · refine Ev.step (fun _ => rfl) ?_
    simp only [Abb.l0, if_pos (show (r : Int) < (l.length : Int) by omega), if_pos (show (0 : Int) ≤ (r : Int) by omega), rd_nat, if_pos h]
    exact Ev.now _
def ranks (zs : List Int) : List Int := zs.map fun x => ((rank zs x : Nat) : Int)
theorem ranks_length (zs : List Int) : (ranks zs).length = zs.length := by simp [ranks]
theorem rank_place {zs : List Int} {x : Int} (h : x ∈ zs) : rank zs x < (dif zs).length ∧ (dif zs).getD (rank zs x) 0 = x ∧ ∀ j, j < rank zs x → (dif zs).getD j 0 ≠ x := by
  obtain ⟨hk, e⟩ := rank_lt h
  refine ⟨hk, by rw [List.getD_eq_getElem?_getD, List.getElem?_eq_getElem hk, Option.getD_some]; exact e, fun j hj => ?_⟩
  have := List.pairwise_iff_getElem.1 (dif_inc zs) j (rank zs x) (by omega) hk hj
  rw [List.getD_eq_getElem?_getD, List.getElem?_eq_getElem (by omega), Option.getD_some]
  rw [e] at this
  omega
theorem take_next {zs : List Int} (i : Nat) (hi : i < zs.length) : zs.take (i + 1) = zs.take i ++ [zs.getD i 0] := by rw [List.take_add_one]; simp [hi]
theorem weOfNumbers_ev (zs : List Int) (hl : zs.length ≤ 1048576) : Ev (fun k => Aaq.f k zs) (ranks zs) := by
  unfold Aaq.f
  have hd := dif_length_le zs
  have second : Ev (fun k => Aaq.l1 k (dif zs) ([] : List Int) zs (zs.length : Int) 0) (ranks zs) := by
    refine Ev.to (Ev.up (r := (zs.take zs.length).map fun x => ((rank zs x : Nat) : Int)) (fun i k => Aaq.l1 k (dif zs) ((zs.take i).map fun x => ((rank zs x : Nat) : Int)) zs (zs.length : Int) (i : Int)) zs.length ?_ ?_) (by rw [List.take_length]; rfl)
    · intro i hi next
      obtain ⟨p1, p2, p3⟩ := rank_place (zs := zs) (x := zs.getD i 0) (by simp [hi])
      refine Ev.step (fun _ => rfl) ?_
      simp only [Aaq.l1, if_pos (show (i : Int) < (zs.length : Int) by omega), if_pos (show (0 : Int) ≤ (i : Int) by omega), rd_nat]
      refine Ev.bind (orPlace_ev (dif zs) (zs.getD i 0) _ p1 (by omega) p2 p3) ?_
      simp only [List.length_map, List.length_take, if_pos (show min i zs.length < 17592186044416 by omega), next64 i zs.length hi (by omega)]
      rw [take_next i hi, List.map_append] at next
      exact next
    · refine Ev.step (fun _ => rfl) ?_
      simp only [Aaq.l1, if_neg (show ¬ (zs.length : Int) < (zs.length : Int) by omega)]
      exact Ev.now _
  have first : Ev (fun k => Aaq.l0 k zs (dif (zs.take 0)) zs (zs.length : Int) ((0 : Nat) : Int)) (ranks zs) := by
    refine Ev.up (fun i k => Aaq.l0 k zs (dif (zs.take i)) zs (zs.length : Int) (i : Int)) zs.length ?_ ?_
    · intro i hi next
      have hd2 := dif_length_le (zs.take i)
      rw [List.length_take] at hd2
      refine Ev.step (fun _ => rfl) ?_
      simp only [Aaq.l0, if_pos (show (i : Int) < (zs.length : Int) by omega), if_pos (show (0 : Int) ≤ (i : Int) by omega), rd_nat]
      refine Ev.bind (l1Put_ev _ _ (by omega)) ?_
      simp only [next64 i zs.length hi (by omega)]
      have e : dif (zs.take (i + 1)) = ins (zs.getD i 0) (dif (zs.take i)) := by
        rw [take_next i hi]
        unfold dif
        rw [List.foldl_append]
        rfl
      rw [e] at next
      exact next
    · refine Ev.step (fun _ => rfl) ?_
      simp only [Aaq.l0, if_neg (show ¬ (zs.length : Int) < (zs.length : Int) by omega), List.take_length]
      exact second
  exact first
theorem different_eq (l : List Int) (h : l.length ≤ 1048576) : Abj.f l = some (dif l) := by
  unfold Abj.f
  rw [if_pos (by omega), show HD.srt l = srt l from rfl, compact_srt]
end Go.Proofs.YtimjblnglhmakaaDoor.M
namespace Go.Proofs.YtimjblnglhmakaaDoor.M
open Go.RowKit Go.Proofs.YtimjblnglhmakaaDoorW.PrintMore Go.Proofs.YtimjblnglhmakaaDoorW.PrintLast Go.Proofs.YtimjblnglhmakaaDoorW.PrintWords Go.Proofs.YtimjblnglhmakaaDoor.P
set_option maxRecDepth 4000
def meet (n : Int) (l : List Int) (m : Int) (l' : List Int) : Int × List Int × Bool := if isOrd n l && (isOrd m l' && decide (n = m)) then (n, relL n.toNat (fun i j => B l i j && B l' i j), true) else (0, [], false)
theorem areOrders_ev (n : Int) (l : List Int) (m : Int) (l' : List Int) (hl : l.length ≤ 1048576) (hl' : l'.length ≤ 1048576) : Ev (fun k => Abk.f k n l m l') (isOrd n l && (isOrd m l' && decide (n = m))) := by
  unfold Abk.f
  refine Ev.bind (IsOrder_ev n l (by omega)) ?_
  cases isOrd n l with
  | false => simp only [Bool.false_eq_true, if_false, Bool.false_and]; exact Ev.now _
  | true =>
    simp only [if_true, Bool.true_and]
    refine Ev.bind (IsOrder_ev m l' (by omega)) ?_
    cases isOrd m l' with
    | false => simp only [Bool.false_eq_true, if_false, Bool.false_and]; exact Ev.now _
    | true =>
      simp only [if_true, Bool.true_and]
      exact Ev.to (Ev.now _) (by rw [Bool.eq_iff_iff]; simp)
theorem MeetOrders_ev (n : Int) (l : List Int) (m : Int) (l' : List Int) (hl : l.length ≤ 1048576) (hl' : l'.length ≤ 1048576) : Ev (fun k => Abm.f k n l m l') (meet n l m l') := by
  unfold Abm.f meet
  refine Ev.bind (areOrders_ev n l m l' hl hl') ?_
  cases hc : (isOrd n l && (isOrd m l' && decide (n = m))) with
  | false => simp only [Bool.false_eq_true, if_false]; exact Ev.now _
  | true =>
    rw [Bool.and_eq_true, Bool.and_eq_true, decide_eq_true_iff] at hc
    obtain ⟨h1, h2, rfl⟩ := hc
    obtain ⟨n, rfl, o⟩ := isOrd_iff.1 h1
    obtain ⟨n', hn', o'⟩ := isOrd_iff.1 h2
    obtain rfl : n = n' := by omega
    have hn := o.le
    simp only [if_true, Int.toNat_natCast]
    refine Ev.bind (relation_ev n (by omega) (fun _ x y => Abi.f x y (n : Int) l (n : Int) l') (fun i j => B l i j && B l' i j) ?_) (Ev.now _)
    intro i j hi hj
    refine Ev.const ?_
    unfold Abi.f
    rw [better_eq o.toRel n i j hi (by omega), better_eq o'.toRel n i j hi (by omega)]
    cases B l i j <;> cases B l' i j <;> rfl
theorem sMeetOrders_ev (n : Int) (l : List Int) (m : Int) (l' : List Int) (hl : l.length ≤ 1048576) (hl' : l'.length ≤ 1048576) : Ev (fun k => Aai.f k n l m l') (meet n l m l') := by
  have no : Ev (fun k => Aai.j0 k true n l m l') ((0 : Int), ([] : List Int), false) := by
    refine Ev.step (fun _ => rfl) ?_
    simp only [Aai.j0, if_true]
    exact Ev.now _
  unfold Aai.f meet
  refine Ev.bind (orGood_ev n l (by omega)) ?_
  cases h1 : isOrd n l with
  | false => simp only [Bool.false_eq_true, if_false, Bool.false_and]; exact no
  | true =>
  simp only [if_true, Bool.true_and]
  refine Ev.bind (orGood_ev m l' (by omega)) ?_
  cases h2 : isOrd m l' with
  | false => simp only [Bool.false_eq_true, if_false, Bool.false_and]; exact no
  | true =>
  simp only [if_true, Bool.true_and]
  by_cases h3 : n = m
  · subst h3
    obtain ⟨n, rfl, o⟩ := isOrd_iff.1 h1
    obtain ⟨n', hn', o'⟩ := isOrd_iff.1 h2
    obtain rfl : n = n' := by omega
    have hn := o.le
    simp only [bne_self_eq_false, decide_true, if_true, Int.toNat_natCast]
    refine Ev.step (fun _ => rfl) ?_
    simp only [Aai.j0, Bool.false_eq_true, if_false, o.len]
    have e : ∀ i, i < n → Go.bits .and .i64 (rd l (i : Int)) (rd l' (i : Int)) = ((setOf n fun j => B l i j && B l' i j : Nat) : Int) := by
      intro i hi
      rw [o.toRel.rd, o'.toRel.rd, and_i64 _ _ (o.toRel.row_62 i) (o'.toRel.row_62 i)]
      congr 1
      apply Nat.eq_of_testBit_eq
      intro j
      rw [Nat.testBit_and, testBit_setOf]
      show (B l i j && B l' i j) = _
      by_cases hj : j < n
      · simp [hj]
      · cases hb : B l i j with
        | false => simp
        | true => exact absurd (o.toRel.B_lt hb) hj
    have h0 : Ev (fun k => Aai.l0 k l (n : Int) ((0 : Nat) : Int) (n : Int) l' (n : Int) ((List.range 0).map fun i => ((setOf n fun j => B l i j && B l' i j : Nat) : Int))) ((n : Int), relL n (fun i j => B l i j && B l' i j), true) := by
      refine Ev.up (fun i k => Aai.l0 k l (n : Int) (i : Int) (n : Int) l' (n : Int) ((List.range i).map fun i => ((setOf n fun j => B l i j && B l' i j : Nat) : Int))) n ?_ ?_
      · intro i hi next
        refine Ev.step (fun _ => rfl) ?_
        simp only [Aai.l0, if_pos (show (i : Int) < (n : Int) by omega), if_pos (show (0 : Int) ≤ (i : Int) by omega), o.len, o'.len, List.length_map, List.length_range, if_pos (show i < 17592186044416 by omega), e i hi, next64 i n hi (by omega)]
        simpa [List.range_succ] using next
      · refine Ev.step (fun _ => rfl) ?_
        simp only [Aai.l0, if_neg (show ¬ (n : Int) < (n : Int) by omega)]
        exact Ev.now _
    exact h0
  · simp only [show (n != m) = true from by simpa using h3, decide_eq_false h3, Bool.false_eq_true, if_false]
    exact no
theorem meet_len (n : Int) (l : List Int) (m : Int) (l' : List Int) : (meet n l m l').2.1.length ≤ 10 := by
  unfold meet
  split
  · rename_i h
    rw [Bool.and_eq_true] at h
    obtain ⟨n, rfl, o⟩ := isOrd_iff.1 h.1
    have := o.le
    simpa [relL_length] using this
  · simp
end Go.Proofs.YtimjblnglhmakaaDoor.M
namespace Go.Proofs.YtimjblnglhmakaaDoor.M
open Go.RowKit Go.Proofs.YtimjblnglhmakaaDoorW.PrintMore Go.Proofs.YtimjblnglhmakaaDoorW.PrintLast Go.Proofs.YtimjblnglhmakaaDoorW.PrintWords Go.Proofs.YtimjblnglhmakaaDoor.P
set_option maxRecDepth 4000
theorem search_eq (zs : List Int) (hz : zs.length ≤ 1048576) (x : Int) : Aa9.f (dif zs) x = some (((rank zs x : Nat) : Int), (dif zs).contains x) := by
  have hd := dif_length_le zs
  unfold Aa9.f
  rw [if_pos ⟨by omega, (dif_inc zs).imp fun h => by omega⟩]
  rfl
theorem leveled_ev (zs : List Int) (hl : zs.length ≤ 1048576) : Ev (fun k => Aa7.f k zs) (ranks zs) := by
  unfold Aa7.f
  simp only [different_eq zs hl, Option.bind_some]
  refine Ev.to (Ev.up (r := (zs.take zs.length).map fun x => ((rank zs x : Nat) : Int)) (fun i k => Aa7.l0 k ((zs.take i).map fun x => ((rank zs x : Nat) : Int)) (dif zs) zs (zs.length : Int) (i : Int)) zs.length ?_ ?_) (by rw [List.take_length]; rfl)
  · intro i hi next
    refine Ev.step (fun _ => rfl) ?_
    simp only [Aa7.l0, if_pos (show (i : Int) < (zs.length : Int) by omega), if_pos (show (0 : Int) ≤ (i : Int) by omega), rd_nat, search_eq zs hl, Option.bind_some, List.length_map, List.length_take, if_pos (show min i zs.length < 17592186044416 by omega), next64 i zs.length hi (by omega)]
    rw [take_next i hi, List.map_append] at next
    exact next
  · refine Ev.step (fun _ => rfl) ?_
    simp only [Aa7.l0, if_neg (show ¬ (zs.length : Int) < (zs.length : Int) by omega)]
    exact Ev.now _
def isLev (l : List Int) : Bool := decide (l.length ≤ 10 ∧ (∀ x ∈ l, 0 ≤ x ∧ x ≤ 10) ∧ ∀ x ∈ l, 0 < x → x - 1 ∈ l)
theorem isLev_iff {l : List Int} : isLev l = true ↔ l.length ≤ 10 ∧ (∀ x ∈ l, 0 ≤ x ∧ x ≤ 10) ∧ ∀ x ∈ l, 0 < x → x - 1 ∈ l := by
  unfold isLev
  rw [decide_eq_true_iff]
theorem down_all {l : List Int} (h0 : ∀ x ∈ l, 0 ≤ x) (h : ∀ x ∈ l, 0 < x → x - 1 ∈ l) (m : Nat) : ∀ y : Int, y ∈ l → y ≤ (m : Int) → ∀ z : Int, 0 ≤ z → z ≤ y → z ∈ l := by
  induction m with
  | zero =>
    intro y hy hm z h1 h2
    have := h0 y hy
    obtain rfl : z = y := by omega
    exact hy
  | succ m ih =>
    intro y hy hm z h1 h2
    by_cases e : z = y
    · rw [e]; exact hy
    · exact ih (y - 1) (h y hy (by omega)) (by omega) z h1 (by omega)
theorem rank_down {l : List Int} (h0 : ∀ x ∈ l, 0 ≤ x) (h : ∀ x ∈ l, 0 < x → x - 1 ∈ l) {y : Int} (hy : y ∈ l) : rank l y = y.toNat := by
  have hp : ((dif l).filter fun z => decide (z < y)).Perm ((List.range y.toNat).map fun (j : Nat) => (j : Int)) := by
    refine (List.perm_ext_iff_of_nodup ((inc_nodup (dif_inc l)).sublist List.filter_sublist) ?_).2 fun z => ?_
    · rw [List.nodup_iff_pairwise_ne, List.pairwise_map]
      exact List.pairwise_lt_range.imp fun h => by omega
    · rw [List.mem_filter, mem_dif, decide_eq_true_iff, List.mem_map]
      constructor
      · rintro ⟨hz, hlt⟩
        have := h0 z hz
        exact ⟨z.toNat, List.mem_range.2 (by omega), by omega⟩
      · rintro ⟨j, hj, rfl⟩
        have hj := List.mem_range.1 hj
        exact ⟨down_all h0 h y.toNat y hy (by omega) (j : Int) (by omega) (by omega), by omega⟩
  unfold rank
  rw [List.countP_eq_length_filter, hp.length_eq]
  simp
theorem Ev.allv {α : Type} (G : Nat → Nat → Option α) (n : Nat) (p : Nat → Bool) (vt vf : α) (yes : ∀ i r, i < n → p i = true → Ev (G (i + 1)) r → Ev (G i) r) (no : ∀ i, i < n → p i = false → Ev (G i) vf) (stop : Ev (G n) vt) :
    Ev (G 0) (if allB n p then vt else vf) := by
  cases h : allB n p with
  | true =>
    have h := allB_iff.1 h
    rw [if_pos rfl]
    exact Ev.up G n (fun i hi => yes i vt hi (h i hi)) stop
  | false =>
    obtain ⟨j, hj, hp, hl⟩ := least_false (allB_false.1 h)
    rw [if_neg (by simp)]
    exact Ev.up G j (fun i hi => yes i vf (by omega) (hl i hi)) (no j hj hp)
theorem AreLevels_ev (l : List Int) (hl : l.length ≤ 1048576) : Ev (fun k => Aau.f k l) (isLev l) := by
  have hd := dif_length_le l
  unfold Aau.f
  simp only [different_eq l hl, Option.bind_some]
  refine Ev.to (Ev.allv (fun i k => Aau.l0 k l (dif l) ((dif l).length : Int) (i : Int)) (dif l).length (fun i => decide ((dif l).getD i 0 = (i : Int))) (decide ((l.length : Int) ≤ 10)) false ?_ ?_ ?_) ?_
  · intro i r hi hp next
    refine Ev.step (fun _ => rfl) ?_
    simp only [Aau.l0, if_pos (show (i : Int) < ((dif l).length : Int) by omega), if_pos (show (0 : Int) ≤ (i : Int) by omega), rd_nat, if_pos (of_decide_eq_true hp), next64 i _ hi (by omega)]
    exact next
  · intro i hi hp
    refine Ev.step (fun _ => rfl) ?_
    simp only [Aau.l0, if_pos (show (i : Int) < ((dif l).length : Int) by omega), if_pos (show (0 : Int) ≤ (i : Int) by omega), rd_nat, if_neg (of_decide_eq_false hp)]
    exact Ev.now _
  · refine Ev.step (fun _ => rfl) ?_
    simp only [Aau.l0, if_neg (show ¬ ((dif l).length : Int) < ((dif l).length : Int) by omega)]
    exact Ev.now _
  · rw [show ∀ a b : Bool, (if a then b else false) = (a && b) from by decide, Bool.eq_iff_iff, Bool.and_eq_true, allB_iff, decide_eq_true_iff, isLev_iff]
    have at_ : ∀ i (hi : i < (dif l).length), (dif l).getD i 0 = (dif l)[i] := fun i hi => by simp [hi]
    constructor
    · rintro ⟨H, h10⟩
      have key : ∀ x ∈ l, ∃ i, i < (dif l).length ∧ x = (i : Int) := by
        intro x hx
        obtain ⟨i, hi, e⟩ := List.mem_iff_getElem.1 ((mem_dif l x).2 hx)
        have := of_decide_eq_true (H i hi)
        rw [at_ i hi, e] at this
        exact ⟨i, hi, this⟩
      refine ⟨by omega, fun x hx => ?_, fun x hx h0 => ?_⟩
      · obtain ⟨i, hi, rfl⟩ := key x hx
        omega
      · obtain ⟨i, hi, rfl⟩ := key x hx
        have := of_decide_eq_true (H (i - 1) (by omega))
        rw [at_ (i - 1) (by omega)] at this
        rw [← mem_dif, show (i : Int) - 1 = ((i - 1 : Nat) : Int) by omega, ← this]
        exact List.getElem_mem _
    · rintro ⟨h10, hb, hd⟩
      refine ⟨fun i hi => ?_, by omega⟩
      rw [decide_eq_true_iff, at_ i hi]
      have hm : (dif l)[i] ∈ l := (mem_dif l _).1 (List.getElem_mem _)
      have h1 := rank_at l i hi
      rw [rank_down (fun x hx => (hb x hx).1) hd hm] at h1
      have := (hb _ hm).1
      omega
theorem has_ev (l : List Int) (x : Int) (hl : l.length ≤ 1048576) : Ev (fun k => Abh.f k l x) (decide (x ∈ l)) := by
  unfold Abh.f
  refine Ev.to (Ev.allv (fun i k => Abh.l0 k x l (l.length : Int) (i : Int)) l.length (fun i => !decide (l.getD i 0 = x)) false true ?_ ?_ ?_) ?_
  · intro i r hi hp next
    have hp : ¬ l.getD i 0 = x := by simpa using hp
    refine Ev.step (fun _ => rfl) ?_
    simp only [Abh.l0, if_pos (show (i : Int) < (l.length : Int) by omega), if_pos (show (0 : Int) ≤ (i : Int) by omega), rd_nat, if_neg hp, next64 i l.length hi (by omega)]
    exact next
  · intro i hi hp
    have hp : l.getD i 0 = x := by simpa using hp
    refine Ev.step (fun _ => rfl) ?_
    simp only [Abh.l0, if_pos (show (i : Int) < (l.length : Int) by omega), if_pos (show (0 : Int) ≤ (i : Int) by omega), rd_nat, if_pos hp]
    exact Ev.now _
  · refine Ev.step (fun _ => rfl) ?_
    simp only [Abh.l0, if_neg (show ¬ (l.length : Int) < (l.length : Int) by omega)]
    exact Ev.now _
  · rw [show ∀ a : Bool, (if a then false else true) = !a from by decide, Bool.eq_iff_iff, Bool.not_eq_true', allB_false, decide_eq_true_iff]
    constructor
    · rintro ⟨j, hj, h⟩
      have h : l.getD j 0 = x := by simpa using h
      rw [← h]
      simp [hj]
    · intro hx
      obtain ⟨j, hj, h⟩ := List.mem_iff_getElem.1 hx
      exact ⟨j, hj, by simp [hj, h]⟩
theorem weLevels_ev (l : List Int) (hl : l.length ≤ 1048576) (hw : ∀ x ∈ l, -9223372036854775808 ≤ x ∧ x ≤ 9223372036854775807) : Ev (fun k => Aar.f k l) (isLev l) := by
  have no : l.length ≤ 10 ∧ allIn l 0 10 = true ∨ isLev l = false := by
    by_cases h1 : l.length ≤ 10
    · cases h2 : allIn l 0 10 with
      | true => exact .inl ⟨h1, rfl⟩
      | false =>
        right
        unfold isLev
        rw [decide_eq_false_iff_not]
        intro h
        unfold allIn at h2
        exact of_decide_eq_false h2 h.2.1
    · right
      unfold isLev
      rw [decide_eq_false_iff_not]
      exact fun h => h1 h.1
  have nil : Ev (fun k => Aar.j0 k l true) false := by
    refine Ev.step (fun _ => rfl) ?_
    simp only [Aar.j0, if_true]
    exact Ev.now _
  unfold Aar.f
  by_cases h1 : (l.length : Int) > 10
  · simp only [if_pos h1]
    refine Ev.to nil ?_
    exact (no.resolve_left fun h => by omega).symm
  · simp only [if_neg h1]
    refine Ev.bind (l1All_ev l 0 10 (by omega)) ?_
    cases h2 : allIn l 0 10 with
    | false => exact Ev.to nil ((no.resolve_left fun h => by rw [h2] at h; cases h.2).symm)
    | true =>
      have h2' : ∀ x ∈ l, 0 ≤ x ∧ x ≤ 10 := of_decide_eq_true h2
      refine Ev.step (fun _ => rfl) ?_
      simp only [Aar.j0, Bool.not_true, Bool.false_eq_true, if_false]
      refine Ev.to (Ev.all (fun i k => Aar.l0 k l l (l.length : Int) (i : Int)) l.length (fun i => !decide (0 < l.getD i 0) || decide (l.getD i 0 - 1 ∈ l)) ?_ ?_ ?_) ?_
      · intro i r hi hp next
        have hm : l.getD i 0 ∈ l := by simp [hi]
        have hb := hw _ hm
        refine Ev.step (fun _ => rfl) ?_
        simp only [Aar.l0, if_pos (show (i : Int) < (l.length : Int) by omega), if_pos (show (0 : Int) ≤ (i : Int) by omega), rd_nat, next64 i l.length hi (by omega)]
        by_cases c : l.getD i 0 > 0
        · simp only [if_pos c, wrap64_id (l.getD i 0 - 1) (by omega) (by omega)]
          refine Ev.bind (has_ev l _ hl) ?_
          have : decide (l.getD i 0 - 1 ∈ l) = true := by
            rw [decide_eq_true (show 0 < l.getD i 0 from c)] at hp
            simpa using hp
          simp only [this, if_true]
          exact next
        · simp only [if_neg c]
          exact next
      · intro i hi hp
        have hm : l.getD i 0 ∈ l := by simp [hi]
        have hb := hw _ hm
        rw [Bool.or_eq_false_iff, Bool.not_eq_false', decide_eq_true_iff] at hp
        refine Ev.step (fun _ => rfl) ?_
        simp only [Aar.l0, if_pos (show (i : Int) < (l.length : Int) by omega), if_pos (show (0 : Int) ≤ (i : Int) by omega), rd_nat, if_pos (show l.getD i 0 > 0 from hp.1), wrap64_id (l.getD i 0 - 1) (by omega) (by omega)]
        refine Ev.bind (has_ev l _ hl) ?_
        simp only [hp.2, Bool.false_eq_true, if_false]
        exact Ev.now _
      · refine Ev.step (fun _ => rfl) ?_
        simp only [Aar.l0, if_neg (show ¬ (l.length : Int) < (l.length : Int) by omega)]
        exact Ev.now _
      · rw [Bool.eq_iff_iff, allB_iff, isLev_iff]
        constructor
        · intro H
          refine ⟨by omega, h2', fun x hx h0 => ?_⟩
          obtain ⟨i, hi, rfl⟩ := List.mem_iff_getElem.1 hx
          have := H i hi
          rw [show l.getD i 0 = l[i] by simp [hi], decide_eq_true h0] at this
          simpa using this
        · rintro ⟨_, _, H⟩ i hi
          have hm : l.getD i 0 ∈ l := by simp [hi]
          by_cases c : 0 < l.getD i 0
          · rw [decide_eq_true (H _ hm c), Bool.or_true]
          · rw [decide_eq_false c]; rfl
theorem ranks_lev (zs : List Int) (h : zs.length ≤ 10) : isLev (ranks zs) = true := by
  have hd := dif_length_le zs
  rw [isLev_iff, ranks_length]
  refine ⟨h, fun x hx => ?_, fun x hx h0 => ?_⟩
  · obtain ⟨z, hz, rfl⟩ := List.mem_map.1 hx
    have := (rank_place hz).1
    omega
  · obtain ⟨z, hz, rfl⟩ := List.mem_map.1 hx
    have h1 := (rank_place hz).1
    have h2 := rank_at zs (rank zs z - 1) (by omega)
    refine List.mem_map.2 ⟨(dif zs)[rank zs z - 1], (mem_dif zs _).1 (List.getElem_mem _), ?_⟩
    rw [h2]
    omega
def mixed (c : Int) (x y : List Int) : List Int := (List.range x.length).map fun i => c * x.getD i 0 + y.getD i 0
theorem mixed_length (c : Int) (x y : List Int) : (mixed c x y).length = x.length := by simp [mixed]
def refineL (x y : List Int) : List Int × Bool := if isLev x && (isLev y && decide (x.length = y.length)) then (ranks (mixed 11 x y), true) else ([], false)
theorem mem_getD {l : List Int} {i : Nat} (h : i < l.length) : l.getD i 0 ∈ l := by simp [h]
theorem mixed_same {x y : List Int} (hx : isLev x = true) (hy : isLev y = true) (h : x.length = y.length) : ranks (mixed 100 x y) = ranks (mixed 11 x y) := by
  obtain ⟨_, bx, _⟩ := isLev_iff.1 hx
  obtain ⟨_, by_, _⟩ := isLev_iff.1 hy
  unfold ranks mixed
  rw [List.map_map, List.map_map]
  apply List.map_congr_left
  intro i hi
  show ((rank _ (100 * x.getD i 0 + y.getD i 0) : Nat) : Int) = ((rank _ (11 * x.getD i 0 + y.getD i 0) : Nat) : Int)
  congr 1
  refine dif_map (List.range x.length) (fun i => 100 * x.getD i 0 + y.getD i 0) (fun i => 11 * x.getD i 0 + y.getD i 0) (fun a ha b hb => ?_) i hi
  have ha := List.mem_range.1 ha
  have hb := List.mem_range.1 hb
  have a1 := bx _ (mem_getD ha)
  have a2 := by_ _ (mem_getD (l := y) (i := a) (by omega))
  have b1 := bx _ (mem_getD hb)
  have b2 := by_ _ (mem_getD (l := y) (i := b) (by omega))
  omega
theorem RefineLevels_ev (x y : List Int) (hx : x.length ≤ 1048576) (hy : y.length ≤ 1048576) : Ev (fun k => Aak.f k x y) (refineL x y) := by
  have no : Ev (fun k => Aak.j0 k x y true) (([] : List Int), false) := by
    refine Ev.step (fun _ => rfl) ?_
    simp only [Aak.j0, if_true]
    exact Ev.now _
  unfold Aak.f refineL
  refine Ev.bind (AreLevels_ev x hx) ?_
  cases h1 : isLev x with
  | false => simp only [Bool.false_eq_true, if_false, Bool.false_and]; exact no
  | true =>
  simp only [if_true, Bool.true_and]
  refine Ev.bind (AreLevels_ev y hy) ?_
  cases h2 : isLev y with
  | false => simp only [Bool.false_eq_true, if_false, Bool.false_and]; exact no
  | true =>
  simp only [if_true, Bool.true_and]
  by_cases h3 : x.length = y.length
  · obtain ⟨lx, bx, _⟩ := isLev_iff.1 h1
    obtain ⟨_, by_, _⟩ := isLev_iff.1 h2
    simp only [show ((x.length : Int) != (y.length : Int)) = false by simp [h3], decide_eq_true h3, if_true]
    refine Ev.step (fun _ => rfl) ?_
    simp only [Aak.j0, Bool.false_eq_true, if_false]
    refine Ev.up (fun i k => Aak.l0 k y ((List.range i).map fun i => 11 * x.getD i 0 + y.getD i 0) x (x.length : Int) (i : Int)) x.length ?_ ?_
    · intro i hi next
      have a1 := bx _ (mem_getD hi)
      have a2 := by_ _ (mem_getD (l := y) (i := i) (by omega))
      refine Ev.step (fun _ => rfl) ?_
      simp only [Aak.l0, if_pos (show (i : Int) < (x.length : Int) by omega), if_pos (show (i : Int) < (y.length : Int) by omega), if_pos (show (0 : Int) ≤ (i : Int) by omega), List.length_map, List.length_range, if_pos (show i < 17592186044416 by omega), rd_nat, Int.mul_comm (x.getD i 0) 11, wrap64_id (11 * x.getD i 0) (by omega) (by omega), wrap64_id (11 * x.getD i 0 + y.getD i 0) (by omega) (by omega), next64 i x.length hi (by omega)]
      simpa [List.range_succ] using next
    · refine Ev.step (fun _ => rfl) ?_
      simp only [Aak.l0, if_neg (show ¬ (x.length : Int) < (x.length : Int) by omega)]
      exact Ev.bind (leveled_ev _ (by simp; omega)) (Ev.now _)
  · simp only [show ((x.length : Int) != (y.length : Int)) = true by simp; omega, decide_eq_false h3, Bool.false_eq_true, if_false]
    exact no
theorem sRefineLevels_ev (x y : List Int) (hx : x.length ≤ 1048576) (hy : y.length ≤ 1048576) (wx : ∀ z ∈ x, -9223372036854775808 ≤ z ∧ z ≤ 9223372036854775807) (wy : ∀ z ∈ y, -9223372036854775808 ≤ z ∧ z ≤ 9223372036854775807) : Ev (fun k => Aal.f k x y) (refineL x y) := by
  have no : Ev (fun k => Aal.j0 k x y true) (([] : List Int), false) := by
    refine Ev.step (fun _ => rfl) ?_
    simp only [Aal.j0, if_true]
    exact Ev.now _
  unfold Aal.f refineL
  refine Ev.bind (weLevels_ev x hx wx) ?_
  cases h1 : isLev x with
  | false => simp only [Bool.false_eq_true, if_false, Bool.false_and]; exact no
  | true =>
  simp only [if_true, Bool.true_and]
  refine Ev.bind (weLevels_ev y hy wy) ?_
  cases h2 : isLev y with
  | false => simp only [Bool.false_eq_true, if_false, Bool.false_and]; exact no
  | true =>
  simp only [if_true, Bool.true_and]
  by_cases h3 : x.length = y.length
  · obtain ⟨lx, bx, _⟩ := isLev_iff.1 h1
    obtain ⟨_, by_, _⟩ := isLev_iff.1 h2
    simp only [show ((x.length : Int) != (y.length : Int)) = false by simp [h3], decide_eq_true h3, if_true]
    rw [← mixed_same h1 h2 h3]
    refine Ev.step (fun _ => rfl) ?_
    simp only [Aal.j0, Bool.false_eq_true, if_false]
    refine Ev.up (fun i k => Aal.l0 k y ((List.range i).map fun i => 100 * x.getD i 0 + y.getD i 0) x (x.length : Int) (i : Int)) x.length ?_ ?_
    · intro i hi next
      have a1 := bx _ (mem_getD hi)
      have a2 := by_ _ (mem_getD (l := y) (i := i) (by omega))
      refine Ev.step (fun _ => rfl) ?_
      simp only [Aal.l0, if_pos (show (i : Int) < (x.length : Int) by omega), if_pos (show (i : Int) < (y.length : Int) by omega), if_pos (show (0 : Int) ≤ (i : Int) by omega), List.length_map, List.length_range, if_pos (show i < 17592186044416 by omega), rd_nat, wrap64_id (100 * x.getD i 0) (by omega) (by omega), wrap64_id (100 * x.getD i 0 + y.getD i 0) (by omega) (by omega), next64 i x.length hi (by omega)]
      simpa [List.range_succ] using next
    · refine Ev.step (fun _ => rfl) ?_
      simp only [Aal.l0, if_neg (show ¬ (x.length : Int) < (x.length : Int) by omega)]
      exact Ev.bind (weOfNumbers_ev _ (by simp; omega)) (Ev.now _)
  · simp only [show ((x.length : Int) != (y.length : Int)) = true by simp; omega, decide_eq_false h3, Bool.false_eq_true, if_false]
    exact no
def levR (l : List Int) : List Int := relL l.length fun i j => decide (l.getD i 0 < l.getD j 0)
theorem levR_ord (l : List Int) (h : l.length ≤ 10) : Ord l.length (levR l) where
  toRel := relL_rel _ h _
  irr := fun i => by unfold levR; rw [relL_B, decide_eq_false (Int.lt_irrefl _)]; simp
  trans := fun i j k h1 h2 => by
    unfold levR at *
    rw [relL_B, Bool.and_eq_true, Bool.and_eq_true, decide_eq_true_iff, decide_eq_true_iff, decide_eq_true_iff] at *
    exact ⟨h1.1, h2.2.1, by omega⟩
theorem OrderOfLevels_ev (l : List Int) (hl : l.length ≤ 1048576) : Ev (fun k => Aa0.f k l) (if isLev l then ((l.length : Int), levR l, true) else (0, [], false)) := by
  unfold Aa0.f
  refine Ev.bind (AreLevels_ev l hl) ?_
  cases h : isLev l with
  | false => simp only [Bool.false_eq_true, if_false]; exact Ev.now _
  | true =>
    obtain ⟨h10, _, _⟩ := isLev_iff.1 h
    simp only [if_true]
    unfold Abv.f
    refine Ev.bind (a := ((l.length : Int), levR l)) (Ev.bind (relation_ev l.length (by omega) (fun _ x y => Abr.f x y l) (fun i j => decide (l.getD i 0 < l.getD j 0)) ?_) (Ev.now _)) (Ev.now _)
    intro i j hi hj
    refine Ev.const ?_
    unfold Abr.f
    simp only [if_pos (show (0 : Int) ≤ (j : Int) by omega), if_pos (show (0 : Int) ≤ (i : Int) by omega), if_pos (show (j : Int) < (l.length : Int) by omega), if_pos (show (i : Int) < (l.length : Int) by omega), rd_nat, gt_iff_lt]
def subR (n : Nat) (l l' : List Int) : Bool := allB n fun i => decide (diff (row l' i) (row l i) = 0)
theorem subR_iff {n : Nat} {l l' : List Int} (h' : Rel n l') : subR n l l' = true ↔ ∀ i j, B l' i j = true → B l i j = true := by
  unfold subR
  rw [allB_iff]
  constructor
  · intro H i j hb
    have := of_decide_eq_true (H i (h'.B_lt' hb))
    exact (diff_zero _ _).1 this j hb
  · intro H i _
    rw [decide_eq_true_iff, diff_zero]
    exact fun j hj => H i j hj
def refines (n : Int) (l : List Int) (m : Int) (l' : List Int) : Bool × Bool := if isOrd n l && (isOrd m l' && decide (n = m)) then (subR n.toNat l l', true) else (false, false)
theorem sub_pair (b : Bool) : (if b then (true, true) else (false, true)) = (b, true) := by cases b <;> rfl
theorem DoesRefine_ev (n : Int) (l : List Int) (m : Int) (l' : List Int) (hl : l.length ≤ 1048576) (hl' : l'.length ≤ 1048576) : Ev (fun k => Aaj.f k n l m l') (refines n l m l') := by
  unfold Aaj.f refines
  refine Ev.bind (areOrders_ev n l m l' hl hl') ?_
  cases hc : (isOrd n l && (isOrd m l' && decide (n = m))) with
  | false => simp only [Bool.false_eq_true, if_false]; exact Ev.now _
  | true =>
    rw [Bool.and_eq_true, Bool.and_eq_true, decide_eq_true_iff] at hc
    obtain ⟨h1, h2, rfl⟩ := hc
    obtain ⟨n, rfl, o⟩ := isOrd_iff.1 h1
    obtain ⟨n', hn', o'⟩ := isOrd_iff.1 h2
    obtain rfl : n = n' := by omega
    have hn := o.le
    simp only [if_true, Int.toNat_natCast, o'.len]
    refine Ev.to (Ev.allv (fun i k => Aaj.l0 k l' (n : Int) (i : Int) (n : Int) l) n (fun i => decide (diff (row l' i) (row l i) = 0)) (true, true) (false, true) ?_ ?_ ?_) (sub_pair _)
    · intro i r hi hp next
      have hp := of_decide_eq_true hp
      refine Ev.step (fun _ => rfl) ?_
      simp only [Aaj.l0, if_pos (show (i : Int) < (n : Int) by omega), if_pos (show (0 : Int) ≤ (i : Int) by omega), o.len, o'.len, o.toRel.rd, o'.toRel.rd, andNot_i64 _ _ (o'.toRel.row_62 i) (o.toRel.row_62 i), if_pos (show ((diff (row l' i) (row l i) : Nat) : Int) = 0 by omega), next64 i n hi (by omega)]
      exact next
    · intro i hi hp
      have hp := of_decide_eq_false hp
      refine Ev.step (fun _ => rfl) ?_
      simp only [Aaj.l0, if_pos (show (i : Int) < (n : Int) by omega), if_pos (show (0 : Int) ≤ (i : Int) by omega), o.len, o'.len, o.toRel.rd, o'.toRel.rd, andNot_i64 _ _ (o'.toRel.row_62 i) (o.toRel.row_62 i), if_neg (show ¬ ((diff (row l' i) (row l i) : Nat) : Int) = 0 by omega)]
      exact Ev.now _
    · refine Ev.step (fun _ => rfl) ?_
      simp only [Aaj.l0, if_neg (show ¬ (n : Int) < (n : Int) by omega)]
      exact Ev.now _
theorem sDoesRefine_ev (n : Int) (l : List Int) (m : Int) (l' : List Int) (hl : l.length ≤ 1048576) (hl' : l'.length ≤ 1048576) : Ev (fun k => Aam.f k n l m l') (refines n l m l') := by
  have no : Ev (fun k => Aam.j0 k true n l m l') (false, false) := by
    refine Ev.step (fun _ => rfl) ?_
    simp only [Aam.j0, if_true]
    exact Ev.now _
  unfold Aam.f refines
  refine Ev.bind (orGood_ev n l (by omega)) ?_
  cases h1 : isOrd n l with
  | false => simp only [Bool.false_eq_true, if_false, Bool.false_and]; exact no
  | true =>
  simp only [if_true, Bool.true_and]
  refine Ev.bind (orGood_ev m l' (by omega)) ?_
  cases h2 : isOrd m l' with
  | false => simp only [Bool.false_eq_true, if_false, Bool.false_and]; exact no
  | true =>
  simp only [if_true, Bool.true_and]
  by_cases h3 : n = m
  · subst h3
    obtain ⟨n, rfl, o⟩ := isOrd_iff.1 h1
    obtain ⟨n', hn', o'⟩ := isOrd_iff.1 h2
    obtain rfl : n = n' := by omega
    have hn := o.le
    simp only [bne_self_eq_false, decide_true, if_true, Int.toNat_natCast]
    refine Ev.step (fun _ => rfl) ?_
    simp only [Aam.j0, Bool.false_eq_true, if_false, o'.len]
    refine Ev.to (Ev.allv (fun i k => Aam.l0 k l' (n : Int) (i : Int) (n : Int) l) n (fun i => decide (diff (row l' i) (row l i) = 0)) (true, true) (false, true) ?_ ?_ ?_) (sub_pair _)
    · intro i r hi hp next
      have hp := of_decide_eq_true hp
      refine Ev.step (fun _ => rfl) ?_
      simp only [Aam.l0, if_pos (show (i : Int) < (n : Int) by omega), if_pos (show (0 : Int) ≤ (i : Int) by omega), o.len, o'.len, o.toRel.rd, o'.toRel.rd, andNot_i64 _ _ (o'.toRel.row_62 i) (o.toRel.row_62 i), if_pos (show ((diff (row l' i) (row l i) : Nat) : Int) = 0 by omega), next64 i n hi (by omega)]
      exact next
    · intro i hi hp
      have hp := of_decide_eq_false hp
      refine Ev.step (fun _ => rfl) ?_
      simp only [Aam.l0, if_pos (show (i : Int) < (n : Int) by omega), if_pos (show (0 : Int) ≤ (i : Int) by omega), o.len, o'.len, o.toRel.rd, o'.toRel.rd, andNot_i64 _ _ (o'.toRel.row_62 i) (o.toRel.row_62 i), if_neg (show ¬ ((diff (row l' i) (row l i) : Nat) : Int) = 0 by omega)]
      exact Ev.now _
    · refine Ev.step (fun _ => rfl) ?_
      simp only [Aam.l0, if_neg (show ¬ (n : Int) < (n : Int) by omega)]
      exact Ev.now _
  · simp only [show (n != m) = true from by simpa using h3, decide_eq_false h3, Bool.false_eq_true, if_false]
    exact no
end Go.Proofs.YtimjblnglhmakaaDoor.M
namespace Go.Proofs.YtimjblnglhmakaaDoor.M
open Go.RowKit Go.Proofs.YtimjblnglhmakaaDoorW.PrintMore Go.Proofs.YtimjblnglhmakaaDoorW.PrintLast Go.Proofs.YtimjblnglhmakaaDoorW.PrintWords Go.Proofs.YtimjblnglhmakaaDoor.P
set_option maxRecDepth 4000
theorem weOrder_ev (l : List Int) (hl : l.length ≤ 62) : Ev (fun k => Aaw.f k l) ((l.length : Int), levR l) := by
  unfold Aaw.f
  have h0 : Ev (fun k => Aaw.l0 k l l (l.length : Int) ((0 : Nat) : Int) (l.length : Int) ((List.range 0).map fun i => ((setOf l.length fun j => decide (l.getD i 0 < l.getD j 0) : Nat) : Int))) ((l.length : Int), levR l) := by
    refine Ev.up (fun i k => Aaw.l0 k l l (l.length : Int) (i : Int) (l.length : Int) ((List.range i).map fun i => ((setOf l.length fun j => decide (l.getD i 0 < l.getD j 0) : Nat) : Int))) l.length ?_ ?_
    · intro i hi next
      refine Ev.step (fun _ => rfl) ?_
      simp only [Aaw.l0, if_pos (show (i : Int) < (l.length : Int) by omega), if_pos (show (0 : Int) ≤ (i : Int) by omega), rd_nat]
      refine Ev.up (fun j k => Aaw.l1 k l (l.getD i 0) ((setOf j fun j => decide (l.getD i 0 < l.getD j 0) : Nat) : Int) l (l.length : Int) (i : Int) l (l.length : Int) (j : Int) (l.length : Int) ((List.range i).map fun i => ((setOf l.length fun j => decide (l.getD i 0 < l.getD j 0) : Nat) : Int))) l.length ?_ ?_
      · intro j hj next
        refine Ev.step (fun _ => rfl) ?_
        rw [setOf_bit_or] at next
        have h2 : (2 : Nat) ^ j < 9223372036854775808 := Nat.lt_of_le_of_lt (Nat.pow_le_pow_right (by decide) (by omega : j ≤ 62)) (by decide)
        have h1 := setOf_62 j (fun j => decide (l.getD i 0 < l.getD j 0)) (by omega)
        by_cases c : l.getD i 0 < l.getD j 0
        · rw [decide_eq_true c, if_pos rfl] at next
          simp only [Aaw.l1, if_pos (show (j : Int) < (l.length : Int) by omega), if_pos (show (0 : Int) ≤ (j : Int) by omega), rd_nat, if_pos (show l.getD j 0 > l.getD i 0 from c), shl1 j (by omega), or_i64 _ _ h1 h2, next64 j l.length hj (by omega)]
          exact next
        · rw [decide_eq_false c, if_neg (by simp)] at next
          simp only [Aaw.l1, if_pos (show (j : Int) < (l.length : Int) by omega), if_pos (show (0 : Int) ≤ (j : Int) by omega), rd_nat, if_neg (show ¬ l.getD j 0 > l.getD i 0 from c), next64 j l.length hj (by omega)]
          exact next
      · refine Ev.step (fun _ => rfl) ?_
        simp only [Aaw.l1, if_neg (show ¬ (l.length : Int) < (l.length : Int) by omega), List.length_map, List.length_range, if_pos (show i < 17592186044416 by omega), next64 i l.length hi (by omega)]
        simpa [List.range_succ] using next
    · refine Ev.step (fun _ => rfl) ?_
      simp only [Aaw.l0, if_neg (show ¬ (l.length : Int) < (l.length : Int) by omega)]
      exact Ev.now _
  exact h0
def In64 (l : List Int) : Prop := ∀ x ∈ l, -9223372036854775808 ≤ x ∧ x ≤ 9223372036854775807
theorem ranks_in64 (zs : List Int) (h : zs.length ≤ 1048576) : In64 (ranks zs) := by
  intro x hx
  obtain ⟨z, hz, rfl⟩ := List.mem_map.1 hx
  have := (rank_place hz).1
  have := dif_length_le zs
  omega
theorem levels_tot {l : List Int} (hb : By l) (p h a : Int) (hp : 0 ≤ p) (hp2 : p ≤ 990000) (ha : a ≤ 11) :
    Tot (fun k => Aad.f k l p h a) (fun r => r.1.length ≤ a.toNat ∧ In64 r.1 ∧ p ≤ r.2.1 ∧ r.2.1 ≤ p + 40) := by
  unfold Aad.f
  have fin : ∀ (z : List Int) (q g : Int), z.length ≤ a.toNat → p ≤ q → q ≤ p + 22 → Tot (fun k => (Aaq.f k z).bind fun t => if (t.length : Int) > 0 then (Aas.f l q g 20).bind fun b => Aad.j1 k t b.1 l b.2.1 b.2.2 else Aad.j1 k t false l q g) (fun r => r.1.length ≤ a.toNat ∧ In64 r.1 ∧ p ≤ r.2.1 ∧ r.2.1 ≤ p + 40) := by
    intro z q g hz h1 h2
    have hr := ranks_in64 z (by omega)
    refine Tot.ebind (weOfNumbers_ev z (by omega)) ?_
    have out : ∀ q' g', p ≤ q' → q' ≤ p + 30 → Tot (fun k => Aad.j1 k (ranks z) false l q' g') (fun r => r.1.length ≤ a.toNat ∧ In64 r.1 ∧ p ≤ r.2.1 ∧ r.2.1 ≤ p + 40) := by
      intro q' g' a1 a2
      refine Tot.step (fun _ => rfl) ?_
      simp only [Aad.j1, Bool.false_eq_true, if_false]
      exact Tot.now ⟨by simp only [ranks_length]; exact hz, hr, by simp only; omega, by simp only; omega⟩
    refine Tot.ite (fun c => ?_) (fun _ => out q g h1 (by omega))
    refine Tot.obind (one_ok hb q g 20 (by omega) (by omega)) ?_
    rintro ⟨b, q1, g1⟩ ⟨b1, b2⟩
    simp only at b1 b2
    cases b with
    | false => exact out q1 g1 (by omega) (by omega)
    | true =>
      refine Tot.step (fun _ => rfl) ?_
      simp only [Aad.j1, if_true]
      refine Tot.obind (pick_ok hb q1 g1 _ (by omega) (by omega)) ?_
      rintro ⟨v, q2, g2⟩ ⟨v0, v1, v2, v3⟩
      simp only at v0 v1 v2 v3
      refine Tot.obind (among_ok hb q2 g2 _ (by simp) (by omega) (by omega)) ?_
      rintro ⟨u, q3, g3⟩ ⟨u0, u1, u2⟩
      simp only at u0 u1 u2
      simp only [if_pos v0, if_pos (show v < ((ranks z).length : Int) by omega)]
      refine Tot.now ⟨by simp only [List.length_set, ranks_length]; exact hz, ?_, by simp only; omega, by simp only; omega⟩
      intro x hx
      rcases List.mem_or_eq_of_mem_set hx with hx | rfl
      · exact hr x hx
      · simp at u0; omega
  by_cases ha0 : a ≤ 0
  · refine Tot.step (fun _ => rfl) ?_
    simp only [Aad.l0, if_neg (show ¬ a > 0 by omega)]
    exact fin [] p h (by simp) (by omega) (by omega)
  · obtain ⟨n, rfl⟩ := Int.eq_ofNat_of_zero_le (show 0 ≤ a by omega)
    rw [Int.toNat_natCast] at fin ⊢
    have h0 := Tot.up (Q := fun r : List Int × Int × Int => r.1.length ≤ n ∧ In64 r.1 ∧ p ≤ r.2.1 ∧ r.2.1 ≤ p + 40) (fun i (s : List Int × Int × Int) k => Aad.l0 k ((n - i : Nat) : Int) s.1 l s.2.1 s.2.2) n (fun i s => s.1.length = i ∧ p ≤ s.2.1 ∧ s.2.1 ≤ p + 2 * (i : Int)) ?_ ?_ 0 (Nat.zero_le _) ([], p, h) ⟨rfl, by simp only; omega, by simp only; omega⟩
    · exact h0
    · rintro i ⟨z, q, g⟩ hi ⟨s1, s2, s3⟩ next
      simp only at s1 s2 s3
      refine Tot.step (fun _ => rfl) ?_
      simp only [Aad.l0, if_pos (show ((n - i : Nat) : Int) > 0 by omega), s1, if_pos (show i < 17592186044416 by omega), show wrap64 (((n - i : Nat) : Int) - 1) = ((n - (i + 1) : Nat) : Int) by rw [wrap64_id _ (by omega) (by omega)]; omega]
      refine Tot.obind (pick_ok hb q g 5 (by omega) (by omega)) ?_
      rintro ⟨v, q2, g2⟩ ⟨v0, v1, v2, v3⟩
      simp only at v0 v1 v2 v3
      exact next (_, _, _) ⟨by simp [s1], by simp only; omega, by simp only; omega⟩
    · rintro ⟨z, q, g⟩ ⟨s1, s2, s3⟩
      simp only at s1 s2 s3
      refine Tot.step (fun _ => rfl) ?_
      simp only [Aad.l0, if_neg (show ¬ ((n - n : Nat) : Int) > 0 by omega)]
      exact fin z q g (by omega) (by omega) (by omega)
theorem elements_ok {l : List Int} (hb : By l) (p h : Int) (hp : 0 ≤ p) (hp2 : p ≤ 999000) : ∃ r, Aa1.f l p h = some r ∧ r.1 ≤ 11 ∧ p ≤ r.2.1 ∧ r.2.1 ≤ p + 4 := by
  unfold Aa1.f
  obtain ⟨⟨b, p1, h1⟩, e, a1, a2⟩ := one_ok hb p h 15 hp (by omega)
  simp only at a1 a2
  rw [e, Option.bind_some]
  cases b with
  | true =>
    obtain ⟨⟨v, p2, h2⟩, e2, b1, b2, b3⟩ := among_ok hb p1 h1 [0, 10, 11] (by simp) (by omega) (by omega)
    simp only at b1 b2 b3
    simp only [if_true]
    rw [e2]
    refine ⟨_, rfl, ?_, by simp only; omega, by simp only; omega⟩
    simp at b1
    simp only
    omega
  | false =>
    obtain ⟨⟨v, p2, h2⟩, e2, b1, b2, b3⟩ := pick_ok hb p1 h1 7 (by omega) (by omega)
    simp only at b1 b2 b3
    simp only [Bool.false_eq_true, if_false]
    rw [e2]
    exact ⟨_, rfl, by simp only; omega, by simp only; omega, by simp only; omega⟩
theorem mir_length {n : Nat} {l : List Int} : (mir n l).length = n := relL_length n _
theorem both_tot {l : List Int} (hb : By l) (p h : Int) (hp : 0 ≤ p) (hp2 : p ≤ 900000) : Tot (fun k => Aae.f k l p h) (fun r => r.2.1.length ≤ 10 ∧ r.2.2.2.1.length ≤ 10) := by
  unfold Aae.f
  refine Tot.bind (anyOrder_tot hb p h 6 hp (by omega) (by omega) (by omega)) ?_
  rintro ⟨n, z, p1, h1⟩ ⟨n1, n2, n3⟩
  simp only at n1 n2 n3
  have first : ∀ q g, p ≤ q → q ≤ p + 910 → Tot (fun k => Aae.j0 k true l q g n z) (fun r => r.2.1.length ≤ 10 ∧ r.2.2.2.1.length ≤ 10) := by
    intro q g a1 a2
    refine Tot.step (fun _ => rfl) ?_
    simp only [Aae.j0, if_true]
    refine Tot.bind (anyOrder_tot hb q g 6 (by omega) (by omega) (by omega) (by omega)) ?_
    rintro ⟨m, y, q1, g1⟩ ⟨m1, m2, m3⟩
    simp only at m1
    exact Tot.now ⟨n1, m1⟩
  refine Tot.ebind (orGood_ev n z (by omega)) ?_
  cases ho : isOrd n z with
  | false => simp only [Bool.false_eq_true, if_false]; exact first p1 h1 n2 (by omega)
  | true =>
  obtain ⟨n, rfl, o⟩ := isOrd_iff.1 ho
  have hR := o.toRel
  have hn := o.le
  have hlen := o.len
  simp only [if_true]
  refine Tot.obind (one_ok hb p1 h1 8 (by omega) (by omega)) ?_
  rintro ⟨b, p2, h2⟩ ⟨b1, b2⟩
  simp only at b1 b2
  cases b with
  | true => exact first p2 h2 (by omega) (by omega)
  | false =>
  refine Tot.step (fun _ => rfl) ?_
  simp only [Aae.j0, Bool.false_eq_true, if_false]
  have last : ∀ (y : List Int) q g, y.length ≤ 10 → p ≤ q → q ≤ p + 990 → Tot (fun k => Aae.j1 k l q g (n : Int) z (n : Int) y) (fun r => r.2.1.length ≤ 10 ∧ r.2.2.2.1.length ≤ 10) := by
    intro y q g hy a1 a2
    refine Tot.step (fun _ => rfl) ?_
    simp only [Aae.j1]
    refine Tot.ebind (orGood_ev (n : Int) y (by omega)) ?_
    refine Tot.ite (fun _ => ?_) (fun _ => ?_)
    · refine Tot.obind (one_ok hb q g 2 (by omega) (by omega)) ?_
      rintro ⟨c, q1, g1⟩ _
      exact Tot.ite (fun _ => Tot.now ⟨hy, n1⟩) (fun _ => Tot.now ⟨n1, hy⟩)
    · exact Tot.ebind (orMirror_ev hR _) (Tot.now ⟨n1, by simp only [mir_length]; omega⟩)
  refine Tot.obind (pick_ok hb p2 h2 3 (by omega) (by omega)) ?_
  rintro ⟨c, p3, h3⟩ ⟨c0, c1, c2, c3⟩
  simp only at c0 c1 c2 c3
  refine Tot.ite (fun _ => ?_) (fun _ => Tot.ite (fun _ => ?_) (fun _ => ?_))
  · refine Tot.bind (levels_tot hb p3 h3 (n : Int) (by omega) (by omega) (by omega)) ?_
    rintro ⟨x, p4, h4⟩ ⟨x1, x2, x3, x4⟩
    simp only [Int.toNat_natCast] at x1 x2 x3 x4
    refine Tot.ebind (weOfNumbers_ev x (by omega)) ?_
    refine Tot.ebind (weOrder_ev (ranks x) (by rw [ranks_length]; omega)) ?_
    exact Tot.now ⟨n1, by simp only [levR, relL_length, ranks_length]; omega⟩
  · simp only [l1Own_eq z (by omega), Option.bind_some, hlen]
    refine Tot.ite (fun c => ?_) (fun _ => last z p3 h3 n1 (by omega) (by omega))
    refine Tot.obind (pick_ok hb p3 h3 (n : Int) (by omega) (by omega)) ?_
    rintro ⟨v, p4, h4⟩ ⟨v0, v1, v2, v3⟩
    simp only at v0 v1 v2 v3
    simp only [if_pos v0, if_pos (show v < (n : Int) by omega)]
    exact last _ p4 h4 (by rw [List.length_set]; omega) (by omega) (by omega)
  · exact Tot.ebind (orMirror_ev hR _) (Tot.now ⟨n1, by simp only [mir_length]; omega⟩)
theorem DrawMeetOrders_tot {l : List Int} (hb : By l) : Tot (fun k => Abg.f k l) (fun r => r.2.1.length ≤ 10 ∧ r.2.2.2.length ≤ 10) := by
  unfold Abg.f
  refine Tot.bind (Q := fun r : Int × List Int × Int × List Int => r.2.1.length ≤ 10 ∧ r.2.2.2.length ≤ 10) ?_ (fun r hr => Tot.now hr)
  unfold Abs.f
  exact Tot.bind (both_tot hb 0 0 (by omega) (by omega)) (fun r hr => Tot.now hr)
theorem DrawRefineLevels_tot {l : List Int} (hb : By l) : Tot (fun k => Abp.f k l) (fun r => (r.1.length ≤ 11 ∧ In64 r.1) ∧ r.2.length ≤ 11 ∧ In64 r.2) := by
  unfold Abp.f
  refine Tot.obind (elements_ok hb 0 0 (by omega) (by omega)) ?_
  rintro ⟨n, p1, h1⟩ ⟨n1, n2, n3⟩
  simp only at n1 n2 n3
  refine Tot.obind (one_ok hb p1 h1 12 (by omega) (by omega)) ?_
  rintro ⟨b, p2, h2⟩ ⟨b1, b2⟩
  simp only at b1 b2
  refine Tot.ite (fun _ => ?_) (fun _ => ?_)
  · refine Tot.bind (levels_tot hb p2 h2 n (by omega) (by omega) n1) ?_
    rintro ⟨x, p3, h3⟩ ⟨x1, x2, x3, x4⟩
    simp only at x1 x2 x3 x4
    refine Tot.obind (elements_ok hb p3 h3 (by omega) (by omega)) ?_
    rintro ⟨m, p4, h4⟩ ⟨m1, m2, m3⟩
    simp only at m1 m2 m3
    refine Tot.bind (levels_tot hb p4 h4 m (by omega) (by omega) m1) ?_
    rintro ⟨y, p5, h5⟩ ⟨y1, y2, y3, y4⟩
    simp only at y1 y2
    exact Tot.now ⟨⟨by simp only; omega, x2⟩, by simp only; omega, y2⟩
  · refine Tot.bind (levels_tot hb p2 h2 n (by omega) (by omega) n1) ?_
    rintro ⟨x, p3, h3⟩ ⟨x1, x2, x3, x4⟩
    simp only at x1 x2 x3 x4
    refine Tot.bind (levels_tot hb p3 h3 n (by omega) (by omega) n1) ?_
    rintro ⟨y, p5, h5⟩ ⟨y1, y2, y3, y4⟩
    simp only at y1 y2
    exact Tot.now ⟨⟨by simp only; omega, x2⟩, by simp only; omega, y2⟩
end Go.Proofs.YtimjblnglhmakaaDoor.M
namespace Go.Proofs.YtimjblnglhmakaaDoor.M
open Go.RowKit Go.Proofs.YtimjblnglhmakaaDoorW.PrintMore Go.Proofs.YtimjblnglhmakaaDoorW.PrintLast Go.Proofs.YtimjblnglhmakaaDoorW.PrintWords Go.Proofs.YtimjblnglhmakaaDoor.P
set_option maxRecDepth 4000
theorem vSame_ev (l l' : List Int) (hl : l.length ≤ 140737488355328) : Ev (fun k => Aa8.f k l l') (decide (l = l')) := by
  unfold Aa8.f
  by_cases h : (l.length : Int) = (l'.length : Int)
  · simp only [if_pos h]
    refine Ev.to (Ev.all (fun i k => Aa8.l0 k l l' (l.length : Int) (i : Int)) l.length (fun i => decide (l.getD i 0 = l'.getD i 0)) ?_ ?_ ?_) ?_
    · intro i r hi hp next
      refine Ev.step (fun _ => rfl) ?_
      simp only [Aa8.l0, if_pos (show (i : Int) < (l.length : Int) by omega), if_pos (show (0 : Int) ≤ (i : Int) by omega), if_pos (show (i : Int) < (l'.length : Int) by omega), rd_nat, if_pos (of_decide_eq_true hp), next64 i l.length hi (by omega)]
      exact next
    · intro i hi hp
      refine Ev.step (fun _ => rfl) ?_
      simp only [Aa8.l0, if_pos (show (i : Int) < (l.length : Int) by omega), if_pos (show (0 : Int) ≤ (i : Int) by omega), if_pos (show (i : Int) < (l'.length : Int) by omega), rd_nat, if_neg (of_decide_eq_false hp)]
      exact Ev.now _
    · refine Ev.step (fun _ => rfl) ?_
      simp only [Aa8.l0, if_neg (show ¬ (l.length : Int) < (l.length : Int) by omega)]
      exact Ev.now _
    · rw [Bool.eq_iff_iff, allB_iff, decide_eq_true_iff]
      constructor
      · intro H
        exact list_ext_getD (by omega) fun i hi => of_decide_eq_true (H i hi)
      · rintro rfl i _
        simp
  · simp only [if_neg h]
    refine Ev.to (Ev.now _) ?_
    symm
    rw [decide_eq_false_iff_not]
    rintro rfl
    exact h rfl
theorem vOrder_same (n : Int) (l : List Int) (hl : l.length ≤ 140737488355328) : Ev (fun k => Aaz.f k n l n l) true := by
  unfold Aaz.f
  simp only [if_true]
  exact Ev.bind (vSame_ev l l hl) (Ev.to (Ev.now _) (by simp))
theorem vOrder_ev (n m : Int) (l l' : List Int) (hl : l.length ≤ 140737488355328) : Ev (fun k => Aaz.f k n l m l') (decide (n = m ∧ l = l')) := by
  unfold Aaz.f
  by_cases h : n = m
  · simp only [if_pos h]
    exact Ev.bind (vSame_ev l l' hl) (Ev.to (Ev.now _) (by simp [h]))
  · simp only [if_neg h]
    exact Ev.to (Ev.now _) (by simp [h])
end Go.Proofs.YtimjblnglhmakaaDoor.M
namespace Go.Proofs.YtimjblnglhmakaaDoor.Pure
open Go.RowKit Go.Proofs.YtimjblnglhmakaaDoorW.PrintMore Go.Proofs.YtimjblnglhmakaaDoorW.PrintLast Go.Proofs.YtimjblnglhmakaaDoorW.PrintWords Go.Proofs.YtimjblnglhmakaaDoor.P Go.Proofs.YtimjblnglhmakaaDoor.M
set_option maxRecDepth 4000
theorem refines_meet (n : Int) (l : List Int) (m : Int) (l' : List Int) : (refines n l m l').2 = (meet n l m l').2.2 := by
  unfold refines meet
  split <;> rfl
theorem meetB {n : Nat} {l l' : List Int} (h : Rel n l) (i j : Nat) : B (relL n fun i j => B l i j && B l' i j) i j = (B l i j && B l' i j) := by
  rw [relL_B]
  cases hb : B l i j with
  | false => simp
  | true => simp [h.B_lt hb, h.B_lt' hb]
theorem meet_ord {n : Nat} {l l' : List Int} (o : Ord n l) (o' : Ord n l') : Ord n (relL n fun i j => B l i j && B l' i j) where
  toRel := relL_rel n o.le _
  irr := fun i => by rw [meetB o.toRel, o.irr i, Bool.false_and]
  trans := fun i j k h1 h2 => by
    rw [meetB o.toRel, Bool.and_eq_true] at *
    exact ⟨o.trans i j k h1.1 h2.1, o'.trans i j k h1.2 h2.2⟩
theorem refines_true {n : Nat} {l l' : List Int} (o : Ord n l) (o' : Ord n l') (h : ∀ i j, B l' i j = true → B l i j = true) : refines (n : Int) l (n : Int) l' = (true, true) := by
  unfold refines
  rw [isOrd_iff.2 ⟨n, rfl, o⟩, isOrd_iff.2 ⟨n, rfl, o'⟩]
  simp only [decide_true, Bool.and_self, if_true, Int.toNat_natCast]
  rw [(subR_iff o'.toRel).2 h]
theorem sub_meet {n : Nat} {l l' : List Int} (o : Ord n l) (o' : Ord n l') : subR n l l' = decide ((relL n fun i j => B l i j && B l' i j) = l') := by
  rw [Bool.eq_iff_iff, subR_iff o'.toRel, decide_eq_true_iff]
  constructor
  · intro H
    refine (meet_ord o o').toRel.ext o'.toRel fun i j _ _ => ?_
    rw [meetB o.toRel]
    cases hb : B l' i j with
    | false => simp
    | true => rw [H i j hb]; rfl
  · intro e i j hb
    rw [← e, meetB o.toRel, Bool.and_eq_true] at hb
    exact hb.1
theorem ranks_getD (zs : List Int) (i : Nat) (h : i < zs.length) : (ranks zs).getD i 0 = ((rank zs (zs.getD i 0) : Nat) : Int) := by simp [ranks, h]
theorem mixed_getD (c : Int) (x y : List Int) (i : Nat) (h : i < x.length) : (mixed c x y).getD i 0 = c * x.getD i 0 + y.getD i 0 := by simp [mixed, h]
theorem fine_coarse {x y : List Int} (hx : isLev x = true) (hy : isLev y = true) (h : x.length = y.length) (i j : Nat) (hb : B (levR x) i j = true) : B (levR (ranks (mixed 11 x y))) i j = true := by
  obtain ⟨_, bx, _⟩ := isLev_iff.1 hx
  obtain ⟨_, by_, _⟩ := isLev_iff.1 hy
  unfold levR at *
  rw [relL_B, Bool.and_eq_true, Bool.and_eq_true, decide_eq_true_iff, decide_eq_true_iff, decide_eq_true_iff] at hb
  obtain ⟨hi, hj, hlt⟩ := hb
  rw [relL_B, ranks_length, mixed_length, decide_eq_true hi, decide_eq_true hj, Bool.true_and, Bool.true_and, decide_eq_true_iff, ranks_getD _ i (by rw [mixed_length]; exact hi), ranks_getD _ j (by rw [mixed_length]; exact hj)]
  have a2 := by_ _ (mem_getD (l := y) (i := i) (by omega))
  have b2 := by_ _ (mem_getD (l := y) (i := j) (by omega))
  have := (rank_lt_iff (mem_getD (l := mixed 11 x y) (i := i) (by rw [mixed_length]; exact hi)) (mem_getD (l := mixed 11 x y) (i := j) (by rw [mixed_length]; exact hj))).2 (by rw [mixed_getD _ _ _ i hi, mixed_getD _ _ _ j hj]; omega)
  omega
theorem levels_part {l1 : List Int} (hB : By l1) : Ev (fun k => Aac.j1 k l1) true := by
  obtain ⟨⟨x, y⟩, hd, ⟨hx, wx⟩, hy, wy⟩ := DrawRefineLevels_tot hB
  simp only at hx wx hy wy
  refine Ev.step (fun _ => rfl) ?_
  simp only [Aac.j1]
  refine Ev.bind hd ?_
  refine Ev.bind (RefineLevels_ev x y (by omega) (by omega)) ?_
  refine Ev.bind (sRefineLevels_ev x y (by omega) (by omega) wx wy) ?_
  simp only [bne_self_eq_false, Bool.false_eq_true, if_false]
  have hlen : (refineL x y).1.length ≤ 11 := by
    unfold refineL
    split
    · rw [ranks_length, mixed_length]; exact hx
    · simp
  refine Ev.bind (Ev.to (vSame_ev _ _ (by omega)) (decide_eq_true rfl)) ?_
  refine Ev.step (fun _ => rfl) ?_
  simp only [Aac.j2, Bool.not_true, Bool.false_eq_true, if_false]
  cases hc : (isLev x && (isLev y && decide (x.length = y.length))) with
  | false =>
    simp only [refineL, hc, Bool.false_eq_true, if_false]
    exact Ev.now _
  | true =>
    simp only [refineL, hc, if_true]
    rw [Bool.and_eq_true, Bool.and_eq_true, decide_eq_true_iff] at hc
    obtain ⟨h1, h2, h3⟩ := hc
    have h10 := (isLev_iff.1 h1).1
    have hlz : (ranks (mixed 11 x y)).length = x.length := by rw [ranks_length, mixed_length]
    have hz : isLev (ranks (mixed 11 x y)) = true := ranks_lev _ (by rw [mixed_length]; exact h10)
    refine Ev.bind (Ev.to (OrderOfLevels_ev _ (by omega)) (by rw [hz, if_pos rfl])) ?_
    refine Ev.bind (Ev.to (OrderOfLevels_ev x (by omega)) (by rw [h1, if_pos rfl])) ?_
    have o1 := levR_ord (ranks (mixed 11 x y)) (by omega)
    have o2 := levR_ord x h10
    have hr := DoesRefine_ev ((ranks (mixed 11 x y)).length : Int) (levR (ranks (mixed 11 x y))) (x.length : Int) (levR x) (by rw [o1.len]; omega) (by rw [o2.len]; omega)
    rw [hlz] at hr o1
    rw [refines_true o1 o2 (fine_coarse h1 h2 h3)] at hr
    simp only [hlz]
    refine Ev.bind hr ?_
    simp only [if_true]
    exact Ev.now _
theorem FnRefinements : P.Aac.Pure := by
  intro l0 l1 _ hl0 hb _ hl1 hb1
  have hB := by_wf hb
  have second := levels_part (by_wf hb1)
  obtain ⟨⟨n, l, m, l'⟩, hd, hlen, hlen'⟩ := DrawMeetOrders_tot hB
  simp only at hlen hlen'
  refine Ev.rounds (g := fun k => Aac.f k l0 l1) ?_
  unfold Aac.f
  obtain ⟨b, hbig⟩ : ∃ b, Abw.f l0 l1 = some b := by
    unfold Abw.f
    split
    · exact ⟨_, rfl⟩
    · exact ⟨_, rfl⟩
  rw [hbig]
  simp only [Option.bind_some]
  cases b with
  | true => simp only [if_true]; exact Ev.now _
  | false =>
  simp only [Bool.false_eq_true, if_false]
  refine Ev.bind hd ?_
  refine Ev.bind (MeetOrders_ev n l m l' (by omega) (by omega)) ?_
  refine Ev.bind (sMeetOrders_ev n l m l' (by omega) (by omega)) ?_
  refine Ev.bind (DoesRefine_ev n l m l' (by omega) (by omega)) ?_
  refine Ev.bind (sDoesRefine_ev n l m l' (by omega) (by omega)) ?_
  have hml := meet_len n l m l'
  simp only [bne_self_eq_false, Bool.false_eq_true, if_false]
  refine Ev.bind (vOrder_same _ _ (by omega)) ?_
  simp only [if_true, refines_meet, bne_self_eq_false]
  refine Ev.step (fun _ => rfl) ?_
  simp only [Aac.j0, Bool.false_eq_true, if_false]
  cases hc : (isOrd n l && (isOrd m l' && decide (n = m))) with
  | false =>
    simp only [meet, hc, Bool.false_eq_true, if_false]
    exact second
  | true =>
    simp only [meet, refines, hc, if_true]
    rw [Bool.and_eq_true, Bool.and_eq_true, decide_eq_true_iff] at hc
    obtain ⟨h1, h2, rfl⟩ := hc
    obtain ⟨n, rfl, o⟩ := isOrd_iff.1 h1
    obtain ⟨n', hn', o'⟩ := isOrd_iff.1 h2
    obtain rfl : n = n' := by omega
    have hn := o.le
    have oM := meet_ord o o'
    simp only [Int.toNat_natCast]
    have hl3 : (relL n fun i j => B l i j && B l' i j).length ≤ 1048576 := by rw [relL_length]; omega
    refine Ev.bind (Ev.to (DoesRefine_ev (n : Int) l (n : Int) _ (by omega) hl3) (refines_true o oM fun i j hb => by rw [meetB o.toRel, Bool.and_eq_true] at hb; exact hb.1)) ?_
    refine Ev.bind (Ev.to (DoesRefine_ev (n : Int) l' (n : Int) _ (by omega) hl3) (refines_true o' oM fun i j hb => by rw [meetB o.toRel, Bool.and_eq_true] at hb; exact hb.2)) ?_
    refine Ev.bind (Ev.to (IsOrder_ev (n : Int) _ (by omega)) (isOrd_iff.2 ⟨n, rfl, oM⟩)) ?_
    simp only [if_true]
    refine Ev.bind (Ev.to (vOrder_ev (n : Int) (n : Int) _ l' (by omega)) (r' := subR n l l') (by rw [sub_meet o o']; simp)) ?_
    simp only [bne_self_eq_false, Bool.false_eq_true, if_false]
    exact second
end Go.Proofs.YtimjblnglhmakaaDoor.Pure
namespace Go.Proofs.YtimjblnglhmakaaDoorW.PrintWords
open Go.ChangeShapes Go.WideShapes
theorem sized_ints {H : Type} {enc : TypeId × Value → H} {P : Program} {W : World} {base : Nat} {spare : Nat → Bool} {held : Bool} {t e : TypeId} {k : IntKind} {a : Option Addr} {len cap : Nat} {d : DataW H} {ps : List MemPlace} {ts : List TypeId} {ds : List (DataW H)} {j : Nat}
    (hsz : (DataW.weightsEach P ts ds).all (· ≤ reachBytes) = true) (ht : ts[j]? = some t) (hd : ds[j]? = some d) (hu : P.underlying t = some (.slice e)) (he : P.underlying e = some (.int k)) (hc : P.cellsOf e = 1) {B : Nat} (hB : P.bytesOf e = B)
    (h : DataW.Trod enc P W base spare held t (.slice a len cap) d ps) : len * B ≤ 140737488351232 := by
  obtain ⟨fuel, hf⟩ := h
  rcases open_ints hu he hc hf with ⟨hcs, _⟩ | ⟨x, l, c, zs, hcs, _, hl, _, hz, hx, _, _⟩
  · simp [Value.cells] at hcs
    obtain ⟨rfl, rfl, rfl⟩ := hcs
    simp
  · simp [Value.cells] at hcs
    obtain ⟨rfl, rfl, rfl⟩ := hcs
    obtain ⟨hx, _⟩ := Prod.mk.inj hx
    subst hx
    have z := sized_slice hsz ht hd hu
    rw [hB] at z
    have hl2 : len ≤ zs.length := by
      rw [hz]
      split
      · exact hl
      · exact Nat.le_refl _
    have h1 : (lits (H := H) k (zs.take len)).length + (lits (H := H) k (zs.drop len)).length = zs.length := by
      simp [lits]
      omega
    rw [h1] at z
    exact Nat.le_trans (Nat.mul_le_mul_right _ hl2) z
end Go.Proofs.YtimjblnglhmakaaDoorW.PrintWords
namespace Go.Proofs.YtimjblnglhmakaaDoor.fnRefinements
open Go.ChangeShapes Go.WideShapes Go.ChangeAt Go.RowKit
open Go.ChangeMaps (open_string shut_string)
open Go.Proofs.YtimjblnglhmakaaDoorW
set_option linter.unusedVariables false
theorem own : ownKnob Tryd.prog.godebug = none := by kernel_rfl
theorem laidOut : laidOutB Tryd.prog = true := by kernel_rfl
def IsRow (k : IntKind) (w : World) (a : Option Addr) (len cap : Nat) (zs : List Int) : Prop :=
  (a = none ∧ len = 0 ∧ cap = 0 ∧ zs = []) ∨
  ∃ x, a = some x ∧ len ≤ cap ∧ cap ≤ maxLen ∧ zs.length = cap ∧ (∀ i, i < zs.length → w.cell? (x.add i) = some (.int k (zs.getD i 0))) ∧ ∀ n ∈ zs, (Lit.int k n).wf = true
theorem gT : Tryd.prog.globalNamed "math/bits.deBruijn64tab" = some 1 := by kernel_rfl
theorem tT : (Tryd.prog.globals[1]?).map (·.type) = some 162 := by kernel_rfl
theorem cT : Tryd.prog.cellsOf 162 = 64 := by kernel_rfl
theorem cE : Tryd.prog.cellsOf 5 = 1 := by kernel_rfl
def tab64 : List Int := Lib.deBruijn64tab.map fun (z : Nat) => (z : Int)
theorem tab64_at : ∀ j, j < 64 → tab64.getD j 0 = ((Lib.deBruijn64tab.getD j 0 : Nat) : Int) := by decide +kernel
theorem table {W : World} (h : laidMetH Tryd.prog Rows.fnRefinementsRow.laid W) : P.TabOK W := by
  rw [MakeChecks.laidMetH_plain _ _ _ (by kernel_rfl)] at h
  have h1 : laidMet Tryd.prog [("math/bits.deBruijn32tab", Rows.laid_math_bits_deBruijn32tab), ("math/bits.deBruijn64tab", Lib.tabData .u8 tab64)] W := h
  have h0 := laidMet.tail (h1)
  have ht := Lib.tabIs_of_head gT tT Tryd.underlying162 Tryd.underlying5 cE cT h0
  intro j hj
  rw [ht.cell gT j (by exact hj), tab64_at j hj]
theorem door_met (os : Os) (args : Array Value) : laidMetH Tryd.prog Rows.fnRefinementsRow.laid ((World.doorLaid Tryd.prog 400 os).forCall (fun _ _ => 0) ⟨#[], args, []⟩).memory :=
  laidMetH_of_parts3 (fuel := 8) (laidMet_of_run' 8 (by kernel_rfl) (by kernel_rfl)) (by kernel_rfl) (by kernel_rfl)
set_option maxRecDepth 100000 in
theorem lifted (os : Os) (started : os.Started) (H : Type) (enc : TypeId × Value → H) :
    ReturnsInHanded {} Tryd.checked os 10 .any (fun w args => (Rows.fnRefinementsSpec.pre enc Tryd.prog Tryd.f10 [] false w args ∧ laidMetH Tryd.prog Rows.fnRefinementsRow.laid w) ∧ sizedMet enc Tryd.prog Tryd.f10 (OpenSpec.ofChange Rows.fnRefinementsSpec) false w args)
      (Rows.fnRefinementsSpec.post enc Tryd.prog Tryd.f10 false true false false) := by
  refine returnsInHanded_of_change_and (C := Tryd.checked) (X := fun w _ => laidMetH Tryd.prog Rows.fnRefinementsRow.laid w) (fun _ _ _ hh h => h.of_heap hh) own started (by kernel_rfl) Tryd.func10
    (ChangeSpec.witness_shaped (enc := enc) (C := Tryd.checked) (os := os) (X := fun w _ => laidMetH Tryd.prog Rows.fnRefinementsRow.laid w) false (World.doorLaid Tryd.prog 400 os) #[.slice none 0 0, .slice none 0 0] 8 rfl (World.shaped_of_RefB (by kernel_rfl) (by kernel_rfl)) (by kernel_rfl) (by kernel_rfl) (by kernel_rfl) (door_met os _)) ?_
  intro W base args ds gs before hval0 hW hcnd hsz0 hL _
  have hsz : (DataW.weightsEach Tryd.prog (Tryd.f10.params.toList ++ Rows.fnRefinementsSpec.plain.varTypes Tryd.prog) (ds ++ gs)).all (· ≤ reachBytes) = true := hsz0
  have hval : ∀ (j : Nat) t v, Tryd.f10.params[j]? = some t → args[j]? = some v → Value.okWide Tryd.prog W .any base t v := hval0
  have hW' := hW
  obtain ⟨p, q, hA0, hV, rfl, hfz, hnd⟩ := hW
  have hA : DataW.TrodAll enc Tryd.prog W 0 (fun _ => true) true Tryd.f10.params.toList args.toList ds p := hA0
  rw [Tryd.params10] at hA hval hsz
  obtain ⟨v0, vs0, d0, ds0, p0, q0, hargs, rfl, rfl, h0, r0⟩ := trodAll_cons hA
  obtain ⟨v1, vs1, d1, ds1, p1, q1, rfl, rfl, rfl, h1, r1⟩ := trodAll_cons r0
  obtain ⟨rfl, rfl, rfl⟩ := trodAll_nil r1
  obtain rfl : args = #[v0, v1] := by cases args; simp_all
  obtain ⟨rfl, rfl⟩ := trodVars_none hV
  obtain ⟨a0, len0, cap0, rfl⟩ := okWide_slice Tryd.underlying35 (hval 0 35 v0 rfl rfl)
  have k0 := h0
  have lt0 : ∀ x ∈ p0, x.block < W.heap.size := by obtain ⟨m, hm⟩ := k0; exact DataW.trod_lt m _ _ _ hm
  obtain ⟨z0, w0⟩ : ∃ zs, IsRow .u8 W a0 len0 cap0 zs := by
    obtain ⟨fuel, hf⟩ := h0
    rcases open_ints Tryd.underlying35 Tryd.underlying5 (by kernel_rfl) hf with ⟨hcs, _⟩ | ⟨x, l, c, zs, hcs, _, hl, hm, hz, _, hcell, hwz⟩
    · simp [Value.cells] at hcs
      obtain ⟨rfl, rfl, rfl⟩ := hcs
      exact ⟨[], .inl ⟨rfl, rfl, rfl, rfl⟩⟩
    · simp [Value.cells] at hcs
      obtain ⟨rfl, rfl, rfl⟩ := hcs
      exact ⟨zs, .inr ⟨_, rfl, hl, hm, by simpa using hz, hcell, hwz⟩⟩
  have y0 : len0 * 1 ≤ 140737488351232 := PrintWords.sized_ints hsz (j := 0) (t := 35) rfl rfl Tryd.underlying35 Tryd.underlying5 (by kernel_rfl) (by kernel_rfl) h0
  obtain ⟨a1, len1, cap1, rfl⟩ := okWide_slice Tryd.underlying35 (hval 1 35 v1 rfl rfl)
  have k1 := h1
  have lt1 : ∀ x ∈ p1, x.block < W.heap.size := by obtain ⟨m, hm⟩ := k1; exact DataW.trod_lt m _ _ _ hm
  obtain ⟨z1, w1⟩ : ∃ zs, IsRow .u8 W a1 len1 cap1 zs := by
    obtain ⟨fuel, hf⟩ := h1
    rcases open_ints Tryd.underlying35 Tryd.underlying5 (by kernel_rfl) hf with ⟨hcs, _⟩ | ⟨x, l, c, zs, hcs, _, hl, hm, hz, _, hcell, hwz⟩
    · simp [Value.cells] at hcs
      obtain ⟨rfl, rfl, rfl⟩ := hcs
      exact ⟨[], .inl ⟨rfl, rfl, rfl, rfl⟩⟩
    · simp [Value.cells] at hcs
      obtain ⟨rfl, rfl, rfl⟩ := hcs
      exact ⟨zs, .inr ⟨_, rfl, hl, hm, by simpa using hz, hcell, hwz⟩⟩
  have y1 : len1 * 1 ≤ 140737488351232 := PrintWords.sized_ints hsz (j := 1) (t := 35) rfl rfl Tryd.underlying35 Tryd.underlying5 (by kernel_rfl) (by kernel_rfl) h1
  clear hA0 hval0 hsz0 hsz
  refine (P.Aac.walk Pure.FnRefinements a0 len0 cap0 z0 a1 len1 cap1 z1 W w0 y0 w1 y1 (table hL)).mono fun e W' ⟨he, bel⟩ => ?_
  subst he
  exact ⟨_, rfl, _, _, _, [], _, [], hW', trodAll_mk1 (shut_bool Tryd.underlying4 _), (trodAll_cons_mk (Below.trod laidOut (by kernel_rfl) (of_decide_eq_true (by kernel_rfl)) k0 bel lt0) (trodAll_cons_mk (Below.trod laidOut (by kernel_rfl) (of_decide_eq_true (by kernel_rfl)) k1 bel lt1) trodAll_mk0)), rfl, bel.frame _, fun h => by cases h⟩
set_option maxHeartbeats 8000000 in
theorem named_ : Tryd.pinned.checked.prog.funcNamed "loop.example/g01106/laws.FnRefinements" = some 10 := by kernel_rfl
set_option maxHeartbeats 8000000 in
theorem joined_ : joinedFacts Tryd.pinned.checked.prog 10 Tryd.f10 Rows.fnRefinementsSpec Rows.fnRefinementsRow = true := by
  unfold joinedFacts
  repeat' (with_reducible refine (Bool.and_eq_true_iff).2 ⟨?_, ?_⟩)
  all_goals (as_aux_lemma => kernel_rfl)
theorem over : Rows.fnRefinementsRow.holds Tryd.pinned (OpenSpec.ofChange Rows.fnRefinementsSpec) :=
  OpenClaim.holds_of_wide 10 Tryd.f10 rfl rfl rfl rfl rfl rfl rfl ⟨rfl, rfl, rfl, rfl, rfl⟩ rfl rfl rfl rfl rfl named_ Tryd.func10 joined_
    (of_decide_eq_true (by kernel_rfl)) (by unfold Func.isWrapper; first | (rw [if_pos (by decide +kernel)]; kernel_rfl) | (rw [if_neg (by decide +kernel)]; exact ⟨rfl, rfl⟩))
    (fun os started H enc _ => lifted os started H enc)
set_option maxHeartbeats 8000000 in
theorem main_ : Tryd.pinned.checked.prog.mainIs = some (true, "db67f5b5a54c9f31397de544f55d48fa9d1bcc0f366770764b110f372f5e00c3".toList) := by kernel_rfl
set_option maxHeartbeats 8000000 in
theorem looks_ : true = Tryd.pinned.checked.prog.looks [] := by kernel_rfl
theorem stand_ : ([35].all fun u => !Tryd.prog.wantsStandIn u) = true := by kernel_rfl
set_option maxHeartbeats 8000000 in
theorem goes_ : false = Rows.fnRefinementsRow.goesBy Tryd.pinned.checked.prog := by kernel_rfl
theorem wf_ : Rows.fnRefinementsRow.wfByText (OpenSpec.ofChange Rows.fnRefinementsSpec) = true := by kernel_rfl
theorem proved : Rows.FnRefinementsCardSaid :=
  Claim7.holds_tied_plain_at .later [] [.data, .data] true (true, "db67f5b5a54c9f31397de544f55d48fa9d1bcc0f366770764b110f372f5e00c3") true
    over (fun _ h => by cases h) wf_ (fun _ h => by cases h) fnRefinements_row_tie rfl ⟨rfl, rfl⟩ main_ rfl
    (fun f fn hf hfn => by
      obtain rfl : f = 10 := Option.some.inj (named_.symm.trans hf) |>.symm
      obtain rfl : fn = Tryd.f10 := (Option.some.inj (Tryd.func10.symm.trans hfn)).symm
      exact ⟨looks_, fun j t ht => by
        rw [Tryd.params10] at ht
        have hm : t ∈ [35] := by have hq := Array.mem_of_getElem? ht; simp at hq; simp [hq]
        exact (show Tryd.prog.wantsStandIn t = false by simpa using List.all_eq_true.1 stand_ t hm)⟩)
    goes_
end Go.Proofs.YtimjblnglhmakaaDoor.fnRefinements
namespace Go.Proofs.YtimjblnglhmakaaDoor
theorem fnRefinements_holds : Rows.FnRefinementsCardSaid := fnRefinements.proved
end Go.Proofs.YtimjblnglhmakaaDoor
