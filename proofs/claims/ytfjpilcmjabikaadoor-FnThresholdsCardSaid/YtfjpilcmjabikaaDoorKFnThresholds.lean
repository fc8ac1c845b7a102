/- The law FnThresholds holds at every input. Written by wip/pack.py: the kit's printed words that are used, the functions' walks as wip/gen.py prints them, and hand proofs. -/
import Derived.Test.YtfjpilcmjabikaaDoorKFnThresholds5
import Derived.SizedLaws
import Derived.ChangeSlices
import Derived.Test.YtfjpilcmjabikaaDoorRows
import Derived.Test.YtfjpilcmjabikaaDoorCards
import Derived.Test.YtfjpilcmjabikaaDoorTie
import Derived.WalkKit
import Derived.ProofKit
import Derived.OpenShut
import Derived.ShutString
import Derived.ChangeOld
import Derived.Below
import Derived.LaidMore
import Derived.Stop.Joined
import Derived.Stop.LaidErr
import Derived.Lib.LaidTab
import Derived.Lib.SmallJoins
import Derived.SevenTiedAt
namespace Go.Proofs.YtfjpilcmjabikaaDoor.M
open Go.RowKit Go.Proofs.YtfjpilcmjabikaaDoorW.PrintMore Go.Proofs.YtfjpilcmjabikaaDoorW.PrintLast Go.Proofs.YtfjpilcmjabikaaDoorW.PrintWords Go.Proofs.YtfjpilcmjabikaaDoor.P
set_option maxRecDepth 4000
theorem indif_bit (n : Nat) (l : List Int) (i j : Nat) : (indif n l i).testBit j = (decide (j < n) && free l i j) := by
  unfold indif
  rw [testBit_setOf]
  rfl
theorem indif_lt (n : Nat) (l : List Int) (i : Nat) : indif n l i < 2 ^ n := setOf_lt n _
theorem indif_62 {n : Nat} (hn : n ≤ 10) (l : List Int) (i : Nat) : indif n l i < 9223372036854775808 := lt62 (indif_lt n l i) (by omega)
theorem elems_getD {n s q : Nat} (h : q < (elems n s).length) : (elems n s).getD q 0 < n ∧ s.testBit ((elems n s).getD q 0) = true := mem_elems.1 (by simp [h])
theorem elems_index {n s j : Nat} (hj : j < n) (h : s.testBit j = true) : ∃ q, q < (elems n s).length ∧ (elems n s).getD q 0 = j := by
  obtain ⟨q, hq, e⟩ := List.getElem_of_mem (mem_elems.2 ⟨hj, h⟩)
  exact ⟨q, hq, by simp [hq, e]⟩
theorem ints_rd (l : List Nat) (q : Nat) (h : q < l.length) : rd (ints l) (q : Int) = ((l.getD q 0 : Nat) : Int) := by rw [rd_nat, ints_getD _ _ h]
theorem zero_elems {n s : Nat} (h : s < 2 ^ n) : s = 0 ↔ ∀ j, j < n → s.testBit j = false := by
  constructor
  · rintro rfl j _
    exact Nat.zero_testBit j
  · intro H
    apply Nat.eq_of_testBit_eq
    intro j
    rw [Nat.zero_testBit]
    by_cases hj : j < n
    · exact H j hj
    · exact Nat.testBit_lt_two_pow (Nat.lt_of_lt_of_le h (Nat.pow_le_pow_right (by decide) (by omega)))
theorem twoTwo_ev {n : Nat} {l : List Int} (h : Rel n l) : EvP (fun k => Aal.f k (n : Int) l) (fun r => r = []) (∀ a, a < n → ∀ b, b < n → ∀ c, c < n → ∀ d, d < n → hit22 l a b c d = false) := by
  have hn := h.le
  unfold Aal.f
  refine EvP.iff (EvP.loop (fun a k => Aal.l0 k (n : Int) (a : Int) (n : Int) l) n (fun a => ∀ b, b < n → ∀ c, c < n → ∀ d, d < n → hit22 l a b c d = false) True ?_ ?_) (by rw [and_true])
  · intro a T ha next
    refine EvP.step (fun _ => rfl) ?_
    simp only [Aal.l0, if_pos (show (a : Int) < (n : Int) by omega)]
    refine EvP.loop (fun b k => Aal.l1 k (a : Int) (n : Int) (a : Int) (n : Int) (b : Int) (n : Int) l) n (fun b => ∀ c, c < n → ∀ d, d < n → hit22 l a b c d = false) T ?_ ?_
    · intro b T hb next
      refine EvP.step (fun _ => rfl) ?_
      simp only [Aal.l1, if_pos (show (b : Int) < (n : Int) by omega)]
      refine EvP.loop (fun c k => Aal.l2 k (a : Int) (b : Int) (n : Int) (a : Int) (n : Int) (b : Int) (n : Int) (c : Int) (n : Int) l) n (fun c => ∀ d, d < n → hit22 l a b c d = false) T ?_ ?_
      · intro c T hc next
        refine EvP.step (fun _ => rfl) ?_
        simp only [Aal.l2, if_pos (show (c : Int) < (n : Int) by omega)]
        refine EvP.loop (fun d k => Aal.l3 k (a : Int) (b : Int) (c : Int) (n : Int) (a : Int) (n : Int) (b : Int) (n : Int) (c : Int) (n : Int) (d : Int) (n : Int) l) n (fun d => hit22 l a b c d = false) T ?_ ?_
        · intro d T hd next
          refine EvP.step (fun _ => rfl) ?_
          simp only [Aal.l3, if_pos (show (d : Int) < (n : Int) by omega), better_eq h _ _ _ ha (show b ≤ 62 by omega), better_eq h _ _ _ hc (show d ≤ 62 by omega), better_eq h _ _ _ hc (show b ≤ 62 by omega), better_eq h _ _ _ ha (show d ≤ 62 by omega), Option.bind_some, next64 d n hd (by omega)]
          unfold hit22
          cases h1 : B l a b with
          | false => simp only [Bool.false_eq_true, if_false]; exact EvP.iff next (by simp)
          | true =>
            cases h2 : B l c d with
            | false => simp only [Bool.false_eq_true, if_false, if_true]; exact EvP.iff next (by simp)
            | true =>
              cases h3 : B l c b with
              | true => simp only [if_true]; exact EvP.iff next (by simp)
              | false =>
                cases h4 : B l a d with
                | true => simp only [Bool.false_eq_true, if_false, if_true]; exact EvP.iff next (by simp)
                | false => simp only [Bool.false_eq_true, if_false, if_true]; exact EvP.now (by simp)
        · refine EvP.step (fun _ => rfl) ?_
          simp only [Aal.l3, if_neg (show ¬ (n : Int) < (n : Int) by omega), next64 c n hc (by omega)]
          exact next
      · refine EvP.step (fun _ => rfl) ?_
        simp only [Aal.l2, if_neg (show ¬ (n : Int) < (n : Int) by omega), next64 b n hb (by omega)]
        exact next
    · refine EvP.step (fun _ => rfl) ?_
      simp only [Aal.l1, if_neg (show ¬ (n : Int) < (n : Int) by omega), next64 a n ha (by omega)]
      exact next
  · refine EvP.step (fun _ => rfl) ?_
    simp only [Aal.l0, if_neg (show ¬ (n : Int) < (n : Int) by omega)]
    exact EvP.now (by simp)
theorem over_elems {n : Nat} {l : List Int} (h : Rel n l) (p : Nat → Nat → Nat → Prop) : (∀ a, a < n → ∀ q, q < (elems n (row l a)).length → ∀ q', q' < (elems n (row l ((elems n (row l a)).getD q 0))).length → p a ((elems n (row l a)).getD q 0) ((elems n (row l ((elems n (row l a)).getD q 0))).getD q' 0)) ↔ ∀ a b c, B l a b = true → B l b c = true → p a b c := by
  constructor
  · intro H a b c h1 h2
    obtain ⟨q, hq, rfl⟩ := elems_index (h.B_lt h1) h1
    obtain ⟨q', hq', rfl⟩ := elems_index (h.B_lt h2) h2
    exact H a (h.B_lt' h1) q hq q' hq'
  · intro H a _ q hq q' hq'
    exact H a _ _ (elems_getD hq).2 (elems_getD hq').2
def near3 (n : Nat) (l : List Int) (a b c : Nat) : Nat := indif n l a &&& indif n l b &&& indif n l c
theorem near3_lt (n : Nat) (l : List Int) (a b c : Nat) : near3 n l a b c < 2 ^ n := Nat.and_lt_two_pow _ (indif_lt n l c)
theorem near3_i64 {n : Nat} (hn : n ≤ 10) (l : List Int) (a b c : Nat) : Go.bits .and .i64 (Go.bits .and .i64 ((indif n l a : Nat) : Int) ((indif n l b : Nat) : Int)) ((indif n l c : Nat) : Int) = ((near3 n l a b c : Nat) : Int) := by
  rw [and_i64 _ _ (indif_62 hn l a) (indif_62 hn l b), and_i64 _ _ (lt62 (Nat.and_lt_two_pow _ (indif_lt n l b)) (by omega)) (indif_62 hn l c)]
  rfl
theorem near3_hit {n : Nat} {l : List Int} (h : Rel n l) : (∀ a b c, B l a b = true → B l b c = true → near3 n l a b c = 0) ↔ ∀ a, a < n → ∀ b, b < n → ∀ c, c < n → ∀ d, d < n → hit31 l a b c d = false := by
  have key : ∀ a b c, near3 n l a b c = 0 ↔ ∀ d, d < n → (free l a d && (free l b d && free l c d)) = false := by
    intro a b c
    rw [zero_elems (near3_lt n l a b c)]
    constructor
    · intro H d hd
      have := H d hd
      unfold near3 at this
      rw [Nat.testBit_and, Nat.testBit_and, indif_bit, indif_bit, indif_bit, decide_eq_true hd] at this
      simpa [Bool.and_assoc] using this
    · intro H d hd
      have := H d hd
      unfold near3
      rw [Nat.testBit_and, Nat.testBit_and, indif_bit, indif_bit, indif_bit, decide_eq_true hd]
      simpa [Bool.and_assoc] using this
  constructor
  · intro H a _ b _ c _ d hd
    unfold hit31
    cases h1 : B l a b with
    | false => rfl
    | true =>
      cases h2 : B l b c with
      | false => rfl
      | true => rw [Bool.true_and, Bool.true_and]; exact (key a b c).1 (H a b c h1 h2) d hd
  · intro H a b c h1 h2
    refine (key a b c).2 fun d hd => ?_
    have := H a (h.B_lt' h1) b (h.B_lt h1) c (h.B_lt h2) d hd
    unfold hit31 at this
    rwa [h1, h2, Bool.true_and, Bool.true_and] at this
theorem nears_rd {n : Nat} {l : List Int} (i : Nat) (hi : i < n) : rd ((List.range n).map fun i => ((indif n l i : Nat) : Int)) (i : Int) = ((indif n l i : Nat) : Int) := by
  rw [rd_nat]
  simp [hi]
theorem elems_pos {n s : Nat} (h : s < 2 ^ n) (h0 : s ≠ 0) : 0 < (elems n s).length := by
  refine Nat.pos_of_ne_zero fun he => h0 ((zero_elems h).2 fun j hj => ?_)
  cases hb : s.testBit j with
  | false => rfl
  | true =>
    have := mem_elems.2 ⟨hj, hb⟩
    rw [List.eq_nil_of_length_eq_zero he] at this
    cases this
theorem threeOne_ev {n : Nat} {l : List Int} (h : Rel n l) : EvP (fun k => Aaf.f k (n : Int) l) (fun r => r = []) (∀ a, a < n → ∀ b, b < n → ∀ c, c < n → ∀ d, d < n → hit31 l a b c d = false) := by
  have hn := h.le
  have hlen := h.len
  unfold Aaf.f
  refine EvP.bind (indifs_ev h) ?_
  refine EvP.iff (EvP.loop (fun a k => Aaf.l0 k ((List.range n).map fun i => ((indif n l i : Nat) : Int)) (n : Int) (a : Int) (n : Int) l) n (fun a => ∀ q, q < (elems n (row l a)).length → ∀ q', q' < (elems n (row l ((elems n (row l a)).getD q 0))).length → near3 n l a ((elems n (row l a)).getD q 0) ((elems n (row l ((elems n (row l a)).getD q 0))).getD q' 0) = 0) True ?_ ?_) (by rw [and_true]; exact (over_elems h (fun a b c => near3 n l a b c = 0)).trans (near3_hit h))
  · intro a T ha next
    refine EvP.step (fun _ => rfl) ?_
    simp only [Aaf.l0, if_pos (show (a : Int) < (n : Int) by omega), if_pos (show (0 : Int) ≤ (a : Int) by omega), hlen, h.rd]
    refine EvP.bind (members_ev n (by omega) _ (h.row_lt a)) ?_
    have hE := elems_length_le n (row l a)
    rw [ints_length]
    refine EvP.loop (fun q k => Aaf.l1 k ((List.range n).map fun i => ((indif n l i : Nat) : Int)) (a : Int) (n : Int) (a : Int) (ints (elems n (row l a))) ((elems n (row l a)).length : Int) (q : Int) (n : Int) l) (elems n (row l a)).length (fun q => ∀ q', q' < (elems n (row l ((elems n (row l a)).getD q 0))).length → near3 n l a ((elems n (row l a)).getD q 0) ((elems n (row l ((elems n (row l a)).getD q 0))).getD q' 0) = 0) T ?_ ?_
    · intro q T hq next
      obtain ⟨hb, _⟩ := elems_getD hq
      refine EvP.step (fun _ => rfl) ?_
      simp only [Aaf.l1, if_pos (show (q : Int) < ((elems n (row l a)).length : Int) by omega), if_pos (show (0 : Int) ≤ (q : Int) by omega), ints_length, ints_rd _ _ hq]
      generalize (elems n (row l a)).getD q 0 = b at hb next ⊢
      simp only [if_pos (show (0 : Int) ≤ (b : Int) by omega), hlen, if_pos (show (b : Int) < (n : Int) by omega), h.rd]
      refine EvP.bind (members_ev n (by omega) _ (h.row_lt b)) ?_
      have hE' := elems_length_le n (row l b)
      rw [ints_length]
      refine EvP.loop (fun q' k => Aaf.l2 k ((List.range n).map fun i => ((indif n l i : Nat) : Int)) (a : Int) (b : Int) (n : Int) (a : Int) (ints (elems n (row l a))) ((elems n (row l a)).length : Int) (q : Int) (ints (elems n (row l b))) ((elems n (row l b)).length : Int) (q' : Int) (n : Int) l) (elems n (row l b)).length (fun q' => near3 n l a b ((elems n (row l b)).getD q' 0) = 0) T ?_ ?_
      · intro q' T hq' next
        obtain ⟨hc, _⟩ := elems_getD hq'
        refine EvP.step (fun _ => rfl) ?_
        simp only [Aaf.l2, if_pos (show (q' : Int) < ((elems n (row l b)).length : Int) by omega), if_pos (show (0 : Int) ≤ (q' : Int) by omega), ints_length, ints_rd _ _ hq', next64 q' _ hq' (by omega)]
        generalize (elems n (row l b)).getD q' 0 = c at hc next ⊢
        simp only [List.length_map, List.length_range, if_pos (show (0 : Int) ≤ (a : Int) by omega), if_pos (show (a : Int) < (n : Int) by omega), if_pos (show (0 : Int) ≤ (b : Int) by omega), if_pos (show (b : Int) < (n : Int) by omega), if_pos (show (0 : Int) ≤ (c : Int) by omega), if_pos (show (c : Int) < (n : Int) by omega), nears_rd _ ha, nears_rd _ hb, nears_rd _ hc, near3_i64 hn]
        by_cases h0 : near3 n l a b c = 0
        · simp only [if_pos (show ((near3 n l a b c : Nat) : Int) = 0 by omega)]
          exact EvP.iff next (by simp [h0])
        · simp only [if_neg (show ¬ ((near3 n l a b c : Nat) : Int) = 0 by omega)]
          refine EvP.bind (members_ev n (by omega) _ (near3_lt n l a b c)) ?_
          have := elems_pos (near3_lt n l a b c) h0
          simp only [ints_length, if_pos (show (0 : Int) < ((elems n (near3 n l a b c)).length : Int) by omega)]
          exact EvP.now (by simp [h0])
      · refine EvP.step (fun _ => rfl) ?_
        simp only [Aaf.l2, if_neg (show ¬ ((elems n (row l b)).length : Int) < ((elems n (row l b)).length : Int) by omega), next64 q _ hq (by omega)]
        exact next
    · refine EvP.step (fun _ => rfl) ?_
      simp only [Aaf.l1, if_neg (show ¬ ((elems n (row l a)).length : Int) < ((elems n (row l a)).length : Int) by omega), next64 a n ha (by omega)]
      exact next
  · refine EvP.step (fun _ => rfl) ?_
    simp only [Aaf.l0, if_neg (show ¬ (n : Int) < (n : Int) by omega)]
    exact EvP.now (by simp)
def isInt (n : Int) (l : List Int) : Bool := isOrd n l && no22 n.toNat l
theorem isInterval_ev (n : Int) (l : List Int) (hl : l.length ≤ 140737488355328) : Ev (fun k => Aav.f k n l) (isInt n l) := by
  unfold Aav.f isInt
  refine Ev.bind (IsOrder_ev n l hl) ?_
  cases ho : isOrd n l with
  | false => simp only [Bool.false_eq_true, if_false, Bool.false_and]; exact Ev.now _
  | true =>
    obtain ⟨n, rfl, o⟩ := isOrd_iff.1 ho
    simp only [if_true, Bool.true_and, Int.toNat_natCast]
    obtain ⟨r, hr, e⟩ := twoTwo_ev o.toRel
    refine Ev.bind hr (Ev.to (Ev.now _) ?_)
    rw [Bool.eq_iff_iff, beq_iff_eq, no22_iff]
    exact e
theorem isSemi_ev (n : Int) (l : List Int) (hl : l.length ≤ 140737488355328) : Ev (fun k => Aa6.f k n l) (isSemi n l) := by
  unfold Aa6.f isSemi
  refine Ev.bind (isInterval_ev n l hl) ?_
  unfold isInt
  cases ho : isOrd n l with
  | false => simp only [Bool.false_eq_true, if_false, Bool.false_and]; exact Ev.now _
  | true =>
    obtain ⟨n, rfl, o⟩ := isOrd_iff.1 ho
    simp only [Bool.true_and, Int.toNat_natCast]
    cases h2 : no22 n l with
    | false => simp only [Bool.false_eq_true, if_false, Bool.false_and]; exact Ev.now _
    | true =>
      simp only [if_true, Bool.true_and]
      obtain ⟨r, hr, e⟩ := threeOne_ev o.toRel
      refine Ev.bind hr (Ev.to (Ev.now _) ?_)
      rw [Bool.eq_iff_iff, beq_iff_eq, no31_iff]
      exact e
theorem orFree_ev {n : Nat} {l : List Int} (h : Rel n l) (i : Nat) (hi : i < n) : Ev (fun k => Aa9.f k (n : Int) l (i : Int)) ((indif n l i : Nat) : Int) := by
  have hn := h.le
  unfold Aa9.f
  simp only [if_pos (show (0 : Int) ≤ (n : Int) by omega), if_pos (show (0 : Int) ≤ (i : Int) by omega), h.len, if_pos (show (i : Int) < (n : Int) by omega)]
  refine Ev.bind (orBelow_ev h _ i (by omega)) ?_
  have hp : (2 : Nat) ^ n - 1 < 9223372036854775808 := by
    have : (2 : Nat) ^ n ≤ 2 ^ 10 := Nat.pow_le_pow_right (by decide) hn
    omega
  have hb : setOf n (fun j => B l j i) < 2 ^ n := setOf_lt n _
  have hi2 : (2 : Nat) ^ i < 2 ^ n := Nat.pow_lt_pow_right (by decide) hi
  have g1 : row l i ||| setOf n (fun j => B l j i) < 2 ^ n := Nat.or_lt_two_pow (h.row_lt i) hb
  have g2 : row l i ||| setOf n (fun j => B l j i) ||| 2 ^ i < 2 ^ n := Nat.or_lt_two_pow g1 hi2
  have e1 : wrap64 (shl .i64 1 (n : Int) - 1) = ((2 ^ n - 1 : Nat) : Int) := by
    rw [pow_of n (by omega) (by omega), Int.toNat_natCast]
    have := Nat.two_pow_pos n
    omega
  rw [e1, h.rd, shl1 i (by omega), or_i64 _ _ (h.row_62 i) (lt62 hb (by omega)), or_i64 _ _ (lt62 g1 (by omega)) (lt62 hi2 (by omega)), andNot_i64 _ _ hp (lt62 g2 (by omega))]
  refine Ev.to (Ev.now _) ?_
  congr 1
  apply Nat.eq_of_testBit_eq
  intro j
  rw [indif_bit, testBit_diff, Nat.testBit_two_pow_sub_one, Nat.testBit_or, Nat.testBit_or, Nat.testBit_two_pow, testBit_setOf, show (row l i).testBit j = B l i j from rfl]
  unfold free
  by_cases hj : j < n
  · by_cases e : i = j
    · simp [hj, e]
    · simp [hj, e, Ne.symm e]
  · simp [hj]
theorem seIndifferent_ev {n : Nat} {l : List Int} (h : Rel n l) (i j : Nat) (hi : i < n) (hj : j < n) : Ev (fun k => Aa3.f k (n : Int) l (i : Int) (j : Int)) (free l i j) := by
  have hn := h.le
  unfold Aa3.f
  refine Ev.bind (orFree_ev h i hi) ?_
  simp only [orHas_eq _ j (by omega), Option.bind_some]
  exact Ev.to (Ev.now _) (by rw [indif_bit, decide_eq_true hj, Bool.true_and])
theorem sThreeOne_ev {n : Nat} {l : List Int} (h : Rel n l) : EvP (fun k => Aae.l0 k 0 (n : Int) l) (fun r => r.2 = false) (∀ a, a < n → ∀ b, b < n → ∀ c, c < n → ∀ d, d < n → hit31 l a b c d = false) := by
  have hn := h.le
  have hlen := h.len
  refine EvP.iff (EvP.loop (fun a k => Aae.l0 k (a : Int) (n : Int) l) n (fun a => ∀ q, q < (elems n (row l a)).length → ∀ q', q' < (elems n (row l ((elems n (row l a)).getD q 0))).length → near3 n l a ((elems n (row l a)).getD q 0) ((elems n (row l ((elems n (row l a)).getD q 0))).getD q' 0) = 0) True ?_ ?_) (by rw [and_true]; exact (over_elems h (fun a b c => near3 n l a b c = 0)).trans (near3_hit h))
  · intro a T ha next
    refine EvP.step (fun _ => rfl) ?_
    simp only [Aae.l0, if_pos (show (a : Int) < (n : Int) by omega), if_pos (show (0 : Int) ≤ (a : Int) by omega), hlen, h.rd]
    refine EvP.bind (orList_ev n (by omega) _ (h.row_lt a)) ?_
    have hE := elems_length_le n (row l a)
    rw [ints_length]
    refine EvP.loop (fun q k => Aae.l1 k (a : Int) (ints (elems n (row l a))) ((elems n (row l a)).length : Int) (q : Int) (n : Int) l) (elems n (row l a)).length (fun q => ∀ q', q' < (elems n (row l ((elems n (row l a)).getD q 0))).length → near3 n l a ((elems n (row l a)).getD q 0) ((elems n (row l ((elems n (row l a)).getD q 0))).getD q' 0) = 0) T ?_ ?_
    · intro q T hq next
      obtain ⟨hb, _⟩ := elems_getD hq
      refine EvP.step (fun _ => rfl) ?_
      simp only [Aae.l1, if_pos (show (q : Int) < ((elems n (row l a)).length : Int) by omega), if_pos (show (0 : Int) ≤ (q : Int) by omega), ints_length, ints_rd _ _ hq]
      generalize (elems n (row l a)).getD q 0 = b at hb next ⊢
      simp only [if_pos (show (0 : Int) ≤ (b : Int) by omega), hlen, if_pos (show (b : Int) < (n : Int) by omega), h.rd]
      refine EvP.bind (orList_ev n (by omega) _ (h.row_lt b)) ?_
      have hE' := elems_length_le n (row l b)
      rw [ints_length]
      refine EvP.loop (fun q' k => Aae.l2 k (a : Int) (b : Int) (ints (elems n (row l a))) ((elems n (row l a)).length : Int) (q : Int) (ints (elems n (row l b))) ((elems n (row l b)).length : Int) (q' : Int) (n : Int) l) (elems n (row l b)).length (fun q' => near3 n l a b ((elems n (row l b)).getD q' 0) = 0) T ?_ ?_
      · intro q' T hq' next
        obtain ⟨hc, _⟩ := elems_getD hq'
        refine EvP.step (fun _ => rfl) ?_
        simp only [Aae.l2, if_pos (show (q' : Int) < ((elems n (row l b)).length : Int) by omega), if_pos (show (0 : Int) ≤ (q' : Int) by omega), ints_length, ints_rd _ _ hq']
        generalize (elems n (row l b)).getD q' 0 = c at hc next ⊢
        refine EvP.bind (orFree_ev h a ha) ?_
        refine EvP.bind (orFree_ev h b hb) ?_
        refine EvP.bind (orFree_ev h c hc) ?_
        simp only [near3_i64 hn]
        refine EvP.bind (orList_ev n (by omega) _ (near3_lt n l a b c)) ?_
        by_cases h0 : near3 n l a b c = 0
        · rw [h0, elems_zero]
          refine EvP.step (fun _ => rfl) ?_
          simp only [Aae.l3, ints, List.map_nil, List.length_nil, if_neg (show ¬ (0 : Int) < ((0 : Nat) : Int) by omega), next64 q' _ hq' (by omega)]
          exact EvP.iff next (by simp)
        · have hp := elems_pos (near3_lt n l a b c) h0
          refine EvP.step (fun _ => rfl) ?_
          rw [ints_length]
          simp only [Aae.l3, ints_length, if_pos (show (0 : Int) < ((elems n (near3 n l a b c)).length : Int) by omega), if_pos (show (0 : Int) ≤ 0 by omega)]
          exact EvP.now (by simp [h0])
      · refine EvP.step (fun _ => rfl) ?_
        simp only [Aae.l2, if_neg (show ¬ ((elems n (row l b)).length : Int) < ((elems n (row l b)).length : Int) by omega), next64 q _ hq (by omega)]
        exact next
    · refine EvP.step (fun _ => rfl) ?_
      simp only [Aae.l1, if_neg (show ¬ ((elems n (row l a)).length : Int) < ((elems n (row l a)).length : Int) by omega), next64 a n ha (by omega)]
      exact next
  · refine EvP.step (fun _ => rfl) ?_
    simp only [Aae.l0, if_neg (show ¬ (n : Int) < (n : Int) by omega)]
    exact EvP.now (by simp)
theorem over_pairs {n : Nat} {l : List Int} (h : Rel n l) (p : Nat → Nat → Nat → Nat → Prop) : (∀ a, a < n → ∀ q, q < (elems n (row l a)).length → ∀ c, c < n → ∀ q', q' < (elems n (row l c)).length → p a ((elems n (row l a)).getD q 0) c ((elems n (row l c)).getD q' 0)) ↔ ∀ a b c d, B l a b = true → B l c d = true → p a b c d := by
  constructor
  · intro H a b c d h1 h2
    obtain ⟨q, hq, rfl⟩ := elems_index (h.B_lt h1) h1
    obtain ⟨q', hq', rfl⟩ := elems_index (h.B_lt h2) h2
    exact H a (h.B_lt' h1) q hq c (h.B_lt' h2) q' hq'
  · intro H a _ q hq c _ q' hq'
    exact H a _ c _ (elems_getD hq).2 (elems_getD hq').2
theorem seTwoTwo_ev {n : Nat} {l : List Int} (o : Ord n l) : EvP (fun k => Aaq.f k (n : Int) l) (fun r => r = false) (∀ a, a < n → ∀ b, b < n → ∀ c, c < n → ∀ d, d < n → hit22 l a b c d = false) := by
  have h := o.toRel
  have hn := h.le
  have hlen := h.len
  unfold Aaq.f
  have same : (∀ a b c d, B l a b = true → B l c d = true → (free l a d && free l c b) = false) ↔ ∀ a, a < n → ∀ b, b < n → ∀ c, c < n → ∀ d, d < n → hit22 l a b c d = false := by
    constructor
    · intro H a _ b _ c _ d _
      rw [hit22_same o]
      unfold hit22s
      cases h1 : B l a b with
      | false => rfl
      | true =>
        cases h2 : B l c d with
        | false => rfl
        | true => rw [Bool.true_and, Bool.true_and]; exact H a b c d h1 h2
    · intro H a b c d h1 h2
      have := H a (h.B_lt' h1) b (h.B_lt h1) c (h.B_lt' h2) d (h.B_lt h2)
      rw [hit22_same o] at this
      unfold hit22s at this
      rwa [h1, h2, Bool.true_and, Bool.true_and] at this
  refine EvP.iff (EvP.loop (fun a k => Aaq.l0 k (a : Int) (n : Int) l) n (fun a => ∀ q, q < (elems n (row l a)).length → ∀ c, c < n → ∀ q', q' < (elems n (row l c)).length → (free l a ((elems n (row l c)).getD q' 0) && free l c ((elems n (row l a)).getD q 0)) = false) True ?_ ?_) (by rw [and_true]; exact (over_pairs h (fun a b c d => (free l a d && free l c b) = false)).trans same)
  · intro a T ha next
    refine EvP.step (fun _ => rfl) ?_
    simp only [Aaq.l0, if_pos (show (a : Int) < (n : Int) by omega), if_pos (show (0 : Int) ≤ (a : Int) by omega), hlen, h.rd]
    refine EvP.bind (orList_ev n (by omega) _ (h.row_lt a)) ?_
    have hE := elems_length_le n (row l a)
    rw [ints_length]
    refine EvP.loop (fun q k => Aaq.l1 k (a : Int) (ints (elems n (row l a))) ((elems n (row l a)).length : Int) (q : Int) (n : Int) l) (elems n (row l a)).length (fun q => ∀ c, c < n → ∀ q', q' < (elems n (row l c)).length → (free l a ((elems n (row l c)).getD q' 0) && free l c ((elems n (row l a)).getD q 0)) = false) T ?_ ?_
    · intro q T hq next
      obtain ⟨hb, _⟩ := elems_getD hq
      refine EvP.step (fun _ => rfl) ?_
      simp only [Aaq.l1, if_pos (show (q : Int) < ((elems n (row l a)).length : Int) by omega), if_pos (show (0 : Int) ≤ (q : Int) by omega), ints_length, ints_rd _ _ hq]
      generalize (elems n (row l a)).getD q 0 = b at hb next ⊢
      refine EvP.loop (fun c k => Aaq.l2 k (a : Int) (b : Int) (c : Int) (ints (elems n (row l a))) ((elems n (row l a)).length : Int) (q : Int) (n : Int) l) n (fun c => ∀ q', q' < (elems n (row l c)).length → (free l a ((elems n (row l c)).getD q' 0) && free l c b) = false) T ?_ ?_
      · intro c T hc next
        refine EvP.step (fun _ => rfl) ?_
        simp only [Aaq.l2, if_pos (show (c : Int) < (n : Int) by omega), if_pos (show (0 : Int) ≤ (c : Int) by omega), hlen, h.rd]
        refine EvP.bind (orList_ev n (by omega) _ (h.row_lt c)) ?_
        have hE' := elems_length_le n (row l c)
        rw [ints_length]
        refine EvP.loop (fun q' k => Aaq.l3 k (a : Int) (b : Int) (c : Int) (ints (elems n (row l a))) ((elems n (row l a)).length : Int) (q : Int) (ints (elems n (row l c))) ((elems n (row l c)).length : Int) (q' : Int) (n : Int) l) (elems n (row l c)).length (fun q' => (free l a ((elems n (row l c)).getD q' 0) && free l c b) = false) T ?_ ?_
        · intro q' T hq' next
          obtain ⟨hd, _⟩ := elems_getD hq'
          refine EvP.step (fun _ => rfl) ?_
          simp only [Aaq.l3, if_pos (show (q' : Int) < ((elems n (row l c)).length : Int) by omega), if_pos (show (0 : Int) ≤ (q' : Int) by omega), ints_length, ints_rd _ _ hq', next64 q' _ hq' (by omega)]
          generalize (elems n (row l c)).getD q' 0 = d at hd next ⊢
          refine EvP.bind (seIndifferent_ev h a d ha hd) ?_
          cases f1 : free l a d with
          | false => simp only [Bool.false_eq_true, if_false, Bool.false_and]; exact EvP.iff next (by simp)
          | true =>
            simp only [if_true, Bool.true_and]
            refine EvP.bind (seIndifferent_ev h c b hc hb) ?_
            cases f2 : free l c b with
            | false => simp only [Bool.false_eq_true, if_false]; exact EvP.iff next (by simp)
            | true => simp only [if_true]; exact EvP.now (by simp)
        · refine EvP.step (fun _ => rfl) ?_
          simp only [Aaq.l3, if_neg (show ¬ ((elems n (row l c)).length : Int) < ((elems n (row l c)).length : Int) by omega), next64 c n hc (by omega)]
          exact next
      · refine EvP.step (fun _ => rfl) ?_
        simp only [Aaq.l2, if_neg (show ¬ (n : Int) < (n : Int) by omega), next64 q _ hq (by omega)]
        exact next
    · refine EvP.step (fun _ => rfl) ?_
      simp only [Aaq.l1, if_neg (show ¬ ((elems n (row l a)).length : Int) < ((elems n (row l a)).length : Int) by omega), next64 a n ha (by omega)]
      exact next
  · refine EvP.step (fun _ => rfl) ?_
    simp only [Aaq.l0, if_neg (show ¬ (n : Int) < (n : Int) by omega)]
    exact EvP.now (by simp)
theorem seGood_ev (n : Int) (l : List Int) (hl : l.length ≤ 140737488355328) : Ev (fun k => Ab0.f k n l) (isSemi n l) := by
  unfold Ab0.f Aae.f isSemi
  cases ho : isOrd n l with
  | false =>
    refine Ev.bind (a := (([] : List Int), false)) (Ev.bind (orGood_ev n l hl) (by rw [ho]; simp only [Bool.false_eq_true, if_false]; exact Ev.now _)) ?_
    refine Ev.bind (orGood_ev n l hl) ?_
    rw [ho]
    simp only [Bool.false_eq_true, if_false, Bool.false_and]
    exact Ev.now _
  | true =>
    have ho' := ho
    obtain ⟨n, rfl, o⟩ := isOrd_iff.1 ho
    obtain ⟨r, hr, e⟩ := sThreeOne_ev o.toRel
    refine Ev.bind (a := r) (Ev.bind (orGood_ev n l hl) (by rw [ho']; simp only [if_true]; exact hr)) ?_
    refine Ev.bind (orGood_ev n l hl) ?_
    rw [ho']
    simp only [if_true, Bool.true_and, Int.toNat_natCast]
    have e31 : no31 n l = true ↔ r.2 = false := no31_iff.trans e.symm
    cases hb : r.2 with
    | true =>
      simp only [if_true]
      refine Ev.to (Ev.now _) ?_
      cases h31 : no31 n l with
      | false => simp
      | true => rw [e31.1 h31] at hb; cases hb
    | false =>
      simp only [Bool.false_eq_true, if_false]
      rw [e31.2 hb, Bool.and_true]
      obtain ⟨t, ht, e2⟩ := seTwoTwo_ev o
      refine Ev.bind ht (Ev.to (Ev.now _) ?_)
      rw [Bool.eq_iff_iff, Bool.not_eq_true', no22_iff]
      exact e2
end Go.Proofs.YtfjpilcmjabikaaDoor.M
namespace Go.Proofs.YtfjpilcmjabikaaDoor.M
open Go.RowKit Go.Proofs.YtfjpilcmjabikaaDoorW.PrintMore Go.Proofs.YtfjpilcmjabikaaDoorW.PrintLast Go.Proofs.YtfjpilcmjabikaaDoorW.PrintWords Go.Proofs.YtfjpilcmjabikaaDoor.P
set_option maxRecDepth 4000
theorem Ev.scan {α β : Type} (G : Nat → Nat → Option α) (n : Nat) (f : Nat → Option β) (val : β → α) {T : α} (step : ∀ i T, i < n → Ev (G (i + 1)) T → Ev (G i) ((f i).elim T val)) (stop : Ev (G n) T) : Ev (G 0) (((List.range n).findSome? f).elim T val) := by
  have key : ∀ m, m ≤ n → Ev (G (n - m)) (((List.range' (n - m) m).findSome? f).elim T val) := by
    intro m
    induction m with
    | zero => intro _; exact stop
    | succ m ih =>
      intro hm
      have h := ih (by omega)
      rw [show n - m = n - (m + 1) + 1 by omega] at h
      have h2 := step (n - (m + 1)) _ (by omega) h
      rw [List.range'_succ, List.findSome?_cons]
      cases hf : f (n - (m + 1)) with
      | none => rw [hf] at h2; exact h2
      | some z => rw [hf] at h2; exact h2
  have := key n (Nat.le_refl _)
  rwa [Nat.sub_self, ← List.range_eq_range'] at this
def leaf31 (n : Nat) (l : List Int) (a b c : Nat) : Option (List Nat) := if near3 n l a b c = 0 then none else some [a, b, c, (elems n (near3 n l a b c)).getD 0 0]
def sc2 (n : Nat) (l : List Int) (a b : Nat) : Option (List Nat) := (List.range (elems n (row l b)).length).findSome? fun q => leaf31 n l a b ((elems n (row l b)).getD q 0)
def sc1 (n : Nat) (l : List Int) (a : Nat) : Option (List Nat) := (List.range (elems n (row l a)).length).findSome? fun q => sc2 n l a ((elems n (row l a)).getD q 0)
def first31 (n : Nat) (l : List Int) : Option (List Nat) := (List.range n).findSome? fun a => sc1 n l a
theorem threeOne_at {n : Nat} {l : List Int} (h : Rel n l) : Ev (fun k => Aaf.f k (n : Int) l) ((first31 n l).elim [] ints) := by
  have hn := h.le
  have hlen := h.len
  unfold Aaf.f
  refine Ev.bind (indifs_ev h) ?_
  refine Ev.scan (fun a k => Aaf.l0 k ((List.range n).map fun i => ((indif n l i : Nat) : Int)) (n : Int) (a : Int) (n : Int) l) n (fun a => sc1 n l a) ints ?_ ?_
  · intro a T ha next
    refine Ev.step (fun _ => rfl) ?_
    simp only [Aaf.l0, if_pos (show (a : Int) < (n : Int) by omega), if_pos (show (0 : Int) ≤ (a : Int) by omega), hlen, h.rd]
    refine Ev.bind (members_ev n (by omega) _ (h.row_lt a)) ?_
    have hE := elems_length_le n (row l a)
    rw [ints_length]
    refine Ev.scan (fun q k => Aaf.l1 k ((List.range n).map fun i => ((indif n l i : Nat) : Int)) (a : Int) (n : Int) (a : Int) (ints (elems n (row l a))) ((elems n (row l a)).length : Int) (q : Int) (n : Int) l) (elems n (row l a)).length (fun q => sc2 n l a ((elems n (row l a)).getD q 0)) ints ?_ ?_
    · intro q T hq next
      obtain ⟨hb, _⟩ := elems_getD hq
      refine Ev.step (fun _ => rfl) ?_
      simp only [Aaf.l1, if_pos (show (q : Int) < ((elems n (row l a)).length : Int) by omega), if_pos (show (0 : Int) ≤ (q : Int) by omega), ints_length, ints_rd _ _ hq]
      generalize (elems n (row l a)).getD q 0 = b at hb next ⊢
      simp only [if_pos (show (0 : Int) ≤ (b : Int) by omega), hlen, if_pos (show (b : Int) < (n : Int) by omega), h.rd]
      refine Ev.bind (members_ev n (by omega) _ (h.row_lt b)) ?_
      have hE' := elems_length_le n (row l b)
      rw [ints_length]
      refine Ev.scan (fun q' k => Aaf.l2 k ((List.range n).map fun i => ((indif n l i : Nat) : Int)) (a : Int) (b : Int) (n : Int) (a : Int) (ints (elems n (row l a))) ((elems n (row l a)).length : Int) (q : Int) (ints (elems n (row l b))) ((elems n (row l b)).length : Int) (q' : Int) (n : Int) l) (elems n (row l b)).length (fun q' => leaf31 n l a b ((elems n (row l b)).getD q' 0)) ints ?_ ?_
      · intro q' T hq' next
        obtain ⟨hc, _⟩ := elems_getD hq'
        refine Ev.step (fun _ => rfl) ?_
        simp only [Aaf.l2, if_pos (show (q' : Int) < ((elems n (row l b)).length : Int) by omega), if_pos (show (0 : Int) ≤ (q' : Int) by omega), ints_length, ints_rd _ _ hq', next64 q' _ hq' (by omega)]
        generalize (elems n (row l b)).getD q' 0 = c at hc next ⊢
        simp only [List.length_map, List.length_range, if_pos (show (0 : Int) ≤ (a : Int) by omega), if_pos (show (a : Int) < (n : Int) by omega), if_pos (show (0 : Int) ≤ (b : Int) by omega), if_pos (show (b : Int) < (n : Int) by omega), if_pos (show (0 : Int) ≤ (c : Int) by omega), if_pos (show (c : Int) < (n : Int) by omega), nears_rd _ ha, nears_rd _ hb, nears_rd _ hc, near3_i64 hn]
        by_cases h0 : near3 n l a b c = 0
        · simp only [if_pos (show ((near3 n l a b c : Nat) : Int) = 0 by omega)]
          rw [show leaf31 n l a b c = none from by unfold leaf31; rw [if_pos h0]]
          exact next
        · simp only [if_neg (show ¬ ((near3 n l a b c : Nat) : Int) = 0 by omega)]
          refine Ev.bind (members_ev n (by omega) _ (near3_lt n l a b c)) ?_
          have hp := elems_pos (near3_lt n l a b c) h0
          simp only [ints_length, if_pos (show (0 : Int) < ((elems n (near3 n l a b c)).length : Int) by omega)]
          rw [show leaf31 n l a b c = some [a, b, c, (elems n (near3 n l a b c)).getD 0 0] from by unfold leaf31; rw [if_neg h0], show rd (ints (elems n (near3 n l a b c))) 0 = (((elems n (near3 n l a b c)).getD 0 0 : Nat) : Int) from ints_rd _ 0 hp]
          exact Ev.to (Ev.now _) rfl
      · refine Ev.step (fun _ => rfl) ?_
        simp only [Aaf.l2, if_neg (show ¬ ((elems n (row l b)).length : Int) < ((elems n (row l b)).length : Int) by omega), next64 q _ hq (by omega)]
        exact next
    · refine Ev.step (fun _ => rfl) ?_
      simp only [Aaf.l1, if_neg (show ¬ ((elems n (row l a)).length : Int) < ((elems n (row l a)).length : Int) by omega), next64 a n ha (by omega)]
      exact next
  · refine Ev.step (fun _ => rfl) ?_
    simp only [Aaf.l0, if_neg (show ¬ (n : Int) < (n : Int) by omega)]
    exact Ev.now _
theorem sThreeOne_at {n : Nat} {l : List Int} (h : Rel n l) : Ev (fun k => Aae.l0 k 0 (n : Int) l) ((first31 n l).elim ([], false) fun z => (ints z, true)) := by
  have hn := h.le
  have hlen := h.len
  refine Ev.scan (fun a k => Aae.l0 k (a : Int) (n : Int) l) n (fun a => sc1 n l a) (fun z => (ints z, true)) ?_ ?_
  · intro a T ha next
    refine Ev.step (fun _ => rfl) ?_
    simp only [Aae.l0, if_pos (show (a : Int) < (n : Int) by omega), if_pos (show (0 : Int) ≤ (a : Int) by omega), hlen, h.rd]
    refine Ev.bind (orList_ev n (by omega) _ (h.row_lt a)) ?_
    have hE := elems_length_le n (row l a)
    rw [ints_length]
    refine Ev.scan (fun q k => Aae.l1 k (a : Int) (ints (elems n (row l a))) ((elems n (row l a)).length : Int) (q : Int) (n : Int) l) (elems n (row l a)).length (fun q => sc2 n l a ((elems n (row l a)).getD q 0)) (fun z => (ints z, true)) ?_ ?_
    · intro q T hq next
      obtain ⟨hb, _⟩ := elems_getD hq
      refine Ev.step (fun _ => rfl) ?_
      simp only [Aae.l1, if_pos (show (q : Int) < ((elems n (row l a)).length : Int) by omega), if_pos (show (0 : Int) ≤ (q : Int) by omega), ints_length, ints_rd _ _ hq]
      generalize (elems n (row l a)).getD q 0 = b at hb next ⊢
      simp only [if_pos (show (0 : Int) ≤ (b : Int) by omega), hlen, if_pos (show (b : Int) < (n : Int) by omega), h.rd]
      refine Ev.bind (orList_ev n (by omega) _ (h.row_lt b)) ?_
      have hE' := elems_length_le n (row l b)
      rw [ints_length]
      refine Ev.scan (fun q' k => Aae.l2 k (a : Int) (b : Int) (ints (elems n (row l a))) ((elems n (row l a)).length : Int) (q : Int) (ints (elems n (row l b))) ((elems n (row l b)).length : Int) (q' : Int) (n : Int) l) (elems n (row l b)).length (fun q' => leaf31 n l a b ((elems n (row l b)).getD q' 0)) (fun z => (ints z, true)) ?_ ?_
      · intro q' T hq' next
        obtain ⟨hc, _⟩ := elems_getD hq'
        refine Ev.step (fun _ => rfl) ?_
        simp only [Aae.l2, if_pos (show (q' : Int) < ((elems n (row l b)).length : Int) by omega), if_pos (show (0 : Int) ≤ (q' : Int) by omega), ints_length, ints_rd _ _ hq']
        generalize (elems n (row l b)).getD q' 0 = c at hc next ⊢
        refine Ev.bind (orFree_ev h a ha) ?_
        refine Ev.bind (orFree_ev h b hb) ?_
        refine Ev.bind (orFree_ev h c hc) ?_
        simp only [near3_i64 hn]
        refine Ev.bind (orList_ev n (by omega) _ (near3_lt n l a b c)) ?_
        by_cases h0 : near3 n l a b c = 0
        · rw [show leaf31 n l a b c = none from by unfold leaf31; rw [if_pos h0]]
          rw [h0, elems_zero]
          refine Ev.step (fun _ => rfl) ?_
          simp only [Aae.l3, ints, List.map_nil, List.length_nil, if_neg (show ¬ (0 : Int) < ((0 : Nat) : Int) by omega), next64 q' _ hq' (by omega)]
          exact next
        · have hp := elems_pos (near3_lt n l a b c) h0
          rw [show leaf31 n l a b c = some [a, b, c, (elems n (near3 n l a b c)).getD 0 0] from by unfold leaf31; rw [if_neg h0]]
          refine Ev.step (fun _ => rfl) ?_
          rw [ints_length]
          simp only [Aae.l3, ints_length, if_pos (show (0 : Int) < ((elems n (near3 n l a b c)).length : Int) by omega), if_pos (show (0 : Int) ≤ 0 by omega)]
          rw [show rd (ints (elems n (near3 n l a b c))) 0 = (((elems n (near3 n l a b c)).getD 0 0 : Nat) : Int) from ints_rd _ 0 hp]
          exact Ev.to (Ev.now _) rfl
      · refine Ev.step (fun _ => rfl) ?_
        simp only [Aae.l2, if_neg (show ¬ ((elems n (row l b)).length : Int) < ((elems n (row l b)).length : Int) by omega), next64 q _ hq (by omega)]
        exact next
    · refine Ev.step (fun _ => rfl) ?_
      simp only [Aae.l1, if_neg (show ¬ ((elems n (row l a)).length : Int) < ((elems n (row l a)).length : Int) by omega), next64 a n ha (by omega)]
      exact next
  · refine Ev.step (fun _ => rfl) ?_
    simp only [Aae.l0, if_neg (show ¬ (n : Int) < (n : Int) by omega)]
    exact Ev.now _
theorem first31_some {n : Nat} {l : List Int} {z : List Nat} (hf : first31 n l = some z) : ∃ a b c d, z = [a, b, c, d] ∧ a < n ∧ b < n ∧ c < n ∧ d < n ∧ B l a b = true ∧ B l b c = true ∧ free l a d = true ∧ free l b d = true ∧ free l c d = true := by
  unfold first31 at hf
  obtain ⟨a, ha, hf⟩ := List.exists_of_findSome?_eq_some hf
  unfold sc1 at hf
  obtain ⟨q, hq, hf⟩ := List.exists_of_findSome?_eq_some hf
  unfold sc2 at hf
  obtain ⟨q', hq', hf⟩ := List.exists_of_findSome?_eq_some hf
  have ha := List.mem_range.1 ha
  obtain ⟨hb, hab⟩ := elems_getD (List.mem_range.1 hq)
  obtain ⟨hc, hbc⟩ := elems_getD (List.mem_range.1 hq')
  generalize (elems n (row l a)).getD q 0 = b at hb hab hc hbc hf hq'
  generalize (elems n (row l b)).getD q' 0 = c at hc hbc hf
  unfold leaf31 at hf
  split at hf
  · cases hf
  · rename_i h0
    injection hf with hf
    obtain ⟨hd, hbit⟩ := elems_getD (elems_pos (near3_lt n l a b c) h0)
    generalize (elems n (near3 n l a b c)).getD 0 0 = d at hd hbit hf
    unfold near3 at hbit
    rw [Nat.testBit_and, Nat.testBit_and, indif_bit, indif_bit, indif_bit] at hbit
    simp only [Bool.and_eq_true, decide_eq_true_eq] at hbit
    exact ⟨a, b, c, d, hf.symm, ha, hb, hc, hd, hab, hbc, hbit.1.1.2, hbit.1.2.2, hbit.2.2⟩
def threeOf (n : Int) (l : List Int) : List Int × Bool := if isOrd n l then ((first31 n.toNat l).elim [] ints, (first31 n.toNat l).isSome) else ([], false)
theorem ThreeOneOf_ev (n : Int) (l : List Int) (hl : l.length ≤ 140737488355328) : Ev (fun k => Aax.f k n l) (threeOf n l) := by
  unfold Aax.f threeOf
  refine Ev.bind (IsOrder_ev n l hl) ?_
  cases ho : isOrd n l with
  | false => simp only [Bool.false_eq_true, if_false]; exact Ev.now _
  | true =>
    obtain ⟨n, rfl, o⟩ := isOrd_iff.1 ho
    simp only [if_true, Int.toNat_natCast]
    refine Ev.bind (threeOne_at o.toRel) (Ev.to (Ev.now _) ?_)
    cases hf : first31 n l with
    | none => rfl
    | some z =>
      obtain ⟨a, b, c, d, rfl, _⟩ := first31_some hf
      rfl
theorem sThreeOneOf_ev (n : Int) (l : List Int) (hl : l.length ≤ 140737488355328) : Ev (fun k => Aae.f k n l) (threeOf n l) := by
  unfold Aae.f threeOf
  refine Ev.bind (orGood_ev n l hl) ?_
  cases ho : isOrd n l with
  | false => simp only [Bool.false_eq_true, if_false]; exact Ev.now _
  | true =>
    obtain ⟨n, rfl, o⟩ := isOrd_iff.1 ho
    simp only [if_true, Int.toNat_natCast]
    refine Ev.to (sThreeOne_at o.toRel) ?_
    cases first31 n l <;> rfl
end Go.Proofs.YtfjpilcmjabikaaDoor.M
namespace Go.Proofs.YtfjpilcmjabikaaDoor.M
open Go.RowKit Go.Proofs.YtfjpilcmjabikaaDoorW.PrintMore Go.Proofs.YtfjpilcmjabikaaDoorW.PrintLast Go.Proofs.YtfjpilcmjabikaaDoorW.PrintWords Go.Proofs.YtfjpilcmjabikaaDoor.P
set_option maxRecDepth 4000
def demR (x : Option Int) : Int × Bool := match x with
  | some w => (w, true)
  | none => (0, false)
theorem demand_eq {n : Nat} {l : List Int} (h : Rel n l) (t i j : Nat) (hi : i < n) (hj : j < n) (ht : t ≤ 10) : Abp.f (n : Int) l (t : Int) (i : Int) (j : Int) = some (demR (dem l t i j)) := by
  have hn := h.le
  unfold Abp.f dem free
  rw [better_eq h _ _ _ hi (show j ≤ 62 by omega)]
  simp only [Option.bind_some]
  cases h1 : B l i j with
  | true => simp [demR]
  | false =>
    simp only [Bool.false_eq_true, if_false, Bool.not_false, Bool.true_and]
    by_cases e : i = j
    · subst e; simp [demR]
    · rw [if_neg (show ¬ (i : Int) = (j : Int) by omega), better_eq h _ _ _ hj (show i ≤ 62 by omega), wrap64_in (1 - (t : Int)) (by omega) (by omega)]
      simp only [Option.bind_some]
      cases h2 : B l j i <;> simp [demR, Ne.symm e]
theorem seDemand_ev {n : Nat} {l : List Int} (h : Rel n l) (t i j : Nat) (hi : i < n) (hj : j < n) (ht : t ≤ 10) : Ev (fun k => Abk.f k (n : Int) l (t : Int) (i : Int) (j : Int)) (demR (dem l t i j)) := by
  have hn := h.le
  have hlen := h.len
  unfold Abk.f dem
  simp only [if_pos (show (0 : Int) ≤ (i : Int) by omega), hlen, if_pos (show (i : Int) < (n : Int) by omega), h.rd]
  rw [orHas_eq _ _ (by omega)]
  simp only [Option.bind_some]
  rw [show (row l i).testBit j = B l i j from rfl]
  cases h1 : B l i j with
  | true => simp only [if_true]; exact Ev.now _
  | false =>
    simp only [Bool.false_eq_true, if_false]
    refine Ev.bind (seIndifferent_ev h i j hi hj) ?_
    rw [wrap64_in (1 - (t : Int)) (by omega) (by omega)]
    cases free l i j with
    | true => simp only [if_true]; exact Ev.now _
    | false => simp only [Bool.false_eq_true, if_false]; exact Ev.now _
def fix (n : Nat) (l : List Int) (t : Nat) : Bool := decide (itr n l t (n + 1) = itr n l t n)
theorem fix_iff {n : Nat} {l : List Int} {t : Nat} : fix n l t = true ↔ ∃ q, Fits n l t q := by
  unfold fix
  rw [decide_eq_true_iff]
  exact ⟨fun h => ⟨_, fix_fits h⟩, rounds_end⟩
theorem itr_stays {n : Nat} {l : List Int} {t r : Nat} (h : itr n l t (r + 1) = itr n l t r) (d : Nat) : itr n l t (r + d) = itr n l t r := by
  induction d with
  | zero => rfl
  | succ d ih =>
    show rnd n l t n (itr n l t (r + d)) = _
    rw [ih]
    exact h
theorem itr_fixed {n : Nat} {l : List Int} {t r : Nat} (hr : r ≤ n) (h : itr n l t (r + 1) = itr n l t r) : fix n l t = true ∧ itr n l t (r + 1) = itr n l t n := by
  have h1 := itr_stays h (n - r)
  have h2 := itr_stays h (n + 1 - r)
  rw [show r + (n - r) = n by omega] at h1
  rw [show r + (n + 1 - r) = n + 1 by omega] at h2
  exact ⟨by unfold fix; rw [decide_eq_true_iff, h1, h2], by rw [h, h1]⟩
theorem stp_yes {l : List Int} {t j i : Nat} {p : List Int} {w : Int} (hd : dem l t i j = some w) (h : p.getD j 0 < p.getD i 0 + w) : stp l t j i p = p.set j (p.getD i 0 + w) := by unfold stp; rw [hd]; simp only [if_pos h]
theorem stp_no {l : List Int} {t j i : Nat} {p : List Int} {w : Int} (hd : dem l t i j = some w) (h : ¬ p.getD j 0 < p.getD i 0 + w) : stp l t j i p = p := by unfold stp; rw [hd]; simp only [if_neg h]
theorem stp_none {l : List Int} {t j i : Nat} {p : List Int} (hd : dem l t i j = none) : stp l t j i p = p := by unfold stp; rw [hd]
theorem set_above {p p0 : List Int} {j : Nat} (hj : j < p.length) (h0 : p0.getD j 0 ≤ p.getD j 0) {x : Int} (h : p.getD j 0 < x) : p.set j x ≠ p0 := by
  intro e
  have : (p.set j x).getD j 0 = p0.getD j 0 := congrArg (fun q => q.getD j 0) e
  rw [set_at p j j x hj, if_pos rfl] at this
  omega
section
variable {n : Nat} {l : List Int} {t : Nat}
theorem mid_bounds (o : Ord n l) (ht : 0 < t) (ht10 : t ≤ 10) (r j i : Nat) (hr : r ≤ n) (hj : j < n) (hi : i ≤ n) (k : Nat) (hk : k < n) : (itr n l t r).getD k 0 ≤ (rowR l t j i (rnd n l t j (itr n l t r))).getD k 0 ∧ 0 ≤ (rowR l t j i (rnd n l t j (itr n l t r))).getD k 0 ∧ (rowR l t j i (rnd n l t j (itr n l t r))).getD k 0 ≤ 2000 := by
  have hn := o.le
  have hl : (rnd n l t j (itr n l t r)).length = n := by rw [rnd_len, itr_len]
  have h0 := itr_nonneg (n := n) (l := l) (t := t) r k hk
  have h1 := rnd_le (n := n) (l := l) (t := t) j (itr n l t r) (by rw [itr_len]; omega) k
  have h2 := rowR_le (l := l) (t := t) j i (rnd n l t j (itr n l t r)) (by rw [hl]; omega) k
  have h3 := itr_bound (n := n) (l := l) (t := t) o ht r
  have h4 := rnd_bound (n := n) (l := l) (t := t) o ht j (itr n l t r) (by rw [itr_len]; omega) _ h3
  have h5 := rowR_bound (n := n) (l := l) (t := t) o ht j i (rnd n l t j (itr n l t r)) (by rw [hl]; omega) _ h4 k
  have h6 : r * (n * t) ≤ 10 * (10 * 10) := Nat.mul_le_mul (by omega) (Nat.mul_le_mul hn ht10)
  have h7 : j * t ≤ 10 * 10 := Nat.mul_le_mul (by omega) ht10
  have h8 : ((r * (n * t) : Nat) : Int) ≤ 1000 := by omega
  have h9 : (j : Int) * (t : Int) ≤ 100 := by
    have : ((j * t : Nat) : Int) ≤ 100 := by omega
    rwa [Int.natCast_mul] at this
  omega
theorem lift_tot (o : Ord n l) (ht : 0 < t) (ht10 : t ≤ 10) : Tot (fun k => Aad.f k (n : Int) l (t : Int)) (fun r => (fix n l t = true → r.1 = itr n l t n) ∧ (fix n l t = false → r.1 = [] ∧ n ≠ 0)) := by
  have h := o.toRel
  have hn := h.le
  have hlen := h.len
  unfold Aad.f
  simp only [if_pos (show (0 : Int) ≤ (n : Int) by omega), Int.toNat_natCast, if_pos (show n ≤ 35184372088832 by omega), show wrap64 ((n : Int) + 1) = ((n + 1 : Nat) : Int) from by unfold wrap64; omega]
  refine Tot.up (S := List Int × Int) (fun r s k => Aad.l0 k (t : Int) (itr n l t r) s.1 s.2 ((n + 1 : Nat) : Int) (r : Int) (n : Int) l) (n + 1) (fun r s => s.1.length = n ∧ (0 < r → itr n l t r ≠ itr n l t (r - 1))) ?_ ?_ 0 (by omega) (List.replicate n 0, 0) ⟨by simp, by omega⟩
  · rintro r ⟨z, b⟩ hr ⟨hz, hch⟩ next
    simp only at hz
    refine Tot.step (fun _ => rfl) ?_
    simp only [Aad.l0, if_pos (show (r : Int) < ((n + 1 : Nat) : Int) by omega)]
    have e0 : decide (rnd n l t 0 (itr n l t r) ≠ itr n l t r) = false := by simp [rnd]
    suffices H : Tot (fun k => Aad.l1 k (t : Int) (rnd n l t 0 (itr n l t r)) z b (decide (rnd n l t 0 (itr n l t r) ≠ itr n l t r)) ((n + 1 : Nat) : Int) (r : Int) (n : Int) 0 (n : Int) l) (fun r => (fix n l t = true → r.1 = itr n l t n) ∧ (fix n l t = false → r.1 = [] ∧ n ≠ 0)) by
      rw [e0] at H
      exact H
    refine Tot.up (S := List Int × Int) (fun j s k => Aad.l1 k (t : Int) (rnd n l t j (itr n l t r)) s.1 s.2 (decide (rnd n l t j (itr n l t r) ≠ itr n l t r)) ((n + 1 : Nat) : Int) (r : Int) (n : Int) (j : Int) (n : Int) l) n (fun _ s => s.1.length = n) ?_ ?_ 0 (by omega) (z, b) hz
    · rintro j ⟨z, b⟩ hj hz next
      simp only at hz
      refine Tot.step (fun _ => rfl) ?_
      simp only [Aad.l1, if_pos (show (j : Int) < (n : Int) by omega)]
      refine Tot.up (S := List Int × Int) (fun i s k => Aad.l2 k (t : Int) (rowR l t j i (rnd n l t j (itr n l t r))) s.1 s.2 (decide (rowR l t j i (rnd n l t j (itr n l t r)) ≠ itr n l t r)) (j : Int) ((n + 1 : Nat) : Int) (r : Int) (n : Int) (j : Int) (n : Int) (i : Int) (n : Int) l) n (fun _ s => s.1.length = n) ?_ ?_ 0 (by omega) (z, b) hz
      · rintro i ⟨z, b⟩ hi hz next
        simp only at hz
        have next := fun s' hs' => next s' hs'
        refine Tot.step (fun _ => rfl) ?_
        have hpl : (rowR l t j i (rnd n l t j (itr n l t r))).length = n := by rw [rowR_len, rnd_len, itr_len]
        have b1 := mid_bounds o ht ht10 r j i (by omega) hj (by omega) i hi
        have b2 := mid_bounds o ht ht10 r j i (by omega) hj (by omega) j hj
        simp only [show rowR l t j (i + 1) (rnd n l t j (itr n l t r)) = stp l t j i (rowR l t j i (rnd n l t j (itr n l t r))) from rfl] at next
        generalize rowR l t j i (rnd n l t j (itr n l t r)) = p at hpl b1 b2 next ⊢
        simp only [Aad.l2, if_pos (show (i : Int) < (n : Int) by omega), demand_eq h t i j hi hj ht10, Option.bind_some, next64 i n hi (by omega)]
        cases hd : dem l t i j with
        | none =>
          simp only [demR, Bool.false_eq_true, if_false]
          have := next (z, b) hz
          rw [stp_none hd] at this
          exact this
        | some w =>
          have hw : w ≤ t := dem_le ht hd
          have hw2 : -10 ≤ w := by
            unfold dem at hd
            split at hd
            · injection hd with hd; omega
            · split at hd
              · injection hd with hd; omega
              · cases hd
          simp only [demR, if_true, if_pos (show (0 : Int) ≤ (j : Int) by omega), hpl, if_pos (show (j : Int) < (n : Int) by omega), if_pos (show (0 : Int) ≤ (i : Int) by omega), if_pos (show (i : Int) < (n : Int) by omega), rd_nat, hz, Int.toNat_natCast]
          rw [wrap64_in (p.getD i 0 + w) (by omega) (by omega)]
          by_cases hlt : p.getD j 0 < p.getD i 0 + w
          · simp only [if_pos hlt]
            have := next (z.set j (i : Int), (j : Int)) (by simpa using hz)
            rw [stp_yes hd hlt, decide_eq_true (set_above (by omega) b2.1 hlt)] at this
            exact this
          · simp only [if_neg hlt]
            have := next (z, b) hz
            rw [stp_no hd hlt] at this
            exact this
      · rintro ⟨z, b⟩ hz
        refine Tot.step (fun _ => rfl) ?_
        simp only [Aad.l2, if_neg (show ¬ (n : Int) < (n : Int) by omega), next64 j n hj (by omega)]
        exact next (z, b) hz
    · rintro ⟨z, b⟩ hz
      simp only at hz
      refine Tot.step (fun _ => rfl) ?_
      simp only [Aad.l1, if_neg (show ¬ (n : Int) < (n : Int) by omega), next64 r (n + 1) hr (by omega)]
      rw [show rnd n l t n (itr n l t r) = itr n l t (r + 1) from rfl]
      by_cases hc : itr n l t (r + 1) = itr n l t r
      · simp only [decide_eq_false (show ¬ itr n l t (r + 1) ≠ itr n l t r from fun q => q hc), Bool.false_eq_true, if_false]
        obtain ⟨hf, he⟩ := itr_fixed (by omega) hc
        have hnil : (itr n l t (r + 1) != ([] : List Int) || (n : Int) == 0) = true := by
          have hl := itr_len (n := n) (l := l) (t := t) (r + 1)
          cases hx : itr n l t (r + 1) with
          | nil =>
            rw [hx] at hl
            simp only [List.length_nil] at hl
            subst hl
            rfl
          | cons a m => rfl
        simp only [if_pos hnil]
        exact Tot.now ⟨fun _ => he, fun q => by rw [hf] at q; cases q⟩
      · simp only [decide_eq_true (show itr n l t (r + 1) ≠ itr n l t r from hc), if_true]
        exact next (z, b) ⟨hz, fun _ => by simpa using hc⟩
  · rintro ⟨z, b⟩ ⟨hz, hch⟩
    have hch := hch (by omega)
    simp only [Nat.add_sub_cancel] at hch
    have hf : fix n l t = false := by unfold fix; rw [decide_eq_false_iff_not]; exact hch
    have h0 : n ≠ 0 := by
      rintro rfl
      exact hch rfl
    refine Tot.step (fun _ => rfl) ?_
    simp only [Aad.l0, if_neg (show ¬ ((n + 1 : Nat) : Int) < ((n + 1 : Nat) : Int) by omega), if_neg (show ¬ (n : Int) = 0 by omega)]
    exact Tot.now ⟨fun q => (by rw [hf] at q; cases q), fun _ => ⟨rfl, h0⟩⟩
theorem rounds_tot (o : Ord n l) (ht : 0 < t) (ht10 : t ≤ 10) : Tot (fun k => Aao.f k (n : Int) l (t : Int)) (fun r => (fix n l t = true → r.2.2 < 0) ∧ (fix n l t = false → ¬ r.2.2 < 0)) := by
  have h := o.toRel
  have hn := h.le
  have hlen := h.len
  unfold Aao.f
  simp only [if_pos (show (0 : Int) ≤ (n : Int) by omega), Int.toNat_natCast, if_pos (show n ≤ 35184372088832 by omega)]
  refine Tot.up (S := List Int × Int) (fun r s k => Aao.l0 k (t : Int) (itr n l t r) s.1 s.2 (r : Int) (n : Int) l) (n + 1) (fun r s => s.1.length = n ∧ (0 < r → itr n l t r ≠ itr n l t (r - 1) ∧ ¬ s.2 < 0)) ?_ ?_ 0 (by omega) (List.replicate n 0, -1) ⟨by simp, by omega⟩
  · rintro r ⟨z, b⟩ hr ⟨hz, hch⟩ next
    simp only at hz
    refine Tot.step (fun _ => rfl) ?_
    simp only [Aao.l0, if_pos (show (r : Int) ≤ (n : Int) by omega), itr_len]
    refine Tot.up (S := List Int × Int) (fun j s k => Aao.l1 k (t : Int) (rnd n l t j (itr n l t r)) s.1 s.2 (r : Int) (n : Int) (j : Int) (n : Int) l) n (fun j s => s.1.length = n ∧ decide (s.2 < 0) = decide (rnd n l t j (itr n l t r) = itr n l t r)) ?_ ?_ 0 (by omega) (z, -1) ⟨hz, by simp [rnd]⟩
    · rintro j ⟨z, b⟩ hj ⟨hz, hb⟩ next
      simp only at hz hb
      refine Tot.step (fun _ => rfl) ?_
      simp only [Aao.l1, if_pos (show (j : Int) < (n : Int) by omega), rnd_len, itr_len]
      refine Tot.up (S := List Int × Int) (fun i s k => Aao.l2 k (t : Int) (rowR l t j i (rnd n l t j (itr n l t r))) s.1 s.2 (r : Int) (j : Int) (n : Int) (j : Int) (n : Int) (i : Int) (n : Int) l) n (fun i s => s.1.length = n ∧ decide (s.2 < 0) = decide (rowR l t j i (rnd n l t j (itr n l t r)) = itr n l t r)) ?_ ?_ 0 (by omega) (z, b) ⟨hz, hb⟩
      · rintro i ⟨z, b⟩ hi ⟨hz, hb⟩ next
        simp only at hz hb
        refine Tot.step (fun _ => rfl) ?_
        have hpl : (rowR l t j i (rnd n l t j (itr n l t r))).length = n := by rw [rowR_len, rnd_len, itr_len]
        have b1 := mid_bounds o ht ht10 r j i (by omega) hj (by omega) i hi
        have b2 := mid_bounds o ht ht10 r j i (by omega) hj (by omega) j hj
        simp only [show rowR l t j (i + 1) (rnd n l t j (itr n l t r)) = stp l t j i (rowR l t j i (rnd n l t j (itr n l t r))) from rfl] at next
        generalize rowR l t j i (rnd n l t j (itr n l t r)) = p at hpl b1 b2 hb next ⊢
        simp only [Aao.l2, if_pos (show (i : Int) < (n : Int) by omega), next64 i n hi (by omega)]
        refine Tot.ebind (seDemand_ev h t i j hi hj ht10) ?_
        cases hd : dem l t i j with
        | none =>
          simp only [demR, Bool.false_eq_true, if_false]
          have := next (z, b) ⟨hz, by rw [stp_none hd]; exact hb⟩
          rw [stp_none hd] at this
          exact this
        | some w =>
          have hw : w ≤ t := dem_le ht hd
          have hw2 : -10 ≤ w := by
            unfold dem at hd
            split at hd
            · injection hd with hd; omega
            · split at hd
              · injection hd with hd; omega
              · cases hd
          simp only [demR, if_true, if_pos (show (0 : Int) ≤ (j : Int) by omega), hpl, if_pos (show (j : Int) < (n : Int) by omega), if_pos (show (0 : Int) ≤ (i : Int) by omega), if_pos (show (i : Int) < (n : Int) by omega), rd_nat, hz, Int.toNat_natCast]
          rw [wrap64_in (p.getD i 0 + w) (by omega) (by omega)]
          by_cases hlt : p.getD j 0 < p.getD i 0 + w
          · simp only [if_pos hlt]
            have := next (z.set j (i : Int), (j : Int)) ⟨by simpa using hz, by
              rw [stp_yes hd hlt, decide_eq_false (set_above (by omega) b2.1 hlt)]
              exact decide_eq_false (by simp only; omega)⟩
            rw [stp_yes hd hlt] at this
            exact this
          · simp only [if_neg hlt]
            have := next (z, b) ⟨hz, by rw [stp_no hd hlt]; exact hb⟩
            rw [stp_no hd hlt] at this
            exact this
      · rintro ⟨z, b⟩ ⟨hz, hb⟩
        refine Tot.step (fun _ => rfl) ?_
        simp only [Aao.l2, if_neg (show ¬ (n : Int) < (n : Int) by omega), next64 j n hj (by omega)]
        exact next (z, b) ⟨hz, hb⟩
    · rintro ⟨z, b⟩ ⟨hz, hb⟩
      simp only at hz hb
      refine Tot.step (fun _ => rfl) ?_
      simp only [Aao.l1, if_neg (show ¬ (n : Int) < (n : Int) by omega), next64 r (n + 1) hr (by omega)]
      rw [show rnd n l t n (itr n l t r) = itr n l t (r + 1) from rfl] at hb ⊢
      by_cases hc : itr n l t (r + 1) = itr n l t r
      · rw [decide_eq_true hc] at hb
        have hb := of_decide_eq_true hb
        simp only [if_pos hb]
        obtain ⟨hf, he⟩ := itr_fixed (by omega) hc
        exact Tot.now ⟨fun _ => hb, fun q => by rw [hf] at q; cases q⟩
      · rw [decide_eq_false hc] at hb
        have hb := of_decide_eq_false hb
        simp only [if_neg hb]
        exact next (z, b) ⟨hz, fun _ => ⟨by simpa using hc, hb⟩⟩
  · rintro ⟨z, b⟩ ⟨hz, hch⟩
    obtain ⟨hch, hb⟩ := hch (by omega)
    simp only [Nat.add_sub_cancel] at hch hb
    have hf : fix n l t = false := by unfold fix; rw [decide_eq_false_iff_not]; exact hch
    refine Tot.step (fun _ => rfl) ?_
    simp only [Aao.l0, if_neg (show ¬ ((n + 1 : Nat) : Int) ≤ (n : Int) by omega)]
    exact Tot.now ⟨fun q => (by rw [hf] at q; cases q), fun _ => hb⟩
end
end Go.Proofs.YtfjpilcmjabikaaDoor.M
namespace Go.Proofs.YtfjpilcmjabikaaDoor.M
open Go.RowKit Go.Proofs.YtfjpilcmjabikaaDoorW.PrintMore Go.Proofs.YtfjpilcmjabikaaDoorW.PrintLast Go.Proofs.YtfjpilcmjabikaaDoorW.PrintWords Go.Proofs.YtfjpilcmjabikaaDoor.P
set_option maxRecDepth 4000
theorem vSame_ev (l l' : List Int) (hl : l.length ≤ 140737488355328) : Ev (fun k => Abg.f k l l') (decide (l = l')) := by
  unfold Abg.f
  by_cases h : (l.length : Int) = (l'.length : Int)
  · simp only [if_pos h]
    refine Ev.to (Ev.all (fun i k => Abg.l0 k l l' (l.length : Int) (i : Int)) l.length (fun i => decide (l.getD i 0 = l'.getD i 0)) ?_ ?_ ?_) ?_
    · intro i r hi hp next
      refine Ev.step (fun _ => rfl) ?_
      simp only [Abg.l0, if_pos (show (i : Int) < (l.length : Int) by omega), if_pos (show (0 : Int) ≤ (i : Int) by omega), if_pos (show (i : Int) < (l'.length : Int) by omega), rd_nat, if_pos (of_decide_eq_true hp), next64 i l.length hi (by omega)]
      exact next
    · intro i hi hp
      refine Ev.step (fun _ => rfl) ?_
      simp only [Abg.l0, if_pos (show (i : Int) < (l.length : Int) by omega), if_pos (show (0 : Int) ≤ (i : Int) by omega), if_pos (show (i : Int) < (l'.length : Int) by omega), rd_nat, if_neg (of_decide_eq_false hp)]
      exact Ev.now _
    · refine Ev.step (fun _ => rfl) ?_
      simp only [Abg.l0, if_neg (show ¬ (l.length : Int) < (l.length : Int) by omega)]
      exact Ev.now _
    · rw [Bool.eq_iff_iff, allB_iff, decide_eq_true_iff]
      constructor
      · intro H
        exact list_ext_getD (by omega) fun i hi => of_decide_eq_true (H i hi)
      · rintro rfl i _
        simp
  · simp only [if_neg h]
    refine Ev.to (Ev.now _) ?_
    symm
    rw [decide_eq_false_iff_not]
    rintro rfl
    exact h rfl
end Go.Proofs.YtfjpilcmjabikaaDoor.M
namespace Go.Proofs.YtfjpilcmjabikaaDoor.M
open Go.RowKit Go.Proofs.YtfjpilcmjabikaaDoorW.PrintMore Go.Proofs.YtfjpilcmjabikaaDoorW.PrintLast Go.Proofs.YtfjpilcmjabikaaDoorW.PrintWords Go.Proofs.YtfjpilcmjabikaaDoor.P
set_option maxRecDepth 4000
def plP (t : Int) (z : List Int) (i j : Nat) : Bool := decide (z.getD j 0 - z.getD i 0 ≥ t)
def plR (t : Int) (z : List Int) : List Int := relL z.length (plP t z)
def plOk (t : Int) (z : List Int) : Bool := decide (1 ≤ t ∧ t ≤ 10) && (decide (z.length ≤ 10) && allIn z 0 1000)
structure Places (t : Int) (z : List Int) : Prop where
  t1 : 1 ≤ t
  t2 : t ≤ 10
  len : z.length ≤ 10
  mem : ∀ i, 0 ≤ z.getD i 0 ∧ z.getD i 0 ≤ 1000
theorem plOk_iff {t : Int} {z : List Int} : plOk t z = true ↔ Places t z := by
  unfold plOk allIn
  simp only [Bool.and_eq_true, decide_eq_true_iff]
  constructor
  · rintro ⟨⟨h1, h2⟩, h3, h4⟩
    refine ⟨h1, h2, h3, fun i => ?_⟩
    by_cases hi : i < z.length
    · have := h4 z[i] (List.getElem_mem hi)
      simpa [hi] using this
    · simp [Nat.not_lt.1 hi]
  · intro h
    refine ⟨⟨h.t1, h.t2⟩, h.len, fun x hx => ?_⟩
    obtain ⟨i, hi, rfl⟩ := List.getElem_of_mem hx
    have := h.mem i
    simpa [hi] using this
theorem placed_ev {t : Int} {z : List Int} (hl : z.length ≤ 62) (hz : ∀ i, 0 ≤ z.getD i 0 ∧ z.getD i 0 ≤ 1000) : Ev (fun k => Ab3.f k t z) ((z.length : Int), plR t z) := by
  unfold Ab3.f
  refine Ev.bind (relation_ev z.length hl (fun _ x y => Abx.f x y z t) (plP t z) ?_) (Ev.now _)
  intro i j hi hj
  refine Ev.const ?_
  unfold Abx.f
  have h1 := hz i
  have h2 := hz j
  rw [if_pos (by omega), if_pos (by omega), if_pos (by omega), if_pos (by omega), rd_nat, rd_nat, wrap64_in _ (by omega) (by omega)]
  rfl
theorem sOrderOfPlaces_ev (t : Int) (z : List Int) (hl : z.length ≤ 140737488355328) : Ev (fun k => Aah.f k t z) (if plOk t z then ((z.length : Int), plR t z, true) else (0, [], false)) := by
  have no : plOk t z = false → Ev (fun k => Aah.j0 k t z true) (if plOk t z then ((z.length : Int), plR t z, true) else (0, [], false)) := by
    intro h
    refine Ev.step (fun _ => rfl) ?_
    simp only [Aah.j0, if_true, h, Bool.false_eq_true, if_false]
    exact Ev.now _
  unfold Aah.f Abr.f
  rw [l1In_eq]
  simp only [Option.bind_some]
  by_cases h1 : 1 ≤ t ∧ t ≤ 10
  · simp only [decide_eq_true h1, if_true]
    by_cases h2 : z.length ≤ 10
    · simp only [if_neg (show ¬ (z.length : Int) > 10 by omega)]
      refine Ev.bind (l1All_ev z 0 1000 hl) ?_
      cases h3 : allIn z 0 1000 with
      | false => exact no (by unfold plOk; rw [h3]; simp)
      | true =>
        have hk : plOk t z = true := by unfold plOk; rw [h3, decide_eq_true h1, decide_eq_true h2]; rfl
        have hp := plOk_iff.1 hk
        refine Ev.step (fun _ => rfl) ?_
        simp only [Aah.j0, Bool.not_true, Bool.false_eq_true, if_false, hk, if_true]
        have h0 : Ev (fun k => Aah.l0 k t z z (z.length : Int) ((0 : Nat) : Int) (z.length : Int) ((List.range 0).map fun i => ((setOf z.length (plP t z i) : Nat) : Int))) ((z.length : Int), plR t z, true) := by
          refine Ev.up (fun i k => Aah.l0 k t z z (z.length : Int) (i : Int) (z.length : Int) ((List.range i).map fun i => ((setOf z.length (plP t z i) : Nat) : Int))) z.length ?_ ?_
          · intro i hi next
            refine Ev.step (fun _ => rfl) ?_
            simp only [Aah.l0, if_pos (show (i : Int) < (z.length : Int) by omega), if_pos (show (0 : Int) ≤ (i : Int) by omega)]
            refine Ev.up (fun j k => Aah.l1 k t z (rd z (i : Int)) ((setOf j (plP t z i) : Nat) : Int) z (z.length : Int) (i : Int) z (z.length : Int) (j : Int) (z.length : Int) ((List.range i).map fun i => ((setOf z.length (plP t z i) : Nat) : Int))) z.length ?_ ?_
            · intro j hj next
              have a1 := hp.mem i
              have a2 := hp.mem j
              refine Ev.step (fun _ => rfl) ?_
              rw [setOf_bit_or, rd_nat] at next
              simp only [Aah.l1, if_pos (show (j : Int) < (z.length : Int) by omega), if_pos (show (0 : Int) ≤ (j : Int) by omega), rd_nat, wrap64_in (z.getD i 0 + t) (by omega) (by omega), next64 j z.length hj (by omega)]
              by_cases hb : z.getD j 0 ≥ z.getD i 0 + t
              · rw [show plP t z i j = true from decide_eq_true (by omega)] at next
                simp only [if_pos hb]
                rw [shl1 j (by omega), or_i64 (setOf j (plP t z i)) (2 ^ j) (setOf_62 _ _ (by omega)) (Nat.lt_of_le_of_lt (Nat.pow_le_pow_right (by decide) (by omega : j ≤ 62)) (by decide))]
                simpa using next
              · rw [show plP t z i j = false from decide_eq_false (by omega)] at next
                simp only [if_neg hb]
                simpa using next
            · refine Ev.step (fun _ => rfl) ?_
              simp only [Aah.l1, if_neg (show ¬ (z.length : Int) < (z.length : Int) by omega), List.length_map, List.length_range, if_pos (show i < 17592186044416 by omega), next64 i z.length hi (by omega)]
              simpa [List.range_succ] using next
          · refine Ev.step (fun _ => rfl) ?_
            simp only [Aah.l0, if_neg (show ¬ (z.length : Int) < (z.length : Int) by omega)]
            exact Ev.now _
        exact h0
    · simp only [if_pos (show (z.length : Int) > 10 by omega)]
      exact no (by unfold plOk; rw [decide_eq_false h2]; simp)
  · simp only [decide_eq_false h1, Bool.false_eq_true, if_false]
    exact no (by unfold plOk; rw [decide_eq_false h1]; simp)
section
variable {t : Int} {z : List Int}
theorem plR_ord (h : Places t z) : Ord z.length (plR t z) where
  toRel := relL_rel _ h.len _
  irr := by
    intro i
    unfold plR plP
    rw [relL_B, decide_eq_false (show ¬ z.getD i 0 - z.getD i 0 ≥ t by have := h.t1; omega)]
    simp
  trans := by
    intro i j k h1 h2
    unfold plR plP at h1 h2 ⊢
    rw [relL_B] at h1 h2 ⊢
    simp only [Bool.and_eq_true, decide_eq_true_iff] at h1 h2 ⊢
    have := h.t1
    omega
end
theorem equal_same (l : List Int) (hl : l.length ≤ 140737488355328) : Ev (fun k => Aa1.f k l l) true := by
  unfold Aa1.f
  simp only [if_true]
  refine Ev.up (fun i k => Aa1.l0 k l l (l.length : Int) (i : Int)) l.length ?_ ?_
  · intro i hi next
    refine Ev.step (fun _ => rfl) ?_
    simp only [Aa1.l0, if_pos (show (i : Int) < (l.length : Int) by omega), if_pos (show (0 : Int) ≤ (i : Int) by omega), if_true, next64 i l.length hi (by omega)]
    exact next
  · refine Ev.step (fun _ => rfl) ?_
    simp only [Aa1.l0, if_neg (show ¬ (l.length : Int) < (l.length : Int) by omega)]
    exact Ev.now _
theorem IsPlaces_pl {t : Int} {z : List Int} (h : Places t z) : Ev (fun k => Aby.f k (z.length : Int) (plR t z) t z) (true, true) := by
  have o := plR_ord h
  have hlen := h.len
  unfold Aby.f
  refine Ev.bind (a := true) ?_ ?_
  · unfold Abf.f
    refine Ev.bind (Ev.to (IsOrder_ev _ _ (by rw [o.len]; omega)) (isOrd_iff.2 ⟨_, rfl, o⟩)) ?_
    simp only [if_true, within_eq, Option.bind_some, decide_eq_true (show 1 ≤ t ∧ t ≤ 10 from ⟨h.t1, h.t2⟩)]
    exact Ev.now _
  simp only [if_true]
  refine Ev.bind (a := true) ?_ (Ev.now _)
  unfold Aaw.f
  have hk := plOk_iff.2 h
  unfold plOk at hk
  simp only [Bool.and_eq_true] at hk
  refine Ev.bind (Ev.to (allWithin_ev z 0 1000 (by omega)) hk.2.2) ?_
  simp only [if_true]
  refine Ev.bind (placed_ev (by omega) h.mem) ?_
  refine Ev.bind (a := true) ?_ (Ev.now _)
  unfold Ab1.f
  simp only [if_true]
  exact Ev.bind (equal_same _ (by rw [o.len]; omega)) (Ev.now _)
end Go.Proofs.YtfjpilcmjabikaaDoor.M
namespace Go.Proofs.YtfjpilcmjabikaaDoor.Pure
open Go.RowKit Go.Proofs.YtfjpilcmjabikaaDoorW.PrintMore Go.Proofs.YtfjpilcmjabikaaDoorW.PrintLast Go.Proofs.YtfjpilcmjabikaaDoorW.PrintWords Go.Proofs.YtfjpilcmjabikaaDoor.P Go.Proofs.YtfjpilcmjabikaaDoor.M
set_option maxRecDepth 4000
theorem semi_tot {l : List Int} (hb : By l) : Tot (fun k => Aa2.f k l 0 0 7) (fun r => r.2.1.length ≤ 12) := by
  unfold Aa2.f
  refine Tot.obind (one_ok hb 0 0 3 (by omega) (by omega)) ?_
  rintro ⟨c, p, h⟩ ⟨n2, n3⟩
  simp only at n2 n3
  refine Tot.ite (fun _ => ?_) (fun _ => ?_)
  · refine Tot.bind (anyOrder_tot hb p h 7 (by omega) (by omega) (by omega) (by omega)) ?_
    rintro ⟨a, z, p1, h1⟩ ⟨hz, _⟩
    simp only at hz
    exact Tot.now (by simp only; omega)
  · refine Tot.obind (pick_ok hb p h _ (by omega) (by omega)) ?_
    rintro ⟨n, p, h⟩ ⟨n0, n1, n2, n3⟩
    simp only [show wrap64 (7 + 1) = 8 from by unfold wrap64; omega] at n0 n1 n2 n3
    obtain ⟨m, rfl⟩ := Int.eq_ofNat_of_zero_le n0
    have hm : m ≤ 8 := by omega
    have h0 := Tot.up (Q := fun r : Int × List Int × Int × Int => r.2.1.length ≤ 12) (fun i (s : List Int × Int × Int) k => Aa2.l0 k s.1 ((m - i : Nat) : Int) l s.2.1 s.2.2) m (fun i s => s.1.length = i ∧ 0 ≤ s.2.1 ∧ s.2.1 ≤ 10 + 10 * (i : Int)) ?_ ?_ 0 (Nat.zero_le _) ([], p, h) ⟨rfl, by simp only; omega, by simp only; omega⟩
    · exact h0
    · rintro i ⟨s, p1, h1⟩ hi ⟨s1, s2, s3⟩ next
      simp only at s1 s2 s3
      refine Tot.step (fun _ => rfl) ?_
      simp only [Aa2.l0, if_pos (show ((m - i : Nat) : Int) > 0 by omega)]
      refine Tot.obind (pick_ok hb p1 h1 12 (by omega) (by omega)) ?_
      rintro ⟨v', p3, h3⟩ ⟨_, _, u2, u3⟩
      simp only at u2 u3
      have ew : wrap64 (((m - i : Nat) : Int) - 1) = ((m - (i + 1) : Nat) : Int) := by rw [wrap64_in _ (by omega) (by omega)]; omega
      simp only [if_pos (show s.length < 17592186044416 by omega), ew]
      exact next (s ++ [v'], p3, h3) ⟨by simp [s1], by simp only; omega, by simp only; omega⟩
    · rintro ⟨s, p1, h1⟩ ⟨s1, s2, s3⟩
      simp only at s1 s2 s3
      refine Tot.step (fun _ => rfl) ?_
      simp only [Aa2.l0, Nat.sub_self, if_neg (show ¬ ((0 : Nat) : Int) > 0 by omega)]
      refine Tot.obind (pick_ok hb p1 h1 4 (by omega) (by omega)) ?_
      rintro ⟨c, p2, h2⟩ _
      refine Tot.ebind (sOrderOfPlaces_ev _ s (by omega)) ?_
      refine Tot.now ?_
      simp only
      split
      · simp only [plR, relL_length]; omega
      · simp
theorem DrawLeastThreshold_tot {l : List Int} (hb : By l) : Tot (fun k => Abl.f k l) (fun r => r.2.length ≤ 12) := by
  unfold Abl.f Abs.f
  refine Tot.bind (Q := fun r : Int × List Int => r.2.length ≤ 12) ?_ (fun r hr => Tot.now hr)
  exact Tot.bind (semi_tot hb) (fun r hr => Tot.now hr)
theorem fix_up {n : Nat} {l : List Int} {t : Nat} (ht : 0 < t) (h : fix n l t = true) (d : Nat) : fix n l (t + d) = true := by
  induction d with
  | zero => exact h
  | succ d ih =>
    obtain ⟨q, hq⟩ := fix_iff.1 ih
    have := fits_up (show 0 < t + d by omega) hq
    exact fix_iff.2 ⟨_, this⟩
theorem fix_semi {n : Nat} {l : List Int} (o : Ord n l) {t : Nat} (ht : 0 < t) (h : fix n l t = true) : isSemi (n : Int) l = true := by
  obtain ⟨q, hq⟩ := fix_iff.1 h
  unfold isSemi
  rw [isOrd_iff.2 ⟨n, rfl, o⟩, Int.toNat_natCast, no22_iff.2 (fun a _ b _ c _ d _ => fits_22 o ht hq a b c d), no31_iff.2 (fun a _ b _ c _ d hd => fits_31 o hq a b c d hd)]
  rfl
theorem semi_fix {n : Nat} {l : List Int} (o : Ord n l) (h : isSemi (n : Int) l = true) : fix n l 10 = true := by
  unfold isSemi at h
  rw [isOrd_iff.2 ⟨n, rfl, o⟩, Int.toNat_natCast] at h
  simp only [Bool.true_and, Bool.and_eq_true] at h
  obtain ⟨h22, h31⟩ := h
  refine fix_iff.2 (semi_fits o ?_ ?_)
  · intro a b c d
    cases hh : hit22 l a b c d with
    | false => rfl
    | true =>
      obtain ⟨h1, h2⟩ := (Bool.and_eq_true _ _).mp hh
      have h3 := ((Bool.and_eq_true _ _).mp h2).1
      have := no22_iff.1 h22 a (o.toRel.B_lt' h1) b (o.toRel.B_lt h1) c (o.toRel.B_lt' h3) d (o.toRel.B_lt h3)
      rw [hh] at this
      exact this
  · intro a b c d hd
    cases hh : hit31 l a b c d with
    | false => rfl
    | true =>
      obtain ⟨h1, h2⟩ := (Bool.and_eq_true _ _).mp hh
      have h3 := ((Bool.and_eq_true _ _).mp h2).1
      have := no31_iff.1 h31 a (o.toRel.B_lt' h1) b (o.toRel.B_lt h1) c (o.toRel.B_lt h3) d hd
      rw [hh] at this
      exact this
def thr0 (n : Nat) (l : List Int) : Option Nat := (List.range 10).findSome? fun i => if fix n l (i + 1) = true then some (i + 1) else none
def thrR (z : Option Nat) : Int × Bool := z.elim (0, false) fun t => ((t : Int), true)
theorem thr0_some {n : Nat} {l : List Int} {t : Nat} (h : thr0 n l = some t) : 0 < t ∧ t ≤ 10 ∧ fix n l t = true ∧ ∀ u, 0 < u → u < t → fix n l u = false := by
  unfold thr0 at h
  obtain ⟨xs, a, bs, he, ha, hb⟩ := List.findSome?_eq_some_iff.1 h
  have hlen := congrArg List.length he
  simp only [List.length_range, List.length_append, List.length_cons] at hlen
  have hget : ∀ i, i < xs.length → xs.getD i 0 = i := by
    intro i hi
    have : (List.range 10).getD i 0 = (xs ++ a :: bs).getD i 0 := congrArg (fun q => q.getD i 0) he
    rw [List.getD_eq_getElem?_getD, List.getD_eq_getElem?_getD, List.getElem?_append_left hi, List.getElem?_range (by omega)] at this
    simpa [List.getD_eq_getElem?_getD] using this.symm
  have ha' : a = xs.length := by
    have : (List.range 10).getD xs.length 0 = (xs ++ a :: bs).getD xs.length 0 := congrArg (fun q => q.getD xs.length 0) he
    rw [List.getD_eq_getElem?_getD, List.getD_eq_getElem?_getD, List.getElem?_append_right (Nat.le_refl _), Nat.sub_self, List.getElem?_range (by omega)] at this
    simpa using this.symm
  subst ha'
  split at ha
  · rename_i hf
    injection ha with ha
    subst ha
    refine ⟨by omega, by omega, hf, fun u hu hlt => ?_⟩
    have hm : u - 1 ∈ xs := by
      have := hget (u - 1) (by omega)
      have hx : xs.getD (u - 1) 0 ∈ xs := by
        rw [List.getD_eq_getElem?_getD, List.getElem?_eq_getElem (show u - 1 < xs.length by omega), Option.getD_some]
        exact List.getElem_mem _
      rwa [this] at hx
    have := hb _ hm
    rw [show u - 1 + 1 = u by omega] at this
    cases hq : fix n l u with
    | false => rfl
    | true => rw [hq] at this; simp at this
  · cases ha
theorem thr0_none {n : Nat} {l : List Int} (h : thr0 n l = none) (t : Nat) (h0 : 0 < t) (h1 : t ≤ 10) : fix n l t = false := by
  unfold thr0 at h
  have := List.findSome?_eq_none_iff.1 h (t - 1) (List.mem_range.2 (by omega))
  rw [show t - 1 + 1 = t by omega] at this
  cases hq : fix n l t with
  | false => rfl
  | true => rw [hq] at this; simp at this
theorem thr_semi {n : Nat} {l : List Int} (o : Ord n l) : (thr0 n l).isSome = isSemi (n : Int) l := by
  cases h : thr0 n l with
  | none =>
    cases hs : isSemi (n : Int) l with
    | false => rfl
    | true =>
      have := thr0_none h 10 (by omega) (by omega)
      rw [semi_fix o hs] at this
      cases this
  | some t =>
    obtain ⟨h0, _, h2, _⟩ := thr0_some h
    rw [fix_semi o h0 h2]
    rfl
def thrOf (n : Int) (l : List Int) : Int × Bool := if isOrd n l then thrR (thr0 n.toNat l) else (0, false)
theorem LeastThreshold_ev (n : Int) (l : List Int) (hl : l.length ≤ 140737488355328) : Ev (fun k => Aar.f k n l) (thrOf n l) := by
  unfold Aar.f thrOf
  refine Ev.bind (IsOrder_ev n l hl) ?_
  cases ho : isOrd n l with
  | false => simp only [Bool.false_eq_true, if_false]; exact Ev.now _
  | true =>
    obtain ⟨n, rfl, o⟩ := isOrd_iff.1 ho
    simp only [if_true, Int.toNat_natCast]
    refine Ev.scan (fun i k => Aar.l0 k ((i + 1 : Nat) : Int) (n : Int) l) 10 (fun i => if fix n l (i + 1) = true then some (i + 1) else none) (fun t => ((t : Int), true)) ?_ ?_
    · intro i T hi next
      refine Ev.step (fun _ => rfl) ?_
      simp only [Aar.l0, if_pos (show ((i + 1 : Nat) : Int) ≤ 10 by omega), next64 (i + 1) 11 (by omega) (by omega)]
      obtain ⟨r, hr, h1, h2⟩ := lift_tot o (t := i + 1) (by omega) (by omega)
      refine Ev.bind hr ?_
      cases hf : fix n l (i + 1) with
      | true =>
        have hnil : (r.1 != ([] : List Int) || (n : Int) == 0) = true := by
          rw [h1 hf]
          have hl := itr_len (n := n) (l := l) (t := i + 1) n
          cases hx : itr n l (i + 1) n with
          | nil =>
            rw [hx] at hl
            simp only [List.length_nil] at hl
            subst hl
            rfl
          | cons a m => rfl
        simp only [hnil, Bool.true_eq_false, if_false, if_true]
        exact Ev.now _
      | false =>
        obtain ⟨e, h0⟩ := h2 hf
        have hnil : (r.1 != ([] : List Int) || (n : Int) == 0) = false := by
          rw [e]
          have : ((n : Int) == 0) = false := beq_eq_false_iff_ne.mpr (by omega)
          rw [this]
          rfl
        simp only [hnil, if_true, Bool.false_eq_true, if_false]
        exact next
    · refine Ev.step (fun _ => rfl) ?_
      simp only [Aar.l0, if_neg (show ¬ ((10 + 1 : Nat) : Int) ≤ 10 by omega)]
      exact Ev.now _
theorem sLeastThreshold_ev (n : Int) (l : List Int) (hl : l.length ≤ 140737488355328) : Ev (fun k => Aau.f k n l) (thrOf n l) := by
  unfold Aau.f thrOf
  refine Ev.bind (orGood_ev n l hl) ?_
  cases ho : isOrd n l with
  | false => simp only [Bool.false_eq_true, if_false]; exact Ev.now _
  | true =>
    obtain ⟨n, rfl, o⟩ := isOrd_iff.1 ho
    simp only [if_true, Int.toNat_natCast]
    refine Ev.scan (fun i k => Aau.l0 k ((i + 1 : Nat) : Int) (n : Int) l) 10 (fun i => if fix n l (i + 1) = true then some (i + 1) else none) (fun t => ((t : Int), true)) ?_ ?_
    · intro i T hi next
      refine Ev.step (fun _ => rfl) ?_
      simp only [Aau.l0, if_pos (show ((i + 1 : Nat) : Int) ≤ 10 by omega), next64 (i + 1) 11 (by omega) (by omega)]
      obtain ⟨r, hr, h1, h2⟩ := rounds_tot o (t := i + 1) (by omega) (by omega)
      refine Ev.bind hr ?_
      cases hf : fix n l (i + 1) with
      | true =>
        simp only [if_pos (h1 hf), if_true]
        exact Ev.now _
      | false =>
        simp only [if_neg (h2 hf), Bool.false_eq_true, if_false]
        exact next
    · refine Ev.step (fun _ => rfl) ?_
      simp only [Aau.l0, if_neg (show ¬ ((10 + 1 : Nat) : Int) ≤ 10 by omega)]
      exact Ev.now _
theorem IsSemiorder_ev (n : Int) (l : List Int) (hl : l.length ≤ 140737488355328) : Ev (fun k => Abt.f k n l) (isSemi n l, isOrd n l) := by
  unfold Abt.f
  refine Ev.bind (IsOrder_ev n l hl) ?_
  cases ho : isOrd n l with
  | false =>
    simp only [Bool.false_eq_true, if_false]
    rw [show isSemi n l = false from by unfold isSemi; rw [ho, Bool.false_and]]
    exact Ev.now _
  | true =>
    simp only [if_true]
    exact Ev.bind (isSemi_ev n l hl) (Ev.now _)
theorem sIsSemiorder_ev (n : Int) (l : List Int) (hl : l.length ≤ 140737488355328) : Ev (fun k => Abu.f k n l) (isSemi n l, isOrd n l) := by
  unfold Abu.f
  refine Ev.bind (orGood_ev n l hl) ?_
  cases ho : isOrd n l with
  | false =>
    simp only [Bool.false_eq_true, if_false]
    rw [show isSemi n l = false from by unfold isSemi; rw [ho, Bool.false_and]]
    exact Ev.now _
  | true =>
    simp only [if_true]
    exact Ev.bind (seGood_ev n l hl) (Ev.now _)
theorem LeastPlaces_tot {n : Nat} {l : List Int} (o : Ord n l) (t : Nat) (h0 : 0 < t) (h1 : t ≤ 10) : Tot (fun k => Aba.f k (n : Int) l (t : Int)) (fun r => (fix n l t = true → r = (itr n l t n, true)) ∧ (fix n l t = false → r = ([], false))) := by
  have hn := o.le
  unfold Aba.f
  refine Tot.ebind (a := true) ?_ ?_
  · unfold Abf.f
    refine Ev.bind (Ev.to (IsOrder_ev _ _ (by rw [o.len]; omega)) (isOrd_iff.2 ⟨_, rfl, o⟩)) ?_
    simp only [if_true, within_eq, Option.bind_some, decide_eq_true (show 1 ≤ (t : Int) ∧ (t : Int) ≤ 10 from ⟨by omega, by omega⟩)]
    exact Ev.now _
  simp only [if_true]
  refine Tot.bind (lift_tot o h0 h1) ?_
  rintro ⟨r, r', r''⟩ ⟨h2, h3⟩
  simp only at h2 h3
  refine Tot.now ⟨fun hf => ?_, fun hf => ?_⟩
  · rw [h2 hf]
    have hl := itr_len (n := n) (l := l) (t := t) n
    cases hx : itr n l t n with
    | nil =>
      rw [hx] at hl
      simp only [List.length_nil] at hl
      subst hl
      rfl
    | cons a m => rfl
  · obtain ⟨e, hne⟩ := h3 hf
    have : ((n : Int) == 0) = false := beq_eq_false_iff_ne.mpr (by omega)
    simp only [e, this]
    rfl
theorem least_places {n : Nat} {l : List Int} (o : Ord n l) (t : Nat) (h0 : 0 < t) (h1 : t ≤ 10) (hf : fix n l t = true) : Places (t : Int) (itr n l t n) ∧ l = plR (t : Int) (itr n l t n) := by
  have hn := o.le
  have hlen := itr_len (n := n) (l := l) (t := t) n
  have hb := itr_bound (n := n) (l := l) (t := t) o h0 n
  have h6 : n * (n * t) ≤ 10 * (10 * 10) := Nat.mul_le_mul hn (Nat.mul_le_mul hn h1)
  have hm : ∀ i, 0 ≤ (itr n l t n).getD i 0 ∧ (itr n l t n).getD i 0 ≤ 1000 := by
    intro i
    have h3 := hb i
    by_cases hi : i < n
    · have := itr_nonneg (n := n) (l := l) (t := t) n i hi
      omega
    · rw [List.getD_eq_getElem?_getD, List.getElem?_eq_none (by omega)]
      simp
  refine ⟨⟨by omega, by omega, by omega, hm⟩, ?_⟩
  have hfit := fix_fits (of_decide_eq_true hf)
  refine (o.toRel.eq_relL).trans ?_
  unfold plR
  rw [hlen]
  refine relL_congr fun i j hi hj => ?_
  have a1 := hm i
  have a2 := hm j
  obtain ⟨f1, f2⟩ := hfit i j hi hj
  obtain ⟨g1, g2⟩ := hfit j i hj hi
  simp only at f1 f2 g1 g2
  unfold plP
  cases hB : B l i j with
  | true =>
    have := f1 hB
    exact (decide_eq_true (by omega)).symm
  | false =>
    refine (decide_eq_false ?_).symm
    by_cases e : i = j
    · subst e; omega
    · cases hB' : B l j i with
      | true =>
        have := g1 hB'
        omega
      | false =>
        have := g2 (by unfold free; rw [hB, hB']; simp [e])
        omega
theorem FnThresholds : P.Aac.Pure := by
  intro l0 l1 _ hl0 hb _ hl1 _
  have hB := by_wf hb
  obtain ⟨⟨n, l⟩, hd, hlen⟩ := DrawLeastThreshold_tot hB
  simp only at hlen
  refine Ev.rounds (g := fun k => Aac.f k l0 l1) ?_
  unfold Aac.f
  obtain ⟨b, hbig⟩ : ∃ b, Ab4.f l0 l1 = some b := by
    unfold Ab4.f
    split
    · exact ⟨_, rfl⟩
    · exact ⟨_, rfl⟩
  rw [hbig]
  simp only [Option.bind_some]
  cases b with
  | true => simp only [if_true]; exact Ev.now _
  | false =>
  simp only [Bool.false_eq_true, if_false]
  refine Ev.bind hd ?_
  refine Ev.bind (LeastThreshold_ev n l (by omega)) ?_
  refine Ev.bind (sLeastThreshold_ev n l (by omega)) ?_
  refine Ev.bind (IsSemiorder_ev n l (by omega)) ?_
  refine Ev.bind (sIsSemiorder_ev n l (by omega)) ?_
  have es : (thrOf n l).2 = isSemi n l := by
    unfold thrOf
    cases ho : isOrd n l with
    | false =>
      simp only [Bool.false_eq_true, if_false]
      unfold isSemi
      rw [ho]
      rfl
    | true =>
      obtain ⟨n, rfl, o⟩ := isOrd_iff.1 ho
      simp only [if_true, Int.toNat_natCast]
      rw [← thr_semi o]
      cases thr0 n l <;> rfl
  simp only [es, bne_self_eq_false, Bool.false_eq_true, if_false, if_true]
  refine Ev.bind (IsOrder_ev n l (by omega)) ?_
  simp only [bne_self_eq_false]
  refine Ev.step (fun _ => rfl) ?_
  simp only [Aac.j0, Bool.false_eq_true, if_false]
  refine Ev.bind (ThreeOneOf_ev n l (by omega)) ?_
  refine Ev.bind (sThreeOneOf_ev n l (by omega)) ?_
  have hfl : (threeOf n l).1.length ≤ 4 := by
    unfold threeOf
    cases ho : isOrd n l with
    | false => simp
    | true =>
      obtain ⟨n, rfl, o⟩ := isOrd_iff.1 ho
      simp only [if_true, Int.toNat_natCast]
      cases hf : first31 n l with
      | none => simp
      | some z =>
        obtain ⟨a, b, c, d, rfl, _⟩ := first31_some hf
        simp [ints]
  simp only [bne_self_eq_false, Bool.false_eq_true, if_false]
  refine Ev.bind (vSame_ev _ _ (by omega)) ?_
  simp only [decide_true, if_true]
  have tail : Ev (fun k => Aac.j4 k (thrOf n l).1 (isSemi n l) n l) true := by
    refine Ev.step (fun _ => rfl) ?_
    simp only [Aac.j4]
    cases hs : isSemi n l with
    | false => simp only [Bool.false_eq_true, if_false]; exact Ev.now _
    | true =>
      simp only [if_true]
      have ho : isOrd n l = true := by
        unfold isSemi at hs
        exact ((Bool.and_eq_true _ _).mp hs).1
      obtain ⟨n, rfl, o⟩ := isOrd_iff.1 ho
      have e1 : thrOf (n : Int) l = thrR (thr0 n l) := by unfold thrOf; rw [ho, Int.toNat_natCast]; rfl
      rw [e1]
      cases ht : thr0 n l with
      | none =>
        have := thr_semi o
        rw [ht, hs] at this
        cases this
      | some u =>
        obtain ⟨u0, u1, u2, u3⟩ := thr0_some ht
        simp only [thrR, Option.elim_some]
        refine Ev.up (fun i k => Aac.l1 k (u : Int) ((i + 1 : Nat) : Int) (n : Int) l) 10 ?_ ?_
        · intro i hi next
          refine Ev.step (fun _ => rfl) ?_
          simp only [Aac.l1, if_pos (show ((i + 1 : Nat) : Int) ≤ 10 by omega), next64 (i + 1) 11 (by omega) (by omega)]
          obtain ⟨r, hr, h1, h2⟩ := LeastPlaces_tot o (i + 1) (by omega) (by omega)
          refine Ev.bind hr ?_
          cases hf : fix n l (i + 1) with
          | true =>
            have hge : ((i + 1 : Nat) : Int) ≥ (u : Int) := by
              refine Int.not_lt.1 fun hlt => ?_
              have := u3 (i + 1) (by omega) (by omega)
              rw [hf] at this
              cases this
            obtain ⟨hp, he⟩ := least_places o (i + 1) (by omega) (by omega) hf
            have hI := IsPlaces_pl hp
            rw [← he, itr_len] at hI
            rw [h1 hf]
            simp only [decide_eq_true hge, bne_self_eq_false, Bool.false_eq_true, if_false, if_true]
            refine Ev.bind hI ?_
            simp only [if_true]
            exact next
          | false =>
            have hlt : ¬ ((i + 1 : Nat) : Int) ≥ (u : Int) := by
              intro hge
              have := fix_up u0 u2 (i + 1 - u)
              rw [show u + (i + 1 - u) = i + 1 by omega, hf] at this
              cases this
            rw [h2 hf]
            simp only [decide_eq_false hlt, bne_self_eq_false, Bool.false_eq_true, if_false]
            exact next
        · refine Ev.step (fun _ => rfl) ?_
          simp only [Aac.l1, if_neg (show ¬ ((10 + 1 : Nat) : Int) ≤ 10 by omega)]
          exact Ev.now _
  cases h3 : (threeOf n l).2 with
  | false =>
    simp only [Bool.false_eq_true, if_false]
    refine Ev.step (fun _ => rfl) ?_
    simp only [Aac.j1, Bool.false_eq_true, if_false]
    exact tail
  | true =>
    simp only [if_true]
    have ho : isOrd n l = true := by
      cases ho : isOrd n l with
      | true => rfl
      | false => unfold threeOf at h3; rw [ho] at h3; cases h3
    obtain ⟨n, rfl, o⟩ := isOrd_iff.1 ho
    have hn := o.le
    have e3 : threeOf (n : Int) l = ((first31 n l).elim [] ints, (first31 n l).isSome) := by unfold threeOf; rw [ho, Int.toNat_natCast]; rfl
    rw [e3] at h3 ⊢
    simp only at h3 ⊢
    cases hf : first31 n l with
    | none => rw [hf] at h3; cases h3
    | some z =>
      obtain ⟨a, b, c, d, rfl, ha, hb, hc, hd, b1, b2, f1, f2, f3⟩ := first31_some hf
      have hs : isSemi (n : Int) l = false := by
        cases hs : isSemi (n : Int) l with
        | false => rfl
        | true =>
          unfold isSemi at hs
          simp only [Bool.and_eq_true, Int.toNat_natCast] at hs
          have := no31_iff.1 hs.2.2 a ha b hb c hc d hd
          unfold hit31 at this
          rw [b1, b2, f1, f2, f3] at this
          cases this
      rw [hs] at tail ⊢
      simp only [Option.elim_some]
      rw [show ints [a, b, c, d] = [(a : Int), (b : Int), (c : Int), (d : Int)] from rfl]
      refine Ev.step (fun _ => rfl) ?_
      simp only [Aac.j1, Bool.false_eq_true, if_false, if_true, List.length_cons, List.length_nil, show rd [(a : Int), (b : Int), (c : Int), (d : Int)] 0 = (a : Int) from rfl, show rd [(a : Int), (b : Int), (c : Int), (d : Int)] 1 = (b : Int) from rfl, show rd [(a : Int), (b : Int), (c : Int), (d : Int)] 2 = (c : Int) from rfl, if_pos (show (0 : Int) < ((0 + 1 + 1 + 1 + 1 : Nat) : Int) by omega), if_pos (show (1 : Int) < ((0 + 1 + 1 + 1 + 1 : Nat) : Int) by omega), if_pos (show (2 : Int) < ((0 + 1 + 1 + 1 + 1 : Nat) : Int) by omega)]
      refine Ev.bind (IsBetter_ev o.toRel a b ha hb) ?_
      refine Ev.bind (IsBetter_ev o.toRel b c hb hc) ?_
      simp only [b1, b2, if_true, Bool.not_true]
      refine Ev.step (fun _ => rfl) ?_
      simp only [Aac.j2, Bool.false_eq_true, if_false, List.length_cons, List.length_nil, if_pos (show (3 : Int) ≤ ((0 + 1 + 1 + 1 + 1 : Nat) : Int) by omega), Option.bind_some]
      have one : ∀ x, x < n → free l x d = true → ∀ (z : List Int) (q : Nat) r, q < 3 → z.length = 3 → z.getD q 0 = (x : Int) → Ev (fun k => Aac.l0 k (thrOf (n : Int) l).1 false [(a : Int), (b : Int), (c : Int), (d : Int)] z 3 ((q + 1 : Nat) : Int) (n : Int) l) r → Ev (fun k => Aac.l0 k (thrOf (n : Int) l).1 false [(a : Int), (b : Int), (c : Int), (d : Int)] z 3 (q : Int) (n : Int) l) r := by
        intro x hx hfx z q r hq hz hzq next
        refine Ev.step (fun _ => rfl) ?_
        simp only [Aac.l0, if_pos (show (q : Int) < 3 by omega), if_pos (show (0 : Int) ≤ (q : Int) by omega), if_pos (show (q : Int) < (z.length : Int) by omega), rd_nat, hzq, next64 q 3 hq (by omega)]
        refine Ev.bind (IndifferentTo_ev o.toRel x hx) ?_
        simp only [if_true, List.length_cons, List.length_nil, if_pos (show (3 : Int) < ((0 + 1 + 1 + 1 + 1 : Nat) : Int) by omega), show rd [(a : Int), (b : Int), (c : Int), (d : Int)] 3 = (d : Int) from rfl, if_pos (show (0 : Int) ≤ (d : Int) by omega)]
        have hbit : (indif n l x).testBit d = true := by rw [indif_bit]; simp [hd, hfx]
        have hodd : Int.tmod (shr .i64 ((indif n l x : Nat) : Int) (d : Int)) 2 = 1 := by
          have h := orHas_eq (indif n l x) d (by omega)
          unfold Aa8.f at h
          rw [if_pos (by omega)] at h
          injection h with h
          rw [hbit] at h
          exact beq_iff_eq.1 h
        simp only [if_pos hodd]
        exact next
      have hz : (List.take 3 [(a : Int), (b : Int), (c : Int), (d : Int)]).length = 3 := rfl
      simp only [hz]
      refine one a ha f1 _ 0 _ (by omega) hz rfl (one b hb f2 _ 1 _ (by omega) hz rfl (one c hc f3 _ 2 _ (by omega) hz rfl ?_))
      refine Ev.step (fun _ => rfl) ?_
      simp only [Aac.l0, if_neg (show ¬ ((2 + 1 : Nat) : Int) < 3 by omega)]
      exact tail
end Go.Proofs.YtfjpilcmjabikaaDoor.Pure
namespace Go.Proofs.YtfjpilcmjabikaaDoorW.PrintWords
open Go.ChangeShapes Go.WideShapes
theorem sized_ints {H : Type} {enc : TypeId × Value → H} {P : Program} {W : World} {base : Nat} {spare : Nat → Bool} {held : Bool} {t e : TypeId} {k : IntKind} {a : Option Addr} {len cap : Nat} {d : DataW H} {ps : List MemPlace} {ts : List TypeId} {ds : List (DataW H)} {j : Nat}
    (hsz : (DataW.weightsEach P ts ds).all (· ≤ reachBytes) = true) (ht : ts[j]? = some t) (hd : ds[j]? = some d) (hu : P.underlying t = some (.slice e)) (he : P.underlying e = some (.int k)) (hc : P.cellsOf e = 1) {B : Nat} (hB : P.bytesOf e = B)
    (h : DataW.Trod enc P W base spare held t (.slice a len cap) d ps) : len * B ≤ 140737488351232 := by
  obtain ⟨fuel, hf⟩ := h
  rcases open_ints hu he hc hf with ⟨hcs, _⟩ | ⟨x, l, c, zs, hcs, _, hl, _, hz, hx, _, _⟩
  · simp [Value.cells] at hcs
    obtain ⟨rfl, rfl, rfl⟩ := hcs
    simp
  · simp [Value.cells] at hcs
    obtain ⟨rfl, rfl, rfl⟩ := hcs
    obtain ⟨hx, _⟩ := Prod.mk.inj hx
    subst hx
    have z := sized_slice hsz ht hd hu
    rw [hB] at z
    have hl2 : len ≤ zs.length := by
      rw [hz]
      split
      · exact hl
      · exact Nat.le_refl _
    have h1 : (lits (H := H) k (zs.take len)).length + (lits (H := H) k (zs.drop len)).length = zs.length := by
      simp [lits]
      omega
    rw [h1] at z
    exact Nat.le_trans (Nat.mul_le_mul_right _ hl2) z
end Go.Proofs.YtfjpilcmjabikaaDoorW.PrintWords
namespace Go.Proofs.YtfjpilcmjabikaaDoor.fnThresholds
open Go.ChangeShapes Go.WideShapes Go.ChangeAt Go.RowKit
open Go.ChangeMaps (open_string shut_string)
open Go.Proofs.YtfjpilcmjabikaaDoorW
set_option linter.unusedVariables false
theorem own : ownKnob Tryd.prog.godebug = none := by kernel_rfl
theorem laidOut : laidOutB Tryd.prog = true := by kernel_rfl
def IsRow (k : IntKind) (w : World) (a : Option Addr) (len cap : Nat) (zs : List Int) : Prop :=
  (a = none ∧ len = 0 ∧ cap = 0 ∧ zs = []) ∨
  ∃ x, a = some x ∧ len ≤ cap ∧ cap ≤ maxLen ∧ zs.length = cap ∧ (∀ i, i < zs.length → w.cell? (x.add i) = some (.int k (zs.getD i 0))) ∧ ∀ n ∈ zs, (Lit.int k n).wf = true
theorem gT : Tryd.prog.globalNamed "math/bits.deBruijn64tab" = some 1 := by kernel_rfl
theorem tT : (Tryd.prog.globals[1]?).map (·.type) = some 122 := by kernel_rfl
theorem cT : Tryd.prog.cellsOf 122 = 64 := by kernel_rfl
theorem cE : Tryd.prog.cellsOf 5 = 1 := by kernel_rfl
def tab64 : List Int := Lib.deBruijn64tab.map fun (z : Nat) => (z : Int)
theorem tab64_at : ∀ j, j < 64 → tab64.getD j 0 = ((Lib.deBruijn64tab.getD j 0 : Nat) : Int) := by decide +kernel
theorem table {W : World} (h : laidMetH Tryd.prog Rows.fnThresholdsRow.laid W) : P.TabOK W := by
  rw [MakeChecks.laidMetH_plain _ _ _ (by kernel_rfl)] at h
  have h1 : laidMet Tryd.prog [("math/bits.deBruijn32tab", Rows.laid_math_bits_deBruijn32tab), ("math/bits.deBruijn64tab", Lib.tabData .u8 tab64)] W := h
  have h0 := laidMet.tail (h1)
  have ht := Lib.tabIs_of_head gT tT Tryd.underlying122 Tryd.underlying5 cE cT h0
  intro j hj
  rw [ht.cell gT j (by exact hj), tab64_at j hj]
theorem door_met (os : Os) (args : Array Value) : laidMetH Tryd.prog Rows.fnThresholdsRow.laid ((World.doorLaid Tryd.prog 400 os).forCall (fun _ _ => 0) ⟨#[], args, []⟩).memory :=
  laidMetH_of_parts3 (fuel := 8) (laidMet_of_run' 8 (by kernel_rfl) (by kernel_rfl)) (by kernel_rfl) (by kernel_rfl)
set_option maxRecDepth 100000 in
theorem lifted (os : Os) (started : os.Started) (H : Type) (enc : TypeId × Value → H) :
    ReturnsInHanded {} Tryd.checked os 6 .any (fun w args => (Rows.fnThresholdsSpec.pre enc Tryd.prog Tryd.f6 [] false w args ∧ laidMetH Tryd.prog Rows.fnThresholdsRow.laid w) ∧ sizedMet enc Tryd.prog Tryd.f6 (OpenSpec.ofChange Rows.fnThresholdsSpec) false w args)
      (Rows.fnThresholdsSpec.post enc Tryd.prog Tryd.f6 false true false false) := by
  refine returnsInHanded_of_change_and (C := Tryd.checked) (X := fun w _ => laidMetH Tryd.prog Rows.fnThresholdsRow.laid w) (fun _ _ _ hh h => h.of_heap hh) own started (by kernel_rfl) Tryd.func6
    (ChangeSpec.witness_shaped (enc := enc) (C := Tryd.checked) (os := os) (X := fun w _ => laidMetH Tryd.prog Rows.fnThresholdsRow.laid w) false (World.doorLaid Tryd.prog 400 os) #[.slice none 0 0, .slice none 0 0] 8 rfl (World.shaped_of_RefB (by kernel_rfl) (by kernel_rfl)) (by kernel_rfl) (by kernel_rfl) (by kernel_rfl) (door_met os _)) ?_
  intro W base args ds gs before hval0 hW hcnd hsz0 hL _
  have hsz : (DataW.weightsEach Tryd.prog (Tryd.f6.params.toList ++ Rows.fnThresholdsSpec.plain.varTypes Tryd.prog) (ds ++ gs)).all (· ≤ reachBytes) = true := hsz0
  have hval : ∀ (j : Nat) t v, Tryd.f6.params[j]? = some t → args[j]? = some v → Value.okWide Tryd.prog W .any base t v := hval0
  have hW' := hW
  obtain ⟨p, q, hA0, hV, rfl, hfz, hnd⟩ := hW
  have hA : DataW.TrodAll enc Tryd.prog W 0 (fun _ => true) true Tryd.f6.params.toList args.toList ds p := hA0
  rw [Tryd.params6] at hA hval hsz
  obtain ⟨v0, vs0, d0, ds0, p0, q0, hargs, rfl, rfl, h0, r0⟩ := trodAll_cons hA
  obtain ⟨v1, vs1, d1, ds1, p1, q1, rfl, rfl, rfl, h1, r1⟩ := trodAll_cons r0
  obtain ⟨rfl, rfl, rfl⟩ := trodAll_nil r1
  obtain rfl : args = #[v0, v1] := by cases args; simp_all
  obtain ⟨rfl, rfl⟩ := trodVars_none hV
  obtain ⟨a0, len0, cap0, rfl⟩ := okWide_slice Tryd.underlying22 (hval 0 22 v0 rfl rfl)
  have k0 := h0
  have lt0 : ∀ x ∈ p0, x.block < W.heap.size := by obtain ⟨m, hm⟩ := k0; exact DataW.trod_lt m _ _ _ hm
  obtain ⟨z0, w0⟩ : ∃ zs, IsRow .u8 W a0 len0 cap0 zs := by
    obtain ⟨fuel, hf⟩ := h0
    rcases open_ints Tryd.underlying22 Tryd.underlying5 (by kernel_rfl) hf with ⟨hcs, _⟩ | ⟨x, l, c, zs, hcs, _, hl, hm, hz, _, hcell, hwz⟩
    · simp [Value.cells] at hcs
      obtain ⟨rfl, rfl, rfl⟩ := hcs
      exact ⟨[], .inl ⟨rfl, rfl, rfl, rfl⟩⟩
    · simp [Value.cells] at hcs
      obtain ⟨rfl, rfl, rfl⟩ := hcs
      exact ⟨zs, .inr ⟨_, rfl, hl, hm, by simpa using hz, hcell, hwz⟩⟩
  have y0 : len0 * 1 ≤ 140737488351232 := PrintWords.sized_ints hsz (j := 0) (t := 22) rfl rfl Tryd.underlying22 Tryd.underlying5 (by kernel_rfl) (by kernel_rfl) h0
  obtain ⟨a1, len1, cap1, rfl⟩ := okWide_slice Tryd.underlying22 (hval 1 22 v1 rfl rfl)
  have k1 := h1
  have lt1 : ∀ x ∈ p1, x.block < W.heap.size := by obtain ⟨m, hm⟩ := k1; exact DataW.trod_lt m _ _ _ hm
  obtain ⟨z1, w1⟩ : ∃ zs, IsRow .u8 W a1 len1 cap1 zs := by
    obtain ⟨fuel, hf⟩ := h1
    rcases open_ints Tryd.underlying22 Tryd.underlying5 (by kernel_rfl) hf with ⟨hcs, _⟩ | ⟨x, l, c, zs, hcs, _, hl, hm, hz, _, hcell, hwz⟩
    · simp [Value.cells] at hcs
      obtain ⟨rfl, rfl, rfl⟩ := hcs
      exact ⟨[], .inl ⟨rfl, rfl, rfl, rfl⟩⟩
    · simp [Value.cells] at hcs
      obtain ⟨rfl, rfl, rfl⟩ := hcs
      exact ⟨zs, .inr ⟨_, rfl, hl, hm, by simpa using hz, hcell, hwz⟩⟩
  have y1 : len1 * 1 ≤ 140737488351232 := PrintWords.sized_ints hsz (j := 1) (t := 22) rfl rfl Tryd.underlying22 Tryd.underlying5 (by kernel_rfl) (by kernel_rfl) h1
  clear hA0 hval0 hsz0 hsz
  refine (P.Aac.walk Pure.FnThresholds a0 len0 cap0 z0 a1 len1 cap1 z1 W w0 y0 w1 y1 (table hL)).mono fun e W' ⟨he, bel⟩ => ?_
  subst he
  exact ⟨_, rfl, _, _, _, [], _, [], hW', trodAll_mk1 (shut_bool Tryd.underlying4 _), (trodAll_cons_mk (Below.trod laidOut (by kernel_rfl) (of_decide_eq_true (by kernel_rfl)) k0 bel lt0) (trodAll_cons_mk (Below.trod laidOut (by kernel_rfl) (of_decide_eq_true (by kernel_rfl)) k1 bel lt1) trodAll_mk0)), rfl, bel.frame _, fun h => by cases h⟩
set_option maxHeartbeats 8000000 in
theorem named_ : Tryd.pinned.checked.prog.funcNamed "loop.example/g01106/laws.FnThresholds" = some 6 := by kernel_rfl
set_option maxHeartbeats 8000000 in
theorem joined_ : joinedFacts Tryd.pinned.checked.prog 6 Tryd.f6 Rows.fnThresholdsSpec Rows.fnThresholdsRow = true := by
  unfold joinedFacts
  repeat' (with_reducible refine (Bool.and_eq_true_iff).2 ⟨?_, ?_⟩)
  all_goals (as_aux_lemma => kernel_rfl)
theorem over : Rows.fnThresholdsRow.holds Tryd.pinned (OpenSpec.ofChange Rows.fnThresholdsSpec) :=
  OpenClaim.holds_of_wide 6 Tryd.f6 rfl rfl rfl rfl rfl rfl rfl ⟨rfl, rfl, rfl, rfl, rfl⟩ rfl rfl rfl rfl rfl named_ Tryd.func6 joined_
    (of_decide_eq_true (by kernel_rfl)) (by unfold Func.isWrapper; first | (rw [if_pos (by decide +kernel)]; kernel_rfl) | (rw [if_neg (by decide +kernel)]; exact ⟨rfl, rfl⟩))
    (fun os started H enc _ => lifted os started H enc)
set_option maxHeartbeats 8000000 in
theorem main_ : Tryd.pinned.checked.prog.mainIs = some (true, "cbc73dea4075ecc5178c1d86ac8785e85380fe9f1c42682a40ca8edfcba2920b".toList) := by kernel_rfl
set_option maxHeartbeats 8000000 in
theorem looks_ : false = Tryd.pinned.checked.prog.looks [] := by kernel_rfl
theorem stand_ : ([22].all fun u => !Tryd.prog.wantsStandIn u) = true := by kernel_rfl
set_option maxHeartbeats 8000000 in
theorem goes_ : false = Rows.fnThresholdsRow.goesBy Tryd.pinned.checked.prog := by kernel_rfl
theorem wf_ : Rows.fnThresholdsRow.wfByText (OpenSpec.ofChange Rows.fnThresholdsSpec) = true := by kernel_rfl
theorem proved : Rows.FnThresholdsCardSaid :=
  Claim7.holds_tied_plain_at .later [] [.data, .data] true (true, "cbc73dea4075ecc5178c1d86ac8785e85380fe9f1c42682a40ca8edfcba2920b") false
    over (fun _ h => by cases h) wf_ (fun _ h => by cases h) fnThresholds_row_tie rfl ⟨rfl, rfl⟩ main_ rfl
    (fun f fn hf hfn => by
      obtain rfl : f = 6 := Option.some.inj (named_.symm.trans hf) |>.symm
      obtain rfl : fn = Tryd.f6 := (Option.some.inj (Tryd.func6.symm.trans hfn)).symm
      exact ⟨looks_, fun j t ht => by
        rw [Tryd.params6] at ht
        have hm : t ∈ [22] := by have hq := Array.mem_of_getElem? ht; simp at hq; simp [hq]
        exact (show Tryd.prog.wantsStandIn t = false by simpa using List.all_eq_true.1 stand_ t hm)⟩)
    goes_
end Go.Proofs.YtfjpilcmjabikaaDoor.fnThresholds
namespace Go.Proofs.YtfjpilcmjabikaaDoor
theorem fnThresholds_holds : Rows.FnThresholdsCardSaid := fnThresholds.proved
end Go.Proofs.YtfjpilcmjabikaaDoor
